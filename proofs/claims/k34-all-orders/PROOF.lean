import PyProof.Rows.All
import Wide.All
import OpenK.AllK
import Wide.FinOn
import HandS.ForMost
import HandS.ForExc
import HandS.TryMany
import HandS.ExcField
import HandS.ExcInit
import HandS.OwnEq
import HandS.Lambda
import HandS.HeadHook4
import HandS.Wide
import HandS.TupMul
import HandS.TupAny
import HandS.Flow
import HandS.MakeKw
import HandS.CallSlots
import HandS.IsInst
import HandS.Defaults
import HandS.Walk
import HandS.Comp
import HandS.NoneIn
import HandS.MakeKwOnly
import HandS.SetFor
import HandS.Strs
import HandS.New0
import HandS.Style
import PyProof.NeKinds
import HandS.SlotsOwn
import HandS.Iter
import HandS.Dict
import HandS.HotCalls
import KE.KBoundM
import HandS.Zip
import KE.DataMinMax
import KE.GoesMore
import HandS.Conv
import HandS.SortInts
import KE.SortData
import KE.KStateDown
import HandS.Ends
import HandS.More
import HandS.Words
import HandS.WordsExc
import HandS.Head0
import HandS.Head1
import HandS.Head2
import HandS.HeadEnd
import HandS.EndTab
import HandS.Codes
import PySem.Challenge.RW_lateststore_k34_all_orders
import HandS.HeadWalk
set_option Elab.async false
set_option linter.all false
set_option maxRecDepth 100000
set_option maxHeartbeats 0
/-! part HEAD -/
namespace DL
open PySem PySem.Spec PyProof.Rows L2
def cn : Nat → Str
  | 0 => "Memory" | 1 => "Store" | 2 => "Flush" | 3 => "Fence" | 4 => "Program" | 5 => "Counter" | 6 => "Box" | 7 => "Parted" | 8 => "Fenced" | 9 => "Never"
  | 10 => "Is" | 11 => "Copy" | 12 => "Step" | 13 => "Recovery" | 14 => "Failed" | 15 => "Checker" | 16 => "Book" | 17 => "Desk"
  | _ => "?"
end DL
namespace DL
open PySem PySem.Spec PyProof.Rows L2
def fn : Nat → List Str
  | 0 => ["sizes"] | 1 => ["line", "word", "number"] | 2 => ["line"] | 3 => [] | 4 => ["memory", "commands"] | 5 => ["made", "flushed", "sure"] | 6 => ["time", "low", "high"]
  | 7 => ["image", "is_first"] | 8 => ["result", "apart"] | 9 => ["order"] | 10 => ["line", "word", "numbers"] | 11 => ["line", "word", "from_line", "from_word"]
  | 12 => ["conditions", "moves"] | 13 => ["memory", "steps"] | 14 => ["image", "second", "words"] | 15 => ["recovery", "good", "known"]
  | 16 => ["memory", "commands", "rules", "history"] | 17 => ["book"]
  | _ => []
end DL
namespace DL
open PySem PySem.Spec PyProof.Rows L2
def xn : Nat → Str
  | 0 => "StoreError" | 1 => "BadCount" | 2 => "NoLine" | 3 => "NoWord" | 4 => "NoTime" | 5 => "NoImage" | 6 => "NoPlace" | 7 => "OtherStores" | 8 => "NoStore" | 9 => "OtherMemory"
  | 10 => "Wide" | 11 => "NoName" | 12 => "NoRule" | 13 => "Empty" | 14 => "NoBack" | 15 => "BadText"
  | _ => "?"
end DL
namespace DL
open PySem PySem.Spec PyProof.Rows L2
def xf : Nat → List Str
  | 1 => ["what", "count"] | 2 => ["line"] | 3 => ["word"] | 4 => ["time"] | 6 => ["place"] | 8 => ["store"] | 10 => ["count"] | 11 => ["name"] | 12 => ["name"] | 15 => ["place"]
  | _ => []
end DL
namespace DQ
open PySem PySem.Spec PyProof.Rows L2 DL
def thg : Nat → Bool
  | 5 => false | 15 => false | 16 => false | 17 => false
  | n => decide (n < 18)
end DQ
namespace DQ
open PySem PySem.Spec PyProof.Rows L2 DL
def here (K : PySem.W.Frag) (c : Nat) : Bool := PySem.W.hasDictIn K (He.ga K (cn c))
end DQ
namespace DQ
open PySem PySem.Spec PyProof.Rows L2 DL
def eqAd (K : PySem.W.Frag) : Addr := He.ma K (He.ga K "Thing") "__eq__"
end DQ
namespace DQ
open PySem PySem.Spec PyProof.Rows L2 DL
def clsB (K : PySem.W.Frag) (c : Nat) : Bool := !here K c || (decide (PySem.W.mroIn K (He.ga K (cn c)) (.type "object") = some true) && (decide (PySem.W.findIn K (.ref (He.ga K (cn c))) "__class__" = some (some (.builtin "object.__class__"))) && (!thg c ||
  (decide (PySem.W.findIn K (.ref (He.ga K (cn c))) "__eq__" = some (some (.ref (eqAd K)))) && (decide (PySem.W.findIn K (.ref (He.ga K (cn c))) "__ne__" = some (some (.builtin "object.__ne__"))) && (List.range 18).all fun c' => !here K c' || (!thg c' ||
    (PySem.W.notFirst K (He.ga K (cn c)) (.ref (He.ga K (cn c'))) && (decide (He.ga K (cn c) = He.ga K (cn c') → c = c')))))))))
end DQ
namespace DQ
open PySem PySem.Spec PyProof.Rows L2 DL
def txtB (K : PySem.W.Frag) : Bool := (List.range 18).all (clsB K) && (PySem.W.isFn K (.ref (eqAd K)) && (decide (PySem.W.specialIn K (.builtin "object.__class__") "__get__" = some (some (.builtin "getset_descriptor.__get__"))) && decide (PySem.W.takesIn K (.builtin "object.__class__") = some true)))
end DQ
namespace DQ
open PySem PySem.Spec PyProof.Rows L2 DL
def isiB (K : PySem.W.Frag) (u : Value) (bt : String → Bool) (cl : Nat → Bool) : Bool := (["NoneType", "bool", "int", "str", "tuple", "list"].all fun t => decide (PySem.W.kitOne K (.type t) u = some (bt t))) && (List.range 18).all fun c => !here K c || decide (PySem.W.kitOne K (.ref (He.ga K (cn c))) u = some (cl c))
end DQ
namespace DQ
open PySem PySem.Spec PyProof.Rows L2 DL
def absB (K : PySem.W.Frag) (c : Nat) : Bool := !here K c
end DQ
namespace DQ
open PySem PySem.Spec PyProof.Rows L2 DL
def ckB (K : PySem.W.Frag) (c : Nat) : Bool := (He.Fa.cls (cn c)).ok K && (fn c).all fun f => (He.Fa.noat (cn c) f).ok K
end DQ
namespace DQ
open PySem PySem.Spec PyProof.Rows L2 DL
def mk0B (K : PySem.W.Frag) (c : Nat) : Bool := ckB K c && (PySem.W.makesIn K (He.ga K (cn c)) && (decide (PySem.W.findIn K (.ref (He.ga K (cn c))) "__init__" = some (some (.builtin "object.__init__"))) && (decide (PySem.W.mroIn K (He.ga K (cn c)) (.type "object") = some true) && PySem.W.keepIn K (.ref (He.ga K (cn c))))))
end DQ
namespace DQ
open PySem PySem.Spec PyProof.Rows L2 DL
def isTup : String → Bool := fun t => t == "tuple"
end DQ
namespace DQ
open PySem PySem.Spec PyProof.Rows L2 DL
def noTy : String → Bool := fun _ => false
end DQ
namespace DQ
open PySem PySem.Spec PyProof.Rows L2 DL
def noCl : Nat → Bool := fun _ => false
end DQ
namespace DX
open PySem PySem.Spec PyProof.Rows L2 DL DQ
def oexB (K : PySem.W.Frag) (C : Addr) : Bool := (match K.lookup C with
  | some ⟨.type "type", _, .cls cd, sl⟩ => (match cd.mro, sl.toList with
    | .ref C' :: bm, [_, _, _, _, some (.builtin n), _] => (C' == C && n == "ValueError.__new__") && (!cd.hasDel && (cd.hasDict && PySem.HandSPX.refsVE bm))
    | _, _ => false)
  | _ => false) && (decide (PySem.W.findIn K (.ref C) "__setattr__" = some (some (.builtin "object.__setattr__"))) && (decide (PySem.W.subIn K (.ref C) (.type "BaseException") = some true) && (decide (PySem.W.typeIn K (.ref C) = some (.type "type")) && PySem.W.keepIn K (.ref C))))
end DX
namespace DX
open PySem PySem.Spec PyProof.Rows L2 DL DQ
def xoB (K : PySem.W.Frag) (x : Nat) : Bool := oexB K (He.ga K (xn x)) && (decide (PySem.W.findIn K (.ref (He.ga K (xn x))) "__init__" = some (some (.ref (He.ma K (He.ga K (xn x)) "__init__")))) && (decide (PySem.W.typeIn K (.ref (He.ma K (He.ga K (xn x)) "__init__")) = some (.type "function")) && (xf x).all fun f => decide (PySem.W.findIn K (.ref (He.ga K (xn x))) f = some none)))
end DX
namespace DX
open PySem PySem.Spec PyProof.Rows L2 DL DQ
def xsub (x y : Nat) : Bool := y == 0 || x == y
end DX
namespace DX
open PySem PySem.Spec PyProof.Rows L2 DL DQ
def exmB (K : PySem.W.Frag) (es ys : List Nat) : Bool := es.all fun x => ys.all fun y => decide (PySem.W.exmOne K (.ref (He.ga K (xn x))) (.ref (He.ga K (xn y))) = some (xsub x y))
end DX
namespace DX
open PySem PySem.Spec PyProof.Rows L2 DL DQ
def xfB (K : PySem.W.Frag) (x : Nat) : Bool := decide (PySem.W.findIn K (.ref (He.ga K (xn x))) "__getattribute__" = some (some (.builtin "BaseException.__getattribute__"))) &&
  (decide (PySem.W.findIn K (.ref (He.ga K (xn x))) "__getattr__" = some none) && (decide (PySem.W.subIn K (.ref (He.ga K (xn x))) (.type "BaseException") = some true) && decide (PySem.W.hasDictIn K (He.ga K (xn x)) = true)))
end DX
namespace DX
open PySem PySem.Spec PyProof.Rows L2 DL DQ
def isLst : String → Bool := fun t => t == "list"
end DX
namespace DX
open PySem PySem.Spec PyProof.Rows L2 DL DQ
def isBoo : String → Bool := fun t => t == "bool"
end DX
namespace DX
open PySem PySem.Spec PyProof.Rows L2 DL DQ
def tolB (K : PySem.W.Frag) (x : Nat) (m : Str) : Bool := xfB K x && (decide (PySem.W.findIn K (.ref (He.ga K (xn x))) m = some (some (.ref (He.ma K (He.ga K (xn x)) m)))) && decide (PySem.W.typeIn K (.ref (He.ma K (He.ga K (xn x)) m)) = some (.type "function")))
end DX
namespace LW
open PySem PySem.Spec PyProof.Rows L2 DL DQ DX
def top (i : Nat) : Stmt := PySem.Challenge.pw_lateststore_k34_all_orders.main.body.getD i (.Pass ⟨0, 0, 0, 0⟩)
def mth (i j : Nat) : Stmt := (C8.clsBody (top i)).getD j (.Pass ⟨0, 0, 0, 0⟩)
abbrev s_BadCount___init__ : Stmt := (mth 3 0)
abbrev s_NoLine___init__ : Stmt := (mth 4 0)
abbrev s_NoWord___init__ : Stmt := (mth 5 0)
abbrev s_Thing_facts : Stmt := (mth 11 0)
abbrev s_Thing_kind : Stmt := (mth 11 1)
abbrev s_Thing___eq__ : Stmt := (mth 11 2)
abbrev s_Memory___init__ : Stmt := (mth 12 0)
abbrev s_Memory_kind : Stmt := (mth 12 1)
abbrev s_Memory_facts : Stmt := (mth 12 2)
abbrev s_Memory_check_line : Stmt := (mth 12 3)
abbrev s_Memory_check_word : Stmt := (mth 12 4)
abbrev s_Memory_zeros : Stmt := (mth 12 5)
abbrev s_Command_check : Stmt := (mth 13 0)
abbrev s_Store___init__ : Stmt := (mth 14 0)
abbrev s_Store_kind : Stmt := (mth 14 1)
abbrev s_Store_facts : Stmt := (mth 14 2)
abbrev s_Store_check : Stmt := (mth 14 3)
abbrev s_Flush___init__ : Stmt := (mth 15 0)
abbrev s_Flush_kind : Stmt := (mth 15 1)
abbrev s_Flush_facts : Stmt := (mth 15 2)
abbrev s_Flush_check : Stmt := (mth 15 3)
abbrev s_Fence_kind : Stmt := (mth 16 0)
abbrev s_check_commands : Stmt := (top 17)
abbrev s_Program___init__ : Stmt := (mth 18 0)
abbrev s_Program_kind : Stmt := (mth 18 1)
abbrev s_Program_facts : Stmt := (mth 18 2)
abbrev s_stores : Stmt := (top 19)
abbrev s_Counter___init__ : Stmt := (mth 20 0)
abbrev s_Counter_do_command : Stmt := (mth 20 1)
abbrev s_Box___init__ : Stmt := (mth 22 0)
abbrev s_Box_kind : Stmt := (mth 22 1)
abbrev s_Box_facts : Stmt := (mth 22 2)
abbrev s_boxes_of : Stmt := (top 23)
abbrev s_boxes : Stmt := (top 24)
abbrev s_numbered : Stmt := (top 26)
abbrev s_orders : Stmt := (top 27)
abbrev s_first_holds : Stmt := (top 28)
abbrev s__law_cell : Stmt := (top 30)
abbrev s__law_rng : Stmt := (top 31)
abbrev s__law_draw : Stmt := (top 32)
abbrev s__law_pick : Stmt := (top 33)
abbrev s__law_random_sizes : Stmt := (top 34)
abbrev s__law_random_command : Stmt := (top 35)
abbrev s__law_random_commands : Stmt := (top 36)
abbrev s__law_command : Stmt := (top 37)
abbrev s__law_program : Stmt := (top 38)
abbrev s__law_bounds : Stmt := (top 39)
abbrev s__law_images : Stmt := (top 40)
abbrev s__law_latest : Stmt := (top 41)
abbrev s__law_places : Stmt := (top 42)
abbrev s__law_order_holds : Stmt := (top 43)
abbrev s__law_by_rule : Stmt := (top 44)
abbrev s__law_by_images : Stmt := (top 45)
abbrev s__law_again_holds : Stmt := (top 46)
abbrev s_law : Stmt := (top 47)
def d_BadCount___init__ : He.DefD := ⟨("BadCount", some "__init__"), "__init__", "BadCount.__init__", defArgs s_BadCount___init__, defBody s_BadCount___init__, defScope s_BadCount___init__, [], []⟩
def d_NoLine___init__ : He.DefD := ⟨("NoLine", some "__init__"), "__init__", "NoLine.__init__", defArgs s_NoLine___init__, defBody s_NoLine___init__, defScope s_NoLine___init__, [], []⟩
def d_NoWord___init__ : He.DefD := ⟨("NoWord", some "__init__"), "__init__", "NoWord.__init__", defArgs s_NoWord___init__, defBody s_NoWord___init__, defScope s_NoWord___init__, [], []⟩
def d_Thing_facts : He.DefD := ⟨("Thing", some "facts"), "facts", "Thing.facts", defArgs s_Thing_facts, defBody s_Thing_facts, defScope s_Thing_facts, [], []⟩
def d_Thing_kind : He.DefD := ⟨("Thing", some "kind"), "kind", "Thing.kind", defArgs s_Thing_kind, defBody s_Thing_kind, defScope s_Thing_kind, [], []⟩
def d_Thing___eq__ : He.DefD := ⟨("Thing", some "__eq__"), "__eq__", "Thing.__eq__", defArgs s_Thing___eq__, defBody s_Thing___eq__, defScope s_Thing___eq__, [], []⟩
def d_Memory___init__ : He.DefD := ⟨("Memory", some "__init__"), "__init__", "Memory.__init__", defArgs s_Memory___init__, defBody s_Memory___init__, defScope s_Memory___init__, [], []⟩
def d_Memory_kind : He.DefD := ⟨("Memory", some "kind"), "kind", "Memory.kind", defArgs s_Memory_kind, defBody s_Memory_kind, defScope s_Memory_kind, [], []⟩
def d_Memory_facts : He.DefD := ⟨("Memory", some "facts"), "facts", "Memory.facts", defArgs s_Memory_facts, defBody s_Memory_facts, defScope s_Memory_facts, [], []⟩
def d_Memory_check_line : He.DefD := ⟨("Memory", some "check_line"), "check_line", "Memory.check_line", defArgs s_Memory_check_line, defBody s_Memory_check_line, defScope s_Memory_check_line, [], []⟩
def d_Memory_check_word : He.DefD := ⟨("Memory", some "check_word"), "check_word", "Memory.check_word", defArgs s_Memory_check_word, defBody s_Memory_check_word, defScope s_Memory_check_word, [], []⟩
def d_Memory_zeros : He.DefD := ⟨("Memory", some "zeros"), "zeros", "Memory.zeros", defArgs s_Memory_zeros, defBody s_Memory_zeros, defScope s_Memory_zeros, [], []⟩
def d_Command_check : He.DefD := ⟨("Command", some "check"), "check", "Command.check", defArgs s_Command_check, defBody s_Command_check, defScope s_Command_check, [], []⟩
def d_Store___init__ : He.DefD := ⟨("Store", some "__init__"), "__init__", "Store.__init__", defArgs s_Store___init__, defBody s_Store___init__, defScope s_Store___init__, [], []⟩
def d_Store_kind : He.DefD := ⟨("Store", some "kind"), "kind", "Store.kind", defArgs s_Store_kind, defBody s_Store_kind, defScope s_Store_kind, [], []⟩
def d_Store_facts : He.DefD := ⟨("Store", some "facts"), "facts", "Store.facts", defArgs s_Store_facts, defBody s_Store_facts, defScope s_Store_facts, [], []⟩
def d_Store_check : He.DefD := ⟨("Store", some "check"), "check", "Store.check", defArgs s_Store_check, defBody s_Store_check, defScope s_Store_check, [], []⟩
def d_Flush___init__ : He.DefD := ⟨("Flush", some "__init__"), "__init__", "Flush.__init__", defArgs s_Flush___init__, defBody s_Flush___init__, defScope s_Flush___init__, [], []⟩
def d_Flush_kind : He.DefD := ⟨("Flush", some "kind"), "kind", "Flush.kind", defArgs s_Flush_kind, defBody s_Flush_kind, defScope s_Flush_kind, [], []⟩
def d_Flush_facts : He.DefD := ⟨("Flush", some "facts"), "facts", "Flush.facts", defArgs s_Flush_facts, defBody s_Flush_facts, defScope s_Flush_facts, [], []⟩
def d_Flush_check : He.DefD := ⟨("Flush", some "check"), "check", "Flush.check", defArgs s_Flush_check, defBody s_Flush_check, defScope s_Flush_check, [], []⟩
def d_Fence_kind : He.DefD := ⟨("Fence", some "kind"), "kind", "Fence.kind", defArgs s_Fence_kind, defBody s_Fence_kind, defScope s_Fence_kind, [], []⟩
def d_check_commands : He.DefD := ⟨("check_commands", none), "check_commands", "check_commands", defArgs s_check_commands, defBody s_check_commands, defScope s_check_commands, [], []⟩
def d_Program___init__ : He.DefD := ⟨("Program", some "__init__"), "__init__", "Program.__init__", defArgs s_Program___init__, defBody s_Program___init__, defScope s_Program___init__, [], []⟩
def d_Program_kind : He.DefD := ⟨("Program", some "kind"), "kind", "Program.kind", defArgs s_Program_kind, defBody s_Program_kind, defScope s_Program_kind, [], []⟩
def d_Program_facts : He.DefD := ⟨("Program", some "facts"), "facts", "Program.facts", defArgs s_Program_facts, defBody s_Program_facts, defScope s_Program_facts, [], []⟩
def d_stores : He.DefD := ⟨("stores", none), "stores", "stores", defArgs s_stores, defBody s_stores, defScope s_stores, [], []⟩
def d_Counter___init__ : He.DefD := ⟨("Counter", some "__init__"), "__init__", "Counter.__init__", defArgs s_Counter___init__, defBody s_Counter___init__, defScope s_Counter___init__, [], []⟩
def d_Counter_do_command : He.DefD := ⟨("Counter", some "do_command"), "do_command", "Counter.do_command", defArgs s_Counter_do_command, defBody s_Counter_do_command, defScope s_Counter_do_command, [], []⟩
def d_Box___init__ : He.DefD := ⟨("Box", some "__init__"), "__init__", "Box.__init__", defArgs s_Box___init__, defBody s_Box___init__, defScope s_Box___init__, [], []⟩
def d_Box_kind : He.DefD := ⟨("Box", some "kind"), "kind", "Box.kind", defArgs s_Box_kind, defBody s_Box_kind, defScope s_Box_kind, [], []⟩
def d_Box_facts : He.DefD := ⟨("Box", some "facts"), "facts", "Box.facts", defArgs s_Box_facts, defBody s_Box_facts, defScope s_Box_facts, [], []⟩
def d_boxes_of : He.DefD := ⟨("boxes_of", none), "boxes_of", "boxes_of", defArgs s_boxes_of, defBody s_boxes_of, defScope s_boxes_of, [], []⟩
def d_boxes : He.DefD := ⟨("boxes", none), "boxes", "boxes", defArgs s_boxes, defBody s_boxes, defScope s_boxes, [], []⟩
def d_numbered : He.DefD := ⟨("numbered", none), "numbered", "numbered", defArgs s_numbered, defBody s_numbered, defScope s_numbered, [], []⟩
def d_orders : He.DefD := ⟨("orders", none), "orders", "orders", defArgs s_orders, defBody s_orders, defScope s_orders, [], []⟩
def d_first_holds : He.DefD := ⟨("first_holds", none), "first_holds", "first_holds", defArgs s_first_holds, defBody s_first_holds, defScope s_first_holds, [], []⟩
def d__law_cell : He.DefD := ⟨("_law_cell", none), "_law_cell", "_law_cell", defArgs s__law_cell, defBody s__law_cell, defScope s__law_cell, [], []⟩
def d__law_rng : He.DefD := ⟨("_law_rng", none), "_law_rng", "_law_rng", defArgs s__law_rng, defBody s__law_rng, defScope s__law_rng, [], []⟩
def d__law_draw : He.DefD := ⟨("_law_draw", none), "_law_draw", "_law_draw", defArgs s__law_draw, defBody s__law_draw, defScope s__law_draw, [], []⟩
def d__law_pick : He.DefD := ⟨("_law_pick", none), "_law_pick", "_law_pick", defArgs s__law_pick, defBody s__law_pick, defScope s__law_pick, [], []⟩
def d__law_random_sizes : He.DefD := ⟨("_law_random_sizes", none), "_law_random_sizes", "_law_random_sizes", defArgs s__law_random_sizes, defBody s__law_random_sizes, defScope s__law_random_sizes, [], []⟩
def d__law_random_command : He.DefD := ⟨("_law_random_command", none), "_law_random_command", "_law_random_command", defArgs s__law_random_command, defBody s__law_random_command, defScope s__law_random_command, [], []⟩
def d__law_random_commands : He.DefD := ⟨("_law_random_commands", none), "_law_random_commands", "_law_random_commands", defArgs s__law_random_commands, defBody s__law_random_commands, defScope s__law_random_commands, [], []⟩
def d__law_command : He.DefD := ⟨("_law_command", none), "_law_command", "_law_command", defArgs s__law_command, defBody s__law_command, defScope s__law_command, [], []⟩
def d__law_program : He.DefD := ⟨("_law_program", none), "_law_program", "_law_program", defArgs s__law_program, defBody s__law_program, defScope s__law_program, [], []⟩
def d__law_bounds : He.DefD := ⟨("_law_bounds", none), "_law_bounds", "_law_bounds", defArgs s__law_bounds, defBody s__law_bounds, defScope s__law_bounds, [], []⟩
def d__law_images : He.DefD := ⟨("_law_images", none), "_law_images", "_law_images", defArgs s__law_images, defBody s__law_images, defScope s__law_images, [], []⟩
def d__law_latest : He.DefD := ⟨("_law_latest", none), "_law_latest", "_law_latest", defArgs s__law_latest, defBody s__law_latest, defScope s__law_latest, [], []⟩
def d__law_places : He.DefD := ⟨("_law_places", none), "_law_places", "_law_places", defArgs s__law_places, defBody s__law_places, defScope s__law_places, [], []⟩
def d__law_order_holds : He.DefD := ⟨("_law_order_holds", none), "_law_order_holds", "_law_order_holds", defArgs s__law_order_holds, defBody s__law_order_holds, defScope s__law_order_holds, [], []⟩
def d__law_by_rule : He.DefD := ⟨("_law_by_rule", none), "_law_by_rule", "_law_by_rule", defArgs s__law_by_rule, defBody s__law_by_rule, defScope s__law_by_rule, [], []⟩
def d__law_by_images : He.DefD := ⟨("_law_by_images", none), "_law_by_images", "_law_by_images", defArgs s__law_by_images, defBody s__law_by_images, defScope s__law_by_images, [], []⟩
def d__law_again_holds : He.DefD := ⟨("_law_again_holds", none), "_law_again_holds", "_law_again_holds", defArgs s__law_again_holds, defBody s__law_again_holds, defScope s__law_again_holds, [], []⟩
def d_law : He.DefD := ⟨("law", none), "law", "law", defArgs s_law, defBody s_law, defScope s_law, [], []⟩
def d_Command_check_of_Fence : He.DefD := ⟨("Fence", some "check"), "check", "Command.check", defArgs s_Command_check, defBody s_Command_check, defScope s_Command_check, [], []⟩
def d_Thing_facts_of_Fence : He.DefD := ⟨("Fence", some "facts"), "facts", "Thing.facts", defArgs s_Thing_facts, defBody s_Thing_facts, defScope s_Thing_facts, [], []⟩
def fnL : List He.DefD := [d_BadCount___init__, d_NoLine___init__, d_NoWord___init__, d_Thing_facts, d_Thing_kind, d_Thing___eq__, d_Memory___init__, d_Memory_kind, d_Memory_facts, d_Memory_check_line, d_Memory_check_word, d_Memory_zeros, d_Command_check, d_Store___init__, d_Store_kind, d_Store_facts, d_Store_check, d_Flush___init__, d_Flush_kind, d_Flush_facts, d_Flush_check, d_Fence_kind, d_check_commands, d_Program___init__, d_Program_kind, d_Program_facts, d_stores, d_Counter___init__, d_Counter_do_command, d_Box___init__, d_Box_kind, d_Box_facts, d_boxes_of, d_boxes, d_numbered, d_orders, d_first_holds, d__law_cell, d__law_rng, d__law_draw, d__law_pick, d__law_random_sizes, d__law_random_command, d__law_random_commands, d__law_command, d__law_program, d__law_bounds, d__law_images, d__law_latest, d__law_places, d__law_order_holds, d__law_by_rule, d__law_by_images, d__law_again_holds, d_law, d_Command_check_of_Fence, d_Thing_facts_of_Fence]
/-! ### the head -/
def faL : List He.Fa := [.glo "law", .glo "BadCount", .glo "Box", .glo "Counter", .glo "Fence", .glo "Flush", .int "MOST_COMMANDS" 200, .int "MOST_LINES" 6, .int "MOST_WORDS" 4, .glo "Memory", .glo "NoLine", .glo "NoWord", .glo "Program", .glo "Store", .glo "Thing", .glo "_law_again_holds", .glo "_law_bounds", .glo "_law_by_images", .glo "_law_by_rule", .glo "_law_cell", .glo "_law_command", .glo "_law_draw", .glo "_law_images", .glo "_law_latest", .glo "_law_order_holds", .glo "_law_pick", .glo "_law_places", .glo "_law_program", .glo "_law_random_command", .glo "_law_random_commands", .glo "_law_random_sizes", .glo "_law_rng", .free "abs", .glo "boxes", .glo "boxes_of", .glo "check_commands", .free "enumerate", .glo "first_holds", .free "isinstance", .free "len", .free "list", .glo "numbered", .glo "orders", .free "range", .free "sorted", .glo "stores", .free "tuple", .free "zip", .mkr "Memory", .meth "Memory" "kind", .meth "Memory" "facts", .meth "Memory" "check_line", .meth "Memory" "check_word", .meth "Memory" "zeros", .meth "Memory" "__eq__", .mkr "Store", .meth "Store" "kind", .meth "Store" "facts", .meth "Store" "check", .meth "Store" "__eq__", .mkr "Flush", .meth "Flush" "kind", .meth "Flush" "facts", .meth "Flush" "check", .meth "Flush" "__eq__", .meth "Fence" "kind", .meth "Fence" "check", .meth "Fence" "facts", .meth "Fence" "__eq__", .mkr "Program", .meth "Program" "kind", .meth "Program" "facts", .meth "Program" "__eq__", .mkr "Counter", .meth "Counter" "do_command", .mkr "Box", .meth "Box" "kind", .meth "Box" "facts", .meth "Box" "__eq__"]
def exL : PySem.W.Frag → Bool := fun K => (txtB K && (ckB K 0 && (ckB K 1 && (ckB K 2 && (mk0B K 3 && (ckB K 4 && (ckB K 5 && (ckB K 6 && (absB K 7 && (absB K 8 && (absB K 9 && (absB K 10 && (absB K 11 && (absB K 12 && (absB K 13 && (absB K 14 && (absB K 15 && (absB K 16 && (absB K 17 && (isiB K (.ref (He.ga K "Flush")) noTy (fun c => c == 2) && (isiB K (.ref (He.ga K "Store")) noTy (fun c => c == 1) && (isiB K (.ref (He.ga K "Thing")) noTy thg && isiB K (.type "list") isLst noCl))))))))))))))))))))))
def tfL : List He.Defn := []
abbrev R : PySem.W.OpenRow := PySem.W.OpenLaw.row PySem.Challenge.rw_lateststore_k34_all_orders
abbrev hk : PySem.W.Hook := He.hookX 6 faL fnL [] tfL exL
def ob (s : PySem.W.SharedT) : He.AlX := He.obsX 6 faL fnL [] tfL exL (HandSHeadRun.getT s)
theorem ob_eq (s : PySem.W.SharedT) : ob s = hk.obs s.abs := He.obsX_eq (HandSHeadRun.getT_eq s)
theorem hrun (w : World) : HandSHeadRun.RunEq R (PySem.W.view R.prog [47]) hk ob 6000 [("_wall" : PySem.Str), ("__name__" : PySem.Str), ("StoreError" : PySem.Str), ("BadCount" : PySem.Str), ("NoLine" : PySem.Str), ("NoWord" : PySem.Str), ("OtherMemory" : PySem.Str), ("MOST_LINES" : PySem.Str), ("MOST_WORDS" : PySem.Str), ("MOST_COMMANDS" : PySem.Str), ("Thing" : PySem.Str), ("Memory" : PySem.Str), ("Command" : PySem.Str), ("Store" : PySem.Str), ("Flush" : PySem.Str), ("Fence" : PySem.Str), ("check_commands" : PySem.Str), ("Program" : PySem.Str), ("stores" : PySem.Str), ("Counter" : PySem.Str), ("Box" : PySem.Str), ("boxes_of" : PySem.Str), ("boxes" : PySem.Str), ("numbered" : PySem.Str), ("orders" : PySem.Str), ("first_holds" : PySem.Str), ("_law_cell" : PySem.Str), ("_law_rng" : PySem.Str), ("_law_draw" : PySem.Str), ("_law_pick" : PySem.Str), ("_law_random_sizes" : PySem.Str), ("_law_random_command" : PySem.Str), ("_law_random_commands" : PySem.Str), ("_law_command" : PySem.Str), ("_law_program" : PySem.Str), ("_law_bounds" : PySem.Str), ("_law_images" : PySem.Str), ("_law_latest" : PySem.Str), ("_law_places" : PySem.Str), ("_law_order_holds" : PySem.Str), ("_law_by_rule" : PySem.Str), ("_law_by_images" : PySem.Str), ("_law_again_holds" : PySem.Str)] w := by
  intro os
  kernel_rfl

end LW
/-! part DL1 -/
/-! DL1: data, the store of mutable cells, how they stand in the abstract heap. -/
namespace DL
open PySem PySem.Spec PyProof.Rows L2

inductive D where
  | non | bl (b : Bool) | int (i : Int) | str (x : Str) | adr (a : Addr)
  | ptr (n : Nat)
  | tup (l : List D) | lst (l : List D)
  | obj (c : Nat) (l : List D)
  | err (a : Addr) (d : Option Addr) (c : Nat) (l : List D)
instance : Inhabited D := ⟨.non⟩

inductive MO where
  | lst (l : List D)
  | lsp (l : List D)
  | ins (c : Nat) (l : List D)
  | dic (l : List (Key × D))
  | dit (l : List (List Key × D))
  | dlk (o : Obj) (vs : List (List Key × V)) (l : List (List Key × D))
  | dlc (o : Obj) (vs : List (Key × V)) (l : List (Key × D))
  | tab (P : Addr) (q : Str)
  | tpl (l : List D)
abbrev Sto := List MO
abbrev Exn := Nat × List D

def fz (c : Nat) (xs : List V) : List (Str × V) := (fn c).zip xs

/-- the class stands in the text, its fields are no names of the class -/
def ClsOk (K : PySem.W.Frag) (c : Nat) : Prop := Cls K (He.ga K (cn c)) ∧ ∀ f, f ∈ fn c → NoAttr K (He.ga K (cn c)) f
def FzT (al : List Addr) (H : Hp) (a : Addr) (xs : List V) : Prop := ¬ a ∈ al ∧ H a = some (.tup xs)
def FzL (al : List Addr) (H : Hp) (a : Addr) (xs : List V) : Prop := ¬ a ∈ al ∧ Rd H a (.lst xs)

/-- nothing, or a def made on the way whose code object is at d -/
def Cod (al : List Addr) (H : Hp) (d : Option Addr) (c : Nat) (l : List D) : Prop := (l = [] ∧ d = none) ∨ ∃ q e, l = [.str q] ∧ c = 100 ∧ d = some e ∧ ¬ e ∈ al ∧ H e = some (LamX.CodeO e q)
mutual
/-- pt: the addresses of the cells that a pointer may name; within frozen things there are no pointers -/
inductive Rep (K : PySem.W.Frag) (al : List Addr) (H : Hp) : List Addr → D → V → Prop
  | non {pt : List Addr} : Rep K al H pt .non .non
  | bl {pt : List Addr} {b : Bool} : Rep K al H pt (.bl b) (.bl b)
  | int {pt : List Addr} {i : Int} : Rep K al H pt (.int i) (.int i)
  | str {pt : List Addr} {x : Str} : Rep K al H pt (.str x) (.str x)
  | adr {pt : List Addr} {a : Addr} : Rep K al H pt (.adr a) (.ref a)
  | ptr {pt : List Addr} {n : Nat} {a : Addr} : pt[n]? = some a → Rep K al H pt (.ptr n) (.ref a)
  | tup {pt : List Addr} {l : List D} {a : Addr} {xs : List V} : FzT al H a xs → RepL K al H [] l xs → Rep K al H pt (.tup l) (.ref a)
  | lst {pt : List Addr} {l : List D} {a : Addr} {xs : List V} : FzL al H a xs → RepL K al H [] l xs → Rep K al H pt (.lst l) (.ref a)
  | obj {pt : List Addr} {c : Nat} {l : List D} {a dx : Addr} {xs : List V} : ¬ a ∈ al → H a = some (.ins (He.ga K (cn c)) dx (fz c xs)) → (l.length = (fn c).length ∧ ClsOk K c) → RepL K al H [] l xs → Rep K al H pt (.obj c l) (.ref a)
  | err0 {pt : List Addr} {c : Nat} {a : Addr} {d : Option Addr} {l : List D} : Cod al H d c l → Rep K al H pt (.err a d c l) (.ref a)
  | err {pt : List Addr} {c : Nat} {l : List D} {a dd : Addr} {fs : List (Str × V)} {xs : List V} : ¬ dd ∈ al → H dd = some (.xd fs) → (∀ (i : Nat) (f : Str), (xf c)[i]? = some f → fs.lookup f = xs[i]?) → RepL K al H [] l xs → Rep K al H pt (.err a (some dd) c l) (.ref a)
inductive RepL (K : PySem.W.Frag) (al : List Addr) (H : Hp) : List Addr → List D → List V → Prop
  | nil {pt : List Addr} : RepL K al H pt [] []
  | cons {pt : List Addr} {d : D} {v : V} {l : List D} {xs : List V} : Rep K al H pt d v → RepL K al H pt l xs → RepL K al H pt (d :: l) (v :: xs)
end

/-- frozen things stand -/
def notT : HO → Bool
  | .tbl _ => false
  | _ => true
def Fz (H : Hp) (al : List Addr) (H' : Hp) (al' : List Addr) : Prop := ∀ (a : Addr) (o : HO), ¬ a ∈ al → H a = some o → notT o = true → H' a = some o ∧ ¬ a ∈ al'
/-- from one state to a later one: cells keep their numbers, frozen things stand -/
structure Go (hd : List Addr) (H : Hp) (al : List Addr) (H' : Hp) (al' : List Addr) : Prop where
  pre : ∀ (n : Nat) (a : Addr), al[n]? = some a → al'[n]? = some a
  frz : Fz H (al ++ hd) H' (al' ++ hd)
  hid : ∀ (a : Addr), a ∈ hd → H' a = H a
theorem Go.refl {hd : List Addr} (H : Hp) (al : List Addr) : Go hd H al H al := ⟨fun _ _ h => h, fun _ _ n h _ => ⟨h, n⟩, fun _ _ => rfl⟩
theorem Go.trans {hd : List Addr} {H H1 H2 : Hp} {al al1 al2 : List Addr} (a : Go hd H al H1 al1) (b : Go hd H1 al1 H2 al2) : Go hd H al H2 al2 :=
  ⟨fun n x h => b.pre n x (a.pre n x h), fun x o n h t => b.frz x o (a.frz x o n h t).2 (a.frz x o n h t).1 t, fun x h => (b.hid x h).trans (a.hid x h)⟩
theorem Fz.rd {H H1 : Hp} {al al1 : List Addr} (g : Fz H al H1 al1) {a : Addr} {u : HO} (n : ¬ a ∈ al) (h : Rd H a u) (t : notT u = true) : ¬ a ∈ al1 ∧ Rd H1 a u := by
  rcases h with h | ⟨o, h⟩
  · exact ⟨(g a _ n h t).2, .inl (g a _ n h t).1⟩
  · exact ⟨(g a _ n h rfl).2, .inr ⟨o, (g a _ n h rfl).1⟩⟩
theorem Fz.fzT {H H1 : Hp} {al al1 : List Addr} (g : Fz H al H1 al1) {a : Addr} {xs : List V} (h : FzT al H a xs) : FzT al1 H1 a xs := ⟨(g a _ h.1 h.2 rfl).2, (g a _ h.1 h.2 rfl).1⟩
theorem Fz.fzL {H H1 : Hp} {al al1 : List Addr} (g : Fz H al H1 al1) {a : Addr} {xs : List V} (h : FzL al H a xs) : FzL al1 H1 a xs := g.rd h.1 h.2 rfl
theorem Cod.fz {H H1 : Hp} {al al1 : List Addr} {d : Option Addr} {c : Nat} {l : List D} (g : Fz H al H1 al1) (h : Cod al H d c l) : Cod al1 H1 d c l := by
  rcases h with h | ⟨q, e, h1, h2, h3, n, e1⟩
  · exact .inl h
  · exact .inr ⟨q, e, h1, h2, h3, (g _ _ n e1 rfl).2, (g _ _ n e1 rfl).1⟩
/-- pointers keep what they name -/
def Pre (pt pt' : List Addr) : Prop := ∀ (n : Nat) (a : Addr), pt[n]? = some a → pt'[n]? = some a
theorem Pre.refl (pt : List Addr) : Pre pt pt := fun _ _ h => h
theorem Pre.nil (pt : List Addr) : Pre [] pt := fun n a h => by simp at h
mutual
theorem Rep.fz {K : PySem.W.Frag} {H H1 : Hp} {al al1 : List Addr} (g : Fz H al H1 al1) : ∀ {pt pt' : List Addr} {d : D} {v : V}, Pre pt pt' → Rep K al H pt d v → Rep K al1 H1 pt' d v
  | _, _, _, _, _, .non => .non
  | _, _, _, _, _, .bl => .bl
  | _, _, _, _, _, .int => .int
  | _, _, _, _, _, .str => .str
  | _, _, _, _, _, .adr => .adr
  | _, _, _, _, p, .ptr h => .ptr (p _ _ h)
  | _, _, _, _, _, .tup h r => .tup (g.fzT h) (RepL.fz g (Pre.refl _) r)
  | _, _, _, _, _, .lst h r => .lst (g.fzL h) (RepL.fz g (Pre.refl _) r)
  | _, _, _, _, _, .obj n h e r => .obj (g _ _ n h rfl).2 (g _ _ n h rfl).1 e (RepL.fz g (Pre.refl _) r)
  | _, _, _, _, _, .err0 h => .err0 (h.fz g)
  | _, _, _, _, _, .err n h e r => .err (g _ _ n h rfl).2 (g _ _ n h rfl).1 e (RepL.fz g (Pre.refl _) r)
theorem RepL.fz {K : PySem.W.Frag} {H H1 : Hp} {al al1 : List Addr} (g : Fz H al H1 al1) : ∀ {pt pt' : List Addr} {l : List D} {xs : List V}, Pre pt pt' → RepL K al H pt l xs → RepL K al1 H1 pt' l xs
  | _, _, _, _, _, .nil => .nil
  | _, _, _, _, p, .cons h r => .cons (Rep.fz g p h) (RepL.fz g p r)
end
theorem Rep.go {K : PySem.W.Frag} {hd : List Addr} {H H1 : Hp} {al al1 pt pt' : List Addr} {d : D} {v : V} (r : Rep K (al ++ hd) H pt d v) (g : Go hd H al H1 al1) (p : Pre pt pt') : Rep K (al1 ++ hd) H1 pt' d v := Rep.fz g.frz p r
theorem RepL.go {K : PySem.W.Frag} {hd : List Addr} {H H1 : Hp} {al al1 pt pt' : List Addr} {l : List D} {xs : List V} (r : RepL K (al ++ hd) H pt l xs) (g : Go hd H al H1 al1) (p : Pre pt pt') : RepL K (al1 ++ hd) H1 pt' l xs := RepL.fz g.frz p r
/-- no pointer -/
def np : D → Prop
  | .ptr _ => False
  | _ => True
theorem Rep.np {K : PySem.W.Frag} {al : List Addr} {H : Hp} {pt pt' : List Addr} {d : D} {v : V} (h : np d) (r : Rep K al H pt d v) : Rep K al H pt' d v := by
  cases r with
  | ptr e => exact h.elim
  | non => exact .non
  | bl => exact .bl
  | int => exact .int
  | str => exact .str
  | adr => exact .adr
  | tup a b => exact .tup a b
  | lst a b => exact .lst a b
  | obj a b c d => exact .obj a b c d
  | err0 z => exact .err0 z
  | err a b c d => exact .err a b c d
def npL : List D → Prop
  | [] => True
  | d :: l => np d ∧ npL l
theorem RepL.np {K : PySem.W.Frag} {al : List Addr} {H : Hp} {pt pt' : List Addr} : ∀ {l : List D} {xs : List V}, npL l → RepL K al H pt l xs → RepL K al H pt' l xs
  | _, _, _, .nil => .nil
  | _, _, h, .cons a r => .cons (a.np h.1) (r.np h.2)
section
variable {K : PySem.W.Frag} {al pt : List Addr} {H : Hp}
theorem RepL.len : ∀ {l : List D} {xs : List V}, RepL K al H pt l xs → l.length = xs.length
  | _, _, .nil => rfl
  | _, _, .cons _ r => congrArg Nat.succ r.len
theorem RepL.get : ∀ {l : List D} {xs : List V} {i : Nat} {x : V}, RepL K al H pt l xs → xs[i]? = some x → ∃ d, l[i]? = some d ∧ Rep K al H pt d x
  | _, _, _, _, .nil, e => by simp at e
  | _, _, 0, _, .cons h _, e => by
    simp at e
    subst e
    exact ⟨_, rfl, h⟩
  | _, _, i + 1, _, .cons _ r, e => by
    obtain ⟨d, e1, h⟩ := r.get (i := i) (by simpa using e)
    exact ⟨d, by simpa using e1, h⟩
theorem RepL.at_ : ∀ {l : List D} {xs : List V} {i : Nat} {d : D}, RepL K al H pt l xs → l[i]? = some d → ∃ x, xs[i]? = some x ∧ Rep K al H pt d x
  | _, _, _, _, .nil, e => by simp at e
  | _, _, 0, _, .cons h _, e => by
    simp at e
    subst e
    exact ⟨_, rfl, h⟩
  | _, _, i + 1, _, .cons _ r, e => by
    obtain ⟨d, e1, h⟩ := r.at_ (i := i) (by simpa using e)
    exact ⟨d, by simpa using e1, h⟩
theorem RepL.append : ∀ {l l' : List D} {xs xs' : List V}, RepL K al H pt l xs → RepL K al H pt l' xs' → RepL K al H pt (l ++ l') (xs ++ xs')
  | _, _, _, _, .nil, s => s
  | _, _, _, _, .cons h r, s => .cons h (r.append s)
theorem RepL.one {d : D} {x : V} (h : Rep K al H pt d x) : RepL K al H pt [d] [x] := .cons h .nil
theorem RepL.set {d : D} {x : V} (h : Rep K al H pt d x) : ∀ {l : List D} {xs : List V} (i : Nat), RepL K al H pt l xs → RepL K al H pt (l.set i d) (xs.set i x)
  | _, _, _, .nil => .nil
  | _, _, 0, .cons _ r => .cons h r
  | _, _, i + 1, .cons q r => .cons q (RepL.set h i r)
theorem RepL.take : ∀ {l : List D} {xs : List V} (n : Nat), RepL K al H pt l xs → RepL K al H pt (l.take n) (xs.take n)
  | _, _, 0, _ => .nil
  | _, _, _ + 1, .nil => .nil
  | _, _, n + 1, .cons h r => .cons h (r.take n)
theorem RepL.drop : ∀ {l : List D} {xs : List V} (n : Nat), RepL K al H pt l xs → RepL K al H pt (l.drop n) (xs.drop n)
  | _, _, 0, r => r
  | _, _, _ + 1, .nil => .nil
  | _, _, n + 1, .cons _ r => r.drop n
theorem RepL.reverse : ∀ {l : List D} {xs : List V}, RepL K al H pt l xs → RepL K al H pt l.reverse xs.reverse
  | _, _, .nil => .nil
  | _, _, .cons h r => by
    rw [List.reverse_cons, List.reverse_cons]
    exact r.reverse.append (.one h)
end
theorem FzT.sq {K : PySem.W.Frag} {al : List Addr} {H : Hp} {a : Addr} {xs : List V} (h : FzT al H a xs) : SqT K H a xs := .inl (.inl h.2)
theorem FzL.sq {K : PySem.W.Frag} {al : List Addr} {H : Hp} {a : Addr} {xs : List V} (h : FzL al H a xs) : SqL K H a xs := .inl h.2

def RepKV {κ : Type} (K : PySem.W.Frag) (al : List Addr) (H : Hp) : List (κ × D) → List (κ × V) → Prop
  | [], [] => True
  | (k, d) :: l, (j, v) :: xs => k = j ∧ Rep K al H [] d v ∧ RepKV K al H l xs
  | _, _ => False
theorem RepKV.go {κ : Type} {K : PySem.W.Frag} {hd : List Addr} {H H1 : Hp} {al al1 : List Addr} (g : Go hd H al H1 al1) : ∀ {l : List (κ × D)} {xs : List (κ × V)}, RepKV K (al ++ hd) H l xs → RepKV K (al1 ++ hd) H1 l xs
  | [], [], _ => trivial
  | (k, d) :: l, (j, v) :: xs, h => ⟨h.1, h.2.1.go g (Pre.refl _), RepKV.go g h.2.2⟩
  | [], _ :: _, h => h.elim
  | _ :: _, [], h => h.elim

/-- the cell at a -/
def MAt (K : PySem.W.Frag) (hd al : List Addr) (H : Hp) (a : Addr) : MO → Prop
  | .lst l => ∃ xs, H a = some (.lst xs) ∧ RepL K (al ++ hd) H [] l xs
  | .lsp l => ∃ xs, H a = some (.lst xs) ∧ RepL K (al ++ hd) H al l xs
  | .ins c l => ∃ dx xs, H a = some (.ins (He.ga K (cn c)) dx (fz c xs)) ∧ RepL K (al ++ hd) H al l xs ∧ (l.length ≤ (fn c).length ∧ ClsOk K c)
  | .dic kvs => ∃ vs, H a = some (.dK vs) ∧ RepKV K (al ++ hd) H kvs vs
  | .dit kvs => ∃ vs, H a = some (.dT vs) ∧ RepKV K (al ++ hd) H kvs vs
  | .dlk o vs kvs => ∃ _ : Unit, H a = some (.frz o (.dT vs)) ∧ RepKV K (al ++ hd) H kvs vs
  | .dlc o vs kvs => ∃ _ : Unit, H a = some (.frz o (.dK vs)) ∧ RepKV K (al ++ hd) H kvs vs
  | .tab P q => a = P ∧ ∃ ps, H a = some (.tbl ps) ∧ TriplesOk ps.toList ∧ ∀ (pos : Pos) (cv : Value), codeAmong pos ps.toList = some cv → ∃ c, cv = .ref c ∧ ¬ c ∈ al ++ hd ∧ H c = some (LamX.CodeO c q)
  | .tpl l => ∃ xs, H a = some (.tup xs) ∧ RepL K (al ++ hd) H al l xs
/-- no foreign thing -/
def notX : HO → Bool
  | .tup _ => false
  | .ext _ => false
  | .tbl _ => false
  | _ => true
structure Okay (K : PySem.W.Frag) (hd : List Addr) (H : Hp) (mu : Sto) (al : List Addr) : Prop where
  len : al.length = mu.length
  nd : al.Nodup
  hid : ∀ a, a ∈ hd → ¬ a ∈ al ∧ ∃ u, H a = some u
  hx : ∀ a, a ∈ hd → ∀ u, H a = some u → notX u = true
  at_ : ∀ (n : Nat) (mo : MO) (a : Addr), mu[n]? = some mo → al[n]? = some a → MAt K hd al H a mo
theorem MAt.some_ {K : PySem.W.Frag} {hd : List Addr} {al : List Addr} {H : Hp} {a : Addr} {mo : MO} (h : MAt K hd al H a mo) : ∃ o, H a = some o := by
  cases mo with
  | lst l => obtain ⟨xs, e, _⟩ := h; exact ⟨_, e⟩
  | lsp l => obtain ⟨xs, e, _⟩ := h; exact ⟨_, e⟩
  | ins c l => obtain ⟨dx, xs, e, _⟩ := h; exact ⟨_, e⟩
  | dic kvs => obtain ⟨vs, e, _⟩ := h; exact ⟨_, e⟩
  | dit kvs => obtain ⟨vs, e, _⟩ := h; exact ⟨_, e⟩
  | dlk od ws kvs => obtain ⟨vs, e, _⟩ := h; exact ⟨_, e⟩
  | dlc od ws kvs => obtain ⟨vs, e, _⟩ := h; exact ⟨_, e⟩
  | tab P q => obtain ⟨_, ps, e, _⟩ := h; exact ⟨_, e⟩
  | tpl l => obtain ⟨xs, e, _⟩ := h; exact ⟨_, e⟩
section
variable {K : PySem.W.Frag} {hd : List Addr} {al : List Addr} {H : Hp} {mu : Sto}
theorem Okay.some_ (o : Okay K hd H mu al) {a : Addr} (h : a ∈ al) : ∃ u, H a = some u := by
  obtain ⟨n, hn, e⟩ := List.mem_iff_getElem.mp h
  have hm : n < mu.length := by rw [← o.len]; exact hn
  exact (o.at_ n mu[n] a (List.getElem?_eq_getElem hm) (by rw [List.getElem?_eq_getElem hn, e])).some_
theorem Okay.all_ (o : Okay K hd H mu al) {a : Addr} (h : a ∈ al ++ hd) : ∃ u, H a = some u := by
  rcases List.mem_append.mp h with h | h
  · exact o.some_ h
  · exact (o.hid a h).2
theorem Okay.new (o : Okay K hd H mu al) {p : Addr} (h : H p = none) : ¬ p ∈ al ++ hd := fun z => by
  obtain ⟨u, e⟩ := o.all_ z
  rw [h] at e
  cases e
theorem Okay.newA (o : Okay K hd H mu al) {p : Addr} (h : H p = none) : ¬ p ∈ al := fun z => o.new h (List.mem_append_left _ z)
/-- a state in which no cell has changed -/
theorem Okay.keep {H' : Hp} {al' : List Addr} (o : Okay K hd H mu al) (e : al' = al) (g : Go hd H al H' al') (k : ∀ a, a ∈ al ++ hd → H' a = H a) : Okay K hd H' mu al' := by
  subst e
  refine ⟨o.len, o.nd, fun a ha => ⟨(o.hid a ha).1, by rw [k a (List.mem_append_right _ ha)]; exact (o.hid a ha).2⟩, fun a ha u e => o.hx a ha u ((k a (List.mem_append_right _ ha)).symm.trans e), fun n mo a h1 h2 => ?_⟩
  have h := o.at_ n mo a h1 h2
  have ka := k a (List.mem_append_left _ (List.mem_of_getElem? h2))
  cases mo with
  | lst l =>
    obtain ⟨xs, e, r⟩ := h
    exact ⟨xs, ka.trans e, r.go g (Pre.refl _)⟩
  | lsp l =>
    obtain ⟨xs, e, r⟩ := h
    exact ⟨xs, ka.trans e, r.go g g.pre⟩
  | ins c l =>
    obtain ⟨dx, xs, e, r, z⟩ := h
    exact ⟨dx, xs, ka.trans e, r.go g g.pre, z⟩
  | dic kvs =>
    obtain ⟨vs, e, r⟩ := h
    exact ⟨vs, ka.trans e, r.go g⟩
  | dit kvs =>
    obtain ⟨vs, e, r⟩ := h
    exact ⟨vs, ka.trans e, r.go g⟩
  | dlk od ws kvs =>
    obtain ⟨vs, e, r⟩ := h
    exact ⟨vs, ka.trans e, r.go g⟩
  | dlc od ws kvs =>
    obtain ⟨vs, e, r⟩ := h
    exact ⟨vs, ka.trans e, r.go g⟩
  | tab P q =>
    obtain ⟨e0, ps, e, t2, z2⟩ := h
    refine ⟨e0, ps, ka.trans e, t2, fun pos cv hc => ?_⟩
    obtain ⟨c2, e1, n2, e2⟩ := z2 pos cv hc
    exact ⟨c2, e1, (g.frz c2 _ n2 e2 rfl).2, (g.frz c2 _ n2 e2 rfl).1⟩
  | tpl l =>
    obtain ⟨xs, e, r⟩ := h
    exact ⟨xs, ka.trans e, r.go g g.pre⟩
/-- a new frozen thing -/
theorem Go.lay (o : Okay K hd H mu al) {p : Addr} {u : HO} (h : H p = none) : Go hd H al (upd H p u) al :=
  ⟨fun _ _ e => e, fun a v n e _ => ⟨by rw [upd_ne (ne_of_none e h)]; exact e, n⟩, fun a ha => by
    obtain ⟨_, u, e⟩ := o.hid a ha
    exact upd_ne (ne_of_none e h)⟩
theorem Okay.lay (o : Okay K hd H mu al) {p : Addr} {u : HO} (h : H p = none) : Okay K hd (upd H p u) mu al :=
  o.keep rfl (Go.lay o h) fun a ha => upd_ne fun z => o.new h (z ▸ ha)
/-- H' beside H: all that stood stands -/
theorem Go.ext {H' : Hp} (o : Okay K hd H mu al) (e : ∀ a u, H a = some u → H' a = some u) : Go hd H al H' al := ⟨fun _ _ h => h, fun a u n h _ => ⟨e a u h, n⟩, fun a ha => by
    obtain ⟨_, u, h⟩ := o.hid a ha
    rw [h, e a u h]⟩
theorem Okay.ext {H' : Hp} (o : Okay K hd H mu al) (e : ∀ a u, H a = some u → H' a = some u) : Okay K hd H' mu al :=
  o.keep rfl (Go.ext o e) fun a ha => by
    obtain ⟨u, h⟩ := o.all_ ha
    rw [h, e a u h]
/-- a new cell: H' holds it at p, all else as in H -/
theorem mem_cell {a p : Addr} (z : a ∈ (al ++ [p]) ++ hd) : a ∈ al ++ hd ∨ a = p := by
  rcases List.mem_append.mp z with z | z
  · rcases List.mem_append.mp z with z | z
    · exact .inl (List.mem_append_left _ z)
    · exact .inr (List.mem_singleton.mp z)
  · exact .inl (List.mem_append_right _ z)
theorem Go.cell {H' : Hp} (o : Okay K hd H mu al) {p : Addr} (h : H p = none) (e : ∀ a u, H a = some u → H' a = some u) : Go hd H al H' (al ++ [p]) :=
  ⟨fun n a q => by
    rw [List.getElem?_append_left (List.getElem?_eq_some_iff.mp q).1]
    exact q, fun a u n q _ => ⟨e a u q, fun z => by
    rcases mem_cell z with z | z
    · exact n z
    · rw [z, h] at q
      cases q⟩, fun a ha => by
    obtain ⟨_, u, q⟩ := o.hid a ha
    rw [q, e a u q]⟩
theorem Okay.cell {H' : Hp} (o : Okay K hd H mu al) {p : Addr} {mo : MO} (h : H p = none) (e : ∀ a u, H a = some u → H' a = some u) (hm : MAt K hd (al ++ [p]) H' p mo) : Okay K hd H' (mu ++ [mo]) (al ++ [p]) := by
  have g := Go.cell o h e
  refine ⟨by rw [List.length_append, List.length_append, o.len] <;> rfl, ?_, fun a ha => ?_, fun a ha u q => by
    obtain ⟨_, u', h2⟩ := o.hid a ha
    rw [e a u' h2] at q
    exact o.hx a ha u (h2.trans q), fun n m a h1 h2 => ?_⟩
  · rw [List.nodup_append]
    refine ⟨o.nd, by simp, fun a ha b hb => ?_⟩
    rw [List.mem_singleton.mp hb]
    exact fun z => o.newA h (z ▸ ha)
  · obtain ⟨h1, u, h2⟩ := o.hid a ha
    refine ⟨fun z => ?_, u, e a u h2⟩
    rcases List.mem_append.mp z with z | z
    · exact h1 z
    · rw [List.mem_singleton.mp z, h] at h2
      cases h2
  · rcases Nat.lt_or_ge n mu.length with hn | hn
    · rw [List.getElem?_append_left hn] at h1
      rw [List.getElem?_append_left (by rw [o.len]; exact hn)] at h2
      have q := o.at_ n m a h1 h2
      have ka : ∀ u, H a = some u → H' a = some u := fun u => e a u
      cases m with
      | lst l =>
        obtain ⟨xs, e, r⟩ := q
        exact ⟨xs, ka _ e, r.go g (Pre.refl _)⟩
      | lsp l =>
        obtain ⟨xs, e, r⟩ := q
        exact ⟨xs, ka _ e, r.go g g.pre⟩
      | ins c l =>
        obtain ⟨dx, xs, e, r, z⟩ := q
        exact ⟨dx, xs, ka _ e, r.go g g.pre, z⟩
      | dic kvs =>
        obtain ⟨vs, e, r⟩ := q
        exact ⟨vs, ka _ e, r.go g⟩
      | dit kvs =>
        obtain ⟨vs, e, r⟩ := q
        exact ⟨vs, ka _ e, r.go g⟩
      | dlk od ws kvs =>
        obtain ⟨vs, e, r⟩ := q
        exact ⟨vs, ka _ e, r.go g⟩
      | dlc od ws kvs =>
        obtain ⟨vs, e, r⟩ := q
        exact ⟨vs, ka _ e, r.go g⟩
      | tab P q =>
        obtain ⟨e0, ps, e, t2, z2⟩ := q
        refine ⟨e0, ps, ka _ e, t2, fun pos cv hc => ?_⟩
        obtain ⟨c2, e1, n2, e2⟩ := z2 pos cv hc
        exact ⟨c2, e1, (g.frz c2 _ n2 e2 rfl).2, (g.frz c2 _ n2 e2 rfl).1⟩
      | tpl l =>
        obtain ⟨xs, e, r⟩ := q
        exact ⟨xs, ka _ e, r.go g g.pre⟩
    · have hl := (List.getElem?_eq_some_iff.mp h1).1
      rw [List.length_append] at hl
      have hn' : n = mu.length := by simp at hl; omega
      subst hn'
      rw [List.getElem?_append_right (Nat.le_refl _), Nat.sub_self] at h1
      rw [List.getElem?_append_right (by rw [o.len]; exact Nat.le_refl _), o.len, Nat.sub_self] at h2
      simp at h1 h2
      subst h1 h2
      exact hm
/-- cell n is changed -/
theorem Go.write {H' : Hp} (o : Okay K hd H mu al) {n : Nat} {p : Addr} (hp : al[n]? = some p) (e : ∀ a, a ≠ p → H' a = H a) : Go hd H al H' al :=
  ⟨fun _ _ q => q, fun a u m q _ => ⟨by rw [e a (fun z => m (z ▸ List.mem_append_left _ (List.mem_of_getElem? hp)))]; exact q, m⟩, fun a ha => e a fun z => (o.hid a ha).1 (z ▸ List.mem_of_getElem? hp)⟩
theorem Okay.write {H' : Hp} (o : Okay K hd H mu al) {n : Nat} {p : Addr} {mo : MO} (hp : al[n]? = some p) (e : ∀ a, a ≠ p → H' a = H a) (hm : MAt K hd al H' p mo) : Okay K hd H' (mu.set n mo) al := by
  have g := Go.write o hp e
  refine ⟨by rw [List.length_set]; exact o.len, o.nd, fun a ha => ⟨(o.hid a ha).1, by rw [e a (fun z => (o.hid a ha).1 (z ▸ List.mem_of_getElem? hp))]; exact (o.hid a ha).2⟩, fun a ha u q => o.hx a ha u ((e a (fun z => (o.hid a ha).1 (z ▸ List.mem_of_getElem? hp))).symm.trans q), fun j m a h1 h2 => ?_⟩
  by_cases hj : j = n
  · subst hj
    have ea : a = p := Option.some.inj (h2.symm.trans hp)
    subst ea
    have hl : j < mu.length := by
      have := (List.getElem?_eq_some_iff.mp h1).1
      rw [List.length_set] at this
      exact this
    rw [List.getElem?_set_self hl] at h1
    cases h1
    exact hm
  · rw [List.getElem?_set_ne (fun z => hj z.symm)] at h1
    have hap : a ≠ p := fun z => by
      subst z
      exact hj (nd_ix o.nd h2 hp)
    have q := o.at_ j m a h1 h2
    have ka := e a hap
    cases m with
    | lst l =>
      obtain ⟨xs, e, r⟩ := q
      exact ⟨xs, ka.trans e, r.go g (Pre.refl _)⟩
    | lsp l =>
      obtain ⟨xs, e, r⟩ := q
      exact ⟨xs, ka.trans e, r.go g g.pre⟩
    | ins c l =>
      obtain ⟨dx, xs, e, r, z⟩ := q
      exact ⟨dx, xs, ka.trans e, r.go g g.pre, z⟩
    | dic kvs =>
      obtain ⟨vs, e, r⟩ := q
      exact ⟨vs, ka.trans e, r.go g⟩
    | dit kvs =>
      obtain ⟨vs, e, r⟩ := q
      exact ⟨vs, ka.trans e, r.go g⟩
    | dlk od ws kvs =>
      obtain ⟨vs, e, r⟩ := q
      exact ⟨vs, ka.trans e, r.go g⟩
    | dlc od ws kvs =>
      obtain ⟨vs, e, r⟩ := q
      exact ⟨vs, ka.trans e, r.go g⟩
    | tab P q =>
      obtain ⟨e0, ps, e, t2, z2⟩ := q
      refine ⟨e0, ps, ka.trans e, t2, fun pos cv hc => ?_⟩
      obtain ⟨c2, e1, n2, e2⟩ := z2 pos cv hc
      exact ⟨c2, e1, (g.frz c2 _ n2 e2 rfl).2, (g.frz c2 _ n2 e2 rfl).1⟩
    | tpl l =>
      obtain ⟨xs, e, r⟩ := q
      exact ⟨xs, ka.trans e, r.go g g.pre⟩
theorem Okay.cellAt (o : Okay K hd H mu al) {n : Nat} {mo : MO} (h : mu[n]? = some mo) : ∃ a, al[n]? = some a ∧ MAt K hd al H a mo := by
  have hn : n < al.length := by rw [o.len]; exact (List.getElem?_eq_some_iff.mp h).1
  exact ⟨al[n], List.getElem?_eq_getElem hn, o.at_ n mo _ h (List.getElem?_eq_getElem hn)⟩
end
/-! ### slots -/
abbrev Gam := List (Option D)
structure Slots (K : PySem.W.Frag) (hd al : List Addr) (H : Hp) (ga : Gam) (sg : L2.St) : Prop where
  len : ga.length = sg.length
  at_ : ∀ (i : Nat) (d : D), ga[i]? = some (some d) → ∃ v, sg[i]? = some (some v) ∧ Rep K (al ++ hd) H al d v
theorem Slots.go {K : PySem.W.Frag} {hd : List Addr} {H H1 : Hp} {al al1 : List Addr} {ga : Gam} {sg : L2.St} (g : Go hd H al H1 al1) (s : Slots K hd al H ga sg) : Slots K hd al1 H1 ga sg :=
  ⟨s.len, fun i d e => by
    obtain ⟨v, h, r⟩ := s.at_ i d e
    exact ⟨v, h, r.go g g.pre⟩⟩
theorem Slots.set {K : PySem.W.Frag} {hd : List Addr} {H : Hp} {al : List Addr} {ga : Gam} {sg : L2.St} {d : D} {v : V} (i : Nat) (s : Slots K hd al H ga sg) (r : Rep K (al ++ hd) H al d v) : Slots K hd al H (ga.set i (some d)) (sg.set i (some v)) := by
  refine ⟨by rw [List.length_set, List.length_set]; exact s.len, fun j e h => ?_⟩
  by_cases hj : j = i
  · subst hj
    have hl : j < ga.length := by
      have := (List.getElem?_eq_some_iff.mp h).1
      rw [List.length_set] at this
      exact this
    rw [List.getElem?_set_self hl] at h
    cases h
    exact ⟨v, List.getElem?_set_self (by rw [← s.len]; exact hl), r⟩
  · rw [List.getElem?_set_ne (fun z => hj z.symm)] at h
    rw [List.getElem?_set_ne (fun z => hj z.symm)]
    exact s.at_ j e h
/-! ### leaving: the cells that were made on the way are dropped -/
def noptr : MO → Prop
  | .lst _ => True
  | .dic _ => True
  | .tab _ _ => True
  | _ => False
/-- mu2: the first cells of mu', as many as mu has; each without pointers, or as in mu -/
structure Trim (mu mu' mu2 : Sto) : Prop where
  len : mu2.length = mu.length
  pre : ∀ (j : Nat) (mo : MO), mu2[j]? = some mo → mu'[j]? = some mo
  ok : ∀ (j : Nat) (mo : MO), mu2[j]? = some mo → noptr mo ∨ mu[j]? = some mo
theorem Trim.same (mu ext : Sto) : Trim mu (mu ++ ext) mu :=
  ⟨rfl, fun j mo h => by rw [List.getElem?_append_left (List.getElem?_eq_some_iff.mp h).1]; exact h, fun _ _ h => .inr h⟩
theorem Trim.refl (mu : Sto) : Trim mu mu mu := ⟨rfl, fun _ _ h => h, fun _ _ h => .inr h⟩
theorem Trim.set (mu ext : Sto) (n : Nat) (mo : MO) (h : noptr mo) : Trim mu (mu.set n mo ++ ext) (mu.set n mo) := by
  refine ⟨List.length_set, fun j mo h => by rw [List.getElem?_append_left (List.getElem?_eq_some_iff.mp h).1]; exact h, fun j m e => ?_⟩
  by_cases hj : j = n
  · subst hj
    have hl : j < mu.length := by
      have := (List.getElem?_eq_some_iff.mp e).1
      rw [List.length_set] at this
      exact this
    rw [List.getElem?_set_self hl] at e
    cases e
    exact .inl h
  · rw [List.getElem?_set_ne (fun z => hj z.symm)] at e
    exact .inr e
/-- each pointer of what was told over al stays below al's length -/
theorem Rep.back {K : PySem.W.Frag} {H H1 : Hp} {al al1 pt pt1 : List Addr} {d : D} {v v1 : V} (g : Fz H1 al1 H1 al) (p : Pre pt pt1) (r : Rep K al H pt d v) (r1 : Rep K al1 H1 pt1 d v1) : Rep K al H1 pt d v1 := by
  cases r1 with
  | ptr e1 =>
    cases r with
    | ptr e => exact .ptr (e.trans ((p _ _ e).symm.trans e1))
  | non => exact .non
  | bl => exact .bl
  | int => exact .int
  | str => exact .str
  | adr => exact .adr
  | tup a b => exact .tup (g.fzT a) (b.fz g (Pre.refl _))
  | lst a b => exact .lst (g.fzL a) (b.fz g (Pre.refl _))
  | obj a b c d => exact .obj (g _ _ a b rfl).2 b c (d.fz g (Pre.refl _))
  | err0 h => exact .err0 (h.fz g)
  | err a b c d => exact .err (g _ _ a b rfl).2 b c (d.fz g (Pre.refl _))
theorem RepL.back {K : PySem.W.Frag} {H H1 : Hp} {al al1 pt pt1 : List Addr} (g : Fz H1 al1 H1 al) (p : Pre pt pt1) : ∀ {l : List D} {xs xs1 : List V}, RepL K al H pt l xs → RepL K al1 H1 pt1 l xs1 → RepL K al H1 pt l xs1
  | _, _, _, .nil, .nil => .nil
  | _, _, _, .cons a r, .cons b r1 => .cons (Rep.back g p a b) (RepL.back g p r r1)
theorem RepKV.fz {κ : Type} {K : PySem.W.Frag} {H H1 : Hp} {al al1 : List Addr} (g : Fz H al H1 al1) : ∀ {l : List (κ × D)} {xs : List (κ × V)}, RepKV K al H l xs → RepKV K al1 H1 l xs
  | [], [], _ => trivial
  | (k, d) :: l, (j, v) :: xs, h => ⟨h.1, h.2.1.fz g (Pre.refl _), RepKV.fz g h.2.2⟩
  | [], _ :: _, h => h.elim
  | _ :: _, [], h => h.elim
section
variable {K : PySem.W.Frag} {hd : List Addr} {H H1 : Hp} {al al1 : List Addr} {mu mu1 mu2 : Sto}
theorem Go.sub (g : Go hd H al H1 al1) : ∀ a, a ∈ al → a ∈ al1 := fun a h => by
  obtain ⟨n, hn, e⟩ := List.mem_iff_getElem.mp h
  exact List.mem_of_getElem? (g.pre n a (by rw [List.getElem?_eq_getElem hn, e]))
theorem Go.subH (g : Go hd H al H1 al1) : ∀ a, a ∈ al ++ hd → a ∈ al1 ++ hd := fun a h => by
  rcases List.mem_append.mp h with h | h
  · exact List.mem_append_left _ (g.sub a h)
  · exact List.mem_append_right _ h
theorem Go.back (g : Go hd H al H1 al1) : Fz H1 (al1 ++ hd) H1 (al ++ hd) := fun a o n h _ => ⟨h, fun z => n (g.subH a z)⟩
theorem Go.home (g : Go hd H al H1 al1) : Go hd H al H1 al := ⟨fun _ _ h => h, fun a o n h t => ⟨(g.frz a o n h t).1, n⟩, g.hid⟩
theorem Okay.trim (o : Okay K hd H mu al) (o1 : Okay K hd H1 mu1 al1) (g : Go hd H al H1 al1) (t : Trim mu mu1 mu2) : Okay K hd H1 mu2 al := by
  refine ⟨o.len.trans t.len.symm, o.nd, fun a ha => ⟨(o.hid a ha).1, (o1.hid a ha).2⟩, o1.hx, fun n mo a h1 h2 => ?_⟩
  have q := o1.at_ n mo a (t.pre n mo h1) (g.pre n a h2)
  rcases t.ok n mo h1 with z | z
  · cases mo with
    | lst l =>
      obtain ⟨xs, e, r⟩ := q
      exact ⟨xs, e, r.fz g.back (Pre.refl _)⟩
    | dic kvs =>
      obtain ⟨vs, e, r⟩ := q
      exact ⟨vs, e, r.fz g.back⟩
    | dit kvs =>
      obtain ⟨vs, e, r⟩ := q
      exact ⟨vs, e, r.fz g.back⟩
    | dlk od ws kvs =>
      obtain ⟨vs, e, r⟩ := q
      exact ⟨vs, e, r.fz g.back⟩
    | dlc od ws kvs =>
      obtain ⟨vs, e, r⟩ := q
      exact ⟨vs, e, r.fz g.back⟩
    | tab P q =>
      obtain ⟨e0, ps, e, t2, z2⟩ := q
      refine ⟨e0, ps, e, t2, fun pos cv hc => ?_⟩
      obtain ⟨c2, e1, n2, e2⟩ := z2 pos cv hc
      exact ⟨c2, e1, (g.back c2 _ n2 e2 rfl).2, (g.back c2 _ n2 e2 rfl).1⟩
    | _ => exact z.elim
  · have q0 := o.at_ n mo a z h2
    cases mo with
    | lst l =>
      obtain ⟨xs, e, r⟩ := q
      exact ⟨xs, e, r.fz g.back (Pre.refl _)⟩
    | dic kvs =>
      obtain ⟨vs, e, r⟩ := q
      exact ⟨vs, e, r.fz g.back⟩
    | dit kvs =>
      obtain ⟨vs, e, r⟩ := q
      exact ⟨vs, e, r.fz g.back⟩
    | dlk od ws kvs =>
      obtain ⟨vs, e, r⟩ := q
      exact ⟨vs, e, r.fz g.back⟩
    | dlc od ws kvs =>
      obtain ⟨vs, e, r⟩ := q
      exact ⟨vs, e, r.fz g.back⟩
    | tab P q =>
      obtain ⟨e0, ps, e, t2, z2⟩ := q
      refine ⟨e0, ps, e, t2, fun pos cv hc => ?_⟩
      obtain ⟨c2, e1, n2, e2⟩ := z2 pos cv hc
      exact ⟨c2, e1, (g.back c2 _ n2 e2 rfl).2, (g.back c2 _ n2 e2 rfl).1⟩
    | tpl l =>
      obtain ⟨xs, e, r⟩ := q
      obtain ⟨xs0, e0, r0⟩ := q0
      exact ⟨xs, e, RepL.back g.back g.pre r0 r⟩
    | lsp l =>
      obtain ⟨xs, e, r⟩ := q
      obtain ⟨xs0, e0, r0⟩ := q0
      exact ⟨xs, e, RepL.back g.back g.pre r0 r⟩
    | ins c l =>
      obtain ⟨dx, xs, e, r, y⟩ := q
      obtain ⟨dx0, xs0, e0, r0, y0⟩ := q0
      exact ⟨dx, xs, e, RepL.back g.back g.pre r0 r, y⟩
/-- a value at the end: a list of one's own is let go frozen -/
def frz (n : Nat) (mu : Sto) : D → Option D
  | .ptr j => if j < n then some (.ptr j) else (match mu[j]? with
    | some (.lst l) => some (.lst l)
    | _ => none)
  | d => some d
theorem Rep.frz {d d2 : D} {v : V} (o : Okay K hd H mu al) (o1 : Okay K hd H1 mu1 al1) (g : Go hd H al H1 al1) (r : Rep K (al1 ++ hd) H1 al1 d v) (h : frz mu.length mu1 d = some d2) : Rep K (al ++ hd) H1 al d2 v := by
  cases r with
  | ptr e =>
    rename_i j a
    have h' : (if j < mu.length then some (D.ptr j) else (match mu1[j]? with
      | some (.lst l) => some (.lst l)
      | _ => none)) = some d2 := h
    by_cases hj : j < mu.length
    · rw [if_pos hj] at h'
      cases h'
      have hj' : j < al.length := by rw [o.len]; exact hj
      have q := g.pre j al[j] (List.getElem?_eq_getElem hj')
      rw [e] at q
      cases q
      exact .ptr (List.getElem?_eq_getElem hj')
    · rw [if_neg hj] at h'
      cases q : mu1[j]? with
      | none =>
        rw [q] at h'
        cases h'
      | some mo =>
        rw [q] at h'
        cases mo with
        | lst l =>
          cases h'
          obtain ⟨xs, e1, r1⟩ := o1.at_ j _ a q e
          refine .lst ⟨fun z => ?_, .inl e1⟩ (r1.fz g.back (Pre.refl _))
          rcases List.mem_append.mp z with z | z
          case inr => exact (o1.hid a z).1 (List.mem_of_getElem? e)
          obtain ⟨i, hi, ei⟩ := List.mem_iff_getElem.mp z
          have q2 := g.pre i a (by rw [List.getElem?_eq_getElem hi, ei])
          have ej : i = j := nd_ix o1.nd q2 e
          subst ej
          exact hj (by rw [← o.len]; exact hi)
        | _ => cases h'
  | non => cases h; exact .non
  | bl => cases h; exact .bl
  | int => cases h; exact .int
  | str => cases h; exact .str
  | adr => cases h; exact .adr
  | tup a b => cases h; exact .tup (g.back.fzT a) (b.fz g.back (Pre.refl _))
  | lst a b => cases h; exact .lst (g.back.fzL a) (b.fz g.back (Pre.refl _))
  | obj a b c d => cases h; exact .obj (g.back _ _ a b rfl).2 b c (d.fz g.back (Pre.refl _))
  | err0 z => cases h; exact .err0 (z.fz g.back)
  | err a b c d => cases h; exact .err (g.back _ _ a b rfl).2 b c (d.fz g.back (Pre.refl _))
end
/-! ### hidden cells -/
theorem Fz.refl (H : Hp) (al : List Addr) : Fz H al H al := fun _ _ n h _ => ⟨h, n⟩
theorem Fz.trans {H H1 H2 : Hp} {al al1 al2 : List Addr} (a : Fz H al H1 al1) (b : Fz H1 al1 H2 al2) : Fz H al H2 al2 := fun x o n h t => b x o (a x o n h t).2 (a x o n h t).1 t
section
variable {K : PySem.W.Frag} {hd hd' : List Addr} {H H' : Hp} {al : List Addr} {mu : Sto}
theorem Okay.mv (o : Okay K hd H mu al) (g : Fz H (al ++ hd) H' (al ++ hd')) (k : ∀ a, a ∈ al → H' a = H a) (z : ∀ a, a ∈ hd' → ¬ a ∈ al ∧ ∃ u, H' a = some u) (zx : ∀ a, a ∈ hd' → ∀ u, H' a = some u → notX u = true) : Okay K hd' H' mu al := by
  refine ⟨o.len, o.nd, z, zx, fun n mo a h1 h2 => ?_⟩
  have h := o.at_ n mo a h1 h2
  have ka := k a (List.mem_of_getElem? h2)
  cases mo with
  | lst l =>
    obtain ⟨xs, e, r⟩ := h
    exact ⟨xs, ka.trans e, r.fz g (Pre.refl _)⟩
  | lsp l =>
    obtain ⟨xs, e, r⟩ := h
    exact ⟨xs, ka.trans e, r.fz g (Pre.refl _)⟩
  | ins c l =>
    obtain ⟨dx, xs, e, r, z⟩ := h
    exact ⟨dx, xs, ka.trans e, r.fz g (Pre.refl _), z⟩
  | dic kvs =>
    obtain ⟨vs, e, r⟩ := h
    exact ⟨vs, ka.trans e, r.fz g⟩
  | dit kvs =>
    obtain ⟨vs, e, r⟩ := h
    exact ⟨vs, ka.trans e, r.fz g⟩
  | dlk od ws kvs =>
    obtain ⟨vs, e, r⟩ := h
    exact ⟨vs, ka.trans e, r.fz g⟩
  | dlc od ws kvs =>
    obtain ⟨vs, e, r⟩ := h
    exact ⟨vs, ka.trans e, r.fz g⟩
  | tab P q =>
    obtain ⟨e0, ps, e, t2, z2⟩ := h
    refine ⟨e0, ps, ka.trans e, t2, fun pos cv hc => ?_⟩
    obtain ⟨c2, e1, n2, e2⟩ := z2 pos cv hc
    exact ⟨c2, e1, (g c2 _ n2 e2 rfl).2, (g c2 _ n2 e2 rfl).1⟩
  | tpl l =>
    obtain ⟨xs, e, r⟩ := h
    exact ⟨xs, ka.trans e, r.fz g (Pre.refl _)⟩
theorem Slots.fz {ga : Gam} {sg : L2.St} {al' : List Addr} (s : Slots K hd al H ga sg) (g : Fz H (al ++ hd) H' (al' ++ hd')) (p : Pre al al') : Slots K hd' al' H' ga sg := ⟨s.len, fun i d e => by
  obtain ⟨v, h, r⟩ := s.at_ i d e
  exact ⟨v, h, r.fz g p⟩⟩
/-- D is new: it is laid and hidden -/
theorem Fz.hide (o : Okay K hd H mu al) {D : Addr} {u : HO} (hD : H D = none) : Fz H (al ++ hd) (upd H D u) (al ++ D :: hd) := fun a v n e _ => by
  have ne := ne_of_none e hD
  refine ⟨by rw [upd_ne ne]; exact e, fun z => ?_⟩
  rcases List.mem_append.mp z with z | z
  · exact n (List.mem_append_left _ z)
  · rcases List.mem_cons.mp z with z | z
    · exact ne z
    · exact n (List.mem_append_right _ z)
theorem Okay.hide (o : Okay K hd H mu al) {D : Addr} {u : HO} (hD : H D = none) (hu : notX u = true := by rfl) : Okay K (D :: hd) (upd H D u) mu al :=
  o.mv (Fz.hide o hD) (fun a ha => upd_ne fun z => o.newA hD (z ▸ ha)) (fun a ha => by
    rcases List.mem_cons.mp ha with z | z
    · subst z
      exact ⟨o.newA hD, _, upd_same⟩
    · obtain ⟨h1, v, h2⟩ := o.hid a z
      exact ⟨h1, v, by rw [upd_ne (ne_of_none h2 hD)]; exact h2⟩) fun a ha w q => by
    rcases List.mem_cons.mp ha with z | z
    · subst z
      rw [upd_same] at q
      cases q
      exact hu
    · obtain ⟨h1, v, h2⟩ := o.hid a z
      rw [upd_ne (ne_of_none h2 hD)] at q
      exact o.hx a z w q
/-- the hidden D is changed -/
theorem Fz.hid {D : Addr} {u : HO} (al hd : List Addr) : Fz H (al ++ D :: hd) (upd H D u) (al ++ D :: hd) := fun a v n e _ => by
  have ne : a ≠ D := fun z => n (z ▸ List.mem_append_right _ List.mem_cons_self)
  exact ⟨by rw [upd_ne ne]; exact e, n⟩
theorem Okay.hidSet {D : Addr} {u : HO} (o : Okay K (D :: hd) H mu al) (hu : notX u = true := by rfl) : Okay K (D :: hd) (upd H D u) mu al :=
  o.mv (Fz.hid al hd) (fun a ha => upd_ne fun z => (o.hid D List.mem_cons_self).1 (z ▸ ha)) (fun a ha => ⟨(o.hid a ha).1, by
    by_cases h : a = D
    · exact ⟨u, by rw [h, upd_same]⟩
    · rw [upd_ne h]
      exact (o.hid a ha).2⟩) fun a ha w q => by
    by_cases h : a = D
    · rw [h, upd_same] at q
      cases q
      exact hu
    · rw [upd_ne h] at q
      exact o.hx a ha w q
/-- D is hidden no longer -/
theorem Fz.show_ {D : Addr} (al hd : List Addr) : Fz H (al ++ D :: hd) H (al ++ hd) := fun a v n e _ => ⟨e, fun z => n (by
  rcases List.mem_append.mp z with z | z
  · exact List.mem_append_left _ z
  · exact List.mem_append_right _ (List.mem_cons_of_mem _ z))⟩
theorem Okay.show_ {D : Addr} (o : Okay K (D :: hd) H mu al) : Okay K hd H mu al :=
  o.mv (Fz.show_ al hd) (fun _ _ => rfl) (fun a ha => o.hid a (List.mem_cons_of_mem _ ha)) fun a ha => o.hx a (List.mem_cons_of_mem _ ha)
theorem mem_turn {D a : Addr} {al hd : List Addr} (z : a ∈ (al ++ [D]) ++ hd) : a ∈ al ++ D :: hd := by
  rw [List.append_assoc] at z
  exact z
theorem Fz.turn {D : Addr} (al hd : List Addr) : Fz H (al ++ D :: hd) H ((al ++ [D]) ++ hd) := fun a v n e _ => ⟨e, fun z => n (mem_turn z)⟩
theorem Pre.app (al : List Addr) (l : List Addr) : Pre al (al ++ l) := fun n a h => by
  rw [List.getElem?_append_left (List.getElem?_eq_some_iff.mp h).1]
  exact h
theorem Okay.turn {D : Addr} {mo : MO} (o : Okay K (D :: hd) H mu al) (hn : ¬ D ∈ hd) (hm : MAt K hd (al ++ [D]) H D mo) : Okay K hd H (mu ++ [mo]) (al ++ [D]) := by
  have g : Fz H (al ++ D :: hd) H ((al ++ [D]) ++ hd) := Fz.turn al hd
  refine ⟨by rw [List.length_append, List.length_append, o.len] <;> rfl, ?_, fun a ha => ?_, fun a ha => o.hx a (List.mem_cons_of_mem _ ha), fun n m a h1 h2 => ?_⟩
  · rw [List.nodup_append]
    refine ⟨o.nd, by simp, fun a ha b hb => ?_⟩
    rw [List.mem_singleton.mp hb]
    exact fun z => (o.hid D List.mem_cons_self).1 (z ▸ ha)
  · obtain ⟨h1, h2⟩ := o.hid a (List.mem_cons_of_mem _ ha)
    refine ⟨fun z => ?_, h2⟩
    rcases List.mem_append.mp z with z | z
    · exact h1 z
    · rw [List.mem_singleton.mp z] at ha
      exact hn ha
  · rcases Nat.lt_or_ge n mu.length with h | h
    · rw [List.getElem?_append_left h] at h1
      rw [List.getElem?_append_left (by rw [o.len]; exact h)] at h2
      have q := o.at_ n m a h1 h2
      cases m with
      | lst l =>
        obtain ⟨xs, e, r⟩ := q
        exact ⟨xs, e, r.fz g (Pre.refl _)⟩
      | lsp l =>
        obtain ⟨xs, e, r⟩ := q
        exact ⟨xs, e, r.fz g (Pre.app _ _)⟩
      | ins c l =>
        obtain ⟨dx, xs, e, r, z⟩ := q
        exact ⟨dx, xs, e, r.fz g (Pre.app _ _), z⟩
      | dic kvs =>
        obtain ⟨vs, e, r⟩ := q
        exact ⟨vs, e, r.fz g⟩
      | dit kvs =>
        obtain ⟨vs, e, r⟩ := q
        exact ⟨vs, e, r.fz g⟩
      | dlk od ws kvs =>
        obtain ⟨vs, e, r⟩ := q
        exact ⟨vs, e, r.fz g⟩
      | dlc od ws kvs =>
        obtain ⟨vs, e, r⟩ := q
        exact ⟨vs, e, r.fz g⟩
      | tab P q =>
        obtain ⟨e0, ps, e, t2, z2⟩ := q
        refine ⟨e0, ps, e, t2, fun pos cv hc => ?_⟩
        obtain ⟨c2, e1, n2, e2⟩ := z2 pos cv hc
        exact ⟨c2, e1, (g c2 _ n2 e2 rfl).2, (g c2 _ n2 e2 rfl).1⟩
      | tpl l =>
        obtain ⟨xs, e, r⟩ := q
        exact ⟨xs, e, r.fz g (Pre.app _ _)⟩
    · have hl := (List.getElem?_eq_some_iff.mp h1).1
      rw [List.length_append] at hl
      have hn' : n = mu.length := by simp at hl; omega
      subst hn'
      rw [List.getElem?_append_right (Nat.le_refl _), Nat.sub_self] at h1
      rw [List.getElem?_append_right (by rw [o.len]; exact Nat.le_refl _), o.len, Nat.sub_self] at h2
      simp at h1 h2
      subst h1 h2
      exact hm
end
end DL

/-! part DL2 -/
/-! DL2: readings over data: lifts, expressions. -/
namespace DL
open PySem PySem.Spec PyProof.Rows L2

abbrev KD := D → Sto → Prop
abbrev KX := Exn → Sto → Prop
abbrev DE := Gam → Sto → KX → KD → Prop
abbrev DB := Gam → Sto → KX → (Bool → Sto → Prop) → Prop
abbrev DA := Gam → Sto → KX → (List D → Sto → Prop) → Prop

/-- an exception as data -/
def RepX (K : PySem.W.Frag) (hd al : List Addr) (H : Hp) (cls : Value) (dd : Option Addr) (x : Exn) : Prop :=
  cls = .ref (He.ga K (xn x.1)) ∧ x.2.length = (xf x.1).length ∧
    (x.2 ≠ [] → ∃ (d : Addr) (fs : List (Str × V)) (xs : List V), dd = some d ∧ ¬ d ∈ al ++ hd ∧ H d = some (.xd fs) ∧ RepL K (al ++ hd) H [] x.2 xs ∧ ∀ (i : Nat) (f : Str), (xf x.1)[i]? = some f → fs.lookup f = xs[i]?) ∧ (x.2 = [] → dd = none)
section
variable (K : PySem.W.Frag) (hd : List Addr)
structure Kv (H : Hp) (al : List Addr) (F : KD) (Q : VK) : Prop where
  go : ∀ (d : D) (mu' : Sto) (v : V) (H' : Hp) (al' : List Addr), F d mu' → Okay K hd H' mu' al' → Go hd H al H' al' → Rep K (al' ++ hd) H' al' d v → Q v H'
structure Kb (H : Hp) (al : List Addr) (F : Bool → Sto → Prop) (Q : Bool → Hp → Prop) : Prop where
  go : ∀ (b : Bool) (mu' : Sto) (H' : Hp) (al' : List Addr), F b mu' → Okay K hd H' mu' al' → Go hd H al H' al' → Q b H'
structure Kl (H : Hp) (al : List Addr) (F : List D → Sto → Prop) (Q : List V → Hp → Prop) : Prop where
  go : ∀ (ds : List D) (mu' : Sto) (vs : List V) (H' : Hp) (al' : List Addr), F ds mu' → Okay K hd H' mu' al' → Go hd H al H' al' → RepL K (al' ++ hd) H' al' ds vs → Q vs H'
structure Kx (W : Value → Option Addr → Hp → Prop) (H : Hp) (al : List Addr) (P : KX) : Prop where
  go : ∀ (x : Exn) (mu' : Sto) (cls : Value) (dd : Option Addr) (H' : Hp) (al' : List Addr), P x mu' → Okay K hd H' mu' al' → Go hd H al H' al' → RepX K hd al' H' cls dd x → W cls dd H'
/-- the start of a reading: the store and the slots as data -/
structure At (ga : Gam) (mu : Sto) (al : List Addr) (sg : L2.St) (H : Hp) : Prop where
  ok : Okay K hd H mu al
  sl : Slots K hd al H ga sg
end
section
variable (K : PySem.W.Frag)
def liftE (W : WX) (de : DE) : TE := fun sg H Q => ∃ (ga : Gam) (mu : Sto) (al hd : List Addr) (P : KX) (F : KD), At K hd ga mu al sg H ∧ de ga mu P F ∧ Kv K hd H al F Q ∧ Kx K hd (fun c d h => W c d sg h) H al P
def liftB (W : WX) (de : DB) : TT := fun sg H Q => ∃ (ga : Gam) (mu : Sto) (al hd : List Addr) (P : KX) (F : Bool → Sto → Prop), At K hd ga mu al sg H ∧ de ga mu P F ∧ Kb K hd H al F Q ∧ Kx K hd (fun c d h => W c d sg h) H al P
def liftA (W : WX) (de : DA) : TA := fun sg H Q => ∃ (ga : Gam) (mu : Sto) (al hd : List Addr) (P : KX) (F : List D → Sto → Prop), At K hd ga mu al sg H ∧ de ga mu P F ∧ Kl K hd H al F Q ∧ Kx K hd (fun c d h => W c d sg h) H al P
end
section
variable {K : PySem.W.Frag} {hd : List Addr} {H H1 : Hp} {al al1 : List Addr} {W : Value → Option Addr → Hp → Prop} {ga : Gam} {mu mu1 : Sto} {sg : L2.St}
theorem Kv.to {F : KD} {Q : VK} (k : Kv K hd H al F Q) (g : Go hd H al H1 al1) : Kv K hd H1 al1 F Q := ⟨fun d mu' v H' al' h o g' r => k.go d mu' v H' al' h o (g.trans g') r⟩
theorem Kb.to {F : Bool → Sto → Prop} {Q : Bool → Hp → Prop} (k : Kb K hd H al F Q) (g : Go hd H al H1 al1) : Kb K hd H1 al1 F Q := ⟨fun b mu' H' al' h o g' => k.go b mu' H' al' h o (g.trans g')⟩
theorem Kl.to {F : List D → Sto → Prop} {Q : List V → Hp → Prop} (k : Kl K hd H al F Q) (g : Go hd H al H1 al1) : Kl K hd H1 al1 F Q := ⟨fun ds mu' vs H' al' h o g' r => k.go ds mu' vs H' al' h o (g.trans g') r⟩
theorem Kx.to {P : KX} (k : Kx K hd W H al P) (g : Go hd H al H1 al1) : Kx K hd W H1 al1 P := ⟨fun x mu' c d H' al' h o g' r => k.go x mu' c d H' al' h o (g.trans g') r⟩
theorem At.to (a : At K hd ga mu al sg H) (o : Okay K hd H1 mu1 al1) (g : Go hd H al H1 al1) : At K hd ga mu1 al1 sg H1 := ⟨o, a.sl.go g⟩
/-- a value without a change -/
theorem Kv.now {F : KD} {Q : VK} {d : D} {v : V} (k : Kv K hd H al F Q) (a : Okay K hd H mu al) (h : F d mu) (r : Rep K (al ++ hd) H al d v) : Q v H := k.go d mu v H al h a (Go.refl _ _) r
/-- a new frozen thing at p -/
theorem Kv.lay {F : KD} {Q : VK} {d : D} {p : Addr} {u : HO} (k : Kv K hd H al F Q) (a : Okay K hd H mu al) (hp : H p = none) (h : F d mu) (r : ¬ p ∈ al ++ hd → Go hd H al (upd H p u) al → Rep K (al ++ hd) (upd H p u) al d (.ref p)) : Q (.ref p) (upd H p u) :=
  k.go d mu _ _ al h (a.lay hp) (Go.lay a hp) (r (a.new hp) (Go.lay a hp))
/-- a list as a result: 0 frozen, 1 a cell of its own, 2 a cell that may hold pointers -/
def retN (m : Nat) (l : List D) (mu : Sto) (F : KD) : Prop := match m with
  | 0 => F (.lst l) mu
  | 1 => F (.ptr mu.length) (mu ++ [.lst l])
  | _ => F (.ptr mu.length) (mu ++ [.lsp l])
def retL (m : Nat) (l : List D) (mu : Sto) (F : KD) : Prop := match m with
  | 0 => npL l ∧ F (.lst l) mu
  | 1 => npL l ∧ F (.ptr mu.length) (mu ++ [.lst l])
  | _ => F (.ptr mu.length) (mu ++ [.lsp l])
theorem Kv.cel {F : KD} {Q : VK} {mo : MO} {p : Addr} {H' : Hp} (k : Kv K hd H al F Q) (a : Okay K hd H mu al) (hp : H p = none) (e : ∀ b u, H b = some u → H' b = some u) (h : F (.ptr mu.length) (mu ++ [mo])) (hm : Go hd H al H' (al ++ [p]) → MAt K hd (al ++ [p]) H' p mo) : Q (.ref p) H' := by
  have g := Go.cell a hp e
  refine k.go _ _ _ _ _ h (a.cell hp e (hm g)) g (.ptr ?_)
  rw [List.getElem?_append_right (by rw [a.len]; exact Nat.le_refl _), a.len, Nat.sub_self]
  rfl
theorem upd_keep {p : Addr} {o : HO} (hp : H p = none) : ∀ b u, H b = some u → upd H p o b = some u := fun b u q => by
  rw [upd_ne (ne_of_none q hp)]
  exact q
theorem Kv.listN {F : KD} {Q : VK} {l : List D} {xs : List V} {p : Addr} {m : Nat} (k : Kv K hd H al F Q) (a : Okay K hd H mu al) (hp : H p = none) (r : RepL K (al ++ hd) H [] l xs) (h : retN m l mu F) : Q (.ref p) (upd H p (.lst xs)) := by
  match m, h with
  | 0, h => exact k.lay a hp h fun n g => .lst ⟨n, .inl upd_same⟩ (r.go g (Pre.refl _))
  | 1, h => exact k.cel a hp (upd_keep hp) h fun g => ⟨xs, upd_same, r.go g (Pre.refl _)⟩
  | _ + 2, h => exact k.cel a hp (upd_keep hp) h fun g => ⟨xs, upd_same, r.go g (Pre.nil _)⟩
theorem Kv.list {F : KD} {Q : VK} {l : List D} {xs : List V} {p : Addr} {m : Nat} (k : Kv K hd H al F Q) (a : Okay K hd H mu al) (hp : H p = none) (r : RepL K (al ++ hd) H al l xs) (h : retL m l mu F) : Q (.ref p) (upd H p (.lst xs)) := by
  match m, h with
  | 0, h => exact k.listN (m := 0) a hp (r.np h.1) h.2
  | 1, h => exact k.listN (m := 1) a hp (r.np h.1) h.2
  | _ + 2, h => exact k.cel a hp (upd_keep hp) h fun g => ⟨xs, upd_same, r.go g g.pre⟩
theorem Kv.tupleN {F : KD} {Q : VK} {l : List D} {xs : List V} {p : Addr} (k : Kv K hd H al F Q) (a : Okay K hd H mu al) (hp : H p = none) (r : RepL K (al ++ hd) H [] l xs) (h : F (.tup l) mu) : Q (.ref p) (upd H p (.tup xs)) :=
  k.lay a hp h fun n g => .tup ⟨n, upd_same⟩ (r.go g (Pre.refl _))
/-- what a value is as a list, as a tuple, as either -/
def lv (mu : Sto) : D → Option (List D)
  | .lst l => some l
  | .ptr n => (match mu[n]? with
    | some (.lst l) => some l
    | _ => none)
  | _ => none
def tv : D → Option (List D)
  | .tup l => some l
  | _ => none
def sv (mu : Sto) : D → Option (List D)
  | .tup l => some l
  | .lst l => some l
  | .ptr n => (match mu[n]? with
    | some (.lst l) => some l
    | _ => none)
  | _ => none
theorem Rep.lv {d : D} {v : V} {l : List D} (a : Okay K hd H mu al) (r : Rep K (al ++ hd) H al d v) (h : lv mu d = some l) : ∃ p xs, v = .ref p ∧ Rd H p (.lst xs) ∧ RepL K (al ++ hd) H [] l xs := by
  cases r with
  | lst z r =>
    cases h
    exact ⟨_, _, rfl, z.2, r⟩
  | ptr e =>
    rename_i n p
    have h' : (match mu[n]? with
      | some (.lst l) => some l
      | _ => none) = some l := h
    cases q : mu[n]? with
    | none =>
      rw [q] at h'
      cases h'
    | some mo =>
      rw [q] at h'
      cases mo with
      | lst l' =>
        cases h'
        obtain ⟨xs, e1, r⟩ := a.at_ n _ _ q e
        exact ⟨_, xs, rfl, .inl e1, r⟩
      | _ => cases h'
  | _ => cases h
theorem Rep.tv {d : D} {v : V} {l : List D} (r : Rep K (al ++ hd) H al d v) (h : tv d = some l) : ∃ p xs, v = .ref p ∧ ¬ p ∈ al ++ hd ∧ H p = some (.tup xs) ∧ RepL K (al ++ hd) H [] l xs := by
  cases r with
  | tup z r =>
    cases h
    exact ⟨_, _, rfl, z.1, z.2, r⟩
  | _ => cases h
theorem Rep.sv {d : D} {v : V} {l : List D} (a : Okay K hd H mu al) (r : Rep K (al ++ hd) H al d v) (h : sv mu d = some l) : ∃ p xs, v = .ref p ∧ (SqL K H p xs ∨ SqT K H p xs) ∧ RepL K (al ++ hd) H [] l xs := by
  cases r with
  | tup z r =>
    cases h
    exact ⟨_, _, rfl, .inr z.sq, r⟩
  | lst z r =>
    cases h
    exact ⟨_, _, rfl, .inl z.sq, r⟩
  | ptr e =>
    obtain ⟨p, xs, e1, z, r⟩ := Rep.lv a (.ptr e) h
    exact ⟨p, xs, e1, .inl (.inl z), r⟩
  | _ => cases h
theorem Rep.int_ {i : Int} {v : V} (r : Rep K (al ++ hd) H al (.int i) v) : v = .int i := by
  cases r
  rfl
theorem Rep.str_ {x : Str} {v : V} (r : Rep K (al ++ hd) H al (.str x) v) : v = .str x := by
  cases r
  rfl
theorem Rep.bl_ {b : Bool} {v : V} (r : Rep K (al ++ hd) H al (.bl b) v) : v = .bl b := by
  cases r
  rfl
theorem Rep.non_ {v : V} (r : Rep K (al ++ hd) H al .non v) : v = .non := by
  cases r
  rfl
theorem RepL.nil_ {xs : List V} (r : RepL K (al ++ hd) H al [] xs) : xs = [] := by
  cases r
  rfl
theorem RepL.cons_ {d : D} {l : List D} {xs : List V} (r : RepL K (al ++ hd) H al (d :: l) xs) : ∃ v ys, xs = v :: ys ∧ Rep K (al ++ hd) H al d v ∧ RepL K (al ++ hd) H al l ys := by
  cases r with
  | cons h r => exact ⟨_, _, rfl, h, r⟩
end

section
variable {X : Cx} {W : WX}
theorem pe_wk {e : Expr} {t t' : TE} (h : PE X e t) (k : ∀ sg H Q, t' sg H Q → t sg H Q) : PE X e t' := ⟨fun pins s sg H Q I q => h.run pins s sg H Q I (k _ _ _ q)⟩
theorem pt_wk {e : Expr} {t t' : TT} (h : PT X e t) (k : ∀ sg H Q, t' sg H Q → t sg H Q) : PT X e t' := ⟨fun pins s sg H Q I q => h.run pins s sg H Q I (k _ _ _ q)⟩
theorem pw_wk {e : Expr} {t t' : TT} (h : PW X e t) (k : ∀ sg H Q, t' sg H Q → t sg H Q) : PW X e t' := ⟨fun w pins s sg H Q I q => h.run w pins s sg H Q I (k _ _ _ q)⟩
theorem pa_wk {e : List Expr} {t t' : TA} (h : PA X e t) (k : ∀ sg H Q, t' sg H Q → t sg H Q) : PA X e t' := ⟨fun pos pins s sg H Q I q => h.run pos pins s sg H Q I (k _ _ _ q)⟩
theorem pe_orr {e : Expr} {t t' : TE} (h : PE X e t) (h' : PE X e t') : PE X e (fun sg H Q => t sg H Q ∨ t' sg H Q) := ⟨fun pins s sg H Q I q => q.elim (h.run pins s sg H Q I) (h'.run pins s sg H Q I)⟩

/-! ### names, constants -/
def dVar (i : Nat) : DE := fun ga mu _ F => match ga[i]? with
  | some (some d) => F d mu
  | _ => False
theorem d_var (i : Nat) {x : Str} {pos : Pos} (hN : X.N[i]? = some x := by rfl) (hv : Vis X.env.scope x := by first | exact Or.inl rfl | exact Or.inr (Or.inl rfl) | exact Or.inr (Or.inr rfl)) (hd : (x == ("__debug__" : Str)) = false := by decide)
    (hcd : (x == ("__classdict__" : Str)) = false := by decide) : PE X (.Name x pos) (liftE X.K W (dVar i)) := by
  refine pe_wk (pe_var hN hv hd hcd) fun sg H Q ⟨ga, mu, al, hd, P, F, a, h, kv, kx⟩ => ?_
  unfold dVar at h
  split at h
  · rename_i d e
    obtain ⟨v, hv, r⟩ := a.sl.at_ i d e
    exact ⟨v, hv, kv.now a.ok h r⟩
  · exact h.elim
def dC (d : D) : DE := fun _ mu _ F => F d mu
theorem d_c {e : Expr} {d : D} {v : V} (h : PE X e (tC v)) (r : ∀ fb H pt, Rep X.K fb H pt d v) : PE X e (liftE X.K W (dC d)) :=
  pe_wk h fun sg H Q ⟨ga, mu, al, hd, P, F, a, h, kv, kx⟩ => kv.now a.ok h (r _ _ _)
theorem d_int {i j pos} : PE X (.Constant (.int i) j pos) (liftE X.K W (dC (.int i))) := d_c pe_int fun _ _ _ => .int
theorem d_bl {i j pos} : PE X (.Constant (.bool i) j pos) (liftE X.K W (dC (.bl i))) := d_c pe_bl fun _ _ _ => .bl
theorem d_non {j pos} : PE X (.Constant .none j pos) (liftE X.K W (dC .non)) := d_c pe_non fun _ _ _ => .non
theorem d_str {i j pos} : PE X (.Constant (.str i) j pos) (liftE X.K W (dC (.str i))) := d_c pe_str fun _ _ _ => .str
theorem d_gint {x : Str} {i : Int} {pos : Pos} (hm : ∃ t, X.mg x = some (.int i t)) (hg : Gl X x := by rfl) (hd : (x == ("__debug__" : Str)) = false := by decide) : PE X (.Name x pos) (liftE X.K W (dC (.int i))) := by
  obtain ⟨t, hm⟩ := hm
  exact d_c (pe_glob (v := .int i) hg hm ⟨t, rfl⟩ hd) fun _ _ _ => .int
theorem d_gstr {x : Str} {i : Str} {pos : Pos} (hm : ∃ t, X.mg x = some (.str i t)) (hg : Gl X x := by rfl) (hd : (x == ("__debug__" : Str)) = false := by decide) : PE X (.Name x pos) (liftE X.K W (dC (.str i))) := by
  obtain ⟨t, hm⟩ := hm
  exact d_c (pe_glob (v := .str i) hg hm ⟨t, rfl⟩ hd) fun _ _ _ => .str

/-! ### operators -/
abbrev G2 := D → D → Sto → KX → KD → Prop
def OpS (X : Cx) (f : Value → Value → Sem Value) (r : L2.St → R2) : Prop :=
  ∀ (pins : List (Addr × Obj)) (s : Shared) (sg : L2.St) (H : Hp) (x y : V) (v u : Value) (Q : VK), Inv X pins sg H s → RelV x v → RelV y u → r sg x y H Q →
    wpAny (model X.prog X.w) X.A (f v u) (EP X pins sg Q) X.xe s
theorem opr_s {f : Value → Value → Sem Value} {r : R2} (h : OpR X f r) : OpS X f (fun _ => r) := h
theorem ops_wk {f : Value → Value → Sem Value} {r r' : L2.St → R2} (h : OpS X f r) (k : ∀ sg x y H Q, r' sg x y H Q → r sg x y H Q) : OpS X f r' := fun pins s sg H x y v u Q I rx ry q => h pins s sg H x y v u Q I rx ry (k _ _ _ _ _ q)
theorem ops_orr {f : Value → Value → Sem Value} {r r' : L2.St → R2} (h : OpS X f r) (h' : OpS X f r') : OpS X f (fun sg x y H Q => r sg x y H Q ∨ r' sg x y H Q) :=
  fun pins s sg H x y v u Q I rx ry q => q.elim (h pins s sg H x y v u Q I rx ry) (h' pins s sg H x y v u Q I rx ry)
def liftR (K : PySem.W.Frag) (W : WX) (g : G2) : L2.St → R2 := fun sg x y H Q => ∃ (mu : Sto) (al hd : List Addr) (d e : D) (P : KX) (F : KD), Okay K hd H mu al ∧ Rep K (al ++ hd) H al d x ∧ Rep K (al ++ hd) H al e y ∧ g d e mu P F ∧ Kv K hd H al F Q ∧ Kx K hd (fun c d h => W c d sg h) H al P
def dBin (g : G2) (da db : DE) : DE := fun ga mu P F => da ga mu P fun x mu1 => db ga mu1 P fun y mu2 => g x y mu2 P F
theorem bin_ok {K : PySem.W.Frag} {g : G2} {da db : DE} {sg : L2.St} {H : Hp} {Q : VK} (h : liftE K W (dBin g da db) sg H Q) : liftE K W da sg H fun x H1 => liftE K W db sg H1 fun y H2 => liftR K W g sg x y H2 Q := by
  obtain ⟨ga, mu, al, hd, P, F, a, h, kv, kx⟩ := h
  exact ⟨ga, mu, al, hd, P, _, a, h, ⟨fun d mu1 v H1 al1 h1 o1 g1 r1 => ⟨ga, mu1, al1, hd, P, _, a.to o1 g1, h1, ⟨fun e mu2 u H2 al2 h2 o2 g2 r2 => ⟨mu2, al2, hd, d, e, P, F, o2, r1.go g2 g2.pre, r2, h2, kv.to (g1.trans g2), kx.to (g1.trans g2)⟩⟩, kx.to g1⟩⟩, kx⟩
theorem d_bin {op : Operator} {g : G2} {a b : Expr} {da db : DE} {pos : Pos} (ho : OpS X (binaryOp op) (liftR X.K W g)) (ha : PE X a (liftE X.K W da)) (hb : PE X b (liftE X.K W db)) : PE X (.BinOp a op b pos) (liftE X.K W (dBin g da db)) := by
  refine ⟨fun pins s sg H Q I h => ?_⟩
  exact wpAny_BinOp (binT ha hb I (bin_ok h) fun v u s2 x y H2 I2 rx ry q => ho pins s2 sg H2 x y v u Q I2 rx ry q)
theorem d_cmp {op : CmpOp} {g : G2} {a b : Expr} {da db : DE} {pos : Pos} (ho : OpS X (compareOp op) (liftR X.K W g)) (ha : PE X a (liftE X.K W da)) (hb : PE X b (liftE X.K W db)) (hm : behindInMarks op b = false := by first | exact nomark _ | with_unfolding_all rfl) : PE X (.Compare a [op] [b] pos) (liftE X.K W (dBin g da db)) := by
  refine ⟨fun pins s sg H Q I h => ?_⟩
  exact wpAny_Compare1 (binT ha hb I (bin_ok h) fun v u s2 x y H2 I2 rx ry q => ho pins s2 sg H2 x y v u Q I2 rx ry q) hm
end
end DL

/-! part DL3 -/
/-! DL3: operators, tests, attributes, items, displays, calls. -/
namespace DL
open PySem PySem.Spec PyProof.Rows L2
section
variable {X : Cx} {W : WX}
/-! ### numbers -/
def gI (C : Int → Int → Prop) (g : Int → Int → Int) : G2 := fun x y mu _ F => match x, y with
  | .int i, .int j => C i j ∧ F (.int (g i j)) mu
  | _, _ => False
theorem o_int {f : Value → Value → Sem Value} {C : Int → Int → Prop} {g : Int → Int → Int} (h : OpR X f (rI C fun i j => .int (g i j))) : OpS X f (liftR X.K W (gI C g)) := by
  refine ops_wk (opr_s h) fun sg x y H Q ⟨mu, al, hd, d, e, P, F, o, r1, r2, hg, kv, kx⟩ => ?_
  cases d <;> cases e <;> try exact hg.elim
  rename_i i j
  exact ⟨i, j, r1.int_, r2.int_, hg.1, kv.now o hg.2 .int⟩
def gI0 (g : Int → Int → Int) : G2 := fun x y mu _ F => match x, y with
  | .int i, .int j => F (.int (g i j)) mu
  | _, _ => False
theorem o_int0 {f : Value → Value → Sem Value} {g : Int → Int → Int} (h : OpR X f (rI0 fun i j => .int (g i j))) : OpS X f (liftR X.K W (gI0 g)) := by
  refine ops_wk (opr_s h) fun sg x y H Q ⟨mu, al, hd, d, e, P, F, o, r1, r2, hg, kv, kx⟩ => ?_
  cases d <;> cases e <;> try exact hg.elim
  rename_i i j
  exact ⟨i, j, r1.int_, r2.int_, kv.now o hg .int⟩
def gSub : G2 := gI0 fun i j => i - j
theorem o_sub : OpS X (binaryOp .Sub) (liftR X.K W gSub) := o_int0 op_sub
def gMod : G2 := gI (fun _ j => 0 < j) fun i j => i % j
theorem o_mod : OpS X (binaryOp .Mod) (liftR X.K W gMod) := o_int op_mod
def gDiv : G2 := gI (fun _ j => 0 < j ∧ j.natAbs.log2 < 9000) fun i j => i / j
theorem o_div : OpS X (binaryOp .FloorDiv) (liftR X.K W gDiv) := o_int op_fdivW
def gPow : G2 := gI CPow fun i j => i ^ j.toNat
theorem o_pow : OpS X (binaryOp .Pow) (liftR X.K W gPow) := o_int op_pow
def gCmp (p : Int → Int → Bool) : G2 := fun x y mu _ F => match x, y with
  | .int i, .int j => F (.bl (p i j)) mu
  | _, _ => False
theorem o_cmp {f : Value → Value → Sem Value} {p : Int → Int → Bool} (h : OpR X f (rI0 fun i j => .bl (p i j))) : OpS X f (liftR X.K W (gCmp p)) := by
  refine ops_wk (opr_s h) fun sg x y H Q ⟨mu, al, hd, d, e, P, F, o, r1, r2, hg, kv, kx⟩ => ?_
  cases d <;> cases e <;> try exact hg.elim
  rename_i i j
  exact ⟨i, j, r1.int_, r2.int_, kv.now o hg .bl⟩
def gLt : G2 := gCmp fun i j => decide (i < j)
def gLe : G2 := gCmp fun i j => decide (i ≤ j)
def gGt : G2 := gCmp fun i j => decide (j < i)
def gGe : G2 := gCmp fun i j => decide (j ≤ i)
theorem o_lt : OpS X (compareOp .Lt) (liftR X.K W gLt) := o_cmp op_lt
theorem o_le : OpS X (compareOp .LtE) (liftR X.K W gLe) := o_cmp op_le
theorem o_gt : OpS X (compareOp .Gt) (liftR X.K W gGt) := o_cmp op_gt
theorem o_ge : OpS X (compareOp .GtE) (liftR X.K W gGe) := o_cmp op_ge
/-! ### +, * -/
theorem Rd.lst {H : Hp} {a : Addr} {xs : List V} {pins : List (Addr × Obj)} {sg : L2.St} {s : Shared} (I : Inv X pins sg H s) (h : Rd H a (.lst xs)) : xs.length ≤ sizeLine ∧ ∃ (its : List Value) (n : Nat), Vals xs its ∧ its.length = xs.length ∧ s.heap.get? a = some { cls := .type "list", data := .seq its.toArray n } := by
  obtain ⟨z, its, n, r, e⟩ := h.ok I.hok
  exact ⟨z, its, n, r, r.length.symm, e⟩
def rCatR : R2 := fun x y H Q => ∃ l b xs zs, x = .ref l ∧ y = .ref b ∧ Rd H l (.lst xs) ∧ Rd H b (.lst zs) ∧ xs.length + zs.length ≤ sizeLine ∧ ∀ p, H p = none → Q (.ref p) (upd H p (.lst (xs ++ zs)))
theorem op_catR : OpR X (binaryOp .Add) rCatR := by
  intro pins s σ H x y v u Q I rx ry h
  obtain ⟨l, b, xs, zs, rfl, rfl, hH, hB, hz, q⟩ := h
  cases rx
  cases ry
  obtain ⟨z, its, n, r, hl, e⟩ := Rd.lst I hH
  obtain ⟨z2, its2, n2, r2, hl2, e2⟩ := Rd.lst I hB
  refine PySem.P.add_list e e2 ?_ (by rw [List.size_toArray, List.size_toArray]; omega)
  have ea : its.toArray ++ its2.toArray = (its ++ its2).toArray := by simp
  rw [ea]
  exact ⟨.ref _, _, I.lnew (t' := s.toks) (r.append r2) (by rw [List.length_append]; omega), rfl, q _ I.fresh⟩
/-- a list as a list of which no cell is one -/
def gAdd (m : Nat) : G2 := fun x y mu _ F => match x with
  | .int i => (match y with
    | .int j => F (.int (i + j)) mu
    | _ => False)
  | .str a => (match y with
    | .str b => a.length + b.length ≤ 16777216 ∧ F (.str (a ++ b)) mu
    | _ => False)
  | .tup l => (match y with
    | .tup k => l.length + k.length ≤ 16777216 ∧ F (.tup (l ++ k)) mu
    | _ => False)
  | x => ∃ l k, lv mu x = some l ∧ lv mu y = some k ∧ l.length + k.length ≤ 16777216 ∧ retN m (l ++ k) mu F
theorem add_lists {K : PySem.W.Frag} {hd : List Addr} {H : Hp} {mu : Sto} {al : List Addr} {d e : D} {x y : V} {F : KD} {Q : VK} {m : Nat} (o : Okay K hd H mu al) (r1 : Rep K (al ++ hd) H al d x) (r2 : Rep K (al ++ hd) H al e y) (kv : Kv K hd H al F Q)
    (h : ∃ l k, lv mu d = some l ∧ lv mu e = some k ∧ l.length + k.length ≤ 16777216 ∧ retN m (l ++ k) mu F) : rCatR x y H Q := by
  obtain ⟨l, k, h1, h2, hz, q⟩ := h
  obtain ⟨p, xs, rfl, e1, s1⟩ := r1.lv o h1
  obtain ⟨p2, ys, rfl, e2, s2⟩ := r2.lv o h2
  refine ⟨p, p2, xs, ys, rfl, rfl, e1, e2, ?_, fun b hb => kv.listN o hb (s1.append s2) q⟩
  rw [← s1.len, ← s2.len, sizeLine_eq]
  exact hz
theorem o_add {m : Nat} : OpS X (binaryOp .Add) (liftR X.K W (gAdd m)) := by
  refine ops_wk (ops_orr (opr_s op_add) (ops_orr (opr_s op_add_str) (ops_orr (opr_s op_catR) (opr_s op_catA)))) fun sg x y H Q ⟨mu, al, hd, d, e, P, F, o, r1, r2, hg, kv, kx⟩ => ?_
  unfold gAdd at hg
  split at hg
  · rename_i i
    cases e <;> try exact hg.elim
    rename_i j
    exact .inl ⟨i, j, r1.int_, r2.int_, kv.now o hg .int⟩
  · rename_i a
    cases e <;> try exact hg.elim
    rename_i b
    exact .inr (.inl ⟨a, b, r1.str_, r2.str_, by rw [sizeLine_eq]; exact hg.1, kv.now o hg.2 .str⟩)
  · rename_i l
    cases e <;> try exact hg.elim
    rename_i k
    obtain ⟨p, xs, rfl, n1, e1, s1⟩ := r1.tv rfl
    obtain ⟨p2, ys, rfl, n2, e2, s2⟩ := r2.tv rfl
    refine .inr (.inr (.inr ⟨p, p2, xs, ys, rfl, rfl, .inl (.inl e1), .inl (.inl e2), by rw [← s1.len, ← s2.len, sizeLine_eq]; exact hg.1, fun ex => ?_, fun _ ey => ?_, fun _ _ b hb => ?_⟩))
    · subst ex
      have hl : l = [] := List.length_eq_zero_iff.mp (by rw [s1.len] <;> rfl)
      subst hl
      exact kv.now o hg.2 (.tup ⟨n2, e2⟩ s2)
    · subst ey
      have hl : k = [] := List.length_eq_zero_iff.mp (by rw [s2.len] <;> rfl)
      subst hl
      have q := hg.2
      rw [List.append_nil] at q
      exact kv.now o q (.tup ⟨n1, e1⟩ s1)
    · exact kv.tupleN o hb (s1.append s2) hg.2
  · exact .inr (.inr (.inl (add_lists o r1 r2 kv hg)))
def rRepR : R2 := fun x y H Q => ∃ l k xs, x = .ref l ∧ y = .int k ∧ Rd H l (.lst xs) ∧ -(2 ^ 63) ≤ k ∧ k < 2 ^ 63 ∧ xs.length * k.toNat ≤ sizeLine ∧ ∀ p, H p = none → Q (.ref p) (upd H p (.lst (List.replicate k.toNat xs).flatten))
theorem op_repR : OpR X (binaryOp .Mult) rRepR := by
  intro pins s σ H x y v u Q I rx ry h
  obtain ⟨l, k, xs, rfl, rfl, hH, h1, h2, hz, q⟩ := h
  cases rx
  obtain ⟨t, rfl⟩ := ry
  obtain ⟨z, its, n, r, hl, e⟩ := Rd.lst I hH
  have hlen : its.toArray.size * k.toNat ≤ sizeLine := by rw [List.size_toArray, hl]; exact hz
  have hcap : ¬ its.toArray.size * k.toNat > (2 ^ 63 - 1) / 8 := by
    have hq : (sizeLine : Nat) ≤ (2 ^ 63 - 1) / 8 := by decide
    exact Nat.not_lt.mpr (Nat.le_trans hlen hq)
  have hfit : ¬ (!Builtin.List.listFitsIndex k) = true := by
    rw [fitsIndex_both h1 h2]
    exact Bool.false_ne_true
  have hlong : ¬ Builtin.List.listTooLong (its.toArray.size * k.toNat) = true := by
    rw [notLongL hlen]
    exact Bool.false_ne_true
  have f0 : ∀ m : Nat, List.foldl (fun x1 x2 => x1 ++ x2) #[] (List.replicate m its.toArray) = (List.replicate m its).flatten.toArray := fun m => by
    have := foldl_rep its m []
    rw [List.nil_append] at this
    exact this
  have hnew : List.foldl (fun x1 x2 => x1 ++ x2) #[] (List.replicate (if its.toArray.isEmpty = true then 0 else k.toNat) its.toArray) = (List.replicate k.toNat its).flatten.toArray := by
    rw [f0]
    cases its with
    | nil => simp
    | cons a b => rw [if_neg (by simp)]
  refine wpAny_binaryOp_repeat_ref (T := "list") (U := "int") (by decide) ⟨_, e, rfl⟩ (fun s' => typeIs_int s' k t) noFill_list_mul F.fills_int_mul F.slot_int_rmul repeat_list F.slot_int_index.lookup
    (call_meets F.slot_int_rmul (typeIs_int s k t) F.entry_int_rmul (F.args_int_rmul_2 _ _) (int___rmul___int_list k t l its.toArray n)
      ⟨e, rfl, ⟨_, e, rfl⟩, call_meets F.slot_list_mul ⟨_, e, rfl⟩ F.entry_list_mul (F.args_list_mul_2 _ _) (AutoListH.list___mul___list_int_3 l its.toArray n k t hfit hcap hlong) ⟨e, ?_⟩⟩)
  rw [hnew]
  exact ⟨.ref _, _, I.lnew (t' := s.toks) (r.rep k.toNat) (by rw [PyProof.Rows.lm_len_rep_flat, Nat.mul_comm]; exact hz), rfl, q _ I.fresh⟩
open AutoSeq1 (wpAny_loadPart') in
theorem tuple_mul1 (l : Addr) (items : Array Value) (n : Nat) (dd : Option Addr) (sl : Array (Option Value)) (u : Tok) :
    Meets (Builtin.«tuple.__mul__» ⟨[.ref l, .int 1 u], []⟩) (fun _ R s => s.heap.get? l = some { cls := .type "tuple", dict := dd, data := .seq items n, slots := sl } ∧ R (.ok (.ret (Value.ref l))) s) :=
  .of_wp fun prog w A R s h => by
    obtain ⟨hp, g, d, tk, os⟩ := s
    obtain ⟨hl, h⟩ := h
    have f1 := AutoSeq1.idx_int
    have c1 : (items.isEmpty || (1 : Int) == 1) = true := by simp
    wp_walk using wpAny_loadPart' hl
    exact ⟨_, rfl, h⟩
def rRep1 (K : PySem.W.Frag) : R2 := fun x y H Q => ∃ l xs, x = .ref l ∧ y = .int 1 ∧ SqT K H l xs ∧ Q (.ref l) H
theorem op_rep1 : OpR X (binaryOp .Mult) (rRep1 X.K) := by
  intro pins s σ H x y v u Q I rx ry h
  obtain ⟨l, xs, rfl, rfl, hT, q⟩ := h
  cases rx
  obtain ⟨t, rfl⟩ := ry
  obtain ⟨its, r, ⟨⟨cls, dd, data, sl⟩, ho, hc, n, hd⟩, hs⟩ := I.tuple hT
  simp only at hc hd
  subst hc hd
  exact wpAny_binaryOp_repeat_ref (T := "tuple") (U := "int") (by decide) ⟨_, ho, rfl⟩ (fun s' => typeIs_int s' 1 t) noFill_tuple_mul F.fills_int_mul F.slot_int_rmul repeat_tuple F.slot_int_index.lookup
    (call_meets F.slot_int_rmul (typeIs_int s 1 t) F.entry_int_rmul (F.args_int_rmul_2 _ _) (int_rmul_tuple 1 t l its.toArray n dd sl)
      ⟨ho, rfl, ⟨_, ho, rfl⟩, call_meets F.slot_tuple_mul ⟨_, ho, rfl⟩ F.entry_tuple_mul (F.args_tuple_mul_2 _ _) (tuple_mul1 l its.toArray n dd sl t) ⟨ho, .ref l, H, I, rfl, q⟩⟩)
def gMul (m : Nat) : G2 := fun x y mu _ F => match y with
  | .int j => (match x with
    | .int i => (((-(2 ^ 64) < i ∧ i < 2 ^ 64) ∨ (-(2 ^ 64) < j ∧ j < 2 ^ 64)) ∨ i.natAbs.log2 + j.natAbs.log2 < 1000000) ∧ F (.int (i * j)) mu
    | .tup l => l ≠ [] ∧ 1 ≤ j ∧ j ≤ 1000 ∧ l.length ≤ 1000 ∧ F (.tup (List.replicate j.toNat l).flatten) mu
    | x => ∃ l, lv mu x = some l ∧ -(2 ^ 63) ≤ j ∧ j < 2 ^ 63 ∧ l.length * j.toNat ≤ 16777216 ∧ retN m (List.replicate j.toNat l).flatten mu F)
  | _ => False
theorem RepL.rep {K : PySem.W.Frag} {al pt : List Addr} {H : Hp} {l : List D} {xs : List V} (r : RepL K al H pt l xs) : ∀ n : Nat, RepL K al H pt (List.replicate n l).flatten (List.replicate n xs).flatten
  | 0 => .nil
  | n + 1 => by
    rw [List.replicate_succ, List.replicate_succ, List.flatten_cons, List.flatten_cons]
    exact r.append (RepL.rep r n)
theorem o_mul {m : Nat} : OpS X (binaryOp .Mult) (liftR X.K W (gMul m)) := by
  refine ops_wk (ops_orr (opr_s op_mul) (ops_orr (opr_s op_mulW) (ops_orr (opr_s op_repR) (ops_orr (opr_s op_repT) (opr_s op_rep1))))) fun sg x y H Q ⟨mu, al, hd, d, e, P, F, o, r1, r2, hg, kv, kx⟩ => ?_
  unfold gMul at hg
  split at hg
  · rename_i j
    cases r2.int_
    split at hg
    · rename_i i
      rcases hg.1 with h | h
      · exact .inl ⟨i, j, r1.int_, rfl, h, kv.now o hg.2 .int⟩
      · exact .inr (.inl ⟨i, j, r1.int_, rfl, h, kv.now o hg.2 .int⟩)
    · rename_i l
      obtain ⟨h1, h2, h3, h4, h5⟩ := hg
      obtain ⟨p, xs, rfl, n1, e1, s1⟩ := r1.tv rfl
      by_cases hj : j = 1
      · subst hj
        refine .inr (.inr (.inr (.inr ⟨p, xs, rfl, rfl, .inl (.inl e1), ?_⟩)))
        have q : F (.tup l) mu := by
          have e : (List.replicate (1 : Int).toNat l).flatten = l := by simp
          rw [e] at h5
          exact h5
        exact kv.now o q (.tup ⟨n1, e1⟩ s1)
      · refine .inr (.inr (.inr (.inl ⟨p, j, xs, rfl, rfl, .inl (.inl e1), fun ex => h1 ?_, by omega, h3, by rw [← s1.len]; exact h4, fun b hb => kv.tupleN o hb (s1.rep _) h5⟩)))
        subst ex
        exact List.length_eq_zero_iff.mp (by rw [s1.len] <;> rfl)
    · obtain ⟨l, h1, h2, h3, h4, h5⟩ := hg
      obtain ⟨p, xs, rfl, e1, s1⟩ := r1.lv o h1
      exact .inr (.inr (.inl ⟨p, j, xs, rfl, rfl, e1, h2, h3, by rw [← s1.len, sizeLine_eq]; exact h4, fun b hb => kv.listN o hb (s1.rep _) h5⟩))
  · exact hg.elim
def dNeg (da : DE) : DE := fun ga mu P F => da ga mu P fun x mu1 => match x with
  | .int i => F (.int (-i)) mu1
  | _ => False
theorem d_neg {a : Expr} {da : DE} {pos : Pos} (ha : PE X a (liftE X.K W da)) : PE X (.UnaryOp .USub a pos) (liftE X.K W (dNeg da)) := by
  refine pe_wk (pe_un un_neg ha) fun sg H Q ⟨ga, mu, al, hd, P, F, a, h, kv, kx⟩ => ?_
  refine ⟨ga, mu, al, hd, P, _, a, h, ⟨fun d mu1 v H1 al1 h1 o1 g1 r1 => ?_⟩, kx⟩
  cases d <;> try exact h1.elim
  exact ⟨_, r1.int_, kv.go _ _ _ _ _ h1 o1 g1 .int⟩
end
end DL

/-! part DL4 -/
/-! DL4: tests, attributes, items, displays, calls of the text's own defs. -/
namespace DL
open PySem PySem.Spec PyProof.Rows L2
section
variable {X : Cx} {W : WX}
/-! ### tests -/
def szD (mu : Sto) : D → Option Nat
  | .tup l => some l.length
  | .lst l => some l.length
  | .ptr n => (match mu[n]? with
    | some (.lst l) => some l.length
    | some (.lsp l) => some l.length
    | some (.dic l) => some l.length
    | _ => none)
  | _ => none
theorem RepKV.len {κ : Type} {K : PySem.W.Frag} {hd : List Addr} {al : List Addr} {H : Hp} : ∀ {l : List (κ × D)} {xs : List (κ × V)}, RepKV K (al ++ hd) H l xs → l.length = xs.length
  | [], [], _ => rfl
  | (_, _) :: l, (_, _) :: xs, h => congrArg Nat.succ (RepKV.len h.2.2)
  | [], _ :: _, h => h.elim
  | _ :: _, [], h => h.elim
theorem Rep.sz {K : PySem.W.Frag} {hd : List Addr} {H : Hp} {mu : Sto} {al : List Addr} {d : D} {v : V} {n : Nat} (o : Okay K hd H mu al) (r : Rep K (al ++ hd) H al d v) (h : szD mu d = some n) :
    ∃ p, v = .ref p ∧ ((∃ xs, SqL K H p xs ∧ xs.length = n) ∨ (∃ xs, SqT K H p xs ∧ xs.length = n) ∨ ∃ kvs, H p = some (.dK kvs) ∧ kvs.length = n) := by
  cases r with
  | tup z r =>
    cases h
    exact ⟨_, rfl, .inr (.inl ⟨_, z.sq, r.len.symm⟩)⟩
  | lst z r =>
    cases h
    exact ⟨_, rfl, .inl ⟨_, z.sq, r.len.symm⟩⟩
  | ptr e =>
    rename_i j p
    refine ⟨_, rfl, ?_⟩
    unfold szD at h
    dsimp only at h
    cases q : mu[j]? with
    | none =>
      rw [q] at h
      cases h
    | some mo =>
      rw [q] at h
      cases mo with
      | lst l =>
        cases h
        obtain ⟨xs, e1, r⟩ := o.at_ j _ _ q e
        exact .inl ⟨xs, .inl (.inl e1), r.len.symm⟩
      | lsp l =>
        cases h
        obtain ⟨xs, e1, r⟩ := o.at_ j _ _ q e
        exact .inl ⟨xs, .inl (.inl e1), r.len.symm⟩
      | dic l =>
        cases h
        obtain ⟨xs, e1, r⟩ := o.at_ j _ _ q e
        exact .inr (.inr ⟨xs, e1, r.len.symm⟩)
      | _ => cases h
  | _ => cases h
theorem isEmpty_len {α : Type} (l : List α) : (!l.isEmpty) = (l.length != 0) := by cases l <;> rfl
def truK (x : D) (mu : Sto) (F : Bool → Sto → Prop) : Prop := match x with
  | .non => F false mu
  | .bl b => F b mu
  | .int i => F (i != 0) mu
  | .str y => y.length ≤ 16777216 ∧ F ((y.length : Int) != 0) mu
  | x => ∃ n, szD mu x = some n ∧ F (n != 0) mu
theorem tru_at {K : PySem.W.Frag} {hd : List Addr} {H : Hp} {mu : Sto} {al : List Addr} {d : D} {v : V} {F : Bool → Sto → Prop} (o : Okay K hd H mu al) (r : Rep K (al ++ hd) H al d v) (h : truK d mu F) : ∃ k, TruV K v H k ∧ F k mu := by
  unfold truK at h
  split at h
  · cases r.non_
    exact ⟨_, rfl, h⟩
  · cases r.bl_
    exact ⟨_, rfl, h⟩
  · cases r.int_
    exact ⟨_, rfl, h⟩
  · cases r.str_
    exact ⟨_, ⟨by rw [sizeLine_eq]; exact h.1, rfl⟩, h.2⟩
  · obtain ⟨n, h1, h2⟩ := h
    obtain ⟨p, rfl, q⟩ := r.sz o h1
    refine ⟨_, ?_, h2⟩
    rcases q with ⟨xs, s, e⟩ | ⟨xs, s, e⟩ | ⟨xs, s, e⟩
    · exact .inl ⟨xs, s, by rw [isEmpty_len, e]⟩
    · exact .inr (.inl ⟨xs, s, by rw [isEmpty_len, e]⟩)
    · exact .inr (.inr ⟨xs, s, by rw [isEmpty_len, e]⟩)
def dTru (de : DE) : DB := fun ga mu P F => de ga mu P fun x mu1 => truK x mu1 F
theorem d_tru {e : Expr} {de : DE} (h : PE X e (liftE X.K W de)) (he : ∀ whole, isTrue e X.env whole = (do let v ← whole; standAt e.pos; holding [v] (truthy v)) := by intro _; rfl) : PT X e (liftB X.K W (dTru de)) := by
  refine pt_wk (pt_truth h he) fun sg H Q ⟨ga, mu, al, hd, P, F, a, h, kb, kx⟩ => ?_
  exact ⟨ga, mu, al, hd, P, _, a, h, ⟨fun d mu1 v H1 al1 h1 o1 g1 r1 => by
    obtain ⟨k, t, q⟩ := tru_at o1 r1 h1
    exact ⟨k, t, kb.go _ _ _ _ q o1 g1⟩⟩, kx⟩
/-- a comparison as a test -/
def dCT (g : G2) (da db : DE) : DB := fun ga mu P F => dBin g da db ga mu P fun x mu1 => match x with
  | .bl b => F b mu1
  | _ => False
theorem d_cmpT {op : CmpOp} {g : G2} {a b : Expr} {da db : DE} {pos : Pos} (ho : OpS X (compareOp op) (liftR X.K W g)) (ha : PE X a (liftE X.K W da)) (hb : PE X b (liftE X.K W db)) (hm : behindInMarks op b = false := by first | exact nomark _ | with_unfolding_all rfl) : PT X (.Compare a [op] [b] pos) (liftB X.K W (dCT g da db)) := by
  refine ⟨fun pins s sg H Q I ⟨ga, mu, al, hd, P, F, at_, h, kb, kx⟩ => ?_⟩
  have h' : liftE X.K W (dBin g da db) sg H (fun x H1 => ∃ k, x = .bl k ∧ Q k H1) := ⟨ga, mu, al, hd, P, _, at_, h, ⟨fun d mu1 v H1 al1 h1 o1 g1 r1 => by
    cases d <;> try exact h1.elim
    exact ⟨_, r1.bl_, kb.go _ _ _ _ h1 o1 g1⟩⟩, kx⟩
  refine wpAny_isTrue_Compare1 (thn (ha.run pins s sg H _ I (bin_ok h')) fun v s1 ⟨x, H1, I1, r1, q1⟩ => thn (hb.run pins s1 sg H1 _ I1 q1) fun u s2 ⟨y, H2, I2, r2, q2⟩ =>
    thn (ho pins s2 sg H2 x y v u _ I2 r1 r2 q2) fun c s3 ⟨z, H3, I3, r3, k, e, q3⟩ => ?_) hm
  subst e
  cases r3
  exact wpAny_truthy_bool ⟨H3, I3, q3⟩
def dNot (t : DB) : DB := fun ga mu P F => t ga mu P fun b mu1 => F (!b) mu1
theorem d_not {a : Expr} {t : DB} {pos : Pos} (h : PT X a (liftB X.K W t)) : PT X (.UnaryOp .Not a pos) (liftB X.K W (dNot t)) :=
  pt_wk (pt_not h) fun sg H Q ⟨ga, mu, al, hd, P, F, a, h, kb, kx⟩ => ⟨ga, mu, al, hd, P, _, a, h, ⟨fun b mu1 H1 al1 h1 o1 g1 => kb.go _ _ _ _ h1 o1 g1⟩, kx⟩
def dAnd (t u : DB) : DB := fun ga mu P F => t ga mu P fun b mu1 => if b = true then u ga mu1 P F else F false mu1
def dOr (t u : DB) : DB := fun ga mu P F => t ga mu P fun b mu1 => if b = true then F true mu1 else u ga mu1 P F
theorem d_and1 {a : Expr} {t : DB} {pos : Pos} (h : PT X a (liftB X.K W t)) : PW X (.BoolOp .And [a] pos) (liftB X.K W t) := pw_and1 h
theorem d_or1 {a : Expr} {t : DB} {pos : Pos} (h : PT X a (liftB X.K W t)) : PW X (.BoolOp .Or [a] pos) (liftB X.K W t) := pw_or1 h
theorem d_and {a b : Expr} {rest : List Expr} {t u : DB} {pos : Pos} (h : PT X a (liftB X.K W t)) (h2 : PW X (.BoolOp .And (b :: rest) pos) (liftB X.K W u)) : PW X (.BoolOp .And (a :: b :: rest) pos) (liftB X.K W (dAnd t u)) :=
  pw_wk (pw_and h h2) fun sg H Q ⟨ga, mu, al, hd, P, F, a, h, kb, kx⟩ => ⟨ga, mu, al, hd, P, _, a, h, ⟨fun b mu1 H1 al1 h1 o1 g1 => by
    cases b with
    | true => exact ⟨ga, mu1, al1, hd, P, F, a.to o1 g1, h1, kb.to g1, kx.to g1⟩
    | false => exact kb.go _ _ _ _ h1 o1 g1⟩, kx⟩
theorem d_or {a b : Expr} {rest : List Expr} {t u : DB} {pos : Pos} (h : PT X a (liftB X.K W t)) (h2 : PW X (.BoolOp .Or (b :: rest) pos) (liftB X.K W u)) : PW X (.BoolOp .Or (a :: b :: rest) pos) (liftB X.K W (dOr t u)) :=
  pw_wk (pw_or h h2) fun sg H Q ⟨ga, mu, al, hd, P, F, a, h, kb, kx⟩ => ⟨ga, mu, al, hd, P, _, a, h, ⟨fun b mu1 H1 al1 h1 o1 g1 => by
    cases b with
    | false => exact ⟨ga, mu1, al1, hd, P, F, a.to o1 g1, h1, kb.to g1, kx.to g1⟩
    | true => exact kb.go _ _ _ _ h1 o1 g1⟩, kx⟩
/-- and, or as values -/
def dAndV (da db : DE) : DE := fun ga mu P F => da ga mu P fun x mu1 => truK x mu1 fun k mu2 => if k = true then db ga mu2 P F else F x mu2
def dOrV (da db : DE) : DE := fun ga mu P F => da ga mu P fun x mu1 => truK x mu1 fun k mu2 => if k = true then F x mu2 else db ga mu2 P F
theorem d_andV {a b : Expr} {rest : List Expr} {da db : DE} {pos : Pos} (h : PE X a (liftE X.K W da)) (h2 : PE X (.BoolOp .And (b :: rest) pos) (liftE X.K W db)) : PE X (.BoolOp .And (a :: b :: rest) pos) (liftE X.K W (dAndV da db)) :=
  pe_wk (pe_andT h h2) fun sg H Q ⟨ga, mu, al, hd, P, F, a, h, kv, kx⟩ => ⟨ga, mu, al, hd, P, _, a, h, ⟨fun d mu1 v H1 al1 h1 o1 g1 r1 => by
    obtain ⟨k, t, q⟩ := tru_at o1 r1 h1
    refine ⟨k, t, ?_⟩
    cases k with
    | true => exact ⟨ga, mu1, al1, hd, P, F, a.to o1 g1, q, kv.to g1, kx.to g1⟩
    | false => exact kv.go _ _ _ _ _ q o1 g1 r1⟩, kx⟩
theorem d_orV {a b : Expr} {rest : List Expr} {da db : DE} {pos : Pos} (h : PE X a (liftE X.K W da)) (h2 : PE X (.BoolOp .Or (b :: rest) pos) (liftE X.K W db)) : PE X (.BoolOp .Or (a :: b :: rest) pos) (liftE X.K W (dOrV da db)) :=
  pe_wk (pe_orT h h2) fun sg H Q ⟨ga, mu, al, hd, P, F, a, h, kv, kx⟩ => ⟨ga, mu, al, hd, P, _, a, h, ⟨fun d mu1 v H1 al1 h1 o1 g1 r1 => by
    obtain ⟨k, t, q⟩ := tru_at o1 r1 h1
    refine ⟨k, t, ?_⟩
    cases k with
    | false => exact ⟨ga, mu1, al1, hd, P, F, a.to o1 g1, q, kv.to g1, kx.to g1⟩
    | true => exact kv.go _ _ _ _ _ q o1 g1 r1⟩, kx⟩
theorem d_one {op : BoolOp} {a : Expr} {da : DE} {pos : Pos} (h : PE X a (liftE X.K W da)) : PE X (.BoolOp op [a] pos) (liftE X.K W da) := pe_one h
def dNotV (da : DE) : DE := fun ga mu P F => da ga mu P fun x mu1 => truK x mu1 fun k mu2 => F (.bl (!k)) mu2
theorem d_notV {a : Expr} {da : DE} {pos : Pos} (h : PE X a (liftE X.K W da)) : PE X (.UnaryOp .Not a pos) (liftE X.K W (dNotV da)) :=
  pe_wk (pe_notT h) fun sg H Q ⟨ga, mu, al, hd, P, F, a, h, kv, kx⟩ => ⟨ga, mu, al, hd, P, _, a, h, ⟨fun d mu1 v H1 al1 h1 o1 g1 r1 => by
    obtain ⟨k, t, q⟩ := tru_at o1 r1 h1
    exact ⟨k, t, kv.go _ _ _ _ _ q o1 g1 .bl⟩⟩, kx⟩
def dIf (t : DB) (da db : DE) : DE := fun ga mu P F => t ga mu P fun b mu1 => if b = true then da ga mu1 P F else db ga mu1 P F
theorem d_ifExp {c a b : Expr} {t : DB} {da db : DE} {pos : Pos} (h : PT X c (liftB X.K W t)) (ha : PE X a (liftE X.K W da)) (hb : PE X b (liftE X.K W db)) : PE X (.IfExp c a b pos) (liftE X.K W (dIf t da db)) :=
  pe_wk (pe_ifExp h ha hb) fun sg H Q ⟨ga, mu, al, hd, P, F, a, h, kv, kx⟩ => ⟨ga, mu, al, hd, P, _, a, h, ⟨fun b mu1 H1 al1 h1 o1 g1 => by
    cases b with
    | true => exact ⟨ga, mu1, al1, hd, P, F, a.to o1 g1, h1, kv.to g1, kx.to g1⟩
    | false => exact ⟨ga, mu1, al1, hd, P, F, a.to o1 g1, h1, kv.to g1, kx.to g1⟩⟩, kx⟩
/-- a op b op' c -/
def dChain (g g' : G2) (da db dc : DE) : DE := fun ga mu P F => da ga mu P fun x mu1 => db ga mu1 P fun y mu2 => g x y mu2 P fun z mu3 => match z with
  | .bl k => if k = true then dc ga mu3 P fun w mu4 => g' y w mu4 P F else F (.bl false) mu3
  | _ => False
def tChainS (r r' : L2.St → R2) (ta tb tc : TE) : TE := fun sg H Q => ta sg H fun x H1 => tb sg H1 fun y H2 => r sg x y H2 fun z H3 => ∃ k, z = .bl k ∧ (if k = true then tc sg H3 fun w' H4 => r' sg y w' H4 Q else Q (.bl false) H3)
theorem pe_chainS {op op' : CmpOp} {r r' : L2.St → R2} {a b c : Expr} {ta tb tc : TE} {pos : Pos} (ho : OpS X (compareOp op) r) (ho' : OpS X (compareOp op') r') (ha : PE X a ta) (hb : PE X b tb) (hc : PE X c tc)
    (hm : lastMarks [op, op'] [b, c] = false := by with_unfolding_all rfl) : PE X (.Compare a [op, op'] [b, c] pos) (tChainS r r' ta tb tc) := by
  refine ⟨fun pins s σ H Q I h => ?_⟩
  refine Compare_chain (thn (ha.run pins s σ H _ I h) fun v s1 ⟨x, H1, I1, r1, q1⟩ => chain_link (thn (hb.run pins s1 σ H1 _ I1 q1) fun u s2 ⟨y, H2, I2, r2, q2⟩ =>
    thn (ho pins s2 σ H2 x y v u _ I2 r1 r2 q2) fun d s3 ⟨z, H3, I3, r3, k, e, q3⟩ => ?_)) hm
  subst e
  cases r3
  refine wpAny_truthy_bool ?_
  cases k with
  | false => exact ite_ff ⟨.bl false, H3, I3, rfl, q3⟩
  | true => exact ite_tt (chain_last (thn (hc.run pins s3 σ H3 _ I3 q3) fun w' s4 ⟨z', H4, I4, r4, q4⟩ => ho' pins s4 σ H4 y z' u w' Q I4 r2 r4 q4))
theorem pt_chainS {op op' : CmpOp} {r r' : L2.St → R2} {a b c : Expr} {ta tb tc : TE} {pos : Pos} (ho : OpS X (compareOp op) r) (ho' : OpS X (compareOp op') r') (ha : PE X a ta) (hb : PE X b tb) (hc : PE X c tc)
    (hm : lastMarks [op, op'] [b, c] = false := by with_unfolding_all rfl) : PT X (.Compare a [op, op'] [b, c] pos) (tTest (tChainS r r' ta tb tc)) := by
  refine ⟨fun pins s σ H Q I h => ?_⟩
  refine isTrue_chain (thn (ha.run pins s σ H _ I h) fun v s1 ⟨x, H1, I1, r1, q1⟩ => test_link (thn (hb.run pins s1 σ H1 _ I1 q1) fun u s2 ⟨y, H2, I2, r2, q2⟩ =>
    thn (ho pins s2 σ H2 x y v u _ I2 r1 r2 q2) fun d s3 ⟨z, H3, I3, r3, k, e, q3⟩ => ?_)) hm
  subst e
  cases r3
  refine wpAny_truthy_bool ?_
  cases k with
  | false =>
    obtain ⟨k', e', q'⟩ := q3
    cases e'
    exact ite_ff ⟨H3, I3, q'⟩
  | true =>
    refine ite_tt (test_last (thn (hc.run pins s3 σ H3 _ I3 q3) fun w' s4 ⟨z', H4, I4, r4, q4⟩ => thn (ho' pins s4 σ H4 y z' u w' _ I4 r2 r4 q4) fun c' s5 ⟨z2, H5, I5, r5, k2, e2, q5⟩ => ?_))
    subst e2
    cases r5
    exact wpAny_truthy_bool ⟨H5, I5, q5⟩
theorem chain_ok {K : PySem.W.Frag} {g g' : G2} {da db dc : DE} {sg : L2.St} {H : Hp} {Q : VK} (h : liftE K W (dChain g g' da db dc) sg H Q) : tChainS (liftR K W g) (liftR K W g') (liftE K W da) (liftE K W db) (liftE K W dc) sg H Q := by
  obtain ⟨ga, mu, al, hd, P, F, a, h, kv, kx⟩ := h
  exact ⟨ga, mu, al, hd, P, _, a, h, ⟨fun d mu1 v H1 al1 h1 o1 g1 r1 => ⟨ga, mu1, al1, hd, P, _, a.to o1 g1, h1, ⟨fun e mu2 u H2 al2 h2 o2 g2 r2 => ⟨mu2, al2, hd, d, e, P, _, o2, r1.go g2 g2.pre, r2, h2, ⟨fun z mu3 w H3 al3 h3 o3 g3 r3 => by
    cases z <;> try exact h3.elim
    rename_i k
    refine ⟨k, r3.bl_, ?_⟩
    have g13 := (g1.trans g2).trans g3
    cases k with
    | false => exact kv.go _ _ _ _ _ h3 o3 g13 .bl
    | true => exact ⟨ga, mu3, al3, hd, P, _, a.to o3 g13, h3, ⟨fun f mu4 t H4 al4 h4 o4 g4 r4 => ⟨mu4, al4, hd, e, f, P, F, o4, (r2.go g3 g3.pre).go g4 g4.pre, r4, h4, kv.to (g13.trans g4), kx.to (g13.trans g4)⟩⟩, kx.to g13⟩⟩, kx.to (g1.trans g2)⟩⟩, kx.to g1⟩⟩, kx⟩
theorem d_chain {op op' : CmpOp} {g g' : G2} {a b c : Expr} {da db dc : DE} {pos : Pos} (ho : OpS X (compareOp op) (liftR X.K W g)) (ho' : OpS X (compareOp op') (liftR X.K W g')) (ha : PE X a (liftE X.K W da)) (hb : PE X b (liftE X.K W db)) (hc : PE X c (liftE X.K W dc))
    (hm : lastMarks [op, op'] [b, c] = false := by with_unfolding_all rfl) : PE X (.Compare a [op, op'] [b, c] pos) (liftE X.K W (dChain g g' da db dc)) :=
  pe_wk (pe_chainS ho ho' ha hb hc hm) fun _ _ _ h => chain_ok h
def dTest (de : DE) : DB := fun ga mu P F => de ga mu P fun x mu1 => match x with
  | .bl b => F b mu1
  | _ => False
theorem d_chainT {op op' : CmpOp} {g g' : G2} {a b c : Expr} {da db dc : DE} {pos : Pos} (ho : OpS X (compareOp op) (liftR X.K W g)) (ho' : OpS X (compareOp op') (liftR X.K W g')) (ha : PE X a (liftE X.K W da)) (hb : PE X b (liftE X.K W db)) (hc : PE X c (liftE X.K W dc))
    (hm : lastMarks [op, op'] [b, c] = false := by with_unfolding_all rfl) : PT X (.Compare a [op, op'] [b, c] pos) (liftB X.K W (dTest (dChain g g' da db dc))) :=
  pt_wk (pt_chainS ho ho' ha hb hc hm) fun sg H Q ⟨ga, mu, al, hd, P, F, a, h, kb, kx⟩ => chain_ok (⟨ga, mu, al, hd, P, _, a, h, ⟨fun d mu1 v H1 al1 h1 o1 g1 r1 => by
    cases d <;> try exact h1.elim
    exact ⟨_, r1.bl_, kb.go _ _ _ _ h1 o1 g1⟩⟩, kx⟩ : liftE X.K W (dChain g g' da db dc) sg H fun x H1 => ∃ k, x = .bl k ∧ Q k H1)
/-! ### attributes -/
/-- where a field stands among a class's fields -/
structure FldT (f : Str) (ix : Nat → Option Nat) : Prop where
  ok : ∀ c k, ix c = some k → (fn c)[k]? = some f ∧ (fn c).Nodup
theorem zip_lookup {f : Str} : ∀ {ns : List Str} {xs : List V} {k : Nat} {v : V}, ns.Nodup → ns[k]? = some f → xs[k]? = some v → (ns.zip xs).lookup f = some v
  | [], _, k, _, _, h, _ => by simp at h
  | _ :: _, [], k, _, _, _, h => by simp at h
  | n :: ns, x :: xs, 0, v, hn, h, e => by
    simp at h e
    subst h e
    rw [List.zip_cons_cons, lookup_put, if_pos rfl]
  | n :: ns, x :: xs, k + 1, v, hn, h, e => by
    have h' : ns[k]? = some f := by simpa using h
    have hne : f ≠ n := fun z => by
      subst z
      exact (List.nodup_cons.mp hn).1 (List.mem_of_getElem? h')
    rw [List.zip_cons_cons, lookup_put, if_neg hne]
    exact zip_lookup (List.nodup_cons.mp hn).2 h' (by simpa using e)
def fldK (ix : Nat → Option Nat) (c : Nat) (l : List D) (mu : Sto) (F : KD) : Prop := match ix c with
  | some k => (match l[k]? with
    | some d => F d mu
    | none => False)
  | none => False
def dFld (ix : Nat → Option Nat) (de : DE) : DE := fun ga mu P F => de ga mu P fun x mu1 => match x with
  | .obj c l => fldK ix c l mu1 F
  | .ptr n => (match mu1[n]? with
    | some (.ins c l) => fldK ix c l mu1 F
    | _ => False)
  | _ => False
theorem d_fld {ix : Nat → Option Nat} {e : Expr} {f : Str} {de : DE} {pos : Pos} (T : FldT f ix) (he : PE X e (liftE X.K W de)) (hb : attributeBase e f X.env (eval e X.env) = eval e X.env := by rfl) : PE X (.Attribute e f pos) (liftE X.K W (dFld ix de)) := by
  refine pe_wk (pe_fld he hb) fun sg H Q ⟨ga, mu, al, hd, P, F, a, h, kv, kx⟩ => ?_
  have key : ∀ {c : Nat} {l : List D} {xs : List V} {pt : List Addr} {mu1 : Sto} {H1 : Hp} {al1 : List Addr} {p dx : Addr}, Okay X.K hd H1 mu1 al1 → Go hd H al H1 al1 → fldK ix c l mu1 F → Pre pt al1 → RepL X.K (al1 ++ hd) H1 pt l xs → ClsOk X.K c → H1 p = some (.ins (He.ga X.K (cn c)) dx (fz c xs)) →
      ∃ a C dx fs v, V.ref p = .ref a ∧ H1 a = some (.ins C dx fs) ∧ Cls X.K C ∧ NoAttr X.K C f ∧ fs.lookup f = some v ∧ Q v H1 := fun {c l xs pt mu1 H1 al1 p dx} o1 g1 h1 hp r ck e => by
    unfold fldK at h1
    cases q : ix c with
    | none =>
      rw [q] at h1
      exact h1.elim
    | some k =>
      rw [q] at h1
      obtain ⟨t3, t4⟩ := T.ok c k q
      have t1 := ck.1
      have t2 := ck.2 f (List.mem_of_getElem? t3)
      cases q2 : l[k]? with
      | none =>
        simp only [q2] at h1
      | some d =>
        simp only [q2] at h1
        obtain ⟨v, hv, rv⟩ := r.at_ q2
        exact ⟨p, _, dx, _, v, rfl, e, t1, t2, zip_lookup t4 t3 hv, kv.go _ _ _ _ _ h1 o1 g1 (Rep.fz (Go.refl _ _).frz hp rv)⟩
  refine ⟨ga, mu, al, hd, P, _, a, h, ⟨fun d mu1 v H1 al1 h1 o1 g1 r1 => ?_⟩, kx⟩
  cases r1 with
  | obj n e z r => exact key o1 g1 h1 (Pre.nil _) r z.2 e
  | ptr e =>
    rename_i j p
    have h2 : (match mu1[j]? with
      | some (.ins c l) => fldK ix c l mu1 F
      | _ => False) := h1
    cases q : mu1[j]? with
    | none =>
      rw [q] at h2
      exact h2.elim
    | some mo =>
      rw [q] at h2
      cases mo with
      | ins c l =>
        obtain ⟨dx, xs, e1, r, z⟩ := o1.at_ j _ _ q e
        exact key o1 g1 h2 (Pre.refl _) r z.2 e1
      | _ => exact h2.elim
  | _ => exact h1.elim
end
end DL

/-! part DL5 -/
/-! DL5: displays, items, slices, calls. -/
namespace DL
open PySem PySem.Spec PyProof.Rows L2
section
variable {K : PySem.W.Frag} {hd : List Addr} {W : WX} {sg : L2.St} {H : Hp} {Q Q' : VK}
theorem liftE_mono {de : DE} (h : liftE K W de sg H Q) (k : ∀ v H', Q v H' → Q' v H') : liftE K W de sg H Q' := by
  obtain ⟨ga, mu, al, hd, P, F, a, h, kv, kx⟩ := h
  exact ⟨ga, mu, al, hd, P, F, a, h, ⟨fun d mu' v H' al' e o g r => k _ _ (kv.go d mu' v H' al' e o g r)⟩, kx⟩
theorem op_wk {g : G2} {r : R2} {da db : DE} (k : ∀ x y H', liftR K W g sg x y H' Q → r x y H' Q) (h : liftE K W (dBin g da db) sg H Q) : tOp r (liftE K W da) (liftE K W db) sg H Q :=
  liftE_mono (bin_ok h) fun x H1 h1 => liftE_mono h1 fun y H2 h2 => k x y H2 h2
end
section
variable {X : Cx} {W : WX}
/-! ### argument lists, displays -/
def dNil : DA := fun _ mu _ F => F [] mu
def dCons (da : DE) (dr : DA) : DA := fun ga mu P F => da ga mu P fun x mu1 => dr ga mu1 P fun xs mu2 => F (x :: xs) mu2
theorem da_nil : PA X [] (liftA X.K W dNil) := pa_wk pa_nil fun sg H Q ⟨ga, mu, al, hd, P, F, a, h, kl, kx⟩ => kl.go _ _ _ _ _ h a.ok (Go.refl _ _) .nil
theorem da_cons {e : Expr} {es : List Expr} {da : DE} {dr : DA} (ha : PE X e (liftE X.K W da)) (hr : PA X es (liftA X.K W dr)) (hs : starEach (e :: es) X.env = (false, eval e X.env) :: starEach es X.env := by rfl) : PA X (e :: es) (liftA X.K W (dCons da dr)) :=
  pa_wk (pa_cons ha hr hs) fun sg H Q ⟨ga, mu, al, hd, P, F, a, h, kl, kx⟩ => ⟨ga, mu, al, hd, P, _, a, h, ⟨fun d mu1 v H1 al1 h1 o1 g1 r1 => ⟨ga, mu1, al1, hd, P, _, a.to o1 g1, h1, ⟨fun ds mu2 vs H2 al2 h2 o2 g2 r2 =>
    kl.go _ _ _ _ _ h2 o2 (g1.trans g2) (.cons (r1.go g2 g2.pre) r2)⟩, kx.to g1⟩⟩, kx⟩
def dTup (da : DA) : DE := fun ga mu P F => da ga mu P fun xs mu1 => (xs.length ≤ 16777216 ∧ npL xs) ∧ F (.tup xs) mu1
theorem d_tup {es : List Expr} {x1} {da : DA} {pos : Pos} (h : PA X es (liftA X.K W da)) : PE X (.Tuple es x1 pos) (liftE X.K W (dTup da)) :=
  pe_wk (pe_tup h) fun sg H Q ⟨ga, mu, al, hd, P, F, a, h, kv, kx⟩ => ⟨ga, mu, al, hd, P, _, a, h, ⟨fun ds mu1 vs H1 al1 h1 o1 g1 r1 => ⟨by rw [← r1.len, sizeLine_eq]; exact h1.1.1, fun p hp => (kv.to g1).tupleN o1 hp (r1.np h1.1.2) h1.2⟩⟩, kx⟩
def dLst (m : Nat) (da : DA) : DE := fun ga mu P F => da ga mu P fun xs mu1 => xs.length ≤ 16777216 ∧ retL m xs mu1 F
theorem d_lst (m : Nat) {es : List Expr} {da : DA} {pos : Pos} (h : PA X es (liftA X.K W da)) : PE X (.List es pos) (liftE X.K W (dLst m da)) :=
  pe_wk (pe_lst h) fun sg H Q ⟨ga, mu, al, hd, P, F, a, h, kv, kx⟩ => ⟨ga, mu, al, hd, P, _, a, h, ⟨fun ds mu1 vs H1 al1 h1 o1 g1 r1 => ⟨by rw [← r1.len, sizeLine_eq]; exact h1.1, fun p hp => (kv.to g1).list o1 hp r1 h1.2⟩⟩, kx⟩
/-! ### items -/
theorem RepL.atI {K : PySem.W.Frag} {al pt : List Addr} {H : Hp} {l : List D} {xs : List V} {i : Int} {d : D} (r : RepL K al H pt l xs) (h : L2.atI l i = some d) : ∃ v, L2.atI xs i = some v ∧ Rep K al H pt d v := by
  unfold L2.atI at h ⊢
  rw [r.len] at h
  cases q : ixN xs.length i with
  | none =>
    rw [q] at h
    cases h
  | some j =>
    rw [q] at h
    exact r.at_ h
/-- the items of a list or tuple, pointers too -/
def pv_ (mu : Sto) : D → Option (List D)
  | .tup l => some l
  | .lst l => some l
  | .ptr n => (match mu[n]? with
    | some (.lst l) => some l
    | some (.lsp l) => some l
    | _ => none)
  | _ => none
theorem Rep.pv_ {K : PySem.W.Frag} {hd : List Addr} {H : Hp} {mu : Sto} {al : List Addr} {d : D} {v : V} {l : List D} (o : Okay K hd H mu al) (r : Rep K (al ++ hd) H al d v) (h : pv_ mu d = some l) : ∃ p xs, v = .ref p ∧ (SqL K H p xs ∨ SqT K H p xs) ∧ RepL K (al ++ hd) H al l xs := by
  cases r with
  | tup z r =>
    cases h
    exact ⟨_, _, rfl, .inr z.sq, r.fz (Go.refl _ _).frz (Pre.nil _)⟩
  | lst z r =>
    cases h
    exact ⟨_, _, rfl, .inl z.sq, r.fz (Go.refl _ _).frz (Pre.nil _)⟩
  | ptr e =>
    rename_i j p
    unfold DL.pv_ at h
    dsimp only at h
    cases q : mu[j]? with
    | none =>
      rw [q] at h
      cases h
    | some mo =>
      rw [q] at h
      cases mo with
      | lst l =>
        cases h
        obtain ⟨xs, e1, r⟩ := o.at_ j _ _ q e
        exact ⟨p, xs, rfl, .inl (.inl (.inl e1)), r.fz (Go.refl _ _).frz (Pre.nil _)⟩
      | lsp l =>
        cases h
        obtain ⟨xs, e1, r⟩ := o.at_ j _ _ q e
        exact ⟨p, xs, rfl, .inl (.inl (.inl e1)), r⟩
      | _ => cases h
  | _ => cases h
def gIx : G2 := fun x y mu _ F => match y with
  | .int i => (match x with
    | .str z => z.length ≤ 16777216 ∧ (match L2.atI z.cps.toList i with
      | some c => F (.str ⟨#[c]⟩) mu
      | none => False)
    | x => (match pv_ mu x with
      | some l => (match L2.atI l i with
        | some d => F d mu
        | none => False)
      | none => False))
  | _ => False
theorem d_ix {a b : Expr} {da db : DE} {pos : Pos} (ha : PE X a (liftE X.K W da)) (hb : PE X b (liftE X.K W db)) (hs : PlainIx b := by exact fun _ _ => rfl) : PE X (.Subscript a b pos) (liftE X.K W (dBin gIx da db)) := by
  refine pe_wk (pe_ix ix_seq ha hb hs) fun sg H Q h => op_wk (fun x y H' ⟨mu, al, hd, d, e, P, F, o, r1, r2, hg, kv, kx⟩ => ?_) h
  unfold gIx at hg
  split at hg
  · rename_i i
    have e2 := r2.int_
    subst e2
    split at hg
    · rename_i z
      have e1 := r1.str_
      subst e1
      obtain ⟨hz, hg⟩ := hg
      cases q : L2.atI z.cps.toList i with
      | none => simp only [q] at hg
      | some c =>
        simp only [q] at hg
        exact .inr (.inr ⟨z, i, c, rfl, rfl, by rw [sizeLine_eq]; exact hz, q, kv.now o hg .str⟩)
    · cases q : pv_ mu d with
      | none => simp only [q] at hg
      | some l =>
        simp only [q] at hg
        cases q2 : L2.atI l i with
        | none => simp only [q2] at hg
        | some c =>
          simp only [q2] at hg
          obtain ⟨p, xs, rfl, s, r⟩ := r1.pv_ o q
          obtain ⟨v, ev, rv⟩ := r.atI q2
          rcases s with s | s
          · exact .inl ⟨p, xs, i, v, rfl, rfl, s, ev, kv.now o hg rv⟩
          · exact .inr (.inl ⟨p, xs, i, v, rfl, rfl, s, ev, kv.now o hg rv⟩)
  · exact hg.elim
/-! ### slices -/
abbrev DO := Gam → Sto → KX → (Option Int → Sto → Prop) → Prop
def liftO (K : PySem.W.Frag) (W : WX) (de : DO) : TO := fun sg H Q => ∃ (ga : Gam) (mu : Sto) (al hd : List Addr) (P : KX) (F : Option Int → Sto → Prop), At K hd ga mu al sg H ∧ de ga mu P F ∧ (∀ o mu' H' al', F o mu' → Okay K hd H' mu' al' → Go hd H al H' al' → Q o H') ∧ Kx K hd (fun c d h => W c d sg h) H al P
theorem po_wk {e : Option Expr} {t t' : TO} (h : PO X e t) (k : ∀ sg H Q, t' sg H Q → t sg H Q) : PO X e t' := ⟨fun pins s sg H Q I q => h.run pins s sg H Q I (k _ _ _ q)⟩
def dNoPart : DO := fun _ mu _ F => F none mu
def dPart (de : DE) : DO := fun ga mu P F => de ga mu P fun x mu1 => match x with
  | .int i => F (some i) mu1
  | _ => False
theorem do_none : PO X none (liftO X.K W dNoPart) := po_wk po_none fun sg H Q ⟨ga, mu, al, hd, P, F, a, h, kv, kx⟩ => kv _ _ _ _ h a.ok (Go.refl _ _)
theorem do_some {e : Expr} {de : DE} (h : PE X e (liftE X.K W de)) : PO X (some e) (liftO X.K W (dPart de)) := po_wk (po_some h) fun sg H Q ⟨ga, mu, al, hd, P, F, a, h, kv, kx⟩ => ⟨ga, mu, al, hd, P, _, a, h, ⟨fun d mu1 v H1 al1 h1 o1 g1 r1 => by
  cases d <;> try exact h1.elim
  exact ⟨_, r1.int_, kv _ _ _ _ h1 o1 g1⟩⟩, kx⟩
def cutD (xs : List D) (lo hi : Option Int) : List D := (xs.drop (HT.sIx xs.length 0 lo)).take (HT.sIx xs.length xs.length hi - HT.sIx xs.length 0 lo)
theorem RepL.cut {K : PySem.W.Frag} {al pt : List Addr} {H : Hp} {l : List D} {xs : List V} (r : RepL K al H pt l xs) (lo hi : Option Int) : RepL K al H pt (cutD l lo hi) (cutV xs lo hi) := by
  unfold cutD cutV
  rw [r.len]
  exact (r.drop _).take _
def dSlice (m : Nat) (de : DE) (dl dh : DO) : DE := fun ga mu P F => de ga mu P fun x mu1 => dl ga mu1 P fun lo mu2 => dh ga mu2 P fun hi mu3 => match x with
  | .str z => z.length ≤ 16777216 ∧ F (.str (cutS z lo hi)) mu3
  | .tup l => F (.tup (cutD l lo hi)) mu3
  | x => ∃ l, lv mu3 x = some l ∧ retN m (cutD l lo hi) mu3 F
theorem SlR.orr {r r' : V → Option Int → Option Int → Hp → VK → Prop} (h : SlR X r) (h' : SlR X r') : SlR X (fun x lo hi H Q => r x lo hi H Q ∨ r' x lo hi H Q) := fun pins s sg H x v vl vu lo hi sl Q I rx hs pl pu q =>
  q.elim (h pins s sg H x v vl vu lo hi sl Q I rx hs pl pu) (h' pins s sg H x v vl vu lo hi sl Q I rx hs pl pu)
theorem d_slice (m : Nat) {e : Expr} {lo hi : Option Expr} {de : DE} {dl dh : DO} {pos p2 : Pos} (he : PE X e (liftE X.K W de)) (hl : PO X lo (liftO X.K W dl)) (hu : PO X hi (liftO X.K W dh)) : PE X (.Subscript e (.Slice lo hi none p2) pos) (liftE X.K W (dSlice m de dl dh)) := by
  refine pe_wk (pe_slice (SlR.orr sl_str (SlR.orr sl_tupA sl_list)) he hl hu) fun sg H Q ⟨ga, mu, al, hd, P, F, a, h, kv, kx⟩ => ?_
  refine ⟨ga, mu, al, hd, P, _, a, h, ⟨fun d mu1 v H1 al1 h1 o1 g1 r1 => ⟨ga, mu1, al1, hd, P, _, a.to o1 g1, h1, fun o mu2 H2 al2 h2 o2 g2 => ⟨ga, mu2, al2, hd, P, _, a.to o2 (g1.trans g2), h2, fun u mu3 H3 al3 h3 o3 g3 => ?_, kx.to (g1.trans g2)⟩, kx.to g1⟩⟩, kx⟩
  have g13 := (g1.trans g2).trans g3
  have r3 := (r1.go g2 g2.pre).go g3 g3.pre
  have kv3 := kv.to g13
  split at h3
  · rename_i z
    cases r3.str_
    exact .inl ⟨z, rfl, by rw [sizeLine_eq]; exact h3.1, kv3.now o3 h3.2 .str⟩
  · rename_i l
    obtain ⟨p, xs, rfl, n1, e1, s1⟩ := r3.tv rfl
    refine .inr (.inl ⟨p, xs, rfl, .inl (.inl e1), fun hw => ?_, fun _ b hb => kv3.tupleN o3 hb (s1.cut o u) h3⟩)
    have hc : cutD l o u = l := by
      unfold cutD
      rw [s1.len, hw.1, hw.2, List.drop_zero, Nat.sub_zero, ← s1.len, List.take_length]
    rw [hc] at h3
    exact kv3.now o3 h3 (.tup ⟨n1, e1⟩ s1)
  · obtain ⟨l, h4, h5⟩ := h3
    obtain ⟨p, xs, rfl, e1, s1⟩ := r3.lv o3 h4
    exact .inr (.inr ⟨p, xs, rfl, .inl e1, fun b hb => kv3.listN o3 hb (s1.cut o u) h5⟩)
/-! ### built-in calls -/
abbrev GL := List D → Sto → KD → Prop
def dCB (g : GL) (da : DA) : DE := fun ga mu P F => da ga mu P fun ds mu1 => g ds mu1 F
def CbS (X : Cx) (f : Value) (g : GL) : Prop := ∃ r, CallR X f r ∧ ∀ (H : Hp) (mu : Sto) (al hd : List Addr) (ds : List D) (vs : List V) (F : KD) (Q : VK), Okay X.K hd H mu al → RepL X.K (al ++ hd) H al ds vs → g ds mu F → Kv X.K hd H al F Q → r vs H Q
theorem d_callB {x : Str} {id : String} {p pos : Pos} {e : Expr} {es : List Expr} {g : GL} {da : DA} (hc : CbS X (.builtin id) g) (hm : X.mg x = none) (hv : bootBuiltins x = some (.builtin id)) (ha : PA X (e :: es) (liftA X.K W da)) (hg : Gl X x := by rfl) (hn : x ≠ "__name__" := by decide) (hdb : (x == ("__debug__" : Str)) = false := by decide)
    (hs : starEach (e :: es) X.env = (false, eval e X.env) :: starEach es X.env := by rfl) (hp : (backTo pos (starEach es X.env)).any (·.1) = false := by rfl) : PE X (.Call (.Name x p) (e :: es) [] pos) (liftE X.K W (dCB g da)) := by
  obtain ⟨r, hr, k⟩ := hc
  refine pe_wk (pe_callB hr hg hm hv ha hn hdb hs hp) fun sg H Q ⟨ga, mu, al, hd, P, F, a, h, kv, kx⟩ => ?_
  exact ⟨ga, mu, al, hd, P, _, a, h, ⟨fun ds mu1 vs H1 al1 h1 o1 g1 r1 => k _ _ _ _ _ _ _ _ o1 r1 h1 (kv.to g1)⟩, kx⟩
theorem d_callT {x : Str} {T : String} {p pos : Pos} {e : Expr} {es : List Expr} {g : GL} {da : DA} (hc : CbS X (.type T) g) (hm : X.mg x = none) (hv : bootBuiltins x = some (.type T)) (ha : PA X (e :: es) (liftA X.K W da)) (hg : Gl X x := by rfl) (hn : x ≠ "__name__" := by decide) (hdb : (x == ("__debug__" : Str)) = false := by decide)
    (hs : starEach (e :: es) X.env = (false, eval e X.env) :: starEach es X.env := by rfl) (hp : (backTo pos (starEach es X.env)).any (·.1) = false := by rfl) : PE X (.Call (.Name x p) (e :: es) [] pos) (liftE X.K W (dCB g da)) := by
  obtain ⟨r, hr, k⟩ := hc
  refine pe_wk (pe_callTy hr hg hm hv ha hn hdb hs hp) fun sg H Q ⟨ga, mu, al, hd, P, F, a, h, kv, kx⟩ => ?_
  exact ⟨ga, mu, al, hd, P, _, a, h, ⟨fun ds mu1 vs H1 al1 h1 o1 g1 r1 => k _ _ _ _ _ _ _ _ o1 r1 h1 (kv.to g1)⟩, kx⟩
def bLen : GL := fun ds mu F => match ds with
  | [.str z] => z.length ≤ 16777216 ∧ F (.int z.length) mu
  | [x] => (match szD mu x with
    | some n => F (.int n) mu
    | none => False)
  | _ => False
theorem CallR.orr {f : Value} {r r' : List V → Hp → VK → Prop} (h : CallR X f r) (h' : CallR X f r') : CallR X f (fun xs H Q => r xs H Q ∨ r' xs H Q) := fun pins s sg H xs us Q I rx q => q.elim (h pins s sg H xs us Q I rx) (h' pins s sg H xs us Q I rx)
theorem b_len : CbS X (.builtin "len") bLen := by
  refine ⟨_, CallR.orr call_len call_lenD, fun H mu al hd ds vs F Q o r hg kv => ?_⟩
  unfold bLen at hg
  split at hg
  · rename_i z
    obtain ⟨v, ys, rfl, r1, r2⟩ := r.cons_
    cases r2.nil_
    cases r1.str_
    exact .inl ⟨_, z.length, rfl, ⟨by rw [sizeLine_eq]; exact hg.1, rfl⟩, kv.now o hg.2 .int⟩
  · rename_i x _
    obtain ⟨v, ys, rfl, r1, r2⟩ := r.cons_
    cases r2.nil_
    cases q : szD mu x with
    | none => simp only [q] at hg
    | some n =>
      simp only [q] at hg
      obtain ⟨p, rfl, z⟩ := r1.sz o q
      rcases z with ⟨xs, s, e⟩ | ⟨xs, s, e⟩ | ⟨xs, s, e⟩
      · exact .inl ⟨_, n, rfl, .inl ⟨xs, s, e.symm⟩, kv.now o hg .int⟩
      · exact .inl ⟨_, n, rfl, .inr ⟨xs, s, e.symm⟩, kv.now o hg .int⟩
      · refine .inr ⟨_, xs, rfl, s, ?_⟩
        rw [e]
        exact kv.now o hg .int
  · exact hg.elim
/-- list(x), tuple(x) of a list, a tuple -/
def bList (m : Nat) : GL := fun ds mu F => match ds with
  | [x] => (match sv mu x with
    | some l => retN m l mu F
    | none => False)
  | _ => False
theorem b_list (m : Nat) : CbS X (.type "list") (bList m) := by
  refine ⟨_, call_list_of, fun H mu al hd ds vs F Q o r hg kv => ?_⟩
  unfold bList at hg
  split at hg
  · rename_i x
    obtain ⟨v, ys, rfl, r1, r2⟩ := r.cons_
    cases r2.nil_
    cases q : sv mu x with
    | none => simp only [q] at hg
    | some l =>
      simp only [q] at hg
      obtain ⟨p, xs, rfl, s, r3⟩ := r1.sv o q
      exact ⟨p, xs, rfl, s, fun b hb => kv.listN o hb r3 hg⟩
  · exact hg.elim
def bTuple : GL := fun ds mu F => match ds with
  | [x] => (match sv mu x with
    | some l => F (.tup l) mu
    | none => False)
  | _ => False
theorem b_tuple : CbS X (.type "tuple") bTuple := by
  refine ⟨_, call_tuple_of, fun H mu al hd ds vs F Q o r hg kv => ?_⟩
  unfold bTuple at hg
  split at hg
  · rename_i x
    obtain ⟨v, ys, rfl, r1, r2⟩ := r.cons_
    cases r2.nil_
    cases q : sv mu x with
    | none => simp only [q] at hg
    | some l =>
      simp only [q] at hg
      cases r1 with
      | tup z r3 =>
        cases q
        exact ⟨_, _, rfl, .inr ⟨z.sq, kv.now o hg (.tup z r3)⟩⟩
      | lst z r3 =>
        cases q
        exact ⟨_, _, rfl, .inl ⟨z.sq, fun b hb => kv.tupleN o hb r3 hg⟩⟩
      | ptr e =>
        obtain ⟨p, xs, e1, z, r3⟩ := Rep.lv o (.ptr e) q
        cases e1
        exact ⟨_, xs, rfl, .inl ⟨.inl z, fun b hb => kv.tupleN o hb r3 hg⟩⟩
      | _ => cases q
  · exact hg.elim
def bAbs : GL := fun ds mu F => match ds with
  | [.int i] => F (.int (if i < 0 then -i else i)) mu
  | _ => False
theorem b_abs : CbS X (.builtin "abs") bAbs := by
  refine ⟨_, call_abs, fun H mu al hd ds vs F Q o r hg kv => ?_⟩
  unfold bAbs at hg
  split at hg
  · obtain ⟨v, ys, rfl, r1, r2⟩ := r.cons_
    cases r2.nil_
    exact ⟨_, by rw [r1.int_], kv.now o hg .int⟩
  · exact hg.elim
def bMax2 : GL := fun ds mu F => match ds with
  | [.int i, .int j] => F (.int (if j > i then j else i)) mu
  | _ => False
theorem b_max2 (hc : X.calm = true) : CbS X (.builtin "max") bMax2 := by
  refine ⟨_, call_max2 hc, fun H mu al hd ds vs F Q o r hg kv => ?_⟩
  unfold bMax2 at hg
  split at hg
  · obtain ⟨v, ys, rfl, r1, r2⟩ := r.cons_
    obtain ⟨v2, ys2, rfl, r3, r4⟩ := r2.cons_
    cases r4.nil_
    exact ⟨_, _, by rw [r1.int_, r3.int_], kv.now o hg .int⟩
  · exact hg.elim
def bMin2 : GL := fun ds mu F => match ds with
  | [.int i, .int j] => F (.int (if j < i then j else i)) mu
  | _ => False
theorem b_min2 (hc : X.calm = true) : CbS X (.builtin "min") bMin2 := by
  refine ⟨_, call_min2 hc, fun H mu al hd ds vs F Q o r hg kv => ?_⟩
  unfold bMin2 at hg
  split at hg
  · obtain ⟨v, ys, rfl, r1, r2⟩ := r.cons_
    obtain ⟨v2, ys2, rfl, r3, r4⟩ := r2.cons_
    cases r4.nil_
    exact ⟨_, _, by rw [r1.int_, r3.int_], kv.now o hg .int⟩
  · exact hg.elim
end
end DL

/-! part DL6 -/
/-! DL6: promises over data, calls of defs, methods, classes; statements. -/
namespace DL
open PySem PySem.Spec PyProof.Rows L2
abbrev DSp := List D → Sto → KX → KD → Prop
def spD (K : PySem.W.Frag) (n : Nat) (f : DSp) : Sp := fun vs H Q E => vs.length = n ∧ ∃ (mu : Sto) (al hd : List Addr) (ds : List D) (P : KX) (F : KD), Okay K hd H mu al ∧ RepL K (al ++ hd) H al ds vs ∧ f ds mu P F ∧ Kv K hd H al F Q ∧ Kx K hd E H al P
structure Prom (P : Program) (w : World) (K : PySem.W.Frag) (mg : Str → Option Value) (base : Heap) (k : Nat) (f : Addr) (n : Nat) (sp : DSp) : Prop where
  ok : ∃ fd ps, ps.length = n ∧ FnOk P w K mg base (L2.CX P w) k f fd ps (spD K n sp) ∧ Binds K fd ps []
  kw : ∀ fd oc od osl, K.lookup f = some ⟨oc, od, .func fd, osl⟩ → (fd.params.args.map (·.arg)).length = n ∧ FnOk P w K mg base (L2.CX P w) k f fd (fd.params.args.map (·.arg)) (spD K n sp)
  kp : PySem.W.keepIn K (.ref f) = true
  ar : ∀ ds mu P F, sp ds mu P F → ds.length = n
section
variable {X : Cx} {W : WX}
theorem args_in {K : PySem.W.Frag} {hd : List Addr} {sp : DSp} {n : Nat} {W : WX} {sg : L2.St} {H H1 : Hp} {Q : VK} {al al1 : List Addr} {ds : List D} {vs : List V} {mu1 : Sto} {P : KX} {F : KD} (ar : ∀ ds mu P F, sp ds mu P F → ds.length = n)
    (h : sp ds mu1 P F) (o : Okay K hd H1 mu1 al1) (g : Go hd H al H1 al1) (r : RepL K (al1 ++ hd) H1 al1 ds vs) (kv : Kv K hd H al F Q) (kx : Kx K hd (fun c d h => W c d sg h) H al P) : spD K n sp vs H1 Q (WE W sg) :=
  ⟨by rw [← r.len]; exact ar _ _ _ _ h, mu1, al1, hd, ds, P, F, o, r, h, kv.to g, kx.to g⟩
def dCall (sp : DSp) (da : DA) : DE := fun ga mu P F => da ga mu P fun ds mu1 => sp ds mu1 P F
theorem d_call {k n : Nat} {f : Addr} {sp : DSp} {x : Str} {p pos : Pos} {e : Expr} {es : List Expr} {da : DA} (F : Prom X.prog X.w X.K X.mg X.base k f n sp) (hr : Room k X.A) (hm : X.mg x = some (.ref f)) (tk : Takes X W) (ha : PA X (e :: es) (liftA X.K W da)) (hg : Gl X x := by rfl) (hdb : (x == ("__debug__" : Str)) = false := by decide)
    (he : starEach (e :: es) X.env = (false, eval e X.env) :: starEach es X.env := by rfl) (hpl : (backTo pos (starEach es X.env)).any (·.1) = false := by rfl) : PE X (.Call (.Name x p) (e :: es) [] pos) (liftE X.K W (dCall sp da)) := by
  obtain ⟨fd, ps, hn, G, b⟩ := F.ok
  refine pe_wk (pe_callS G hr hg hm F.kp b (fun σ => passAt tk σ) ha hdb he hpl) fun sg H Q ⟨ga, mu, al, hd, P, F', a, h, kv, kx⟩ => ?_
  exact ⟨ga, mu, al, hd, P, _, a, h, ⟨fun ds mu1 vs H1 al1 h1 o1 g1 r1 => args_in F.ar h1 o1 g1 r1 kv kx⟩, kx⟩
theorem d_call0 {k n : Nat} {f : Addr} {sp : DSp} {x : Str} {p pos : Pos} (F : Prom X.prog X.w X.K X.mg X.base k f n sp) (hr : Room k X.A) (hm : X.mg x = some (.ref f)) (tk : Takes X W) (hg : Gl X x := by rfl) (hdb : (x == ("__debug__" : Str)) = false := by decide) :
    PE X (.Call (.Name x p) [] [] pos) (liftE X.K W (dCall sp dNil)) := by
  obtain ⟨fd, ps, hn, G, b⟩ := F.ok
  refine ⟨fun pins s sg H Q I ⟨ga, mu, al, hd, P, F', a, h, kv, kx⟩ => ?_⟩
  refine wpAny_Call_Name_kw (ld_glob I hg hm ?_ hdb)
  exact PySem.W.callWith_K0 I.kIn F.kp (run_fnS (us := []) G hr b (passAt tk sg) I .nil (args_in F.ar h a.ok (Go.refl _ _) .nil kv kx))
/-! ### methods -/
def clsD (mu : Sto) : D → Option Nat
  | .obj c _ => some c
  | .ptr n => (match mu[n]? with
    | some (.ins c _) => some c
    | _ => none)
  | _ => none
structure MethT (X : Cx) (m : Str) (tab : Nat → Option DSp) : Prop where
  ok : ∀ c sp, tab c = some sp → ClsOk X.K c → ¬ m ∈ fn c ∧ ∃ f k n, Meth X.K (He.ga X.K (cn c)) m f ∧ Prom X.prog X.w X.K X.mg X.base k f n sp ∧ Room k X.A
def dMeth (tab : Nat → Option DSp) (do_ : DE) (da : DA) : DE := fun ga mu P F => do_ ga mu P fun x mu1 => match clsD mu1 x with
  | some c => (match tab c with
    | some sp => da ga mu1 P fun ds mu2 => sp (x :: ds) mu2 P F
    | none => False)
  | none => False
theorem Rep.cls {K : PySem.W.Frag} {hd : List Addr} {H : Hp} {mu : Sto} {al : List Addr} {d : D} {v : V} {c : Nat} (o : Okay K hd H mu al) (r : Rep K (al ++ hd) H al d v) (h : clsD mu d = some c) : ∃ a dx xs, v = .ref a ∧ ClsOk K c ∧ H a = some (.ins (He.ga K (cn c)) dx (DL.fz c xs)) := by
  cases r with
  | obj a b e r =>
    cases h
    exact ⟨_, _, _, rfl, e.2, b⟩
  | ptr e =>
    rename_i j p
    unfold clsD at h
    dsimp only at h
    cases q : mu[j]? with
    | none =>
      rw [q] at h
      cases h
    | some mo =>
      rw [q] at h
      cases mo with
      | ins c' l =>
        cases h
        obtain ⟨dx, xs, e1, _, z⟩ := o.at_ j _ _ q e
        exact ⟨p, dx, xs, rfl, z.2, e1⟩
      | _ => cases h
  | _ => cases h
theorem lookup_no {m : Str} : ∀ {ns : List Str} {xs : List V}, ¬ m ∈ ns → (ns.zip xs).lookup m = none
  | [], _, _ => rfl
  | _ :: _, [], _ => rfl
  | n :: ns, x :: xs, h => by
    rw [List.zip_cons_cons, lookup_put, if_neg (show ¬ m = n from fun z => h (by rw [z]; exact List.mem_cons_self))]
    exact lookup_no fun z => h (List.mem_cons_of_mem _ z)
theorem d_meth {m : Str} {tab : Nat → Option DSp} {o e : Expr} {es : List Expr} {do_ : DE} {da : DA} {apos pos : Pos} {pl : Sem Bool} (T : MethT X m tab) (tk : Takes X W) (ho : PE X o (liftE X.K W do_)) (ha : PA X (e :: es) (liftA X.K W da))
    (hst : starEach (e :: es) X.env = (false, eval e X.env) :: starEach es X.env := by rfl) (hpl : (backTo pos (starEach es X.env)).any (·.1) = false := by rfl)
    (ht : eval (.Call (.Attribute o m apos) (e :: es) [] pos) X.env = (do
      let ov ← eval o X.env
      standAt apos.atName
      let (f, first) ← holding [ov] (getMethod ov m pl)
      callWith pos f first (backTo pos (starEach (e :: es) X.env)) (backToKw pos (keywordEach [] X.env))) := by rfl) :
    PE X (.Call (.Attribute o m apos) (e :: es) [] pos) (liftE X.K W (dMeth tab do_ da)) := by
  refine ⟨fun pins s sg H Q I ⟨ga, mu, al, hd, P, F, a, h, kv, kx⟩ => ?_⟩
  have h' : liftE X.K W do_ sg H (fun x H1 => ∃ (d : D) (mu1 : Sto) (al1 : List Addr) (c : Nat) (sp : DSp), Okay X.K hd H1 mu1 al1 ∧ Go hd H al H1 al1 ∧ Rep X.K (al1 ++ hd) H1 al1 d x ∧ clsD mu1 d = some c ∧ tab c = some sp ∧ da ga mu1 P fun ds mu2 => sp (d :: ds) mu2 P F) :=
    ⟨ga, mu, al, hd, P, _, a, h, ⟨fun d mu1 v H1 al1 h1 o1 g1 r1 => by
      cases q : clsD mu1 d with
      | none => simp only [q] at h1
      | some c =>
        simp only [q] at h1
        cases q2 : tab c with
        | none => simp only [q2] at h1
        | some sp =>
          simp only [q2] at h1
          exact ⟨d, mu1, al1, c, sp, o1, g1, r1, q, q2, h1⟩⟩, kx⟩
  refine PySem.W.methodCall_KW (pl := pl) (thn (ho.run pins s sg H _ I h') fun u s1 ⟨x, H1, I1, rx, d, mu1, al1, c, sp, o1, g1, r1, q1, q2, h1⟩ => ?_) ht
  obtain ⟨b, dx, xs, rfl, ck, ea⟩ := r1.cls o1 q1
  obtain rfl : u = Value.ref b := rx
  obtain ⟨c2, f, k, n, c3, c4, c5⟩ := T.ok c sp q2 ck
  have c1 := ck.1
  obtain ⟨fd, ps, hn, G, bb⟩ := c4.ok
  refine getmeth_ok I1 ea c1 c3 (lookup_no c2) ?_
  have ha' : liftA X.K W da sg H1 (fun vs H2 => spD X.K n sp (.ref b :: vs) H2 Q (WE W sg)) := ⟨ga, mu1, al1, hd, P, _, a.to o1 g1, h1, ⟨fun ds mu2 vs H2 al2 h2 o2 g2 r2 => args_in c4.ar h2 o2 (g1.trans g2) (.cons (r1.go g2 g2.pre) r2) kv kx⟩, kx.to g1⟩
  refine PySem.W.callWith_K (first := [.ref b]) (h₀ := X.base) I.ok.mod.kin c3.kp (thn (ha.run pos pins s1 sg H1 _ I1 ha') fun us s2 ⟨vs, H2, I2, r, q⟩ => ⟨I2.kIn, ?_⟩) hst hpl
  exact run_fnS (us := .ref b :: us) (vs := .ref b :: vs) G c5 bb (passAt tk sg) I2 (.cons rfl r) q
theorem d_meth0 {m : Str} {tab : Nat → Option DSp} {o : Expr} {do_ : DE} {apos pos : Pos} {pl : Sem Bool} (T : MethT X m tab) (tk : Takes X W) (ho : PE X o (liftE X.K W do_))
    (ht : eval (.Call (.Attribute o m apos) [] [] pos) X.env = (do
      let ov ← eval o X.env
      standAt apos.atName
      let (f, first) ← holding [ov] (getMethod ov m pl)
      callWith pos f first (backTo pos (starEach [] X.env)) (backToKw pos (keywordEach [] X.env))) := by rfl) :
    PE X (.Call (.Attribute o m apos) [] [] pos) (liftE X.K W (dMeth tab do_ dNil)) := by
  refine ⟨fun pins s sg H Q I ⟨ga, mu, al, hd, P, F, a, h, kv, kx⟩ => ?_⟩
  have h' : liftE X.K W do_ sg H (fun x H1 => ∃ (d : D) (mu1 : Sto) (al1 : List Addr) (c : Nat) (sp : DSp), Okay X.K hd H1 mu1 al1 ∧ Go hd H al H1 al1 ∧ Rep X.K (al1 ++ hd) H1 al1 d x ∧ clsD mu1 d = some c ∧ tab c = some sp ∧ sp [d] mu1 P F) :=
    ⟨ga, mu, al, hd, P, _, a, h, ⟨fun d mu1 v H1 al1 h1 o1 g1 r1 => by
      cases q : clsD mu1 d with
      | none => simp only [q] at h1
      | some c =>
        simp only [q] at h1
        cases q2 : tab c with
        | none => simp only [q2] at h1
        | some sp =>
          simp only [q2] at h1
          exact ⟨d, mu1, al1, c, sp, o1, g1, r1, q, q2, h1⟩⟩, kx⟩
  refine PySem.W.methodCall_KW (pl := pl) (thn (ho.run pins s sg H _ I h') fun u s1 ⟨x, H1, I1, rx, d, mu1, al1, c, sp, o1, g1, r1, q1, q2, h1⟩ => ?_) ht
  obtain ⟨b, dx, xs, rfl, ck, ea⟩ := r1.cls o1 q1
  obtain rfl : u = Value.ref b := rx
  obtain ⟨c2, f, k, n, c3, c4, c5⟩ := T.ok c sp q2 ck
  have c1 := ck.1
  obtain ⟨fd, ps, hn, G, bb⟩ := c4.ok
  refine getmeth_ok I1 ea c1 c3 (lookup_no c2) ?_
  exact PySem.W.callWith_K0 (first := [.ref b]) I1.kIn c3.kp (run_fnS (us := [.ref b]) (vs := [.ref b]) G c5 bb (passAt tk sg) I1 (.cons rfl .nil) (args_in c4.ar h1 o1 g1 (.cons r1 .nil) kv kx))
/-! ### classes called -/
def endX (mu : Sto) (P : KX) : KX := fun x mu' => ∃ mu2, Trim mu mu' mu2 ∧ P x mu2
def endI (fr : Bool) (c : Nat) (mu : Sto) (F : KD) : KD := fun d mu' => d = .non ∧ match fr with
  | true => ∃ mu2 l, Trim mu mu' mu2 ∧ mu'[mu.length]? = some (.ins c l) ∧ npL l ∧ l.length = (fn c).length ∧ F (.obj c l) mu2
  | false => F (.ptr mu.length) mu'
structure MkOk (P : Program) (w : World) (K : PySem.W.Frag) (mg : Str → Option Value) (base : Heap) (k : Nat) (c n : Nat) (g : DSp) : Prop where
  ok : ∃ f sp fr, Mk K (He.ga K (cn c)) f ∧ ClsOk K c ∧ Prom P w K mg base k f (n + 1) sp ∧ ∀ ds mu P F, g ds mu P F → sp (.ptr mu.length :: ds) (mu ++ [.ins c []]) (endX mu P) (endI fr c mu F)
theorem RepX.home {K : PySem.W.Frag} {hd : List Addr} {H H1 : Hp} {al al1 : List Addr} {cls : Value} {dd : Option Addr} {x : Exn} (g : Go hd H al H1 al1) (r : RepX K hd al1 H1 cls dd x) : RepX K hd al H1 cls dd x := by
  obtain ⟨r1, r2, r3, r4⟩ := r
  refine ⟨r1, r2, fun hn => ?_, r4⟩
  obtain ⟨d, fs, xs, e1, e2, e3, e4, e5⟩ := r3 hn
  exact ⟨d, fs, xs, e1, fun z => e2 (g.subH d z), e3, e4.fz g.back (Pre.refl _), e5⟩
theorem mk_in {K : PySem.W.Frag} {hd : List Addr} {c n : Nat} (ck : ClsOk K c) {sp g : DSp} {fr : Bool} {sg : L2.St} {H : Hp} {Q : VK} {vs : List V} {mu : Sto} {al : List Addr} {ds : List D} {P : KX} {F : KD} {x dx : Addr} (hx0 : H x = none) (hd0 : H dx = none)
    (M3 : ∀ ds mu P F, g ds mu P F → sp (.ptr mu.length :: ds) (mu ++ [.ins c []]) (endX mu P) (endI fr c mu F)) (ar : ∀ ds mu P F, sp ds mu P F → ds.length = n)
    (o : Okay K hd H mu al) (rd : RepL K (al ++ hd) H al ds vs) (h : g ds mu P F) (kv : Kv K hd H al F Q) (kx : Kx K hd (fun c d h => W c d sg h) H al P) :
    spD K n sp (.ref x :: vs) (upd (upd H dx (.own x)) x (.ins (He.ga K (cn c)) dx [])) (fun v H2 => v = .non ∧ Q (.ref x) H2) (WE W sg) := by
  have keep : ∀ a u, H a = some u → (upd (upd H dx (.own x)) x (.ins (He.ga K (cn c)) dx [])) a = some u := fun a u e => by
    rw [upd_ne (ne_of_none e hx0), upd_ne (ne_of_none e hd0)]
    exact e
  have gc := Go.cell o hx0 keep
  have o2 : Okay K hd (upd (upd H dx (.own x)) x (.ins (He.ga K (cn c)) dx [])) (mu ++ [.ins c []]) (al ++ [x]) := o.cell hx0 keep ⟨dx, [], by rw [upd_same]; unfold fz; rw [List.zip_nil_right], .nil, Nat.zero_le _, ck⟩
  have ax : (al ++ [x])[mu.length]? = some x := by rw [List.getElem?_append_right (by rw [o.len]; exact Nat.le_refl _), o.len, Nat.sub_self] <;> rfl
  have hs := M3 ds mu P F h
  refine ⟨?_, _, _, hd, _, endX mu P, endI fr c mu F, o2, .cons (.ptr ax) (rd.go gc gc.pre), hs, ⟨fun d mu' v H' al' h' o' g' r' => ?_⟩, ⟨fun e mu' cls dd H' al' h' o' g' r' => ?_⟩⟩
  · have e := ar _ _ _ _ hs
    rw [List.length_cons, rd.len] at e
    exact e
  · obtain ⟨rfl, h'⟩ := h'
    have gg := gc.trans g'
    refine ⟨r'.non_, ?_⟩
    cases fr with
    | true =>
      obtain ⟨mu2, l, t, e, hp, hl, h'⟩ := h'
      refine kv.go _ _ _ _ _ h' (o.trim o' gg t) gg.home ?_
      obtain ⟨dx', xs, e1, r1, _⟩ := o'.at_ _ _ _ e (g'.pre _ _ ax)
      exact .obj (o.new hx0) e1 ⟨hl, ck⟩ ((r1.np hp).fz gg.back (Pre.refl _))
    | false => exact kv.go _ _ _ _ _ h' o' gg (.ptr (g'.pre _ _ ax))
  · obtain ⟨mu2, t, h'⟩ := h'
    have gg := gc.trans g'
    exact kx.go _ _ _ _ _ _ h' (o.trim o' gg t) gg.home (r'.home gg)
theorem run_mk {k c n : Nat} {g : DSp} (M : MkOk X.prog X.w X.K X.mg X.base k c n g) (hr : Room (k + 1) X.A) (tk : Takes X W) {pins : List (Addr × Obj)} {sg : L2.St} {H : Hp} {s : Shared} {Q : VK} {us : List Value} {vs : List V} {mu : Sto} {al : List Addr} {ds : List D} {P : KX} {F : KD}
    (I : Inv X pins sg H s) (r : Vals vs us) (o : Okay X.K hd H mu al) (rd : RepL X.K (al ++ hd) H al ds vs) (h : g ds mu P F) (kv : Kv X.K hd H al F Q) (kx : Kx X.K hd (fun c d h => W c d sg h) H al P) : wpAny (model X.prog X.w) X.A (call (.ref (He.ga X.K (cn c))) us) (EP X pins sg Q) X.xe s := by
  obtain ⟨f, sp, fr, M1, ck, M2, M3⟩ := M.ok
  obtain ⟨fd, ps, hn, G, b⟩ := M2.ok
  have hq := mk_in ck (I.hok.fresh (Nat.le_succ _)) (I.hok.fresh (Nat.le_refl s.heap.objs.size)) M3 M2.ar o rd h kv kx
  have I2 := Inv.made (C := He.ga X.K (cn c)) I
  have r2 : Vals (V.ref (s.heap.objs.size + 1) :: vs) (Value.ref (s.heap.objs.size + 1) :: us) := .cons rfl r
  have hl : (Value.ref (s.heap.objs.size + 1) :: us).length = ps.length := by
    have e := r2.length
    rw [← e, hn]
    exact hq.1
  have bb := b _ (Value.ref (s.heap.objs.size + 1) :: us) I2.kIn (by rw [List.append_nil]; exact hl)
  rw [List.append_nil] at bb
  refine wpAny_call (make_map (f := f) I.kIn M1.makes M1.init (beq_iff_eq.mp M1.fn) (codeAny_mono (G.run _ X.stack _ _ ⟨Value.ref (s.heap.objs.size + 1) :: us, []⟩ (Value.ref (s.heap.objs.size + 1) :: us) _ _ (WE W sg) (hr.make _ us []) (I2.env0.make _ us []) bb r2 hq) fun r s' hq' => ?_))
  cases r with
  | error e => exact passAt tk sg pins _ _ e s' I2 hq'
  | ok fl =>
    cases fl with
    | ret u =>
      obtain ⟨v, H', I3, rv, ev, q3⟩ := I2.after hq'
      subst ev
      exact ⟨rv, ⟨V.ref (s.heap.objs.size + 1), H', I3, rfl, q3⟩⟩
    | next => exact False.elim hq'
    | brk => exact False.elim hq'
    | cont => exact False.elim hq'
theorem d_make {k c n : Nat} {g : DSp} {x : Str} {p pos : Pos} {e : Expr} {es : List Expr} {da : DA} (M : MkOk X.prog X.w X.K X.mg X.base k c n g) (hr : Room (k + 1) X.A) (hm : X.mg x = some (.ref (He.ga X.K (cn c)))) (tk : Takes X W) (ha : PA X (e :: es) (liftA X.K W da)) (hg : Gl X x := by rfl)
    (hdb : (x == ("__debug__" : Str)) = false := by decide) (he : starEach (e :: es) X.env = (false, eval e X.env) :: starEach es X.env := by rfl) (hpl : (backTo pos (starEach es X.env)).any (·.1) = false := by rfl) : PE X (.Call (.Name x p) (e :: es) [] pos) (liftE X.K W (dCall g da)) := by
  refine ⟨fun pins s sg H Q I ⟨ga, mu, al, hd, P, F, a, h, kv, kx⟩ => ?_⟩
  have kp : PySem.W.keepIn X.K (.ref (He.ga X.K (cn c))) = true := by
    obtain ⟨f, sp, fr, M1, _⟩ := M.ok
    exact M1.kp
  have h' : liftA X.K W da sg H (fun vs H1 => ∃ ds mu1 al1, Okay X.K hd H1 mu1 al1 ∧ Go hd H al H1 al1 ∧ RepL X.K (al1 ++ hd) H1 al1 ds vs ∧ g ds mu1 P F) := ⟨ga, mu, al, hd, P, _, a, h, ⟨fun ds mu1 vs H1 al1 h1 o1 g1 r1 => ⟨ds, mu1, al1, o1, g1, r1, h1⟩⟩, kx⟩
  refine wpAny_Call_Name_kw (ld_glob I hg hm ?_ hdb)
  refine PySem.W.callWith_K (h₀ := X.base) I.ok.mod.kin kp (thn (ha.run pos pins s sg H _ I h') fun us s1 ⟨vs, H1, I1, r, ds, mu1, al1, o1, g1, r1, h1⟩ => ⟨I1.kIn, ?_⟩) he hpl
  exact run_mk M hr tk I1 r o1 r1 h1 (kv.to g1) (kx.to g1)
theorem d_make0 {k c n : Nat} {g : DSp} {x : Str} {p pos : Pos} (M : MkOk X.prog X.w X.K X.mg X.base k c n g) (hr : Room (k + 1) X.A) (hm : X.mg x = some (.ref (He.ga X.K (cn c)))) (tk : Takes X W) (hg : Gl X x := by rfl)
    (hdb : (x == ("__debug__" : Str)) = false := by decide) : PE X (.Call (.Name x p) [] [] pos) (liftE X.K W (dCall g dNil)) := by
  refine ⟨fun pins s sg H Q I ⟨ga, mu, al, hd, P, F, a, h, kv, kx⟩ => ?_⟩
  have kp : PySem.W.keepIn X.K (.ref (He.ga X.K (cn c))) = true := by
    obtain ⟨f, sp, fr, M1, _⟩ := M.ok
    exact M1.kp
  refine wpAny_Call_Name_kw (ld_glob I hg hm ?_ hdb)
  exact PySem.W.callWith_K0 I.kIn kp (run_mk (us := []) M hr tk I .nil a.ok .nil h kv kx)
end
/-! ### statements -/
structure DEnds where
  nx : Gam → Sto → Prop
  rt : KD
  ex : KX
  bk : Gam → Sto → Prop := fun _ _ => False
  ct : Gam → Sto → Prop := fun _ _ => False
abbrev DS := DEnds → Gam → Sto → Prop
/-- what follows a block: from a state over al -/
def Kn (K : PySem.W.Frag) (hd : List Addr) (H : Hp) (al : List Addr) (N : Gam → Sto → Prop) (Q : L2.St → Hp → Prop) : Prop := ∀ ga mu sg H' al', N ga mu → At K hd ga mu al' sg H' → Go hd H al H' al' → Q sg H'
structure KE (K : PySem.W.Frag) (hd : List Addr) (W : WX) (H : Hp) (al : List Addr) (E : DEnds) (Q : Ends) : Prop where
  nx : Kn K hd H al E.nx Q.nx
  rt : Kv K hd H al E.rt Q.rt
  ex : ∀ sg, Kx K hd (fun c d h => W c d sg h) H al E.ex
  bk : Kn K hd H al E.bk Q.bk
  ct : Kn K hd H al E.ct Q.ct
def liftS (K : PySem.W.Frag) (W : WX) (ds : DS) : TS := fun Q sg H => ∃ (ga : Gam) (mu : Sto) (al hd : List Addr) (E : DEnds), At K hd ga mu al sg H ∧ ds E ga mu ∧ KE K hd W H al E Q
section
variable {K : PySem.W.Frag} {hd : List Addr} {W : WX} {H H1 : Hp} {al al1 : List Addr}
theorem Kn.to {N : Gam → Sto → Prop} {Q : L2.St → Hp → Prop} (k : Kn K hd H al N Q) (g : Go hd H al H1 al1) : Kn K hd H1 al1 N Q := fun ga mu sg H' al' h a g' => k ga mu sg H' al' h a (g.trans g')
theorem KE.to {E : DEnds} {Q : Ends} (k : KE K hd W H al E Q) (g : Go hd H al H1 al1) : KE K hd W H1 al1 E Q := ⟨k.nx.to g, k.rt.to g, fun sg => (k.ex sg).to g, k.bk.to g, k.ct.to g⟩
end
section
variable {X : Cx} {W : WX}
theorem ps_wk {s : Stmt} {t t' : TS} (h : PS X s t) (k : ∀ Q sg H, t' Q sg H → t Q sg H) : PS X s t' := ⟨fun pins s sg H D I q => h.run pins s sg H D I (k _ _ _ q)⟩
theorem pss_wk {s : List Stmt} {t t' : TS} (h : PSs X s t) (k : ∀ Q sg H, t' Q sg H → t Q sg H) : PSs X s t' := ⟨fun pins s sg H D I q => h.run pins s sg H D I (k _ _ _ q)⟩
def dNext : DS := fun E ga mu => E.nx ga mu
def dSeq (t u : DS) : DS := fun E ga mu => t { E with nx := fun ga' mu' => u E ga' mu' } ga mu
theorem ds_nil : PSs X [] (liftS X.K W dNext) := pss_wk pss_nil fun Q sg H ⟨ga, mu, al, hd, E, a, h, k⟩ => k.nx _ _ _ _ _ h a (Go.refl _ _)
theorem ds_cons {s : Stmt} {r : List Stmt} {t u : DS} (h1 : PS X s (liftS X.K W t)) (h2 : PSs X r (liftS X.K W u)) : PSs X (s :: r) (liftS X.K W (dSeq t u)) :=
  pss_wk (pss_cons h1 h2) fun Q sg H ⟨ga, mu, al, hd, E, a, h, k⟩ => ⟨ga, mu, al, hd, _, a, h, ⟨fun ga' mu' sg' H' al' h' a' g' => ⟨ga', mu', al', hd, E, a', h', k.to g'⟩, k.rt, k.ex, k.bk, k.ct⟩⟩
theorem ds_one {s : Stmt} {t : DS} (h1 : PS X s (liftS X.K W t)) : PSs X [s] (liftS X.K W t) := pss_one h1
def dRet (de : DE) : DS := fun E ga mu => de ga mu E.ex E.rt
theorem ds_ret {e : Expr} {de : DE} {pos : Pos} (h : PE X e (liftE X.K W de)) : PS X (.Return (some e) pos) (liftS X.K W (dRet de)) :=
  ps_wk (ps_ret h) fun Q sg H ⟨ga, mu, al, hd, E, a, h, k⟩ => ⟨ga, mu, al, hd, E.ex, E.rt, a, h, k.rt, k.ex sg⟩
def dRetN : DS := fun E ga mu => E.rt .non mu
theorem ds_retN {pos : Pos} : PS X (.Return none pos) (liftS X.K W dRetN) := ps_wk ps_retN fun Q sg H ⟨ga, mu, al, hd, E, a, h, k⟩ => k.rt.now a.ok h .non
def dDrop (de : DE) : DS := fun E ga mu => de ga mu E.ex fun _ mu1 => E.nx ga mu1
theorem ds_expr {e : Expr} {de : DE} {pos : Pos} (h : PE X e (liftE X.K W de)) (hs : swapsWith e none pos.line X.env = pure false := by rfl) : PS X (.Expr e pos) (liftS X.K W (dDrop de)) :=
  ps_wk (ps_expr h hs) fun Q sg H ⟨ga, mu, al, hd, E, a, h, k⟩ => ⟨ga, mu, al, hd, E.ex, _, a, h, ⟨fun d mu1 v H1 al1 h1 o1 g1 r1 => k.nx _ _ _ _ _ h1 (a.to o1 g1) g1⟩, k.ex sg⟩
def dIfS (t : DB) (u v : DS) : DS := fun E ga mu => t ga mu E.ex fun b mu1 => if b = true then u E ga mu1 else v E ga mu1
theorem ds_if {c : Expr} {p q : List Stmt} {t : DB} {u v : DS} {pos : Pos} (h : PT X c (liftB X.K W t)) (hp : PSs X p (liftS X.K W u)) (hq : PSs X q (liftS X.K W v)) : PS X (.If c p q pos) (liftS X.K W (dIfS t u v)) :=
  ps_wk (ps_if h hp hq) fun Q sg H ⟨ga, mu, al, hd, E, a, h, k⟩ => ⟨ga, mu, al, hd, E.ex, _, a, h, ⟨fun b mu1 H1 al1 h1 o1 g1 => by
    cases b with
    | true => exact ⟨ga, mu1, al1, hd, E, a.to o1 g1, h1, k.to g1⟩
    | false => exact ⟨ga, mu1, al1, hd, E, a.to o1 g1, h1, k.to g1⟩⟩, k.ex sg⟩
theorem ds_pass {pos : Pos} : PS X (.Pass pos) (liftS X.K W dNext) := ps_wk ps_pass fun Q sg H ⟨ga, mu, al, hd, E, a, h, k⟩ => k.nx _ _ _ _ _ h a (Go.refl _ _)
def dBrk : DS := fun E ga mu => E.bk ga mu
theorem ds_brk {pos : Pos} : PS X (.Break pos) (liftS X.K W dBrk) := ps_wk ps_break fun Q sg H ⟨ga, mu, al, hd, E, a, h, k⟩ => k.bk _ _ _ _ _ h a (Go.refl _ _)
/-! ### targets -/
abbrev DG := D → Gam → Sto → KX → (Gam → Sto → Prop) → Prop
def liftG (K : PySem.W.Frag) (W : WX) (g : DG) : TG := fun v sg H Q => ∃ (d : D) (ga : Gam) (mu : Sto) (al hd : List Addr) (P : KX) (N : Gam → Sto → Prop), At K hd ga mu al sg H ∧ Rep K (al ++ hd) H al d v ∧ g d ga mu P N ∧ Kn K hd H al N Q ∧ ∀ sg, Kx K hd (fun c d h => W c d sg h) H al P
theorem pg_wk {e : Expr} {t t' : TG} (h : PG X e t) (k : ∀ v sg H Q, t' v sg H Q → t v sg H Q) : PG X e t' := ⟨fun pins s sg H v u Q I r q => h.run pins s sg H v u Q I r (k _ _ _ _ q)⟩
def dName (i : Nat) : DG := fun d ga mu _ N => N (ga.set i (some d)) mu
theorem dg_name (i : Nat) {x : Str} {pos : Pos} (hN : X.N.Nodup) (hi : X.N[i]? = some x := by rfl) (hx : Loc X.env.scope x := by first | exact .inl rfl | exact .inr rfl) (hf : X.fn x = true ∨ X.env.scope.names.lookup x = some .local := by first | exact .inl rfl | exact .inr rfl | assumption) : PG X (.Name x pos) (liftG X.K W (dName i)) :=
  pg_wk (pg_name hN hi hx hf) fun v sg H Q ⟨d, ga, mu, al, hd, P, N, a, r, h, k, kx⟩ => k _ _ _ _ _ h ⟨a.ok, a.sl.set i r⟩ (Go.refl _ _)
def dAsg (de : DE) (g : DG) : DS := fun E ga mu => de ga mu E.ex fun x mu1 => g x ga mu1 E.ex E.nx
theorem ds_asg {tg e : Expr} {de : DE} {g : DG} {pos : Pos} (he : PE X e (liftE X.K W de)) (hg : PG X tg (liftG X.K W g)) (hs : swapsWithSole [tg] e pos.line X.env = pure false := by rfl) (hw : swappedStores [tg] e X.env = pure none := by rfl) (h1 : (assignEach [tg] X.env).map (·.2) = [assign tg X.env] := by rfl) : PS X (.Assign [tg] e pos) (liftS X.K W (dAsg de g)) :=
  ps_wk (ps_asg he hg hs hw h1) fun Q sg H ⟨ga, mu, al, hd, E, a, h, k⟩ => ⟨ga, mu, al, hd, E.ex, _, a, h, ⟨fun d mu1 v H1 al1 h1 o1 g1 r1 => ⟨d, ga, mu1, al1, hd, E.ex, E.nx, a.to o1 g1, r1, h1, k.nx.to g1, fun sg => (k.ex sg).to g1⟩⟩, k.ex sg⟩
def dSet (i : Nat) (de : DE) : DS := fun E ga mu => de ga mu E.ex fun d mu1 => E.nx (ga.set i (some d)) mu1
theorem ds_set (i : Nat) {x : Str} {e : Expr} {de : DE} {pos pos' : Pos} (hN : X.N.Nodup) (he : PE X e (liftE X.K W de)) (hi : X.N[i]? = some x := by rfl) (hx : Loc X.env.scope x := by first | exact .inl rfl | exact .inr rfl) (hs : swapsWith e (some (.Name x pos')) pos.line X.env = pure false := by rfl) (hf : X.fn x = true ∨ X.env.scope.names.lookup x = some .local := by first | exact .inl rfl | exact .inr rfl | assumption) :
    PS X (.Assign [.Name x pos'] e pos) (liftS X.K W (dSet i de)) :=
  ps_wk (ps_set hN hi hx he hs hf) fun Q sg H ⟨ga, mu, al, hd, E, a, h, k⟩ => ⟨ga, mu, al, hd, E.ex, _, a, h, ⟨fun d mu1 v H1 al1 h1 o1 g1 r1 => k.nx _ _ _ _ _ h1 ⟨o1, (a.sl.go g1).set i r1⟩ g1⟩, k.ex sg⟩
end
end DL

/-! part DL7 -/
/-! DL7: targets, loops, comprehensions, a def's promise by its body. -/
namespace DL
open PySem PySem.Spec PyProof.Rows L2
section
variable {X : Cx} {W : WX}
/-! ### targets -/
abbrev DGs := List D → Gam → Sto → KX → (Gam → Sto → Prop) → Prop
def liftGs (K : PySem.W.Frag) (W : WX) (g : DGs) : TGs := fun vs sg H Q => ∃ (ds : List D) (ga : Gam) (mu : Sto) (al hd : List Addr) (P : KX) (N : Gam → Sto → Prop), At K hd ga mu al sg H ∧ RepL K (al ++ hd) H [] ds vs ∧ g ds ga mu P N ∧ Kn K hd H al N Q ∧ ∀ sg, Kx K hd (fun c d h => W c d sg h) H al P
theorem pgs_wk {e : List Expr} {t t' : TGs} (h : PGs X e t) (k : ∀ v sg H Q, t' v sg H Q → t v sg H Q) : PGs X e t' := ⟨fun pins s sg H vs us Q I r q => h.run pins s sg H vs us Q I r (k _ _ _ _ q)⟩
def gsNil : DGs := fun ds ga mu _ N => match ds with
  | [] => N ga mu
  | _ => False
def gsCons (g : DG) (h : DGs) : DGs := fun ds ga mu P N => match ds with
  | d :: ds => g d ga mu P fun ga1 mu1 => h ds ga1 mu1 P N
  | [] => False
theorem dgs_nil : PGs X [] (liftGs X.K W gsNil) := pgs_wk pgs_nil fun v sg H Q ⟨ds, ga, mu, al, hd, P, N, a, r, h, k, kx⟩ => by
  cases r with
  | nil => exact ⟨rfl, k _ _ _ _ _ h a (Go.refl _ _)⟩
  | cons _ _ => exact h.elim
theorem dgs_cons {e : Expr} {es : List Expr} {g : DG} {h : DGs} (h1 : PG X e (liftG X.K W g)) (h2 : PGs X es (liftGs X.K W h)) (hs : (assignEach (e :: es) X.env).map (·.2) = assign e X.env :: (assignEach es X.env).map (·.2) := by rfl) : PGs X (e :: es) (liftGs X.K W (gsCons g h)) :=
  pgs_wk (pgs_cons h1 h2 hs) fun v sg H Q ⟨ds, ga, mu, al, hd, P, N, a, r, h, k, kx⟩ => by
    cases r with
    | nil => exact h.elim
    | cons r1 r2 =>
      exact ⟨_, _, rfl, _, ga, mu, al, hd, P, _, a, r1.fz (Fz.refl _ _) (Pre.nil _), h, fun ga1 mu1 sg1 H1 al1 h1 a1 g1 => ⟨_, ga1, mu1, al1, hd, P, N, a1, r2.go g1 (Pre.refl _), h1, k.to g1, fun sg => (kx sg).to g1⟩, kx⟩
def dTupG (n : Nat) (g : DGs) : DG := fun d ga mu P N => match tv d with
  | some l => l.length = n ∧ g l ga mu P N
  | none => False
theorem dg_tup {es : List Expr} {k n : Nat} {g : DGs} {pos : Pos} (hc : X.calm = true) (h : PGs X es (liftGs X.K W g)) (hn : (assignEach es X.env).length = n := by rfl) (hst : (assignEach es X.env).findIdx? (·.1) = none := by rfl) : PG X (.Tuple es k pos) (liftG X.K W (dTupG n g)) :=
  pg_wk (pg_tup hc h hn hst) fun v sg H Q ⟨d, ga, mu, al, hd, P, N, a, r, h, k, kx⟩ => by
    unfold dTupG at h
    cases q : tv d with
    | none => simp only [q] at h
    | some l =>
      simp only [q] at h
      obtain ⟨p, xs, rfl, n1, e1, s1⟩ := r.tv q
      exact ⟨p, xs, rfl, .inl (.inl e1), s1.len.symm.trans h.1, l, ga, mu, al, hd, P, N, a, s1, h.2, k, kx⟩
/-- o[i] = e, o a cell -/
def dSub (do_ di : DE) : DG := fun d ga mu P N => do_ ga mu P fun x mu1 => di ga mu1 P fun y mu2 => match x, y with
  | .ptr n, .int i => (match mu2[n]? with
    | some (.lst l) => np d ∧ ∃ j, ixN l.length i = some j ∧ N ga (mu2.set n (.lst (l.set j d)))
    | some (.lsp l) => ∃ j, ixN l.length i = some j ∧ N ga (mu2.set n (.lsp (l.set j d)))
    | _ => False)
  | _, _ => False
theorem dg_sub {o i : Expr} {do_ di : DE} {pos : Pos} (ho : PE X o (liftE X.K W do_)) (hi : PE X i (liftE X.K W di)) (ha : ∀ v, assign (.Subscript o i pos) X.env v = (do
      let ov ← holding [v] (eval o X.env)
      let iv ← holding [v, ov] (eval i X.env)
      standAt pos
      holding [v, ov, iv] (setItem ov iv v)
      release [v, ov, iv] []) := by intro _; rfl) : PG X (.Subscript o i pos) (liftG X.K W (dSub do_ di)) := by
  refine pg_wk (pg_sub ho hi set_list ha) fun v sg H Q ⟨d, ga, mu, al, hd, P, N, a, r, h, k, kx⟩ => ?_
  refine ⟨ga, mu, al, hd, P, _, a, h, ⟨fun x mu1 xv H1 al1 h1 o1 g1 r1 => ⟨ga, mu1, al1, hd, P, _, a.to o1 g1, h1, ⟨fun y mu2 yv H2 al2 h2 o2 g2 r2 => ?_⟩, (kx sg).to g1⟩⟩, kx sg⟩
  have g12 := g1.trans g2
  have rd := r.go g12 g12.pre
  have rx := r1.go g2 g2.pre
  cases x <;> try exact h2.elim
  cases y <;> try exact h2.elim
  rename_i n i
  cases rx with
  | ptr e =>
    rename_i p
    have h3 : (match mu2[n]? with
      | some (.lst l) => np d ∧ ∃ j, ixN l.length i = some j ∧ N ga (mu2.set n (.lst (l.set j d)))
      | some (.lsp l) => ∃ j, ixN l.length i = some j ∧ N ga (mu2.set n (.lsp (l.set j d)))
      | _ => False) := h2
    cases q : mu2[n]? with
    | none => simp only [q] at h3
    | some mo =>
      simp only [q] at h3
      cases mo with
      | lst l =>
        obtain ⟨hnp, j, hj, h4⟩ := h3
        obtain ⟨xs, e1, s1⟩ := o2.at_ n _ p q e
        have gw := Go.write (hd := hd) (H' := upd H2 p (.lst (xs.set j v))) o2 e fun b hb => upd_ne hb
        refine ⟨p, xs, i, j, rfl, r2.int_, e1, by rw [← s1.len]; exact hj, ?_⟩
        exact k _ _ _ _ _ h4 ⟨o2.write e (fun b hb => upd_ne hb) ⟨_, upd_same, RepL.set ((rd.np hnp).go gw (Pre.refl _)) j (s1.go gw (Pre.refl _))⟩, a.sl.go (g12.trans gw)⟩ (g12.trans gw)
      | lsp l =>
        obtain ⟨j, hj, h4⟩ := h3
        obtain ⟨xs, e1, s1⟩ := o2.at_ n _ p q e
        have gw := Go.write (hd := hd) (H' := upd H2 p (.lst (xs.set j v))) o2 e fun b hb => upd_ne hb
        refine ⟨p, xs, i, j, rfl, r2.int_, e1, by rw [← s1.len]; exact hj, ?_⟩
        exact k _ _ _ _ _ h4 ⟨o2.write e (fun b hb => upd_ne hb) ⟨_, upd_same, RepL.set (rd.go gw gw.pre) j (s1.go gw gw.pre)⟩, a.sl.go (g12.trans gw)⟩ (g12.trans gw)
      | _ => exact h3.elim
/-- o.f = e, o an instance that is a cell; the field is there, or it is the next one -/
def dPut (ix : Nat → Option Nat) (do_ de : DE) : DS := fun E ga mu => de ga mu E.ex fun y mu1 => do_ ga mu1 E.ex fun x mu2 => match x with
  | .ptr n => (match mu2[n]? with
    | some (.ins c l) => (match ix c with
      | some k => if k = l.length then E.nx ga (mu2.set n (.ins c (l ++ [y]))) else k < l.length ∧ E.nx ga (mu2.set n (.ins c (l.set k y)))
      | none => False)
    | _ => False)
  | _ => False
theorem putF_zip : ∀ {ns : List Str} {xs : List V} {f : Str} {v : V} {k : Nat}, ns.Nodup → ns[k]? = some f → k < xs.length → putF f v (ns.zip xs) = ns.zip (xs.set k v)
  | [], _, _, _, k, _, h, _ => by simp at h
  | _ :: _, [], _, _, k, _, _, h => by simp at h
  | n :: ns, x :: xs, f, v, 0, hn, h, _ => by
    simp at h
    subst h
    rw [List.zip_cons_cons, List.set_cons_zero, List.zip_cons_cons]
    show (if n = n then (n, v) :: ns.zip xs else (n, x) :: putF n v (ns.zip xs)) = _
    rw [if_pos rfl]
  | n :: ns, x :: xs, f, v, k + 1, hn, h, hk => by
    have h' : ns[k]? = some f := by simpa using h
    have hne : ¬ n = f := fun z => by
      subst z
      exact (List.nodup_cons.mp hn).1 (List.mem_of_getElem? h')
    rw [List.zip_cons_cons, List.set_cons_succ, List.zip_cons_cons]
    show (if n = f then (n, v) :: ns.zip xs else (n, x) :: putF f v (ns.zip xs)) = _
    rw [if_neg hne, putF_zip (List.nodup_cons.mp hn).2 h' (by simpa using hk)]
theorem putF_zip_new : ∀ {ns : List Str} {xs : List V} {f : Str} {v : V}, ns.Nodup → ns[xs.length]? = some f → putF f v (ns.zip xs) = ns.zip (xs ++ [v])
  | [], xs, _, _, _, h => by simp at h
  | n :: ns, [], f, v, hn, h => by
    simp at h
    subst h
    cases ns <;> rfl
  | n :: ns, x :: xs, f, v, hn, h => by
    have h' : ns[xs.length]? = some f := by simpa using h
    have hne : ¬ n = f := fun z => by
      subst z
      exact (List.nodup_cons.mp hn).1 (List.mem_of_getElem? h')
    rw [List.zip_cons_cons, List.cons_append, List.zip_cons_cons]
    show (if n = f then (n, v) :: ns.zip xs else (n, x) :: putF f v (ns.zip xs)) = _
    rw [if_neg hne, putF_zip_new (List.nodup_cons.mp hn).2 h']
theorem fn_len : ∀ c, (fn c).length < 1000
  | 0 | 1 | 2 | 3 | 4 | 5 | 6 | 7 | 8 | 9 | 10 | 11 | 12 | 13 | 14 | 15 | 16 | 17 => by decide
  | n + 18 => by show (0 : Nat) < 1000; decide
theorem ds_fld {ix : Nat → Option Nat} {o e : Expr} {f : Str} {do_ de : DE} {pos pos' : Pos} (T : FldT f ix) (ho : PE X o (liftE X.K W do_)) (he : PE X e (liftE X.K W de)) (hs : swapsWith e (some (.Attribute o f pos')) pos.line X.env = pure false := by rfl) : PS X (.Assign [.Attribute o f pos'] e pos) (liftS X.K W (dPut ix do_ de)) := by
  refine ps_wk (ps_fld ho he hs) fun Q sg H ⟨ga, mu, al, hd, E, a, h, k⟩ => ?_
  refine ⟨ga, mu, al, hd, E.ex, _, a, h, ⟨fun y mu1 yv H1 al1 h1 o1 g1 r1 => ⟨ga, mu1, al1, hd, E.ex, _, a.to o1 g1, h1, ⟨fun x mu2 xv H2 al2 h2 o2 g2 r2 => ?_⟩, (k.ex sg).to g1⟩⟩, k.ex sg⟩
  have g12 := g1.trans g2
  have ry := r1.go g2 g2.pre
  cases r2 with
  | ptr e =>
    rename_i n p
    have h3 : (match mu2[n]? with
      | some (.ins c l) => (match ix c with
        | some k => if k = l.length then E.nx ga (mu2.set n (.ins c (l ++ [y]))) else k < l.length ∧ E.nx ga (mu2.set n (.ins c (l.set k y)))
        | none => False)
      | _ => False) := h2
    cases q : mu2[n]? with
    | none => simp only [q] at h3
    | some mo =>
      simp only [q] at h3
      cases mo with
      | ins c l =>
        dsimp only at h3
        cases q2 : ix c with
        | none => simp only [q2] at h3
        | some j =>
          simp only [q2] at h3
          obtain ⟨t3, t4⟩ := T.ok c j q2
          obtain ⟨dx, xs, e1, s1, z1, ck⟩ := o2.at_ n _ p q e
          have t1 := ck.1
          have t2 := ck.2 f (List.mem_of_getElem? t3)
          refine ⟨p, _, dx, _, rfl, e1, t1, t2, ?_, ?_⟩
          · have e := fn_len c
            have e' : (fz c xs).length ≤ (fn c).length := by
              unfold fz
              rw [List.length_zip]
              exact Nat.min_le_left _ _
            omega
          have gw := fun (ys : List V) => Go.write (hd := hd) (H' := upd H2 p (.ins (He.ga X.K (cn c)) dx (fz c ys))) o2 e fun b hb => upd_ne hb
          by_cases hj : j = l.length
          · rw [if_pos hj] at h3
            have e2 : putF f yv (fz c xs) = fz c (xs ++ [yv]) := putF_zip_new t4 (by rw [← s1.len, ← hj]; exact t3)
            rw [e2]
            refine k.nx _ _ _ _ _ h3 ⟨o2.write e (fun b hb => upd_ne hb) ⟨dx, _, upd_same, (s1.go (gw _) (gw (xs ++ [yv])).pre).append (.one (ry.go (gw _) (gw (xs ++ [yv])).pre)), ?_, ck⟩, a.sl.go (g12.trans (gw _))⟩ (g12.trans (gw _))
            rw [List.length_append, ← hj]
            exact (List.getElem?_eq_some_iff.mp t3).1
          · rw [if_neg hj] at h3
            have e2 : putF f yv (fz c xs) = fz c (xs.set j yv) := putF_zip t4 t3 (by rw [← s1.len]; exact h3.1)
            rw [e2]
            refine k.nx _ _ _ _ _ h3.2 ⟨o2.write e (fun b hb => upd_ne hb) ⟨dx, _, upd_same, RepL.set (ry.go (gw _) (gw (xs.set j yv)).pre) j (s1.go (gw _) (gw (xs.set j yv)).pre), ?_, ck⟩, a.sl.go (g12.trans (gw _))⟩ (g12.trans (gw _))
            rw [List.length_set]
            exact z1
      | _ => exact h3.elim
  | _ => exact h2.elim
end
end DL

/-! part DL8 -/
/-! DL8: what is walked, loops, comprehensions, a def's promise by its body. -/
namespace DL
open PySem PySem.Spec PyProof.Rows L2
/-- J walks the items ds, while ok holds of the store -/
structure WkOk (K : PySem.W.Frag) (J : It) (ds : List D) (ok : Sto → Prop) (hd0 : List Addr) (H0 : Hp) (al0 : List Addr) : Prop where
  stop : ∀ hd H mu al, Fz H0 (al0 ++ hd0) H (al ++ hd) → Pre al0 al → Okay K hd H mu al → ok mu → J.stop ds.length H
  go : ∀ hd H mu al i, Fz H0 (al0 ++ hd0) H (al ++ hd) → Pre al0 al → Okay K hd H mu al → ok mu → i < ds.length → J.go i H
  yld : ∀ hd H mu al i x H', Fz H0 (al0 ++ hd0) H (al ++ hd) → Pre al0 al → Okay K hd H mu al → ok mu → i < ds.length → J.yld i H x H' →
    ∃ d, ds[i]? = some d ∧ Okay K hd H' mu al ∧ Go hd H al H' al ∧ Rep K (al ++ hd) H' al d x
abbrev DI := Gam → Sto → KX → (List D → (Sto → Prop) → Sto → Prop) → Prop
def liftI (K : PySem.W.Frag) (W : WX) (di : DI) : TI := fun sg H R => ∃ (ga : Gam) (mu : Sto) (al hd : List Addr) (P : KX) (F : List D → (Sto → Prop) → Sto → Prop), At K hd ga mu al sg H ∧ di ga mu P F ∧
  (∀ ds ok mu' J H' al', F ds ok mu' → Okay K hd H' mu' al' → Go hd H al H' al' → WkOk K J ds ok hd H' al' → R J H') ∧ Kx K hd (fun c d h => W c d sg h) H al P
section
variable {X : Cx} {W : WX}
theorem pi_wk {tg e : Expr} {t t' : TI} (h : PI X tg e t) (k : ∀ sg H R, t' sg H R → t sg H R) : PI X tg e t' := ⟨fun pins s sg H R I q => h.run pins s sg H R I (k _ _ _ q)⟩
theorem pi_orr {tg e : Expr} {t t' : TI} (h : PI X tg e t) (h' : PI X tg e t') : PI X tg e (fun sg H R => t sg H R ∨ t' sg H R) := ⟨fun pins s sg H R I q => q.elim (h.run pins s sg H R I) (h'.run pins s sg H R I)⟩
/-- what a list or tuple is at each turn -/
def okS (x : D) (l : List D) : Sto → Prop := fun mu => pv_ mu x = some l
theorem at_list {K : PySem.W.Frag} {hd hd0 : List Addr} {H H0 : Hp} {mu : Sto} {al al0 : List Addr} {x : D} {p : Addr} {l : List D} (r : Rep K (al0 ++ hd0) H0 al0 x (.ref p)) (g : Fz H0 (al0 ++ hd0) H (al ++ hd)) (pr : Pre al0 al) (o : Okay K hd H mu al) (h : okS x l mu) :
    (∃ xs, (SqL K H p xs ∨ SqT K H p xs) ∧ RepL K (al ++ hd) H al l xs) := by
  obtain ⟨q, xs, e, s, r2⟩ := Rep.pv_ o (r.fz g pr) h
  cases e
  exact ⟨xs, s, r2⟩
theorem seqKind {K : PySem.W.Frag} {x : D} {l : List D} {hd hd0 : List Addr} {H H0 : Hp} {mu : Sto} {al al0 : List Addr} {p : Addr} (r : Rep K (al0 ++ hd0) H0 al0 x (.ref p)) (g : Fz H0 (al0 ++ hd0) H (al ++ hd)) (pr : Pre al0 al) (o : Okay K hd H mu al) (h : okS x l mu) :
    (∃ t, x = .tup t) ∧ (∃ xs, SqT K H p xs ∧ RepL K (al ++ hd) H al l xs) ∨ (∀ t, x ≠ .tup t) ∧ ∃ xs, SqL K H p xs ∧ RepL K (al ++ hd) H al l xs := by
  have r' := r.fz g pr
  cases r' with
  | tup z r1 =>
    cases h
    exact .inl ⟨⟨_, rfl⟩, _, z.sq, r1.fz (Fz.refl _ _) (Pre.nil _)⟩
  | lst z r1 =>
    cases h
    exact .inr ⟨(fun t e => nomatch e), _, z.sq, r1.fz (Fz.refl _ _) (Pre.nil _)⟩
  | ptr e =>
    rename_i j
    refine .inr ⟨(fun t e => nomatch e), ?_⟩
    unfold okS DL.pv_ at h
    dsimp only at h
    cases q : mu[j]? with
    | none =>
      rw [q] at h
      cases h
    | some mo =>
      rw [q] at h
      cases mo with
      | lst l =>
        cases h
        obtain ⟨xs, e1, r⟩ := o.at_ j _ _ q e
        exact ⟨xs, .inl (.inl e1), r.fz (Fz.refl _ _) (Pre.nil _)⟩
      | lsp l =>
        cases h
        obtain ⟨xs, e1, r⟩ := o.at_ j _ _ q e
        exact ⟨xs, .inl (.inl e1), r⟩
      | _ => cases h
  | _ => cases h
/-- for x in a list | in a tuple -/
def iSeq (de : DE) : DI := fun ga mu P F => de ga mu P fun x mu1 => ∃ l, pv_ mu1 x = some l ∧ F l (okS x l) mu1
theorem wk_list {K : PySem.W.Frag} {hd0 : List Addr} {H0 : Hp} {al0 : List Addr} {x : D} {p : Addr} {l : List D} (r : Rep K (al0 ++ hd0) H0 al0 x (.ref p)) (hx : ∀ t, x ≠ .tup t) : WkOk K (Itl K p) l (okS x l) hd0 H0 al0 := by
  have key : ∀ hd H mu al, Fz H0 (al0 ++ hd0) H (al ++ hd) → Pre al0 al → Okay K hd H mu al → okS x l mu → ∃ xs, SqL K H p xs ∧ RepL K (al ++ hd) H al l xs := fun hd H mu al g pr o h => by
    rcases seqKind r g pr o h with ⟨⟨t, e⟩, _⟩ | ⟨_, q⟩
    · exact (hx t e).elim
    · exact q
  refine ⟨fun hd H mu al g pr o h => ?_, fun hd H mu al i g pr o h hi => ?_, fun hd H mu al i v H' g pr o h hi y => ?_⟩
  · obtain ⟨xs, s, r1⟩ := key hd H mu al g pr o h
    exact ⟨xs, s, by rw [r1.len]; exact Nat.le_refl _⟩
  · obtain ⟨xs, s, r1⟩ := key hd H mu al g pr o h
    rw [r1.len] at hi
    exact ⟨xs, xs[i], s, List.getElem?_eq_getElem hi⟩
  · obtain ⟨xs, s, r1⟩ := key hd H mu al g pr o h
    obtain ⟨e, q⟩ := y
    subst e
    obtain ⟨d, e1, r2⟩ := r1.get (q xs s)
    exact ⟨d, e1, o, Go.refl _ _, r2⟩
theorem wk_tup {K : PySem.W.Frag} {hd0 : List Addr} {H0 : Hp} {al0 : List Addr} {x : D} {p : Addr} {l : List D} (r : Rep K (al0 ++ hd0) H0 al0 x (.ref p)) (hx : ∃ t, x = .tup t) : WkOk K (Itt K p) l (okS x l) hd0 H0 al0 := by
  have key : ∀ hd H mu al, Fz H0 (al0 ++ hd0) H (al ++ hd) → Pre al0 al → Okay K hd H mu al → okS x l mu → ∃ xs, SqT K H p xs ∧ RepL K (al ++ hd) H al l xs := fun hd H mu al g pr o h => by
    rcases seqKind r g pr o h with ⟨_, q⟩ | ⟨hn, _⟩
    · exact q
    · obtain ⟨t, e⟩ := hx
      exact (hn t e).elim
  refine ⟨fun hd H mu al g pr o h => ?_, fun hd H mu al i g pr o h hi => ?_, fun hd H mu al i v H' g pr o h hi y => ?_⟩
  · obtain ⟨xs, s, r1⟩ := key hd H mu al g pr o h
    exact ⟨xs, s, by rw [r1.len]; exact Nat.le_refl _⟩
  · obtain ⟨xs, s, r1⟩ := key hd H mu al g pr o h
    rw [r1.len] at hi
    exact ⟨xs, xs[i], s, List.getElem?_eq_getElem hi⟩
  · obtain ⟨xs, s, r1⟩ := key hd H mu al g pr o h
    obtain ⟨e, q⟩ := y
    subst e
    obtain ⟨d, e1, r2⟩ := r1.get (q xs s)
    exact ⟨d, e1, o, Go.refl _ _, r2⟩
theorem pi_seqV {tg e : Expr} {te : TE} (h : PE X e te) : PI X tg e (fun sg H R => te sg H fun x H1 => ∃ a, x = .ref a ∧ ((∃ xs, SqL X.K H1 a xs) ∧ R (Itl X.K a) H1 ∨ (∃ xs, SqT X.K H1 a xs) ∧ R (Itt X.K a) H1)) := by
  refine ⟨fun pins s sg H R I q => ?_⟩
  refine thn (h.run pins s sg H _ I q) fun v s1 ⟨x, H1, I1, r1, a, e, q1⟩ => ?_
  subst e
  cases r1
  rcases q1 with ⟨⟨xs, hq⟩, q1⟩ | ⟨⟨xs, hq⟩, q1⟩
  · obtain ⟨its, rv, p, hz⟩ := I1.list hq
    refine wpAny_pyIter_list p.isList ?_
    refine ⟨s1.heap.objs.size, [s1.heap.objs.size], _, _, H1, rfl, I1.kept (t' := s1.toks) fun b o e => Heap.get?_push_of_some _ e, turn_list a _, ⟨_, Heap.get?_push_size _ rfl, rfl, rfl⟩, fun b hb => ?_, q1⟩
    have e : b = s1.heap.objs.size := by simpa using hb
    subst e
    exact I1.fpOk (Nat.le_refl _) (I1.hok.fresh (Nat.le_refl _))
  · obtain ⟨its, rv, p, hz⟩ := I1.tuple hq
    refine wpAny_pyIter_tuple (show s1.heap.IsTuple a its.toArray from p) ?_
    refine ⟨s1.heap.objs.size, [s1.heap.objs.size], _, _, H1, rfl, I1.kept (t' := s1.toks) fun b o e => Heap.get?_push_of_some _ e, turn_tuple a _, ⟨_, Heap.get?_push_size _ rfl, rfl, rfl⟩, fun b hb => ?_, q1⟩
    have e : b = s1.heap.objs.size := by simpa using hb
    subst e
    exact I1.fpOk (Nat.le_refl _) (I1.hok.fresh (Nat.le_refl _))
theorem di_seq {tg e : Expr} {de : DE} (h : PE X e (liftE X.K W de)) : PI X tg e (liftI X.K W (iSeq de)) := by
  refine pi_wk (pi_seqV h) fun sg H R ⟨ga, mu, al, hd, P, F, a, h, k, kx⟩ => ?_
  refine ⟨ga, mu, al, hd, P, _, a, h, ⟨fun d mu1 v H1 al1 h1 o1 g1 r1 => ?_⟩, kx⟩
  obtain ⟨l, e1, h2⟩ := h1
  obtain ⟨p, xs, rfl, s, r2⟩ := r1.pv_ o1 e1
  refine ⟨p, rfl, ?_⟩
  rcases seqKind (hd0 := hd) (H0 := H1) (al0 := al1) r1 (Fz.refl _ _) (Pre.refl _) o1 e1 with ⟨hx, ys, q, _⟩ | ⟨hx, ys, q, _⟩
  · exact .inr ⟨⟨ys, q⟩, k _ _ _ _ _ _ h2 o1 g1 (wk_tup r1 hx)⟩
  · exact .inl ⟨⟨ys, q⟩, k _ _ _ _ _ _ h2 o1 g1 (wk_list r1 hx)⟩
/-- range -/
def rngL (lo : Int) (n : Nat) : List D := (List.range n).map fun (i : Nat) => D.int (lo + (i : Int))
def iR1 (da : DA) : DI := fun ga mu P F => da ga mu P fun ds mu1 => match ds with
  | [.int j] => (-(2 ^ 62) ≤ j ∧ j < 2 ^ 62) ∧ F (rngL 0 j.toNat) (fun _ => True) mu1
  | _ => False
def iR2 (da : DA) : DI := fun ga mu P F => da ga mu P fun ds mu1 => match ds with
  | [.int i, .int j] => (-(2 ^ 62) ≤ i ∧ i < 2 ^ 62 ∧ -(2 ^ 62) ≤ j ∧ j < 2 ^ 62) ∧ F (rngL i (j - i).toNat) (fun _ => True) mu1
  | _ => False
theorem rngL_len (lo : Int) (n : Nat) : (rngL lo n).length = n := by unfold rngL; rw [List.length_map, List.length_range]
theorem rngL_get {lo : Int} {n i : Nat} (h : i < n) : (rngL lo n)[i]? = some (.int (lo + (i : Int))) := by
  unfold rngL
  rw [List.getElem?_map, List.getElem?_range h]
  rfl
theorem wk_range {K : PySem.W.Frag} {lo : Int} {n : Nat} {hd0 : List Addr} {H0 : Hp} {al0 : List Addr} : WkOk K (Itr lo n) (rngL lo n) (fun _ => True) hd0 H0 al0 := by
  refine ⟨fun hd H mu al g pr o h => ?_, fun hd H mu al i g pr o h hi => ?_, fun hd H mu al i v H' g pr o h hi y => ?_⟩
  · rw [rngL_len]
    exact Nat.le_refl _
  · rw [rngL_len] at hi
    exact hi
  · rw [rngL_len] at hi
    obtain ⟨e, q⟩ := y
    subst e q
    exact ⟨_, rngL_get hi, o, Go.refl _ _, .int⟩
theorem di_range1 {tg a : Expr} {da : DA} {p pos : Pos} (hm : X.mg "range" = none) (ha : PA X [a] (liftA X.K W da)) (hg : Gl X "range" := by rfl) (hs : starEach [a] X.env = [(false, eval a X.env)] := by rfl) : PI X tg (.Call (.Name "range" p) [a] [] pos) (liftI X.K W (iR1 da)) := by
  refine pi_wk (pi_range1 hg hm ha hs) fun sg H R ⟨ga, mu, al, hd, P, F, a, h, k, kx⟩ => ?_
  refine ⟨ga, mu, al, hd, P, _, a, h, ⟨fun ds mu1 vs H1 al1 h1 o1 g1 r1 => ?_⟩, kx⟩
  split at h1
  · obtain ⟨v, ys, rfl, r2, r3⟩ := r1.cons_
    cases r3.nil_
    cases r2.int_
    exact ⟨_, rfl, h1.1.1, h1.1.2, k _ _ _ _ _ _ h1.2 o1 g1 wk_range⟩
  · exact h1.elim
theorem di_range2 {tg a b : Expr} {da : DA} {p pos : Pos} (hm : X.mg "range" = none) (ha : PA X [a, b] (liftA X.K W da)) (hg : Gl X "range" := by rfl) (hs : starEach [a, b] X.env = [(false, eval a X.env), (false, eval b X.env)] := by rfl) (hs2 : starEach [b] X.env = [(false, eval b X.env)] := by rfl) : PI X tg (.Call (.Name "range" p) [a, b] [] pos) (liftI X.K W (iR2 da)) := by
  refine pi_wk (pi_range2 hg hm ha hs hs2) fun sg H R ⟨ga, mu, al, hd, P, F, a, h, k, kx⟩ => ?_
  refine ⟨ga, mu, al, hd, P, _, a, h, ⟨fun ds mu1 vs H1 al1 h1 o1 g1 r1 => ?_⟩, kx⟩
  split at h1
  · obtain ⟨v, ys, rfl, r2, r3⟩ := r1.cons_
    obtain ⟨v2, ys2, rfl, r4, r5⟩ := r3.cons_
    cases r5.nil_
    cases r2.int_
    cases r4.int_
    exact ⟨_, _, rfl, h1.1, k _ _ _ _ _ _ h1.2 o1 g1 wk_range⟩
  · exact h1.elim
/-! ### for -/
def forL (g : DG) (b : DS) (E : DEnds) (ok : Sto → Prop) : List D → Gam → Sto → Prop
  | [], ga, mu => ok mu ∧ E.nx ga mu
  | d :: ds, ga, mu => ok mu ∧ g d ga mu E.ex fun ga1 mu1 => b { E with nx := forL g b E ok ds, ct := forL g b E ok ds, bk := E.nx } ga1 mu1
def dFor (di : DI) (g : DG) (b : DS) : DS := fun E ga mu => di ga mu E.ex fun ds ok mu1 => forL g b E ok ds ga mu1
theorem ds_for {tg iter : Expr} {body : List Stmt} {di : DI} {g : DG} {b : DS} {pos : Pos} (hp : PassesOwn (model X.prog X.w) X.A X.env X.xe) (hc : X.calm = true) (hi : PI X tg iter (liftI X.K W di)) (hg : PG X tg (liftG X.K W g)) (hb : PSs X body (liftS X.K W b))
    (hs : ∀ x, foldedSetIterable iter X.env x = pure x := by intro _; rfl) : PS X (.For tg iter body [] pos) (liftS X.K W (dFor di g b)) := by
  refine ps_wk (ps_for hp hc hi hg hb hs) fun Q sg H ⟨ga, mu, al, hd, E, a, h, k⟩ => ?_
  refine ⟨ga, mu, al, hd, E.ex, _, a, h, fun ds ok mu1 J H1 al1 h1 o1 g1 wk => ?_, k.ex sg⟩
  refine ⟨fun i m sg' H' => m = ds.length - i ∧ i ≤ ds.length ∧ ∃ ga' mu' al', At X.K hd ga' mu' al' sg' H' ∧ Go hd H1 al1 H' al' ∧ forL g b E ok (ds.drop i) ga' mu', ⟨ds.length, by omega, Nat.zero_le _, ga, mu1, al1, a.to o1 g1, Go.refl _ _, h1⟩, ?_⟩
  rintro i m sg' H' ⟨rfl, hi, ga', mu', al', a', g', f⟩
  have gg := g1.trans g'
  by_cases hlt : i < ds.length
  · rw [List.drop_eq_getElem_cons hlt] at f
    obtain ⟨okm, f⟩ := f
    refine .inr ⟨wk.go hd H' mu' al' i g'.frz g'.pre a'.ok okm hlt, fun s2 H2 => ds.length - (i + 1) = ds.length - (i + 1) ∧ i + 1 ≤ ds.length ∧ ∃ ga' mu' al', At X.K hd ga' mu' al' s2 H2 ∧ Go hd H1 al1 H2 al' ∧ forL g b E ok (ds.drop (i + 1)) ga' mu', fun s2 H2 q => ⟨ds.length - (i + 1), by omega, q⟩, fun x H2 y => ?_⟩
    obtain ⟨d, ed, o2, g2, r2⟩ := wk.yld hd H' mu' al' i x H2 g'.frz g'.pre a'.ok okm hlt y
    have e : d = ds[i] := by
      rw [List.getElem?_eq_getElem hlt] at ed
      exact (Option.some.inj ed).symm
    subst e
    have gg2 := gg.trans g2
    refine ⟨_, ga', mu', al', hd, E.ex, _, a'.to o2 g2, r2, f, fun ga3 mu3 sg3 H3 al3 h3 a3 g3 => ?_, fun sg => (k.ex sg).to gg2⟩
    have gg3 := gg2.trans g3
    have back : Kn X.K hd H3 al3 (forL g b E ok (ds.drop (i + 1))) (fun s2 H2 => ds.length - (i + 1) = ds.length - (i + 1) ∧ i + 1 ≤ ds.length ∧ ∃ ga' mu' al', At X.K hd ga' mu' al' s2 H2 ∧ Go hd H1 al1 H2 al' ∧ forL g b E ok (ds.drop (i + 1)) ga' mu') :=
      fun ga4 mu4 sg4 H4 al4 h4 a4 g4 => ⟨rfl, hlt, ga4, mu4, al4, a4, ((g'.trans g2).trans g3).trans g4, h4⟩
    exact ⟨ga3, mu3, al3, hd, _, a3, h3, ⟨back, k.rt.to gg3, fun sg => (k.ex sg).to gg3, k.nx.to gg3, back⟩⟩
  · have e : i = ds.length := by omega
    subst e
    rw [List.drop_length] at f
    exact .inl ⟨wk.stop hd H' mu' al' g'.frz g'.pre a'.ok f.1, k.nx _ _ _ _ _ f.2 a' gg⟩
def dWhile (t : DB) (b : DS) : DS := fun E ga mu => ∃ I : Nat → Gam → Sto → Prop, (∃ m, I m ga mu) ∧ ∀ m ga mu, I m ga mu → t ga mu E.ex fun c mu1 => if c = true then b { E with nx := fun ga' mu' => ∃ m', m' < m ∧ I m' ga' mu', ct := fun ga' mu' => ∃ m', m' < m ∧ I m' ga' mu', bk := E.nx } ga mu1 else E.nx ga mu1
theorem ds_while {c : Expr} {body : List Stmt} {t : DB} {b : DS} {pos : Pos} (hp : PassesOwn (model X.prog X.w) X.A X.env X.xe) (hc : PT X c (liftB X.K W t)) (hb : PSs X body (liftS X.K W b)) : PS X (.While c body [] pos) (liftS X.K W (dWhile t b)) := by
  refine ps_wk (ps_while hp hc hb) fun Q sg H ⟨ga, mu, al, hd, E, a, h, k⟩ => ?_
  obtain ⟨I, ⟨m0, i0⟩, turn⟩ := h
  refine ⟨fun m sg' H' => ∃ ga' mu' al', At X.K hd ga' mu' al' sg' H' ∧ Go hd H al H' al' ∧ I m ga' mu', ⟨m0, ga, mu, al, a, Go.refl _ _, i0⟩, ?_⟩
  rintro m sg' H' ⟨ga', mu', al', a', g', i'⟩
  refine ⟨ga', mu', al', hd, E.ex, _, a', turn m ga' mu' i', ⟨fun c mu1 H1 al1 h1 o1 g1 => ?_⟩, (k.ex sg').to g'⟩
  have gg := g'.trans g1
  cases c with
  | true =>
    have back : Kn X.K hd H1 al1 (fun ga' mu' => ∃ m', m' < m ∧ I m' ga' mu') (fun s2 H2 => ∃ m', m' < m ∧ ∃ ga' mu' al', At X.K hd ga' mu' al' s2 H2 ∧ Go hd H al H2 al' ∧ I m' ga' mu') :=
      fun ga4 mu4 sg4 H4 al4 ⟨m', hm, h4⟩ a4 g4 => ⟨m', hm, ga4, mu4, al4, a4, gg.trans g4, h4⟩
    exact ⟨_, fun s2 H2 q => q, ga', mu1, al1, hd, _, a'.to o1 g1, h1, ⟨back, k.rt.to gg, fun sg => (k.ex sg).to gg, k.nx.to gg, back⟩⟩
  | false => exact k.nx _ _ _ _ _ h1 (a'.to o1 g1) gg
/-! ### a def's promise -/
def endF (P : KX) (F : KD) : DEnds := { nx := fun _ mu' => F .non mu', rt := F, ex := P }
def endT (mu : Sto) (P : KX) (F : KD) : DEnds := { nx := fun _ mu' => ∃ mu2, Trim mu mu' mu2 ∧ F .non mu2, rt := fun d mu' => ∃ mu2 d2, Trim mu mu' mu2 ∧ frz mu.length mu' d = some d2 ∧ F d2 mu2, ex := endX mu P }
def gam0 (n : Nat) (ds : List D) : Gam := ds.map some ++ List.replicate (n - ds.length) none
theorem slots0 {K : PySem.W.Frag} {hd al : List Addr} {H : Hp} {ds : List D} {vs : List V} {N : List Str} (r : RepL K (al ++ hd) H al ds vs) : Slots K hd al H (gam0 N.length ds) (L2.start N vs) := by
  unfold gam0 L2.start
  refine ⟨by rw [List.length_append, List.length_append, List.length_map, List.length_map, List.length_replicate, List.length_replicate, r.len], fun i d e => ?_⟩
  rcases Nat.lt_or_ge i ds.length with h | h
  · rw [List.getElem?_append_left (by rw [List.length_map]; exact h), List.getElem?_map] at e
    cases q : ds[i]? with
    | none =>
      rw [q] at e
      cases e
    | some d' =>
      rw [q] at e
      cases e
      obtain ⟨v, hv, rv⟩ := r.at_ q
      exact ⟨v, by rw [List.getElem?_append_left (by rw [List.length_map, ← r.len]; exact h), List.getElem?_map, hv] <;> rfl, rv⟩
  · rw [List.getElem?_append_right (by rw [List.length_map]; exact h)] at e
    have := List.mem_of_getElem? e
    have := (List.mem_replicate.mp this).2
    cases this
section
variable {P : Program} {w : World} {K : PySem.W.Frag} {mg : Str → Option Value} {base : Heap} {x qual : Str} {params : Arguments} {body : List Stmt} {scope : Scope} {f : Addr} {fd : FuncData} {N ps : List Str} {k n : Nat} {sp : DSp} {dt : DS}
theorem prom_of {sp : DSp} (F : FunD K x qual params body scope [] [] f fd) (hps : params.args.map (·.arg) = ps) (hn : ps.length = n) (G : FnOk P w K mg base (L2.CX P w) k f fd ps (spD K n sp)) (b : Binds K fd ps []) (ar : ∀ ds mu P F, sp ds mu P F → ds.length = n) : Prom P w K mg base k f n sp := by
  refine ⟨⟨fd, ps, hn, G, b⟩, fun fd' oc od osl e => ?_, F.kp, ar⟩
  obtain ⟨oc1, od1, dV, kV, doc, pm, an, cdv, ct, osl1, hfd, lk, _⟩ := F.ex
  rw [lk] at e
  have e1 := Option.some.inj e
  injection e1 with _ _ e1 _
  injection e1 with e1
  subst e1
  have e2 : fd.params.args.map (·.arg) = ps := by
    rw [hfd]
    exact hps
  rw [e2]
  exact ⟨hn, G⟩
theorem fn_dl (F : FunD K x qual params body scope [] [] f fd) (S : FnScope N ps scope) (hps : params.args.map (·.arg) = ps) (hn : ps.length = n)
    (hb : ∀ (kV doc pm : Value) (an : Option Addr) (cdv ct : Value) (us : List Value), us.length = ps.length → bindArgs (PySem.W.fnOf x qual params body scope .none kV doc pm an cdv ct) ⟨us, []⟩ = pure (ps.zip us))
    (ar : ∀ ds mu P F, sp ds mu P F → ds.length = n)
    (der : ∀ (cdv : Value) (A : Around) (outer : List Env) (s : Shared) (H : Hp) (E : XK), Room k (A.deeper (envOfC qual scope s.heap.objs.size f cdv)) → PSs (cxOf (L2.CX P w) P w K mg base N qual scope f cdv A outer s H E) body (liftS K (fun cls d _ H => E cls d H) dt))
    (pure : ∀ ds mu P F, sp ds mu P F → dt (endF P F) (gam0 N.length ds) mu) : Prom P w K mg base (k + 1) f n sp := by
  refine prom_of F hps hn (F.ok S (fun vs H Q E h => h.1.trans hn.symm) (fun cdv A outer s H vs Q E hr h => ?_)) (F.bindsN hb) ar
  obtain ⟨_, mu, al, hd, ds, P', F', o, r, h, kv, kx⟩ := h
  refine ⟨_, der cdv A outer s H E hr, _, mu, al, hd, _, ⟨o, slots0 r⟩, pure ds mu P' F' h, ⟨?_, kv, fun sg => kx, fun _ _ _ _ _ h _ _ => h.elim, fun _ _ _ _ _ h _ _ => h.elim⟩⟩
  exact fun ga mu' sg H' al' h a g => kv.go _ _ _ _ _ h a.ok g .non
theorem fn_dlT (F : FunD K x qual params body scope [] [] f fd) (S : FnScope N ps scope) (hps : params.args.map (·.arg) = ps) (hn : ps.length = n)
    (hb : ∀ (kV doc pm : Value) (an : Option Addr) (cdv ct : Value) (us : List Value), us.length = ps.length → bindArgs (PySem.W.fnOf x qual params body scope .none kV doc pm an cdv ct) ⟨us, []⟩ = pure (ps.zip us))
    (ar : ∀ ds mu P F, sp ds mu P F → ds.length = n)
    (der : ∀ (cdv : Value) (A : Around) (outer : List Env) (s : Shared) (H : Hp) (E : XK), Room k (A.deeper (envOfC qual scope s.heap.objs.size f cdv)) → PSs (cxOf (L2.CX P w) P w K mg base N qual scope f cdv A outer s H E) body (liftS K (fun cls d _ H => E cls d H) dt))
    (pure : ∀ ds mu P F, sp ds mu P F → dt (endT mu P F) (gam0 N.length ds) mu) : Prom P w K mg base (k + 1) f n sp := by
  refine prom_of F hps hn (F.ok S (fun vs H Q E h => h.1.trans hn.symm) (fun cdv A outer s H vs Q E hr h => ?_)) (F.bindsN hb) ar
  obtain ⟨_, mu, al, hd, ds, P', F', o, r, h, kv, kx⟩ := h
  refine ⟨_, der cdv A outer s H E hr, _, mu, al, hd, _, ⟨o, slots0 r⟩, pure ds mu P' F' h, ⟨?_, ⟨?_⟩, fun sg => ⟨?_⟩, fun _ _ _ _ _ h _ _ => h.elim, fun _ _ _ _ _ h _ _ => h.elim⟩⟩
  · rintro ga mu' sg H' al' ⟨mu2, t, h⟩ a g
    exact kv.go _ _ _ _ _ h (o.trim a.ok g t) g.home .non
  · rintro d mu' v H' al' ⟨mu2, d2, t, e, h⟩ o' g r'
    exact kv.go _ _ _ _ _ h (o.trim o' g t) g.home (Rep.frz o o' g r' e)
  · rintro y mu' cls dd H' al' ⟨mu2, t, h⟩ o' g r'
    exact kx.go _ _ _ _ _ _ h (o.trim o' g t) g.home (r'.home g)
end
end
end DL

/-! part DL9 -/
/-! DL9: comprehensions. -/
namespace DL
open PySem PySem.Spec PyProof.Rows L2
abbrev W0 : WX := fun _ _ _ _ => False
/-- the comprehension's own slots are empty at its start -/
def wip (ga : Gam) : List Nat → Gam
  | [] => ga
  | v :: vs => (wip ga vs).set v none
theorem Slots.setN {K : PySem.W.Frag} {hd : List Addr} {H : Hp} {al : List Addr} {ga : Gam} {sg : L2.St} (i : Nat) (s : Slots K hd al H ga sg) : Slots K hd al H (ga.set i none) (sg.set i none) := by
  refine ⟨by rw [List.length_set, List.length_set]; exact s.len, fun j e h => ?_⟩
  by_cases hj : j = i
  · subst hj
    have hl : j < ga.length := by
      have := (List.getElem?_eq_some_iff.mp h).1
      rw [List.length_set] at this
      exact this
    rw [List.getElem?_set_self hl] at h
    cases h
  · rw [List.getElem?_set_ne (fun z => hj z.symm)] at h
    rw [List.getElem?_set_ne (fun z => hj z.symm)]
    exact s.at_ j e h
theorem Slots.wip {K : PySem.W.Frag} {hd : List Addr} {H : Hp} {al : List Addr} {ga : Gam} {sg : L2.St} (s : Slots K hd al H ga sg) : ∀ vs : List Nat, Slots K hd al H (DL.wip ga vs) (wipe sg vs)
  | [] => s
  | v :: vs => (Slots.wip s vs).setN v
theorem wipe_set {sg : L2.St} {i : Nat} {x : Option V} : ∀ {vs : List Nat}, wipe (sg.set i x) vs = if i ∈ vs then wipe sg vs else (wipe sg vs).set i x
  | [] => by rw [if_neg (by simp)] <;> rfl
  | v :: vs => by
    show (wipe (sg.set i x) vs).set v none = _
    rw [wipe_set (vs := vs)]
    by_cases h : i ∈ vs
    · rw [if_pos h, if_pos (List.mem_cons_of_mem _ h)]
      rfl
    · rw [if_neg h]
      by_cases e : i = v
      · subst e
        rw [if_pos List.mem_cons_self, List.set_set]
        rfl
      · rw [if_neg (by simp [h, e]), List.set_comm _ _ (fun z => e z)]
        rfl
theorem wipe_own {sg : L2.St} {i : Nat} {x : Option V} {vs : List Nat} (h : i ∈ vs) : wipe (sg.set i x) vs = wipe sg vs := by rw [wipe_set, if_pos h]
section
variable {X : Cx}
def liftGw (K : PySem.W.Frag) (vs : List Nat) (g : DG) : TG := fun v sg H Q => ∃ (d : D) (ga : Gam) (mu : Sto) (al hd : List Addr) (P : KX) (N : Gam → Sto → Prop), At K hd ga mu al sg H ∧ Rep K (al ++ hd) H al d v ∧ g d ga mu P N ∧
  ∀ ga' mu' sg' H' al', N ga' mu' → At K hd ga' mu' al' sg' H' → Go hd H al H' al' → wipe sg' vs = wipe sg vs → Q sg' H'
def liftGsw (K : PySem.W.Frag) (vs : List Nat) (g : DGs) : TGs := fun us sg H Q => ∃ (ds : List D) (ga : Gam) (mu : Sto) (al hd : List Addr) (P : KX) (N : Gam → Sto → Prop), At K hd ga mu al sg H ∧ RepL K (al ++ hd) H [] ds us ∧ g ds ga mu P N ∧
  ∀ ga' mu' sg' H' al', N ga' mu' → At K hd ga' mu' al' sg' H' → Go hd H al H' al' → wipe sg' vs = wipe sg vs → Q sg' H'
theorem dw_name (i : Nat) {vs : List Nat} {x : Str} {pos : Pos} (hN : X.N.Nodup) (hi : X.N[i]? = some x := by rfl) (hv : i ∈ vs := by decide) (hx : Loc X.env.scope x := by first | exact .inl rfl | exact .inr rfl) (hf : X.fn x = true ∨ X.env.scope.names.lookup x = some .local := by first | exact .inl rfl | exact .inr rfl | assumption) : PG X (.Name x pos) (liftGw X.K vs (dName i)) :=
  pg_wk (pg_name hN hi hx hf) fun v sg H Q ⟨d, ga, mu, al, hd, P, N, a, r, h, k⟩ => k _ _ _ _ _ h ⟨a.ok, a.sl.set i r⟩ (Go.refl _ _) (wipe_own hv)
theorem dws_nil {vs : List Nat} : PGs X [] (liftGsw X.K vs gsNil) := pgs_wk pgs_nil fun v sg H Q ⟨ds, ga, mu, al, hd, P, N, a, r, h, k⟩ => by
  cases r with
  | nil => exact ⟨rfl, k _ _ _ _ _ h a (Go.refl _ _) rfl⟩
  | cons _ _ => exact h.elim
theorem dws_cons {vs : List Nat} {e : Expr} {es : List Expr} {g : DG} {h : DGs} (h1 : PG X e (liftGw X.K vs g)) (h2 : PGs X es (liftGsw X.K vs h)) (hs : (assignEach (e :: es) X.env).map (·.2) = assign e X.env :: (assignEach es X.env).map (·.2) := by rfl) : PGs X (e :: es) (liftGsw X.K vs (gsCons g h)) :=
  pgs_wk (pgs_cons h1 h2 hs) fun v sg H Q ⟨ds, ga, mu, al, hd, P, N, a, r, h, k⟩ => by
    cases r with
    | nil => exact h.elim
    | cons r1 r2 =>
      exact ⟨_, _, rfl, _, ga, mu, al, hd, P, _, a, r1.fz (Fz.refl _ _) (Pre.nil _), h, fun ga1 mu1 sg1 H1 al1 h1 a1 g1 w1 => ⟨_, ga1, mu1, al1, hd, P, N, a1, r2.go g1 (Pre.refl _), h1,
        fun ga2 mu2 sg2 H2 al2 h2 a2 g2 w2 => k _ _ _ _ _ h2 a2 (g1.trans g2) (w2.trans w1)⟩⟩
theorem dw_tup {vs : List Nat} {es : List Expr} {k n : Nat} {g : DGs} {pos : Pos} (hc : X.calm = true) (h : PGs X es (liftGsw X.K vs g)) (hn : (assignEach es X.env).length = n := by rfl) (hst : (assignEach es X.env).findIdx? (·.1) = none := by rfl) : PG X (.Tuple es k pos) (liftGw X.K vs (dTupG n g)) :=
  pg_wk (pg_tup hc h hn hst) fun v sg H Q ⟨d, ga, mu, al, hd, P, N, a, r, h, k⟩ => by
    unfold dTupG at h
    cases q : tv d with
    | none => simp only [q] at h
    | some l =>
      simp only [q] at h
      obtain ⟨p, xs, rfl, n1, e1, s1⟩ := r.tv q
      exact ⟨p, xs, rfl, .inl (.inl e1), s1.len.symm.trans h.1, l, ga, mu, al, hd, P, N, a, s1, h.2, k⟩
/-- the tests of a comprehension -/
theorem pts_wk {e : List Expr} {t t' : TT} (h : PTs X e t) (k : ∀ sg H Q, t' sg H Q → t sg H Q) : PTs X e t' := ⟨fun pins s sg H Q I q => h.run pins s sg H Q I (k _ _ _ q)⟩
def dYes : DB := fun _ mu _ F => F true mu
theorem dts_nil {W : WX} : PTs X [] (liftB X.K W dYes) := pts_wk pts_nil fun sg H Q ⟨ga, mu, al, hd, P, F, a, h, kb, kx⟩ => kb.go _ _ _ _ h a.ok (Go.refl _ _)
theorem dts_one {W : WX} {c : Expr} {t : DB} (h : PT X c (liftB X.K W t)) : PTs X [c] (liftB X.K W t) := pts_one h
def lcL (m : Nat) (g : DG) (t : DB) (e : DE) (ok : Sto → Prop) (ga : Gam) (F : List D → Sto → Prop) : List D → List D → Sto → Prop
  | [], acc, mu => ok mu ∧ F acc mu
  | d :: ds, acc, mu => ok mu ∧ g d ga mu (fun _ _ => False) fun ga1 mu1 => t ga1 mu1 (fun _ _ => False) fun b mu2 => if b = true then e ga1 mu2 (fun _ _ => False) fun y mu3 => (match m with
    | 0 => np y
    | 1 => np y
    | _ => True) ∧ lcL m g t e ok ga F ds (acc ++ [y]) mu3 else lcL m g t e ok ga F ds acc mu2
def dLc (m : Nat) (di : DI) (g : DG) (t : DB) (e : DE) (vs : List Nat) : DE := fun ga mu P F => di ga mu P fun ds ok mu1 => ds.length ≤ 16777216 ∧ lcL m g t e ok (wip ga vs) (fun acc mu2 => retN m acc mu2 F) ds [] mu1
/-- which pointers the items may be -/
def ptm (m : Nat) (al : List Addr) : List Addr := match m with
  | 0 => []
  | 1 => []
  | _ => al
theorem lc_sound {K : PySem.W.Frag} {W : WX} {di : DI} {m : Nat} {g : DG} {t : DB} {e : DE} {vs : List Nat} {sg : L2.St} {H : Hp} {Q : VK} (h : liftE K W (dLc m di g t e vs) sg H Q) : tLc (liftI K W di) (liftGw K vs g) (liftB K W0 t) (liftE K W0 e) vs sg H Q := by
  obtain ⟨ga, mu, al, hd, P, F, a, h, kv, kx⟩ := h
  refine ⟨ga, mu, al, hd, P, _, a, h, fun ds ok mu1 J H1 al1 ⟨hlen, h1⟩ o1 g1 wk D hD => ?_, kx⟩
  have hDal : ¬ D ∈ al1 ++ hd := o1.new hD
  have sl1 := (a.sl.go g1).wip vs
  refine ⟨fun i m' H' => m' = ds.length - i ∧ i ≤ ds.length ∧ ∃ mu' al' acc xs, Okay K (D :: hd) H' mu' al' ∧ Pre al1 al' ∧ Fz H1 (al1 ++ hd) H' (al' ++ D :: hd) ∧ Slots K (D :: hd) al' H' (wip ga vs) (wipe sg vs) ∧ H' D = some (.lst xs) ∧ RepL K (al' ++ D :: hd) H' (ptm m al') acc xs ∧ acc.length ≤ i ∧ (∀ a, a ∈ hd → H' a = H1 a) ∧
    lcL m g t e ok (wip ga vs) (fun acc mu2 => retN m acc mu2 F) (ds.drop i) acc mu',
    ⟨ds.length, by omega, Nat.zero_le _, mu1, al1, [], [], o1.hide hD, Pre.refl _, Fz.hide o1 hD, sl1.fz (Fz.hide o1 hD) (Pre.refl _), upd_same, .nil, Nat.zero_le _, fun a ha => upd_ne (fun z => hDal (List.mem_append_right _ (by rw [← z]; exact ha))), h1⟩, ?_⟩
  rintro i m' H' ⟨rfl, hi, mu', al', acc, xs, o', pr, fz', sl', eD, ra, hacc, hh, f⟩
  by_cases hlt : i < ds.length
  · rw [List.drop_eq_getElem_cons hlt] at f
    obtain ⟨okm, f⟩ := f
    refine .inr ⟨wk.go (D :: hd) H' mu' al' i fz' pr o' okm hlt, fun H2 => ∃ mu' al' acc xs, Okay K (D :: hd) H2 mu' al' ∧ Pre al1 al' ∧ Fz H1 (al1 ++ hd) H2 (al' ++ D :: hd) ∧ Slots K (D :: hd) al' H2 (wip ga vs) (wipe sg vs) ∧ H2 D = some (.lst xs) ∧ RepL K (al' ++ D :: hd) H2 (ptm m al') acc xs ∧ acc.length ≤ i + 1 ∧ (∀ a, a ∈ hd → H2 a = H1 a) ∧
      lcL m g t e ok (wip ga vs) (fun acc mu2 => retN m acc mu2 F) (ds.drop (i + 1)) acc mu', fun H2 q => ⟨ds.length - (i + 1), by omega, rfl, hlt, q⟩, fun x H2 y => ?_⟩
    obtain ⟨d, ed, o2, g2, r2⟩ := wk.yld (D :: hd) H' mu' al' i x H2 fz' pr o' okm hlt y
    have e0 : d = ds[i] := by
      rw [List.getElem?_eq_getElem hlt] at ed
      exact (Option.some.inj ed).symm
    subst e0
    have ptp : ∀ {l l' : List Addr}, Pre l l' → Pre (ptm m l) (ptm m l') := fun {l l'} p => by
      unfold ptm
      split
      · exact Pre.refl _
      · exact Pre.refl _
      · exact p
    have ww : ∀ l : List Nat, (∀ i, i ∈ l → i ∈ vs) → wipe (wipe sg l) vs = wipe sg vs := fun l => by
      induction l with
      | nil => intro _; rfl
      | cons v r ih =>
        intro hl
        show wipe ((wipe sg r).set v none) vs = _
        rw [wipe_own (hl v List.mem_cons_self)]
        exact ih fun i hi => hl i (List.mem_cons_of_mem _ hi)
    refine ⟨_, wip ga vs, mu', al', D :: hd, _, _, ⟨o2, sl'.go g2⟩, r2, f, fun ga3 mu3 sg3 H3 al3 h3 a3 g3 w3 => ⟨?_, ?_⟩⟩
    · exact w3.trans (ww vs fun _ h => h)
    · refine ⟨ga3, mu3, al3, D :: hd, _, _, a3, h3, ⟨fun b mu4 H4 al4 h4 o4 g4 => ?_⟩, ⟨fun _ _ _ _ _ _ h _ _ _ => h.elim⟩⟩
      have g24 := (g2.trans g3).trans g4
      cases b with
      | true =>
        refine ⟨ga3, mu4, al4, D :: hd, _, _, a3.to o4 g4, h4, ⟨fun y mu5 yv H5 al5 h5 o5 g5 r5 => ?_⟩, ⟨fun _ _ _ _ _ _ h _ _ _ => h.elim⟩⟩
        have g25 := g24.trans g5
        have eD5 : H5 D = some (.lst xs) := (g25.hid D List.mem_cons_self).trans eD
        have hxl : xs.length = acc.length := ra.len.symm
        refine ⟨xs, eD5, by rw [hxl, sizeLine_eq]; omega, mu5, al5, _, _, o5.hidSet, fun n a e => g25.pre n a (pr n a e), Fz.trans (Fz.trans fz' g25.frz) (Fz.hid _ _), (sl'.go g25).fz (Fz.hid _ _) (Pre.refl _), upd_same, ?_, ?_, fun a ha => (upd_ne (fun z => hDal (List.mem_append_right _ (by rw [← z]; exact ha)))).trans ((g25.hid a (List.mem_cons_of_mem _ ha)).trans (hh a ha)), h5.2⟩
        · have r6 : Rep K (al5 ++ D :: hd) H5 (ptm m al5) y yv := by
            have q := h5.1
            unfold ptm
            split
            · exact r5.np q
            · exact r5.np q
            · exact r5
          exact ((ra.fz g25.frz (ptp g25.pre)).append (.one r6)).fz (Fz.hid _ _) (Pre.refl _)
        · rw [List.length_append]
          show acc.length + 1 ≤ i + 1
          omega
      | false =>
        exact ⟨mu4, al4, acc, xs, o4, fun n a e => g24.pre n a (pr n a e), Fz.trans fz' g24.frz, sl'.go g24, (g24.hid D List.mem_cons_self).trans eD, ra.fz g24.frz (ptp g24.pre), by omega, fun a ha => (g24.hid a (List.mem_cons_of_mem _ ha)).trans (hh a ha), h4⟩
  · have e0 : i = ds.length := by omega
    subst e0
    rw [List.drop_length] at f
    refine .inl ⟨wk.stop (D :: hd) H' mu' al' fz' pr o' f.1, ?_⟩
    have oS := o'.show_
    have fS : Fz H1 (al1 ++ hd) H' (al' ++ hd) := Fz.trans fz' (Fz.show_ al' hd)
    have gS : Go hd H1 al1 H' al' := ⟨pr, fS, hh⟩
    have hnA : ¬ D ∈ al' ++ hd := fun z => by
      rcases List.mem_append.mp z with z | z
      · exact (o'.hid D List.mem_cons_self).1 z
      · exact hDal (List.mem_append_right _ z)
    have hnd : ¬ D ∈ hd := fun z => hnA (List.mem_append_right _ z)
    have turn : ∀ mo, F (.ptr mu'.length) (mu' ++ [mo]) → MAt K hd (al' ++ [D]) H' D mo → Q (.ref D) H' := fun mo hF hm => by
      have gT : Go hd H1 al1 H' (al' ++ [D]) := ⟨fun n a e => Pre.app _ _ n a (pr n a e), Fz.trans fz' (Fz.turn al' hd), hh⟩
      refine kv.go _ _ _ _ _ hF (o'.turn hnd hm) (g1.trans gT) (.ptr ?_)
      rw [List.getElem?_append_right (by rw [o'.len]; exact Nat.le_refl _), o'.len, Nat.sub_self]
      rfl
    have f2 := f.2
    match m, ra, f2 with
    | 0, ra, f2 => exact kv.go _ _ _ _ _ f2 oS (g1.trans gS) (.lst ⟨hnA, .inl eD⟩ (ra.fz (Fz.show_ al' hd) (Pre.refl _)))
    | 1, ra, f2 => exact turn _ f2 ⟨xs, eD, ra.fz (Fz.turn al' hd) (Pre.refl _)⟩
    | n + 2, ra, f2 => exact turn _ f2 ⟨xs, eD, ra.fz (Fz.turn al' hd) (Pre.app _ _)⟩
theorem d_lc (m : Nat) {W : WX} {elt tg iter : Expr} {ifs : List Expr} {scope : Scope} {own : List (Str × Nat)} {pos : Pos} {di : DI} {g : DG} {t : DB} {e : DE} (hc : X.calm = true) (hN : X.N.Nodup) (hi : PI X tg iter (liftI X.K W di)) (ok : BlkOk X.N X.env.scope scope own)
    (hg : ∀ (s : Shared) (H : Hp) (C : Addr) (cl : List (Str × Addr)) (fp : List Addr), PG (X.blk s H scope (compEnvC scope cl C X.env) fp) tg (liftGw X.K (own.map (·.2)) g)) (ht : ∀ (s : Shared) (H : Hp) (C : Addr) (cl : List (Str × Addr)) (fp : List Addr), PTs (X.blk s H scope (compEnvC scope cl C X.env) fp) ifs (liftB X.K W0 t))
    (he : ∀ (s : Shared) (H : Hp) (C : Addr) (cl : List (Str × Addr)) (fp : List Addr), PE (X.blk s H scope (compEnvC scope cl C X.env) fp) elt (liftE X.K W0 e)) (hs : ∀ x, foldedSetIterable iter X.env x = pure x := by intro _; rfl) :
    PE X (.ListComp elt [⟨tg, iter, ifs, 0⟩] scope pos) (liftE X.K W (dLc m di g t e (own.map (·.2)))) :=
  pe_wk (pe_lc hc hN hi ok hg ht he hs) fun _ _ _ h => lc_sound h
theorem ds_setLc (m i : Nat) {W : WX} {y : Str} {py : Pos} {elt tg iter : Expr} {ifs : List Expr} {scope : Scope} {own : List (Str × Nat)} {pos spos : Pos} {di : DI} {g : DG} {t : DB} {e : DE} (hc : X.calm = true) (hN : X.N.Nodup) (hi : PI X tg iter (liftI X.K W di)) (ok : BlkOk X.N X.env.scope scope own)
    (hg : ∀ (s : Shared) (H : Hp) (C : Addr) (cl : List (Str × Addr)) (fp : List Addr), PG (X.blk s H scope (compEnvC scope cl C X.env) fp) tg (liftGw X.K (own.map (·.2)) g)) (ht : ∀ (s : Shared) (H : Hp) (C : Addr) (cl : List (Str × Addr)) (fp : List Addr), PTs (X.blk s H scope (compEnvC scope cl C X.env) fp) ifs (liftB X.K W0 t))
    (he : ∀ (s : Shared) (H : Hp) (C : Addr) (cl : List (Str × Addr)) (fp : List Addr), PE (X.blk s H scope (compEnvC scope cl C X.env) fp) elt (liftE X.K W0 e)) (hy : X.N[i]? = some y := by rfl) (hyl : X.env.scope.names.lookup y = some .local := by rfl)
    (hsw : swapsWith (.ListComp elt [⟨tg, iter, ifs, 0⟩] scope pos) (some (.Name y py)) spos.line X.env = pure true := by exact (sw_true rfl rfl rfl (by decide +kernel))) (hs : ∀ x, foldedSetIterable iter X.env x = pure x := by intro _; rfl) :
    PS X (.Assign [.Name y py] (.ListComp elt [⟨tg, iter, ifs, 0⟩] scope pos) spos) (liftS X.K W (dSet i (dLc m di g t e (own.map (·.2))))) :=
  ps_wk (ps_setLc hc hN hy hyl hsw hi ok hg ht he hs) fun Q sg H ⟨ga, mu, al, hd, E, a, h, k⟩ =>
    lc_sound (Q := fun v H1 => Q.nx (sg.set i (some v)) H1) ⟨ga, mu, al, hd, E.ex, _, a, h, ⟨fun d mu1 v H1 al1 h1 o1 g1 r1 => k.nx _ _ _ _ _ h1 ⟨o1, (a.sl.go g1).set i r1⟩ g1⟩, k.ex sg⟩
end
end DL

/-! part DL10 -/
/-! DL10: isinstance, keyword calls of classes, unpacking lists, append. -/
namespace DL
open PySem PySem.Spec PyProof.Rows L2
/-- a value's kind: a built-in type, or a class of the text -/
def kdD (mu : Sto) : D → Option (Sum String Nat)
  | .non => some (.inl "NoneType")
  | .bl _ => some (.inl "bool")
  | .int _ => some (.inl "int")
  | .str _ => some (.inl "str")
  | .tup _ => some (.inl "tuple")
  | .lst _ => some (.inl "list")
  | .obj c _ => some (.inr c)
  | .ptr n => (match mu[n]? with
    | some (.lst _) => some (.inl "list")
    | some (.lsp _) => some (.inl "list")
    | some (.ins c _) => some (.inr c)
    | _ => none)
  | .adr _ => none
  | .err _ _ _ _ => none
/-- what isinstance asks of the text's classes -/
structure IsF (K : PySem.W.Frag) : Prop where
  at_ : ∀ c, ClsOk K c → c < 18 → PySem.W.findIn K (.ref (He.ga K (cn c))) "__class__" = some (some (.builtin "object.__class__")) ∧ PySem.W.mroIn K (He.ga K (cn c)) (.type "object") = some true
  get : PySem.W.specialIn K (.builtin "object.__class__") "__get__" = some (some (.builtin "getset_descriptor.__get__"))
  takes : PySem.W.takesIn K (.builtin "object.__class__") = some true
/-- what isinstance(x, u) answers: bt by the built-in type, cl by the class -/
structure IsiT (K : PySem.W.Frag) (u : Value) (bt : String → Bool) (cl : Nat → Bool) : Prop where
  bi : ∀ t, t ∈ ["NoneType", "bool", "int", "str", "tuple", "list"] → PySem.W.kitOne K (.type t) u = some (bt t)
  cls : ∀ c, ClsOk K c → c < 18 → PySem.W.kitOne K (.ref (He.ga K (cn c))) u = some (cl c)
def gIsi (bt : String → Bool) (cl : Nat → Bool) : DE → DE := fun de ga mu P F => de ga mu P fun x mu1 => match kdD mu1 x with
  | some (.inl t) => F (.bl (bt t)) mu1
  | some (.inr c) => c < 18 ∧ F (.bl (cl c)) mu1
  | none => False
section
variable {X : Cx} {W : WX}
theorem kind_ty {hd al : List Addr} {H : Hp} {mu : Sto} {d : D} {x : V} {bt : String → Bool} {cl : Nat → Bool} {F : KD} {u : Value} (IF : IsF X.K) (T : IsiT X.K u bt cl) (o : Okay X.K hd H mu al) (r : Rep X.K (al ++ hd) H al d x)
    (h : match kdD mu d with
      | some (.inl t) => F (.bl (bt t)) mu
      | some (.inr c) => c < 18 ∧ F (.bl (cl c)) mu
      | none => False) : ∃ t b, TyX X.K H x t ∧ PySem.W.kitOne X.K t u = some b ∧ F (.bl b) mu := by
  have lst : ∀ {p : Addr} {xs : List V}, Rd H p (.lst xs) → TyX X.K H (.ref p) (.type "list") := fun h => by
    rcases h with h | ⟨ob, h⟩
    · exact .base (.lst h)
    · exact .base (.frz h)
  have ins : ∀ {p dx : Addr} {c : Nat} {fs : List (Str × V)}, H p = some (.ins (He.ga X.K (cn c)) dx fs) → ClsOk X.K c → c < 18 → TyX X.K H (.ref p) (.ref (He.ga X.K (cn c))) := fun h ck hc => .base (.ins h ck.1 (IF.at_ _ ck hc).1 IF.get IF.takes (IF.at_ _ ck hc).2)
  cases r with
  | non => exact ⟨_, _, .base .non, T.bi "NoneType" (by simp), h⟩
  | bl => exact ⟨_, _, .base (.bl _), T.bi "bool" (by simp), h⟩
  | int => exact ⟨_, _, .base (.int _), T.bi "int" (by simp), h⟩
  | str => exact ⟨_, _, .base (.str _), T.bi "str" (by simp), h⟩
  | adr => exact h.elim
  | err0 => exact h.elim
  | err => exact h.elim
  | tup z r =>
    exact ⟨_, _, .base (.tup z.2), T.bi "tuple" (by simp), h⟩
  | lst z r => exact ⟨_, _, lst z.2, T.bi "list" (by simp), h⟩
  | obj a b c r => exact ⟨_, _, ins b c.2 h.1, T.cls _ c.2 h.1, h.2⟩
  | ptr e =>
    rename_i j p
    unfold kdD at h
    dsimp only at h
    cases q : mu[j]? with
    | none => simp only [q] at h
    | some mo =>
      simp only [q] at h
      cases mo with
      | lst l =>
        obtain ⟨xs, e1, _⟩ := o.at_ j _ _ q e
        exact ⟨_, _, lst (.inl e1), T.bi "list" (by simp), h⟩
      | lsp l =>
        obtain ⟨xs, e1, _⟩ := o.at_ j _ _ q e
        exact ⟨_, _, lst (.inl e1), T.bi "list" (by simp), h⟩
      | ins c l =>
        obtain ⟨dx, xs, e1, _, z⟩ := o.at_ j _ _ q e
        exact ⟨_, _, ins e1 z.2 h.1, T.cls _ z.2 h.1, h.2⟩
      | _ => exact h.elim
/-- isinstance(e, C), C a name -/
theorem d_isi {e : Expr} {x : Str} {cv : V} {u : Value} {bt : String → Bool} {cl : Nat → Bool} {de : DE} {p q pos : Pos} (IF : IsF X.K) (T : IsiT X.K u bt cl) (hm : X.mg "isinstance" = none) (he : PE X e (liftE X.K W de)) (hx : PE X (.Name x q) (tC cv)) (hc : ClsV cv u) (hg : Gl X "isinstance" := by rfl)
    (hs : starEach [e, .Name x q] X.env = [(false, eval e X.env), (false, eval (.Name x q) X.env)] := by rfl) (hs2 : starEach [.Name x q] X.env = [(false, eval (.Name x q) X.env)] := by rfl) : PE X (.Call (.Name "isinstance" p) [e, .Name x q] [] pos) (liftE X.K W (gIsi bt cl de)) := by
  refine pe_wk (pe_callB (call_isi (X := X)) hg hm (by decide +kernel) (pa_cons he (pa_cons hx pa_nil hs2) hs) (by decide) (by decide) hs (by rw [hs2] <;> rfl)) fun sg H Q ⟨ga, mu, al, hd, P, F, a, h, kv, kx⟩ => ?_
  refine ⟨ga, mu, al, hd, P, _, a, h, ⟨fun d mu1 v H1 al1 h1 o1 g1 r1 => ?_⟩, kx⟩
  obtain ⟨t, b, ty, k1, h2⟩ := kind_ty IF T o1 r1 h1
  exact ⟨_, _, t, u, b, rfl, hc, ty, k1, (kv.to g1).now o1 h2 .bl⟩
/-! ### (a, b, ..) = a list -/
def dUnl (n : Nat) (gs : DGs) : DG := fun d ga mu P N => ∃ l, lv mu d = some l ∧ l.length = n ∧ gs l ga mu P N
theorem dg_unl {es : List Expr} {x1} {gs : DGs} {n : Nat} {pos : Pos} (hc : X.calm = true) (h : PGs X es (liftGs X.K W gs)) (hn : (assignEach es X.env).length = n := by rfl) (hst : (assignEach es X.env).findIdx? (·.1) = none := by rfl) : PG X (.Tuple es x1 pos) (liftG X.K W (dUnl n gs)) :=
  pg_wk (pg_unl hc h hn hst) fun v sg H Q ⟨d, ga, mu, al, hd, P, N, a, r, h, k, kx⟩ => by
    obtain ⟨l, e, hl, h⟩ := h
    obtain ⟨p, xs, rfl, s, r2⟩ := r.lv a.ok e
    exact ⟨p, xs, rfl, .inl s, by rw [← r2.len]; exact hl, l, ga, mu, al, hd, P, N, a, r2.fz (Fz.refl _ _) (Pre.nil _), h, k, kx⟩
end
end DL

/-! part DL11 -/
/-! DL11: classes called by keywords, list methods. -/
namespace DL
open PySem PySem.Spec PyProof.Rows L2
/-! ### keywords -/
/-- the parameters' order: n positional values, then the keywords' values picked by pm -/
def pick {α : Type} (z : α) (ws : List α) (pm : List Nat) : List α := pm.map fun i => ws.getD i z
structure KwB (K : PySem.W.Frag) (f : Addr) (n : Nat) (ks : List Str) (pm : List Nat) : Prop where
  to : ∀ fd oc od osl, K.lookup f = some ⟨oc, od, .func fd, osl⟩ → ∀ (s : Shared) (us ws : List Value), K.In s.heap → us.length = n → ws.length = ks.length → BindsTo s fd ⟨us, ks.zip ws⟩ ((fd.params.args.map (·.arg)).zip (us ++ pick .none ws pm))
  ok : ∃ fd oc od osl, K.lookup f = some ⟨oc, od, .func fd, osl⟩
theorem kwB_of {K : PySem.W.Frag} {x qual : Str} {params : Arguments} {body : List Stmt} {scope : Scope} {f : Addr} {fd : FuncData} {n : Nat} {ks : List Str} {pm : List Nat} (F : FunD K x qual params body scope [] [] f fd)
    (hb : ∀ (kV doc pm' : Value) (an : Option Addr) (cdv ct : Value) (us ws : List Value), us.length = n → ws.length = ks.length → bindArgs (PySem.W.fnOf x qual params body scope .none kV doc pm' an cdv ct) ⟨us, ks.zip ws⟩ = pure ((params.args.map (·.arg)).zip (us ++ pick .none ws pm))) : KwB K f n ks pm := by
  obtain ⟨oc, od, dV, kV, doc, pm', an, cdv, ct, osl, hfd, lk, hcd, hD, hK⟩ := F.ex
  refine ⟨fun fd' oc1 od1 osl1 e s us ws _ l1 l2 => ?_, ⟨_, _, _, _, lk⟩⟩
  rw [lk] at e
  have e1 := Option.some.inj e
  injection e1 with _ _ e1 _
  injection e1 with e1
  subst e1
  rcases hD with ⟨_, rfl⟩ | ⟨e, _⟩
  · rw [hfd]
    exact .of_eq (hb kV doc pm' an cdv ct us ws l1 l2)
  · exact absurd rfl e
theorem RepL.getD {K : PySem.W.Frag} {fb pt : List Addr} {H : Hp} {l : List D} {xs : List V} (r : RepL K fb H pt l xs) (i : Nat) : Rep K fb H pt (l.getD i .non) (xs.getD i .non) := by
  rw [List.getD_eq_getElem?_getD, List.getD_eq_getElem?_getD]
  cases q : l[i]? with
  | none =>
    have h : xs[i]? = none := by
      rw [List.getElem?_eq_none_iff, ← r.len]
      exact List.getElem?_eq_none_iff.mp q
    rw [h]
    exact .non
  | some d =>
    obtain ⟨x, e, rx⟩ := r.at_ q
    rw [e]
    exact rx
theorem RepL.pick {K : PySem.W.Frag} {fb pt : List Addr} {H : Hp} {l : List D} {xs : List V} (r : RepL K fb H pt l xs) : ∀ pm : List Nat, RepL K fb H pt (pick .non l pm) (pick .non xs pm)
  | [] => .nil
  | i :: pm => .cons (r.getD i) (RepL.pick r pm)
theorem vals_getD {xs : List V} {us : List Value} (r : Vals xs us) (i : Nat) : RelV (xs.getD i .non) (us.getD i .none) := by
  rw [List.getD_eq_getElem?_getD, List.getD_eq_getElem?_getD]
  cases q : xs[i]? with
  | none =>
    have h : us[i]? = none := by
      rw [List.getElem?_eq_none_iff, ← r.length]
      exact List.getElem?_eq_none_iff.mp q
    rw [h]
    exact rfl
  | some d =>
    obtain ⟨x, e, rx⟩ := r.get q
    rw [e]
    exact rx
theorem vals_pick {xs : List V} {us : List Value} (r : Vals xs us) : ∀ pm : List Nat, Vals (pick .non xs pm) (pick .none us pm)
  | [] => .nil
  | i :: pm => .cons (vals_getD r i) (vals_pick r pm)
section
variable {X : Cx} {W : WX}
theorem dk_nil : PK X [] (liftA X.K W dNil) := ⟨fun pos pins s sg H Q I ⟨ga, mu, al, hd, P, F, a, h, kl, kx⟩ => (pk_nil (X := X)).run pos pins s sg H Q I (kl.go _ _ _ _ _ h a.ok (Go.refl _ _) .nil)⟩
theorem dk_cons {e : Expr} {kws : List Keyword} {nm : Option Str} {kpos : Pos} {da : DE} {dr : DA} (ha : PE X e (liftE X.K W da)) (hr : PK X kws (liftA X.K W dr)) : PK X (⟨nm, e, kpos⟩ :: kws) (liftA X.K W (dCons da dr)) :=
  ⟨fun pos pins s sg H Q I ⟨ga, mu, al, hd, P, F, a, h, kl, kx⟩ => (pk_cons ha hr).run pos pins s sg H Q I ⟨ga, mu, al, hd, P, _, a, h, ⟨fun d mu1 v H1 al1 h1 o1 g1 r1 => ⟨ga, mu1, al1, hd, P, _, a.to o1 g1, h1, ⟨fun ds mu2 vs H2 al2 h2 o2 g2 r2 =>
    kl.go _ _ _ _ _ h2 o2 (g1.trans g2) (.cons (r1.go g2 g2.pre) r2)⟩, kx.to g1⟩⟩, kx⟩⟩
/-- C(k = e, ..) -/
def dMkK (pm : List Nat) (g : DSp) (m : Nat) (dk : DA) : DE := fun ga mu P F => dk ga mu P fun ds mu1 => ds.length = m ∧ g (pick .non ds pm) mu1 P F
theorem d_makeK0 {k c n : Nat} {g : DSp} {x : Str} {p pos : Pos} {kws : List Keyword} {ks : List Str} {pm : List Nat} {dk : DA} (M : MkOk X.prog X.w X.K X.mg X.base k c n g) (hr : Room (k + 1) X.A) (hm : X.mg x = some (.ref (He.ga X.K (cn c)))) (tk : Takes X W)
    (KB : ∀ f, PySem.W.findIn X.K (.ref (He.ga X.K (cn c))) "__init__" = some (some (.ref f)) → KwB X.K f 1 ks pm) (hk : PK X kws (liftA X.K W dk)) (hg : Gl X x := by rfl)
    (hall : (backToKw pos (keywordEach kws X.env)).all (·.1.isSome) = true := by rfl) (hks : (backToKw pos (keywordEach kws X.env)).filterMap (·.1) = ks := by rfl) (hdb : (x == ("__debug__" : Str)) = false := by decide)
    (hpl : ((backTo pos (starEach [] X.env)).any (·.1) || (backToKw pos (keywordEach kws X.env)).any (·.1.isNone)) = false := by rfl) : PE X (.Call (.Name x p) [] kws pos) (liftE X.K W (dMkK pm g ks.length dk)) := by
  refine ⟨fun pins s sg H Q I ⟨ga, mu, al, hd, P, F, a, h, kv, kx⟩ => ?_⟩
  obtain ⟨f, sp, fr, M1, ck, M2, M3⟩ := M.ok
  have KB := KB f M1.init
  obtain ⟨fd, oc, od, osl, lk⟩ := KB.ok
  obtain ⟨hn, G⟩ := M2.kw fd oc od osl lk
  refine wpAny_Call_Name_kw (ld_glob I hg hm ?_ hdb)
  refine PySem.W.callWith_KW0 (h₀ := X.base) I.ok.mod.kin M1.kp hall ?_ hpl
  have h' : liftA X.K W dk sg H (fun zs H1 => ∃ ds mu1 al1, Okay X.K hd H1 mu1 al1 ∧ Go hd H al H1 al1 ∧ RepL X.K (al1 ++ hd) H1 al1 ds zs ∧ ds.length = ks.length ∧ g (pick .non ds pm) mu1 P F) := ⟨ga, mu, al, hd, P, _, a, h, ⟨fun ds mu1 vs H1 al1 h1 o1 g1 r1 => ⟨ds, mu1, al1, o1, g1, r1, h1⟩⟩, kx⟩
  refine thn (hk.run pos pins s sg H _ I h') fun ws s2 ⟨zs, H2, I2, rz, ds, mu1, al1, o1, g1, r1, l1, h1⟩ => ⟨I2.kIn, ?_⟩
  rw [hks]
  show wpAny _ _ (call (.ref (He.ga X.K (cn c))) [] (ks.zip ws)) _ _ _
  have hq := mk_in ck (I2.hok.fresh (Nat.le_succ _)) (I2.hok.fresh (Nat.le_refl s2.heap.objs.size)) M3 M2.ar o1 (r1.pick pm) h1 (kv.to g1) (kx.to g1)
  have I3 := Inv.made (C := He.ga X.K (cn c)) I2
  have r2 : Vals (V.ref (s2.heap.objs.size + 1) :: pick .non zs pm) (Value.ref (s2.heap.objs.size + 1) :: pick .none ws pm) := .cons rfl (vals_pick rz pm)
  have bb := KB.to fd oc od osl lk _ [Value.ref (s2.heap.objs.size + 1)] ws I3.kIn rfl (by rw [← rz.length, ← r1.len, l1])
  refine wpAny_call (make_map (f := f) I2.kIn M1.makes M1.init (beq_iff_eq.mp M1.fn) (codeAny_mono (G.run _ X.stack _ _ ⟨[Value.ref (s2.heap.objs.size + 1)], ks.zip ws⟩ (Value.ref (s2.heap.objs.size + 1) :: pick .none ws pm) _ _ (WE W sg) (hr.make _ [] (ks.zip ws)) (I3.env0.make _ [] (ks.zip ws)) bb r2 hq) fun r s' hq' => ?_))
  cases r with
  | error e => exact passAt tk sg pins _ _ e s' I3 hq'
  | ok fl =>
    cases fl with
    | ret u =>
      obtain ⟨v, H', I4, rv, ev, q3⟩ := I3.after hq'
      subst ev
      exact ⟨rv, ⟨V.ref (s2.heap.objs.size + 1), H', I4, rfl, q3⟩⟩
    | next => exact False.elim hq'
    | brk => exact False.elim hq'
    | cont => exact False.elim hq'
/-! ### methods of lists -/
abbrev GM := D → List D → Sto → KD → Prop
def dMtd (g : GM) (do_ : DE) (da : DA) : DE := fun ga mu P F => do_ ga mu P fun x mu1 => (∃ n, x = .ptr n ∧ ((∃ l, mu1[n]? = some (.lst l)) ∨ ∃ l, mu1[n]? = some (.lsp l))) ∧ da ga mu1 P fun ds mu2 => g x ds mu2 F
def MbS (X : Cx) (id : String) (g : GM) : Prop := ∃ r, MtR X id r ∧ ∀ (H : Hp) (mu : Sto) (al hd : List Addr) (x : D) (v : V) (ds : List D) (vs : List V) (F : KD) (Q : VK), Okay X.K hd H mu al → Rep X.K (al ++ hd) H al x v → RepL X.K (al ++ hd) H al ds vs → g x ds mu F → Kv X.K hd H al F Q → r v vs H Q
theorem list_tyV {K : PySem.W.Frag} {hd al : List Addr} {H : Hp} {mu : Sto} {x : D} {v : V} (o : Okay K hd H mu al) (r : Rep K (al ++ hd) H al x v) (h : ∃ n, x = .ptr n ∧ ((∃ l, mu[n]? = some (.lst l)) ∨ ∃ l, mu[n]? = some (.lsp l))) : tyV K "list" v H := by
  obtain ⟨n, rfl, h⟩ := h
  cases r with
  | ptr e =>
    rcases h with ⟨l, h⟩ | ⟨l, h⟩
    · obtain ⟨xs, e1, _⟩ := o.at_ n _ _ h e
      exact .inl ⟨rfl, xs, .inl (.inl e1)⟩
    · obtain ⟨xs, e1, _⟩ := o.at_ n _ _ h e
      exact .inl ⟨rfl, xs, .inl (.inl e1)⟩
theorem d_mtd {o e : Expr} {es : List Expr} {name : Str} {apos cpos : Pos} {id : String} {g : GM} {do_ : DE} {da : DA} (pa : PlainAttrs "list") (slot : Slot "list" name id) (hty : typeOf (.builtin id) = pure (.type "method_descriptor")) (hm : MbS X id g) (ho : PE X o (liftE X.K W do_)) (ha : PA X (e :: es) (liftA X.K W da))
    (hbase : attributeBase o name X.env (eval o X.env) = eval o X.env := by rfl)
    (hfew : ((backTo cpos (starEach (e :: es) X.env)).all (fun x => !x.1) && (backToKw cpos (keywordEach [] X.env)).all (fun x => x.1.isSome)
      && decide ((e :: es).length + ([] : List Keyword).length + (if ([] : List Keyword).isEmpty then 0 else 1) < 30)) = true := by rfl)
    (hline : (apos.endLine == cpos.line) = true := by rfl) (hs : starEach (e :: es) X.env = (false, eval e X.env) :: starEach es X.env := by rfl) (hplain : (backTo cpos (starEach es X.env)).any (·.1) = false := by rfl) :
    PE X (.Call (.Attribute o name apos) (e :: es) [] cpos) (liftE X.K W (dMtd g do_ da)) := by
  obtain ⟨r, hr, k⟩ := hm
  refine pe_wk (pe_bm pa slot hty hr ho ha hbase hfew hline hs hplain) fun sg H Q ⟨ga, mu, al, hd, P, F, a, h, kv, kx⟩ => ?_
  refine ⟨ga, mu, al, hd, P, _, a, h, ⟨fun d mu1 v H1 al1 h1 o1 g1 r1 => ⟨list_tyV o1 r1 h1.1, ga, mu1, al1, hd, P, _, a.to o1 g1, h1.2, ⟨fun ds mu2 vs H2 al2 h2 o2 g2 r2 => k _ _ _ _ _ _ _ _ _ _ o2 (r1.go g2 g2.pre) r2 h2 (kv.to (g1.trans g2))⟩, kx.to g1⟩⟩, kx⟩
theorem d_mtd0 {o : Expr} {name : Str} {apos cpos : Pos} {id : String} {g : GM} {do_ : DE} (pa : PlainAttrs "list") (slot : Slot "list" name id) (hty : typeOf (.builtin id) = pure (.type "method_descriptor")) (hm : MbS X id g) (ho : PE X o (liftE X.K W do_))
    (hbase : attributeBase o name X.env (eval o X.env) = eval o X.env := by rfl) (hline : (apos.endLine == cpos.line) = true := by rfl) : PE X (.Call (.Attribute o name apos) [] [] cpos) (liftE X.K W (dMtd g do_ dNil)) := by
  obtain ⟨r, hr, k⟩ := hm
  refine pe_wk (pe_bm0 pa slot hty hr ho hbase hline) fun sg H Q ⟨ga, mu, al, hd, P, F, a, h, kv, kx⟩ => ?_
  exact ⟨ga, mu, al, hd, P, _, a, h, ⟨fun d mu1 v H1 al1 h1 o1 g1 r1 => ⟨list_tyV o1 r1 h1.1, k _ _ _ _ _ _ _ _ _ _ o1 r1 .nil h1.2 (kv.to g1)⟩⟩, kx⟩
/-- the cell of a list, changed -/
theorem Kv.setL {K : PySem.W.Frag} {hd al : List Addr} {H : Hp} {mu : Sto} {n : Nat} {p : Addr} {d : D} {v : V} {F : KD} {Q : VK} {l : List D} {xs : List V} (o : Okay K hd H mu al) (hp : al[n]? = some p) (kv : Kv K hd H al F Q) (r : RepL K (al ++ hd) H [] l xs) (rd : Rep K (al ++ hd) H al d v) (h : F d (mu.set n (.lst l))) : Q v (upd H p (.lst xs)) := by
  have e : ∀ a, a ≠ p → upd H p (.lst xs) a = H a := fun a ha => upd_ne ha
  have g := Go.write o hp e
  exact kv.go _ _ _ _ _ h (o.write hp e ⟨xs, upd_same, r.go g (Pre.refl _)⟩) g (rd.go g g.pre)
theorem Kv.setP {K : PySem.W.Frag} {hd al : List Addr} {H : Hp} {mu : Sto} {n : Nat} {p : Addr} {d : D} {v : V} {F : KD} {Q : VK} {l : List D} {xs : List V} (o : Okay K hd H mu al) (hp : al[n]? = some p) (kv : Kv K hd H al F Q) (r : RepL K (al ++ hd) H al l xs) (rd : Rep K (al ++ hd) H al d v) (h : F d (mu.set n (.lsp l))) : Q v (upd H p (.lst xs)) := by
  have e : ∀ a, a ≠ p → upd H p (.lst xs) a = H a := fun a ha => upd_ne ha
  have g := Go.write o hp e
  exact kv.go _ _ _ _ _ h (o.write hp e ⟨xs, upd_same, r.go g g.pre⟩) g (rd.go g g.pre)
def gAppend : GM := fun x ds mu F => match x, ds with
  | .ptr n, [d] => (match mu[n]? with
    | some (.lst l) => (np d ∧ l.length < 16777216) ∧ F .non (mu.set n (.lst (l ++ [d])))
    | some (.lsp l) => l.length < 16777216 ∧ F .non (mu.set n (.lsp (l ++ [d])))
    | _ => False)
  | _, _ => False
theorem m_append : MbS X "list.append" gAppend := by
  refine ⟨_, mt_append, fun H mu al hd x v ds vs F Q o rx rs h kv => ?_⟩
  unfold gAppend at h
  split at h
  · rename_i n d
    obtain ⟨y, ys, rfl, ry, rn⟩ := rs.cons_
    cases rn.nil_
    cases rx with
    | ptr e =>
      split at h
      · rename_i l q
        obtain ⟨xs, e1, r1⟩ := o.at_ n _ _ q e
        exact ⟨_, xs, y, rfl, rfl, e1, by rw [← r1.len, sizeLine_eq]; exact h.1.2, Kv.setL o e kv (r1.append (.one (ry.np h.1.1))) .non h.2⟩
      · rename_i l q
        obtain ⟨xs, e1, r1⟩ := o.at_ n _ _ q e
        exact ⟨_, xs, y, rfl, rfl, e1, by rw [← r1.len, sizeLine_eq]; exact h.1, Kv.setP o e kv (r1.append (.one ry)) .non h.2⟩
      · exact h.elim
  · exact h.elim
end
end DL

/-! part DL12 -/
/-! DL12: sorted(set(xs)), xs a list of whole numbers. -/
namespace DL
open PySem PySem.Spec PyProof.Rows L2
/-- an empty set, just made -/
abbrev newS (w : World) : Obj := { cls := .type "set", dict := none, data := .set #[] 0 (.fresh 0 0 (!w.params.followText "set-order")) }
section
variable {P : Program} {w : World} {A : Around} {E : Value → Shared → Prop} {s : Shared}
theorem set_of_listI {l : Addr} {items : Array Value} (ns : List Int) {Q : Value → Shared → Prop} (hh : A.handled = none) (hl : s.heap.IsList l items) (hit : IntsAre items.toList ns) (hb : ns.length + 1 < scanBound)
    (h : ∀ (h' : Heap) (tk c : Nat), SetR w h' s.heap.objs.size (fun j => decide (j ∈ ns)) c → c ≤ ns.length → (∀ b o, s.heap.get? b = some o → h'.get? b = some o) → Q (.ref s.heap.objs.size) { s with heap := h', toks := tk }) :
    wpAny (model P w) A (call (.type "set") [.ref l]) Q E s := by
  have sz : items.size = ns.length := by
    have q := IntsAre.length hit
    rw [Array.length_toList] at q
    exact q
  obtain ⟨c, tl, em⟩ := F.called_set.mro
  have ed1 := F.called_set.made
  have es1 := F.called_set.sub
  refine wpAny_call (codeAny_of_tree ?_)
  show wpAny _ _ (callAny (.type "set") _) _ _ _
  refine wpAny_pure ⟨Code.quiet_builtin _ (by decide +kernel), codeAny_builtin F.entry_type_call ?_⟩
  rw [Around.under_plain (weight_type_call_type "set" [.ref l] []) rfl]
  have h1 := F.called_set.notType
  have h2 := F.called_set.canCreate
  have ec := F.typeCall_set_1 (.ref l)
  repeat (any_goals (first | assumption | wp_step))

  refine codeAny_mono (code_set_led1 (.ref l) (E := E) (Q₁ := fun obj s₁ => obj = .ref s.heap.objs.size ∧ s₁ = { s with heap := s.heap.push (newS w) }) ⟨rfl, rfl⟩) fun r s₁ hr => ?_
  cases r with
  | error e => exact hr
  | ok fl =>
    cases fl with
    | ret obj =>
      obtain ⟨rfl, rfl⟩ := hr
      have r0 : (s.heap.push (newS w)).get? s.heap.objs.size = some (newS w) := Heap.get?_push_size _ rfl
      have ty0 : Shared.TypeIs { s with heap := s.heap.push (newS w) } (.ref s.heap.objs.size) "set" := ⟨_, r0, rfl⟩
      have el := F.called_set.init.lookup
      have eb := F.called_set.init.bind (.ref s.heap.objs.size)
      repeat (any_goals (first | assumption | wp_step))

      refine codeAny_mono (codeAny_call_builtin (R := wants (fun r s₂ => r = .none ∧ ∃ h' tk c, s₂ = { s with heap := h', toks := tk } ∧ SetR w h' s.heap.objs.size (fun j => decide (j ∈ ns)) c ∧ c ≤ ns.length ∧
          (∀ b o, s.heap.get? b = some o → h'.get? b = some o)) E) F.called_set.init.plain F.entry_set_init (check_set_init_1 ty0 ?_)) fun r₂ s₂ hr₂ => ?_
      · obtain ⟨ol, gl, gc, nl, gd⟩ := hl
        obtain ⟨o1, o2, o3, o4⟩ := ol
        simp only at gc gd
        subst gc; subst gd
        have gl' : (s.heap.push (newS w)).get? l = some { cls := .type "list", dict := o2, data := .seq items nl, slots := o4 } := Heap.get?_push_of_some _ gl
        have n1 := F.sub_list_set
        have n2 := F.sub_list_frozenset
        have hne : (Value.type "list" == Value.type "dict") = false := by decide
        have l1 : (s.heap.push (newS w)).IsList l items := ⟨_, gl', rfl, nl, rfl⟩
        unfold Builtin.«set.__init__» noKeywords Builtin.Frozenset.updateFrom
        generalize hPI : pyIter = PI
        wp_walk
        subst hPI

        refine wpAny_pyIter_list l1 ?_
        refine wpAny_bind (wpAny_runValue ?_)
        have lt0 : l < s.heap.objs.size := Heap.lt_size gl
        have a3 : A.in1.in1.in1.handled = none := by simp [hh]
        have z1 : (s.heap.push (newS w)).objs.size = s.heap.objs.size + 1 := Heap.size_push ..
        have ni : l ≠ (s.heap.push (newS w)).objs.size := by
          rw [Heap.size_push]; exact Nat.ne_of_lt (Nat.lt_succ_of_lt lt0)
        have nf : s.heap.objs.size ∉ [(s.heap.push (newS w)).objs.size, l] := by
          rw [Heap.size_push]; simp only [List.mem_cons, List.mem_singleton, List.not_mem_nil, or_false, not_or]
          exact ⟨Nat.ne_of_lt (Nat.lt_succ_self _), Nat.ne_of_gt lt0⟩
        have vals : ∀ (i : Nat) (v : Value), items[i]? = some v → ∃ k t, ns[i]? = some k ∧ v = .int k t := fun i v hv => by
          have hi : i < ns.length := by rw [← sz]; exact (Array.getElem?_eq_some_iff.mp hv).1
          obtain ⟨t, e⟩ := PyProof.Rows.IntsAre.int_at hit i v (by rw [Array.getElem?_toList]; exact hv)
          refine ⟨ns[i], t, List.getElem?_eq_getElem hi, ?_⟩
          rw [e, List.getD_eq_getElem?_getD, List.getElem?_eq_getElem hi] <;> rfl
        refine set_update_ints ((Walks.list a3 _ l ni items).toS) s.heap.objs.size
          nf ns sz hb vals (items.size - 0) 0 _ (by omega) (Nat.zero_le _)
          ⟨⟨_, Heap.get?_push_size _ rfl, rfl, rfl⟩, (l1.push _)⟩ ?st0 ?hR
        case st0 =>
          have gg : ((s.heap.push (newS w)).push { cls := .type "list_iterator", data := .fields #[.ref l, .int 0 0] }).get? s.heap.objs.size
              = some (newS w) := Heap.get?_push_of_some _ r0
          exact ⟨0, Nat.le_refl 0, setR_new_at gg⟩
        case hR =>
          intro s' c' hm cc' r'
          obtain ⟨h', g2, d', tk', os'⟩ := s'
          have eg : g2 = s.gens := hm.gens
          have ed : d' = s.drawn := hm.drawn
          have eo : os' = s.os := hm.os
          subst eg; subst ed; subst eo
          show wpAny _ _ _ _ _ _
          refine wpAny_pure ?_
          show wpAny _ _ (ret Value.none) _ _ _
          rw [sz] at cc'
          refine wpAny_pure ⟨rfl, h', tk', c', rfl, r', cc', fun b o e => ?_⟩
          have k0 : b < s.heap.objs.size := Heap.lt_size e
          have k1 : b ≠ s.heap.objs.size := Nat.ne_of_lt k0
          have k2 : b ≠ (s.heap.push (newS w)).objs.size := by
            rw [Heap.size_push]; exact Nat.ne_of_lt (Nat.lt_succ_of_lt k0)
          exact hm.heap b o (by simp only [List.mem_cons, List.mem_singleton, List.not_mem_nil, or_false, not_or]; exact ⟨k1, k2⟩) (Heap.get?_push_of_some _ (Heap.get?_push_of_some _ e))

      · cases r₂ with
        | error e => exact hr₂
        | ok fl₂ =>
          cases fl₂ with
          | ret r =>
            obtain ⟨rfl, h', tk, c', rfl, r', cc', kk'⟩ := hr₂
            repeat (any_goals (first | assumption | wp_step))
            exact h _ _ _ r' cc' kk'
          | _ => exact hr₂.elim
    | _ => exact hr.elim

end
end DL

/-! part DL13 -/
/-! DL13: sorted(set(xs)) as a rule; is None. -/
namespace DL
open PySem PySem.Spec PyProof.Rows L2
def ins1 (k : Int) : List Int → List Int
  | [] => [k]
  | a :: l => if k < a then k :: a :: l else if k = a then a :: l else a :: ins1 k l
/-- ascending, each once -/
def sd : List Int → List Int
  | [] => []
  | a :: l => ins1 a (sd l)
theorem mem_ins1 {k j : Int} : ∀ {l : List Int}, j ∈ ins1 k l ↔ j = k ∨ j ∈ l
  | [] => by simp [ins1]
  | a :: l => by
    rw [ins1]
    split
    · simp
    · split
      · rename_i e
        subst e
        simp
      · rw [List.mem_cons, mem_ins1 (l := l), List.mem_cons]
        constructor
        · rintro (h | h | h)
          · exact .inr (.inl h)
          · exact .inl h
          · exact .inr (.inr h)
        · rintro (h | h | h)
          · exact .inr (.inl h)
          · exact .inl h
          · exact .inr (.inr h)
theorem mem_sd {j : Int} : ∀ {l : List Int}, j ∈ sd l ↔ j ∈ l
  | [] => by simp [sd]
  | a :: l => by rw [sd, mem_ins1, mem_sd (l := l), List.mem_cons]
theorem asc_ins1 {k : Int} : ∀ {l : List Int}, l.Pairwise (· < ·) → (ins1 k l).Pairwise (· < ·)
  | [], _ => by simp [ins1]
  | a :: l, h => by
    have h' := List.pairwise_cons.mp h
    rw [ins1]
    split
    · rename_i q
      refine List.pairwise_cons.mpr ⟨fun b hb => ?_, h⟩
      rcases List.mem_cons.mp hb with e | e
      · rw [e]; exact q
      · exact Int.lt_trans q (h'.1 b e)
    · split
      · exact h
      · rename_i q1 q2
        refine List.pairwise_cons.mpr ⟨fun b hb => ?_, asc_ins1 h'.2⟩
        rcases mem_ins1.mp hb with e | e
        · rw [e]; omega
        · exact h'.1 b e
theorem asc_sd : ∀ l : List Int, (sd l).Pairwise (· < ·)
  | [] => .nil
  | a :: l => asc_ins1 (asc_sd l)
theorem asc_uniq : ∀ {l r : List Int}, l.Pairwise (· < ·) → r.Pairwise (· < ·) → (∀ k, k ∈ l ↔ k ∈ r) → l = r
  | [], [], _, _, _ => rfl
  | [], b :: r, _, _, h => absurd ((h b).mpr List.mem_cons_self) (by simp)
  | a :: l, [], _, _, h => absurd ((h a).mp List.mem_cons_self) (by simp)
  | a :: l, b :: r, h1, h2, h => by
    have p1 := List.pairwise_cons.mp h1
    have p2 := List.pairwise_cons.mp h2
    have e : a = b := by
      rcases List.mem_cons.mp ((h a).mp List.mem_cons_self) with e | e
      · exact e
      · rcases List.mem_cons.mp ((h b).mpr List.mem_cons_self) with e' | e'
        · exact e'.symm
        · have q1 := p2.1 a e
          have q2 := p1.1 b e'
          omega
    subst e
    have e2 : l = r := asc_uniq p1.2 p2.2 fun k => by
      constructor
      · intro hk
        rcases List.mem_cons.mp ((h k).mp (List.mem_cons_of_mem _ hk)) with e | e
        · have := p1.1 k hk
          omega
        · exact e
      · intro hk
        rcases List.mem_cons.mp ((h k).mpr (List.mem_cons_of_mem _ hk)) with e | e
        · have := p2.1 k hk
          omega
        · exact e
    rw [e2]
theorem sd_of {l r : List Int} (h1 : r.Pairwise (· < ·)) (h2 : ∀ k, k ∈ r ↔ k ∈ l) : r = sd l := asc_uniq h1 (asc_sd l) fun k => (h2 k).trans mem_sd.symm
/-- a list of whole numbers -/
def intsD : List D → Option (List Int)
  | [] => some []
  | .int i :: l => (intsD l).map (i :: ·)
  | _ :: _ => none
theorem intsD_map (ns : List Int) : intsD (ns.map D.int) = some ns := by
  induction ns with
  | nil => rfl
  | cons a l ih => rw [List.map_cons, intsD, ih] <;> rfl
theorem intsD_eq : ∀ {l : List D} {ns : List Int}, intsD l = some ns → l = ns.map D.int
  | [], ns, h => by
    cases h
    rfl
  | .int i :: l, ns, h => by
    rw [intsD] at h
    cases q : intsD l with
    | none =>
      rw [q] at h
      cases h
    | some r =>
      rw [q] at h
      cases h
      rw [intsD_eq q] <;> rfl
  | .non :: l, ns, h => by cases h
  | .bl _ :: l, ns, h => by cases h
  | .str _ :: l, ns, h => by cases h
  | .adr _ :: l, ns, h => by cases h
  | .ptr _ :: l, ns, h => by cases h
  | .tup _ :: l, ns, h => by cases h
  | .lst _ :: l, ns, h => by cases h
  | .obj _ _ :: l, ns, h => by cases h
  | .err _ _ _ _ :: l, ns, h => by cases h
theorem RepL.ints {K : PySem.W.Frag} {fb pt : List Addr} {H : Hp} : ∀ {ns : List Int} {xs : List V}, RepL K fb H pt (ns.map D.int) xs → xs = ns.map V.int
  | [], _, .nil => rfl
  | _ :: _, _, .cons h r => by
    cases h
    rw [RepL.ints r] <;> rfl
theorem RepL.ofInts {K : PySem.W.Frag} {fb pt : List Addr} {H : Hp} : ∀ (ns : List Int), RepL K fb H pt (ns.map D.int) (ns.map V.int)
  | [] => .nil
  | _ :: ns => .cons .int (RepL.ofInts ns)
def rSetOfL (K : PySem.W.Frag) (w : World) : List V → Hp → VK → Prop := fun vs H Q => ∃ (l : Addr) (ns : List Int), vs = [V.ref l] ∧ SqL K H l (ns.map V.int) ∧ ns.length + 1 < scanBound ∧ ∀ (p : Addr) (c : Nat), H p = none → c ≤ ns.length → Q (.ref p) (upd H p (SetO w p (fun j => decide (j ∈ ns)) c))
section
variable {X : Cx} {W : WX}
theorem cr_setOfL (hc : X.calm = true) : CallR X (.type "set") (rSetOfL X.K X.w) := by
  intro pins s sg H vs us Q I r h
  obtain ⟨l, ns, rfl, hq, hb, q⟩ := h
  obtain ⟨u, rfl, ru⟩ := vals1 r
  cases ru
  obtain ⟨its, rv, pl, hz⟩ := I.list hq
  refine set_of_listI ns (I.ok.hd hc) pl.isList (by simpa using rv.ints) hb fun h' tk c R hcl k => ?_
  exact ⟨.ref _, _, I.laid (t' := tk) k (Nat.le_refl _) (setO_new R), rfl, q _ c (I.hok.fresh (Nat.le_refl _)) hcl⟩
def rSetOfTI (K : PySem.W.Frag) (w : World) : List V → Hp → VK → Prop := fun vs H Q => ∃ (l : Addr) (ns : List Int), vs = [V.ref l] ∧ SqT K H l (ns.map V.int) ∧ ns.length + 1 < scanBound ∧ ∀ (p : Addr) (c : Nat), H p = none → c ≤ ns.length → Q (.ref p) (upd H p (SetO w p (fun j => decide (j ∈ ns)) c))
theorem cr_setOfTI (hc : X.calm = true) : CallR X (.type "set") (rSetOfTI X.K X.w) := by
  intro pins s sg H vs us Q I r h
  obtain ⟨l, ns, rfl, hq, hb, q⟩ := h
  obtain ⟨u, rfl, ru⟩ := vals1 r
  cases ru
  obtain ⟨its, rv, pl, hz⟩ := I.tuple hq
  refine call_set_tupI ns (I.ok.hd hc) (show s.heap.IsTuple l its.toArray from pl) (by simpa using rv.ints) hb fun h' tk c R hcl k => ?_
  exact ⟨.ref _, _, I.laid (t' := tk) k (Nat.le_refl _) (setO_new R), rfl, q _ c (I.hok.fresh (Nat.le_refl _)) hcl⟩
def dSortSet (m : Nat) (de : DE) : DE := fun ga mu P F => de ga mu P fun x mu1 => match sv mu1 x with
  | some l => (match intsD l with
    | some ns => ns.length < 64 ∧ retN m ((sd ns).map D.int) mu1 F
    | none => False)
  | none => False
theorem d_sortSet (m : Nat) {e : Expr} {de : DE} {p1 p2 q1 q2 : Pos} (hc : X.calm = true) (hm : X.mg "sorted" = none) (hm2 : X.mg "set" = none) (he : PE X e (liftE X.K W de)) (hg : Gl X "sorted" := by rfl) (hg2 : Gl X "set" := by rfl)
    (hs : starEach [e] X.env = [(false, eval e X.env)] := by rfl) (hs2 : starEach [Expr.Call (.Name "set" p2) [e] [] q2] X.env = [(false, eval (Expr.Call (.Name "set" p2) [e] [] q2) X.env)] := by rfl) :
    PE X (.Call (.Name "sorted" p1) [.Call (.Name "set" p2) [e] [] q2] [] q1) (liftE X.K W (dSortSet m de)) := by
  have h1 := pe_callTy (CallR.orr (cr_setOfL (X := X) hc) (cr_setOfTI (X := X) hc)) hg2 hm2 (by decide +kernel) (pa_cons he pa_nil hs) (by decide) (by decide) hs (by rfl) (p := p2) (pos := q2)
  have h2 := pe_callB (cr_sortedSet (X := X) hc) hg hm (by decide +kernel) (pa_cons h1 pa_nil hs2) (by decide) (by decide) hs2 (by rfl) (p := p1) (pos := q1)
  refine pe_wk h2 fun sg H Q ⟨ga, mu, al, hd, P, F, a, h, kv, kx⟩ => ?_
  refine ⟨ga, mu, al, hd, P, _, a, h, ⟨fun d mu1 v H1 al1 hh o1 g1 r1 => ?_⟩, kx⟩
  split at hh
  · rename_i l hl
    split at hh
    · rename_i ns hns
      have el := intsD_eq hns
      subst el
      obtain ⟨a1, xs, rfl, z, r2⟩ := r1.sv o1 hl
      have ex := r2.ints
      subst ex
      have fin : ∀ (p : Addr) (c : Nat), H1 p = none → c ≤ ns.length → rSortedSet X.w [V.ref p] (upd H1 p (SetO X.w p (fun j => decide (j ∈ ns)) c)) Q := fun p c hp hc1 => by
        refine ⟨p, _, c, rfl, upd_same, by have := hh.1; omega, fun ns' p' hs hmem hlen hp' => ?_⟩
        have e2 : ns' = sd ns := sd_of hs fun k => (hmem k).trans (by simp)
        subst e2
        have g2 : Go hd H1 al1 (upd H1 p (SetO X.w p (fun j => decide (j ∈ ns)) c)) al1 := Go.lay o1 hp
        exact ((kv.to g1).to g2).listN (o1.lay hp) hp' (RepL.ofInts _) hh.2
      rcases z with z | z
      · exact .inl ⟨a1, ns, rfl, z, by unfold scanBound; have := hh.1; omega, fin⟩
      · exact .inr ⟨a1, ns, rfl, z, by unfold scanBound; have := hh.1; omega, fin⟩
    · exact hh.elim
  · exact hh.elim
/-- x is None, x is not None -/
def isNonD : D → Bool
  | .non => true
  | _ => false
end
end DL

/-! part DL14 -/
/-! DL14: C(), where there is no __init__ but object's; statements never reached. -/
namespace DL
open PySem PySem.Spec PyProof.Rows L2
/-- a class without fields and without __init__ -/
structure Mk0 (K : PySem.W.Frag) (c : Nat) : Prop where
  ck : ClsOk K c
  no : fn c = []
  makes : PySem.W.makesIn K (He.ga K (cn c)) = true
  init : PySem.W.findIn K (.ref (He.ga K (cn c))) "__init__" = some (some (.builtin "object.__init__"))
  top : PySem.W.mroIn K (He.ga K (cn c)) (.type "object") = some true
  kp : PySem.W.keepIn K (.ref (He.ga K (cn c))) = true
def dMk0 (c : Nat) : DE := fun _ mu _ F => F (.obj c []) mu
/-- a statement that is not reached -/
def dNever : DS := fun _ _ _ => False
section
variable {X : Cx} {W : WX}
theorem ds_never {s : Stmt} : PS X s (liftS X.K W dNever) := ⟨fun _ _ _ _ _ _ ⟨_, _, _, _, _, _, h, _⟩ => h.elim⟩
theorem d_make00 {c : Nat} {x : Str} {p pos : Pos} (M : Mk0 X.K c) (hm : X.mg x = some (.ref (He.ga X.K (cn c)))) (hg : Gl X x := by rfl) (hdb : (x == ("__debug__" : Str)) = false := by decide) : PE X (.Call (.Name x p) [] [] pos) (liftE X.K W (dMk0 c)) := by
  refine ⟨fun pins s sg H Q I ⟨ga, mu, al, hd, P, F, a, h, kv, kx⟩ => ?_⟩
  refine wpAny_Call_Name_kw (ld_glob I hg hm ?_ hdb)
  refine PySem.W.callWith_K0 I.kIn M.kp (wpAny_call (make_map0 (R := wants (EP X pins sg Q) X.xe) I.kIn M.makes M.init (fun self => PySem.W.Looks.of_pure (PySem.W.oi_bind self)) ?_))
  have I2 := Inv.made (C := He.ga X.K (cn c)) I
  have hx0 : H (s.heap.objs.size + 1) = none := I.hok.fresh (Nat.le_succ _)
  have hd0 : H s.heap.objs.size = none := I.hok.fresh (Nat.le_refl s.heap.objs.size)
  obtain ⟨mA, J, _⟩ := ins_get I2.hok (show _ = some (HO.ins (He.ga X.K (cn c)) s.heap.objs.size []) from upd_same)
  obtain ⟨od, J, _⟩ := J.look
  refine codeAny_call_builtin PySem.W.oi_plain PySem.W.entry_oi (PySem.W.check_slot PySem.W.oi_kind PySem.W.oi_split (J.type.andThen (PySem.W.looks_mroIn I2.kIn M.top)) (NwA.oi_args_any _ [] []) ?_)
  rw [PySem.W.oi_run]
  have keep : ∀ b u, H b = some u → (upd (upd H s.heap.objs.size (.own (s.heap.objs.size + 1))) (s.heap.objs.size + 1) (.ins (He.ga X.K (cn c)) s.heap.objs.size [])) b = some u := fun b u e => by
    rw [upd_ne (ne_of_none e hx0), upd_ne (ne_of_none e hd0)]
    exact e
  refine wpAny_pure ⟨rfl, V.ref (s.heap.objs.size + 1), _, I2, rfl, kv.go (.obj c []) mu _ _ al h (a.ok.ext keep) (Go.ext a.ok keep) (.obj (a.ok.new hx0) (by rw [upd_same]; unfold fz; rw [M.no] <;> rfl) ⟨by rw [M.no] <;> rfl, M.ck⟩ .nil)⟩
end
end DL

/-! part DL15 -/
/-! DL15: a, b = x, y and a, b, c = x, y, z with plain local names. -/
namespace DL
open PySem PySem.Spec PyProof.Rows L2
def dPar2 (i j : Nat) (da : DA) : DS := fun E ga mu => da ga mu E.ex fun ds mu1 => match ds with
  | [x, y] => E.nx ((ga.set i (some x)).set j (some y)) mu1
  | _ => False
def dPar3 (i j l : Nat) (da : DA) : DS := fun E ga mu => da ga mu E.ex fun ds mu1 => match ds with
  | [x, y, z] => E.nx (((ga.set i (some x)).set j (some y)).set l (some z)) mu1
  | _ => False
section
variable {X : Cx} {W : WX}
theorem ds_par2 (i j : Nat) {x y : Str} {a b : Expr} {da : DA} {px py pt pos : Pos} {kt k2 pt2} (hc : X.calm = true) (hN : X.N.Nodup) (ha : PA X [a, b] (liftA X.K W da)) (hi : X.N[i]? = some x := by rfl) (hj : X.N[j]? = some y := by rfl) (hij : i ≠ j := by decide)
    (hx : X.env.scope.names.lookup x = some .local := by rfl) (hy : X.env.scope.names.lookup y = some .local := by rfl)
    (hw : swappedStores [.Tuple [.Name x px, .Name y py] kt pt] (.Tuple [a, b] k2 pt2) X.env = pure (some [x, y]) := by rfl)
    (hs : swapsWithSole [.Tuple [.Name x px, .Name y py] kt pt] (.Tuple [a, b] k2 pt2) pos.line X.env = pure false := by rfl) : PS X (.Assign [.Tuple [.Name x px, .Name y py] kt pt] (.Tuple [a, b] k2 pt2) pos) (liftS X.K W (dPar2 i j da)) := by
  refine ps_wk (ps_par hc hN hi hj hij hx hy ha hw hs) fun Q sg H ⟨ga, mu, al, hd, E, at_, h, k⟩ => ?_
  refine ⟨ga, mu, al, hd, E.ex, _, at_, h, ⟨fun ds mu1 vs H1 al1 h1 o1 g1 r1 => ?_⟩, k.ex sg⟩
  split at h1
  · obtain ⟨v, ys, rfl, r2, r3⟩ := r1.cons_
    obtain ⟨v2, ys2, rfl, r4, r5⟩ := r3.cons_
    cases r5.nil_
    exact ⟨v, v2, rfl, k.nx _ _ _ _ _ h1 ⟨o1, ((at_.sl.go g1).set i r2).set j r4⟩ g1⟩
  · exact h1.elim
theorem ds_par3 (i j l : Nat) {x y z : Str} {a b c : Expr} {da : DA} {px py pz pt pos : Pos} {kt k2 pt2} (hc : X.calm = true) (hN : X.N.Nodup) (ha : PA X [a, b, c] (liftA X.K W da)) (hi : X.N[i]? = some x := by rfl) (hj : X.N[j]? = some y := by rfl) (hl : X.N[l]? = some z := by rfl) (hij : i ≠ j := by decide) (hil : i ≠ l := by decide) (hjl : j ≠ l := by decide)
    (hx : X.env.scope.names.lookup x = some .local := by rfl) (hy : X.env.scope.names.lookup y = some .local := by rfl) (hz : X.env.scope.names.lookup z = some .local := by rfl)
    (hw : swappedStores [.Tuple [.Name x px, .Name y py, .Name z pz] kt pt] (.Tuple [a, b, c] k2 pt2) X.env = pure (some [x, y, z]) := by rfl)
    (hs : swapsWithSole [.Tuple [.Name x px, .Name y py, .Name z pz] kt pt] (.Tuple [a, b, c] k2 pt2) pos.line X.env = pure false := by rfl) : PS X (.Assign [.Tuple [.Name x px, .Name y py, .Name z pz] kt pt] (.Tuple [a, b, c] k2 pt2) pos) (liftS X.K W (dPar3 i j l da)) := by
  refine ps_wk (ps_par3 hc hN hi hj hl hij hil hjl hx hy hz ha hw hs) fun Q sg H ⟨ga, mu, al, hd, E, at_, h, k⟩ => ?_
  refine ⟨ga, mu, al, hd, E.ex, _, at_, h, ⟨fun ds mu1 vs H1 al1 h1 o1 g1 r1 => ?_⟩, k.ex sg⟩
  split at h1
  · obtain ⟨v, ys, rfl, r2, r3⟩ := r1.cons_
    obtain ⟨v2, ys2, rfl, r4, r5⟩ := r3.cons_
    obtain ⟨v3, ys3, rfl, r6, r7⟩ := r5.cons_
    cases r7.nil_
    exact ⟨v, v2, v3, rfl, k.nx _ _ _ _ _ h1 ⟨o1, (((at_.sl.go g1).set i r2).set j r4).set l r6⟩ g1⟩
  · exact h1.elim
end
end DL

/-! part DL16 -/
/-! DL16: the script and a list, put together; the script may stand in the written part. -/
namespace DL
open PySem
open AutoSeq1 (wpAny_loadPart')
open MeetsSeq in
theorem add_slots (l : Addr) (xs : Array Value) (n : Nat) (sl : Array (Option Value)) (b : Addr) (ys : Array Value) (n2 : Nat) (hz : xs.size + ys.size ≤ sizeLine) :
    Meets (Builtin.«list.__add__» ⟨[.ref l, .ref b], []⟩) (fun _ R s => s.heap.get? l = some { cls := .type "list", data := .seq xs n, slots := sl } ∧ s.heap.get? b = some { cls := .type "list", data := .seq ys n2 } ∧ R (.ok (.ret (Value.ref s.heap.objs.size))) { s with heap := s.heap.push { cls := .type "list", data := .seq (xs ++ ys) }, toks := s.toks }) :=
  .of_wp fun prog w A R s h => by
    obtain ⟨hp, g, d, tk, os⟩ := s
    obtain ⟨h1, h2, h⟩ := h
    have k1 := AutoSeq1.idx_int
    have k2 := AutoSeq1.sub_tuple_tuple
    have k3 := AutoSeq1.sub_list_list
    have k4 := AutoSeq1.sub_tuple_list
    have k5 := AutoSeq1.sub_list_tuple
    wp_walk using wpAny_loadPart' h1, wpAny_loadPart' h2
    exact ⟨_, rfl, h⟩
open PySem.Spec PyProof.Rows L2
def rCatK (K : PySem.W.Frag) : R2 := fun x y H Q => ∃ l b xs zs, x = .ref l ∧ y = .ref b ∧ SqL K H l xs ∧ Rd H b (.lst zs) ∧ xs.length + zs.length ≤ sizeLine ∧ ∀ p, H p = none → Q (.ref p) (upd H p (.lst (xs ++ zs)))
section
variable {X : Cx} {W : WX}
theorem op_catK : OpR X (binaryOp .Add) (rCatK X.K) := by
  intro pins s sg H x y v u Q I rx ry h
  obtain ⟨l, b, xs, zs, rfl, rfl, hH, hB, hz, q⟩ := h
  cases rx
  cases ry
  obtain ⟨its, r, ⟨o, n, e, ec, edd, ed⟩, z⟩ := I.list hH
  obtain ⟨z2, its2, n2, r2, hl2, e2⟩ := Rd.lst I hB
  obtain ⟨oc, od, dt, sl⟩ := o
  simp only at ec edd ed
  subst ec edd ed
  have hl := r.length
  refine concat_meets ⟨_, e, rfl⟩ ⟨_, e2, rfl⟩ noFill_list_add seq_list_add F.slot_list_add F.entry_list_add (F.args_list_add_2 _ _) (add_slots l its.toArray n sl b its2.toArray n2 (by rw [List.size_toArray, List.size_toArray]; omega)) ⟨e, e2, ?_⟩
  have ea : its.toArray ++ its2.toArray = (its ++ its2).toArray := by simp
  rw [ea]
  exact ⟨.ref _, _, I.lnew (t' := s.toks) (r.append r2) (by rw [List.length_append]; omega), rfl, q _ I.fresh⟩
/-- script + a list: the script is the list of the text at a -/
def gScr (a : Addr) (ns : List Int) : G2 := fun x y mu _ F => x = .adr a ∧ ∃ k, lv mu y = some k ∧ ns.length + k.length ≤ 16777216 ∧ F (.lst (ns.map D.int ++ k)) mu
theorem o_scr {a : Addr} {ns : List Int} (hS : ∀ H, SqL X.K H a (ns.map V.int)) : OpS X (binaryOp .Add) (liftR X.K W (gScr a ns)) := by
  refine ops_wk (opr_s op_catK) fun sg x y H Q ⟨mu, al, hd, d, e, P, F, o, r1, r2, hg, kv, kx⟩ => ?_
  obtain ⟨rfl, k, hk, hz, h⟩ := hg
  cases r1
  obtain ⟨p, ys, rfl, e2, s2⟩ := r2.lv o hk
  refine ⟨a, p, _, ys, rfl, rfl, hS H, e2, ?_, fun b hb => kv.listN (m := 0) o hb ((RepL.ofInts ns).append s2) h⟩
  rw [List.length_map, ← s2.len, sizeLine_eq]
  exact hz
end
end DL

/-! part DQ0 -/
/-! DQ0: == and != of lists and tuples, item by item, both answers. -/
namespace DQ
open PySem PySem.SeqAt
open AutoSeq1 (wpAny_loadPart')
open MeetsSeq MeetsSeq2 MeetsSeq3 SeqRoads2
section
variable {prog : Program} {w : World} {A : Around} {R : Result → Shared → Prop}
/-- how a built-in's body ends -/
abbrev FinO (prog : Program) (w : World) (A : Around) (R : Result → Shared → Prop) : Fin → Shared → Prop := fun fin s' => match fin with
  | .done f => R (.ok f) s'
  | .again c' => c'.quiet = true ∧ codeAny (model prog w) A c' R s'

/-- list == list, item by item, both answers (eq) -/
def ListB_eq (prog : Program) (w : World) (A : Around) (E : Value → Shared → Prop) (l b : Addr) (N : Nat) (I J : Nat → Shared → Prop) : Prop :=
  ∀ i s, I i s → ∃ (items items2 : Array Value) (n n2 : Nat), s.heap.get? l = some { cls := .type "list", data := .seq items n } ∧ s.heap.get? b = some { cls := .type "list", data := .seq items2 n2 } ∧ items.size = N ∧ items2.size = N ∧
    ∀ (h1 : i < items.size) (h2 : i < items2.size), wpAny (model prog w) A.in1 (eqBool items[i] items2[i]) (fun r s' => (r = true → I (i + 1) s') ∧ (r = false → J i s' ∧ ∃ (items items2 : Array Value) (n n2 : Nat), s'.heap.get? l = some { cls := .type "list", data := .seq items n } ∧ s'.heap.get? b = some { cls := .type "list", data := .seq items2 n2 } ∧ items.size = N ∧ items2.size = N)) E s
theorem loopB_eq (l b : Addr) (N : Nat) (I J : Nat → Shared → Prop) (hl : ListB_eq prog w A (fun e s' => R (.error e) s') l b N I J)
    (fin : ∀ s, I N s → R (.ok (.ret (.bool true))) s) (fin2 : ∀ i s, i < N → J i s → R (.ok (.ret (.bool false))) s) (k : Nat) :
    ∀ i : Nat, N - i = k → i ≤ N → ∀ s, I i s →
      wpAny (model prog w) A.in1 (Builtin.«list.__eq__.loop» ⟨[.ref l, .ref b, rawInt i, rawInt 2], []⟩) (FinO prog w A R) (fun e s' => R (.error e) s') s := by
  induction k with
  | zero =>
    intro i hk hi s h
    obtain ⟨items, items2, n, n2, hl1, hb1, hs1, hs2, _⟩ := hl _ _ h
    have hi' : i = N := by omega
    have hR := fin s (hi' ▸ h)
    obtain ⟨hp, g, d, tk, os⟩ := s
    wp_walk using wpAny_loadPart' hl1, wpAny_loadPart' hb1
    have hi1 : items[((i : Nat) : Int).toNat]? = none := by simp; omega
    have hi2 : items2[((i : Nat) : Int).toNat]? = none := by simp; omega
    rw [hi1, hi2]
    wp_walk using wpAny_loadPart' hl1, wpAny_loadPart' hb1
    show R (.ok (.ret (.bool (items.size == items2.size)))) _
    rw [hs1, hs2]
    simpa using hR
  | succ k ih =>
    intro i hk hi s h
    obtain ⟨items, items2, n, n2, hl1, hb1, hs1, hs2, turn⟩ := hl _ _ h
    have hlt : i < items.size := by omega
    have hlt2 : i < items2.size := by omega
    have ht := turn hlt hlt2
    obtain ⟨hp, g, d, tk, os⟩ := s
    wp_walk using wpAny_loadPart' hl1, wpAny_loadPart' hb1
    have hi1 : items[((i : Nat) : Int).toNat]? = some items[i] := by simp [hlt]
    have hi2 : items2[((i : Nat) : Int).toNat]? = some items2[i] := by simp [hlt2]
    have hc : ((i : Int) + 1) = ((i + 1 : Nat) : Int) := by omega
    rw [hi1, hi2]
    refine wpAny_bind (wpAny_mono ht (fun r s2 h2 => ?_) fun _ _ x => x)
    obtain ⟨hr1, hr2⟩ := h2
    cases r with
    | true =>
      have hrec := ih (i + 1) (by omega) (by omega) s2 (hr1 rfl)
      obtain ⟨hp2, g2, d2, tk2, os2⟩ := s2
      wp_walk
      rw [hc]
      exact ⟨plainId_quiet plain_eq_loop _, codeAny_builtin entry_eq_loop (by
        rw [Around.under_plainId plain_eq_loop _]
        exact hrec)⟩
    | false =>
      obtain ⟨hj, it3, it4, n3, n4, hl3, hb3, hs3, hs4⟩ := hr2 rfl
      have hR := fin2 i s2 (by omega) hj
      obtain ⟨hp2, g2, d2, tk2, os2⟩ := s2
      have hi3 : it3[((i : Nat) : Int).toNat]? = some (it3[i]'(by omega)) := by simp [show i < it3.size by omega]
      have hi4 : it4[((i : Nat) : Int).toNat]? = some (it4[i]'(by omega)) := by simp [show i < it4.size by omega]
      wp_walk using wpAny_loadPart' hl3, wpAny_loadPart' hb3
      rw [hi3, hi4]
      wp_walk using wpAny_loadPart' hl3, wpAny_loadPart' hb3
      exact hR
theorem listB_eq (l b : Addr) (N : Nat) (I J : Nat → Shared → Prop) (hl : ListB_eq prog w A (fun e s' => R (.error e) s') l b N I J)
    (fin : ∀ s, I N s → R (.ok (.ret (.bool true))) s) (fin2 : ∀ i s, i < N → J i s → R (.ok (.ret (.bool false))) s) {s : Shared} (h : I 0 s) :
    wpAny (model prog w) A.in1 (Builtin.«list.__eq__» ⟨[.ref l, .ref b], []⟩) (FinO prog w A R) (fun e s' => R (.error e) s') s := by
  obtain ⟨items, items2, n, n2, hl1, hb1, hs1, hs2, _⟩ := hl _ _ h
  have hrec := loopB_eq (A := A) (R := R) l b N I J hl fin fin2 _ 0 rfl (Nat.zero_le _) s h
  obtain ⟨hp, g, d, tk, os⟩ := s
  have f3 := AutoSeq1.sub_list_list
  have hne : ¬ (items.size != items2.size) = true := by simp [hs1, hs2]
  wp_walk using wpAny_loadPart' hl1, wpAny_loadPart' hb1
  exact ⟨plainId_quiet plain_eq_loop _, codeAny_builtin entry_eq_loop (by
    rw [Around.under_plainId plain_eq_loop _]
    exact hrec)⟩
theorem listZ_eq {l b : Addr} {items items2 : Array Value} {n n2 : Nat} {s : Shared} (hl1 : s.heap.get? l = some { cls := .type "list", data := .seq items n }) (hb1 : s.heap.get? b = some { cls := .type "list", data := .seq items2 n2 }) (hn : items.size ≠ items2.size)
    (h : R (.ok (.ret (.bool false))) s) : wpAny (model prog w) A.in1 (Builtin.«list.__eq__» ⟨[.ref l, .ref b], []⟩) (FinO prog w A R) (fun e s' => R (.error e) s') s := by
  obtain ⟨hp, g, d, tk, os⟩ := s
  have f3 := AutoSeq1.sub_list_list
  have hne : (items.size != items2.size) = true := by simp [hn]
  wp_walk using wpAny_loadPart' hl1, wpAny_loadPart' hb1
  exact h
theorem tupB_eq (l b : Addr) (items items2 : Array Value) (n n2 : Nat) (dd dd2 : Option Addr) (sl sl2 : Array (Option Value)) (I J : Nat → Shared → Prop)
    (turn : ∀ i (h1 : i < items.size) (h2 : i < items2.size) s, I i s → wpAny (model prog w) A.in1 (eqBool items[i] items2[i]) (fun r s' => (r = true → I (i + 1) s') ∧ (r = false → J i s')) (fun e s' => R (.error e) s') s)
    (fin : ∀ s, I (min items.size items2.size) s → R (.ok (.ret (.bool (items.size == items2.size)))) s) (fin2 : ∀ i s, J i s → R (.ok (.ret (.bool false))) s) {s : Shared} (hl1 : s.heap.get? l = some { cls := .type "tuple", dict := dd, data := .seq items n, slots := sl })
    (hb1 : s.heap.get? b = some { cls := .type "tuple", dict := dd2, data := .seq items2 n2, slots := sl2 }) (h : I 0 s) :
    wpAny (model prog w) A.in1 (Builtin.«tuple.__eq__» ⟨[.ref l, .ref b], []⟩) (FinO prog w A R) (fun e s' => R (.error e) s') s := by
  have f2 := AutoSeq1.sub_tuple_tuple
  have hZ : (items.toList.zip items2.toList).length = min items.size items2.size := by simp
  have h0 := h
  obtain ⟨hp, g, d, tk, os⟩ := s
  wp_walk using wpAny_loadPart' hl1, wpAny_loadPart' hb1, wpAny_forIn_list _ (fun rest b s' => b.1 = none ∧ ∃ i, rest = (items.toList.zip items2.toList).drop i ∧ i ≤ min items.size items2.size ∧ I i s') _
  case turn =>
    rintro ⟨y, x⟩ rest b s' ⟨hb', i, hz, hi, hI⟩
    have hlt : i < (items.toList.zip items2.toList).length := by
      rcases Nat.lt_or_ge i (items.toList.zip items2.toList).length with h' | h'
      · exact h'
      · rw [List.drop_of_length_le h'] at hz; cases hz
    have h1 : i < items.size := by rw [hZ] at hlt; omega
    have h2 : i < items2.size := by rw [hZ] at hlt; omega
    rw [List.drop_eq_getElem_cons hlt] at hz
    injection hz with hyx hrest
    have hy : y = items[i] := by have := congrArg Prod.fst hyx; simpa using this
    have hx : x = items2[i] := by have := congrArg Prod.snd hyx; simpa using this
    subst hy hx
    refine wpAny_bind (wpAny_mono (turn i h1 h2 s' hI) (fun r s2 q2 => ?_) fun _ _ x => x)
    obtain ⟨hr1, hr2⟩ := q2
    cases r with
    | true =>
      have q3 := hr1 rfl
      wp_walk
      exact ⟨rfl, i + 1, hrest, by omega, q3⟩
    | false =>
      have q3 := fin2 i s2 (hr2 rfl)
      wp_walk
      exact q3
  case fin =>
    rintro ⟨b1, b2⟩ s' ⟨hb', i, hz, hi, hI⟩
    simp only at hb'
    subst hb'
    have hge : min items.size items2.size ≤ i := by
      rcases Nat.lt_or_ge i (items.toList.zip items2.toList).length with h' | h'
      · rw [List.drop_eq_getElem_cons h'] at hz; cases hz
      · rw [hZ] at h'; exact h'
    have hi' : i = min items.size items2.size := by omega
    have hR := fin s' (hi' ▸ hI)
    wp_walk
    exact hR
  case h =>
    exact ⟨rfl, 0, rfl, Nat.zero_le _, h0⟩

/-- list == list, item by item, both answers (ne) -/
def ListB_ne (prog : Program) (w : World) (A : Around) (E : Value → Shared → Prop) (l b : Addr) (N : Nat) (I J : Nat → Shared → Prop) : Prop :=
  ∀ i s, I i s → ∃ (items items2 : Array Value) (n n2 : Nat), s.heap.get? l = some { cls := .type "list", data := .seq items n } ∧ s.heap.get? b = some { cls := .type "list", data := .seq items2 n2 } ∧ items.size = N ∧ items2.size = N ∧
    ∀ (h1 : i < items.size) (h2 : i < items2.size), wpAny (model prog w) A.in1 (eqBool items[i] items2[i]) (fun r s' => (r = true → I (i + 1) s') ∧ (r = false → J i s' ∧ ∃ (items items2 : Array Value) (n n2 : Nat), s'.heap.get? l = some { cls := .type "list", data := .seq items n } ∧ s'.heap.get? b = some { cls := .type "list", data := .seq items2 n2 } ∧ items.size = N ∧ items2.size = N)) E s
theorem loopB_ne (l b : Addr) (N : Nat) (I J : Nat → Shared → Prop) (hl : ListB_ne prog w A (fun e s' => R (.error e) s') l b N I J)
    (fin : ∀ s, I N s → R (.ok (.ret (.bool false))) s) (fin2 : ∀ i s, i < N → J i s → R (.ok (.ret (.bool true))) s) (k : Nat) :
    ∀ i : Nat, N - i = k → i ≤ N → ∀ s, I i s →
      wpAny (model prog w) A.in1 (Builtin.«list.__eq__.loop» ⟨[.ref l, .ref b, rawInt i, rawInt 3], []⟩) (FinO prog w A R) (fun e s' => R (.error e) s') s := by
  induction k with
  | zero =>
    intro i hk hi s h
    obtain ⟨items, items2, n, n2, hl1, hb1, hs1, hs2, _⟩ := hl _ _ h
    have hi' : i = N := by omega
    have hR := fin s (hi' ▸ h)
    obtain ⟨hp, g, d, tk, os⟩ := s
    wp_walk using wpAny_loadPart' hl1, wpAny_loadPart' hb1
    have hi1 : items[((i : Nat) : Int).toNat]? = none := by simp; omega
    have hi2 : items2[((i : Nat) : Int).toNat]? = none := by simp; omega
    rw [hi1, hi2]
    wp_walk using wpAny_loadPart' hl1, wpAny_loadPart' hb1
    show R (.ok (.ret (.bool (items.size != items2.size)))) _
    rw [hs1, hs2]
    simpa using hR
  | succ k ih =>
    intro i hk hi s h
    obtain ⟨items, items2, n, n2, hl1, hb1, hs1, hs2, turn⟩ := hl _ _ h
    have hlt : i < items.size := by omega
    have hlt2 : i < items2.size := by omega
    have ht := turn hlt hlt2
    obtain ⟨hp, g, d, tk, os⟩ := s
    wp_walk using wpAny_loadPart' hl1, wpAny_loadPart' hb1
    have hi1 : items[((i : Nat) : Int).toNat]? = some items[i] := by simp [hlt]
    have hi2 : items2[((i : Nat) : Int).toNat]? = some items2[i] := by simp [hlt2]
    have hc : ((i : Int) + 1) = ((i + 1 : Nat) : Int) := by omega
    rw [hi1, hi2]
    refine wpAny_bind (wpAny_mono ht (fun r s2 h2 => ?_) fun _ _ x => x)
    obtain ⟨hr1, hr2⟩ := h2
    cases r with
    | true =>
      have hrec := ih (i + 1) (by omega) (by omega) s2 (hr1 rfl)
      obtain ⟨hp2, g2, d2, tk2, os2⟩ := s2
      wp_walk
      rw [hc]
      exact ⟨plainId_quiet plain_eq_loop _, codeAny_builtin entry_eq_loop (by
        rw [Around.under_plainId plain_eq_loop _]
        exact hrec)⟩
    | false =>
      obtain ⟨hj, it3, it4, n3, n4, hl3, hb3, hs3, hs4⟩ := hr2 rfl
      have hR := fin2 i s2 (by omega) hj
      obtain ⟨hp2, g2, d2, tk2, os2⟩ := s2
      have hi3 : it3[((i : Nat) : Int).toNat]? = some (it3[i]'(by omega)) := by simp [show i < it3.size by omega]
      have hi4 : it4[((i : Nat) : Int).toNat]? = some (it4[i]'(by omega)) := by simp [show i < it4.size by omega]
      wp_walk using wpAny_loadPart' hl3, wpAny_loadPart' hb3
      rw [hi3, hi4]
      wp_walk using wpAny_loadPart' hl3, wpAny_loadPart' hb3
      exact hR
theorem listB_ne (l b : Addr) (N : Nat) (I J : Nat → Shared → Prop) (hl : ListB_ne prog w A (fun e s' => R (.error e) s') l b N I J)
    (fin : ∀ s, I N s → R (.ok (.ret (.bool false))) s) (fin2 : ∀ i s, i < N → J i s → R (.ok (.ret (.bool true))) s) {s : Shared} (h : I 0 s) :
    wpAny (model prog w) A.in1 (Builtin.«list.__ne__» ⟨[.ref l, .ref b], []⟩) (FinO prog w A R) (fun e s' => R (.error e) s') s := by
  obtain ⟨items, items2, n, n2, hl1, hb1, hs1, hs2, _⟩ := hl _ _ h
  have hrec := loopB_ne (A := A) (R := R) l b N I J hl fin fin2 _ 0 rfl (Nat.zero_le _) s h
  obtain ⟨hp, g, d, tk, os⟩ := s
  have f3 := AutoSeq1.sub_list_list
  have hne : ¬ (items.size != items2.size) = true := by simp [hs1, hs2]
  wp_walk using wpAny_loadPart' hl1, wpAny_loadPart' hb1
  exact ⟨plainId_quiet plain_eq_loop _, codeAny_builtin entry_eq_loop (by
    rw [Around.under_plainId plain_eq_loop _]
    exact hrec)⟩
theorem listZ_ne {l b : Addr} {items items2 : Array Value} {n n2 : Nat} {s : Shared} (hl1 : s.heap.get? l = some { cls := .type "list", data := .seq items n }) (hb1 : s.heap.get? b = some { cls := .type "list", data := .seq items2 n2 }) (hn : items.size ≠ items2.size)
    (h : R (.ok (.ret (.bool true))) s) : wpAny (model prog w) A.in1 (Builtin.«list.__ne__» ⟨[.ref l, .ref b], []⟩) (FinO prog w A R) (fun e s' => R (.error e) s') s := by
  obtain ⟨hp, g, d, tk, os⟩ := s
  have f3 := AutoSeq1.sub_list_list
  have hne : (items.size != items2.size) = true := by simp [hn]
  wp_walk using wpAny_loadPart' hl1, wpAny_loadPart' hb1
  exact h
theorem tupB_ne (l b : Addr) (items items2 : Array Value) (n n2 : Nat) (dd dd2 : Option Addr) (sl sl2 : Array (Option Value)) (I J : Nat → Shared → Prop)
    (turn : ∀ i (h1 : i < items.size) (h2 : i < items2.size) s, I i s → wpAny (model prog w) A.in1 (eqBool items[i] items2[i]) (fun r s' => (r = true → I (i + 1) s') ∧ (r = false → J i s')) (fun e s' => R (.error e) s') s)
    (fin : ∀ s, I (min items.size items2.size) s → R (.ok (.ret (.bool (items.size != items2.size)))) s) (fin2 : ∀ i s, J i s → R (.ok (.ret (.bool true))) s) {s : Shared} (hl1 : s.heap.get? l = some { cls := .type "tuple", dict := dd, data := .seq items n, slots := sl })
    (hb1 : s.heap.get? b = some { cls := .type "tuple", dict := dd2, data := .seq items2 n2, slots := sl2 }) (h : I 0 s) :
    wpAny (model prog w) A.in1 (Builtin.«tuple.__ne__» ⟨[.ref l, .ref b], []⟩) (FinO prog w A R) (fun e s' => R (.error e) s') s := by
  have f2 := AutoSeq1.sub_tuple_tuple
  have hZ : (items.toList.zip items2.toList).length = min items.size items2.size := by simp
  have h0 := h
  obtain ⟨hp, g, d, tk, os⟩ := s
  wp_walk using wpAny_loadPart' hl1, wpAny_loadPart' hb1, wpAny_forIn_list _ (fun rest b s' => b.1 = none ∧ ∃ i, rest = (items.toList.zip items2.toList).drop i ∧ i ≤ min items.size items2.size ∧ I i s') _
  case turn =>
    rintro ⟨y, x⟩ rest b s' ⟨hb', i, hz, hi, hI⟩
    have hlt : i < (items.toList.zip items2.toList).length := by
      rcases Nat.lt_or_ge i (items.toList.zip items2.toList).length with h' | h'
      · exact h'
      · rw [List.drop_of_length_le h'] at hz; cases hz
    have h1 : i < items.size := by rw [hZ] at hlt; omega
    have h2 : i < items2.size := by rw [hZ] at hlt; omega
    rw [List.drop_eq_getElem_cons hlt] at hz
    injection hz with hyx hrest
    have hy : y = items[i] := by have := congrArg Prod.fst hyx; simpa using this
    have hx : x = items2[i] := by have := congrArg Prod.snd hyx; simpa using this
    subst hy hx
    refine wpAny_bind (wpAny_mono (turn i h1 h2 s' hI) (fun r s2 q2 => ?_) fun _ _ x => x)
    obtain ⟨hr1, hr2⟩ := q2
    cases r with
    | true =>
      have q3 := hr1 rfl
      wp_walk
      exact ⟨rfl, i + 1, hrest, by omega, q3⟩
    | false =>
      have q3 := fin2 i s2 (hr2 rfl)
      wp_walk
      exact q3
  case fin =>
    rintro ⟨b1, b2⟩ s' ⟨hb', i, hz, hi, hI⟩
    simp only at hb'
    subst hb'
    have hge : min items.size items2.size ≤ i := by
      rcases Nat.lt_or_ge i (items.toList.zip items2.toList).length with h' | h'
      · rw [List.drop_eq_getElem_cons h'] at hz; cases hz
      · rw [hZ] at h'; exact h'
    have hi' : i = min items.size items2.size := by omega
    have hR := fin s' (hi' ▸ hI)
    wp_walk
    exact hR
  case h =>
    exact ⟨rfl, 0, rfl, Nat.zero_le _, h0⟩

end
end DQ

/-! part DQ1 -/
/-! DQ1: == and != over data, both answers. -/
namespace DQ
open PySem PySem.Spec PyProof.Rows L2 DL
def vD : D → Option V
  | .non => some .non
  | .bl b => some (.bl b)
  | .int i => some (.int i)
  | .str x => some (.str x)
  | _ => none
mutual
/-- ==, where it is told -/
def eqD : D → D → Option Bool
  | .tup l, .tup r => eqL l r
  | .tup _, .obj _ _ => none
  | .tup _, .adr _ => none
  | .tup _, .ptr _ => none
  | .tup _, .err _ _ _ _ => none
  | .tup _, _ => some false
  | .lst l, .lst r => eqL l r
  | .lst _, .obj _ _ => none
  | .lst _, .adr _ => none
  | .lst _, .ptr _ => none
  | .lst _, .err _ _ _ _ => none
  | .lst _, _ => some false
  | .obj c l, .obj c' r => if thg c = true ∧ thg c' = true then (if c = c' then eqL l r else some false) else none
  | .obj _ _, .adr _ => none
  | .obj _ _, .ptr _ => none
  | .obj _ _, .err _ _ _ _ => none
  | .obj c _, _ => if thg c = true then some false else none
  | .adr _, _ => none
  | .ptr _, _ => none
  | .err _ _ _ _, _ => none
  | .non, .non => some true
  | .non, .tup _ => some false
  | .non, .lst _ => some false
  | .non, .bl _ => some false
  | .non, .int _ => some false
  | .non, .str _ => some false
  | .non, _ => none
  | .bl a, .bl b => some (a == b)
  | .bl a, .int b => some ((if a then 1 else 0) == b)
  | .bl _, .tup _ => some false
  | .bl _, .lst _ => some false
  | .bl _, .non => some false
  | .bl _, .str _ => some false
  | .bl _, _ => none
  | .int a, .int b => some (a == b)
  | .int a, .bl b => some (a == (if b then 1 else 0))
  | .int _, .tup _ => some false
  | .int _, .lst _ => some false
  | .int _, .non => some false
  | .int _, .str _ => some false
  | .int _, _ => none
  | .str a, .str b => some (a == b)
  | .str _, .tup _ => some false
  | .str _, .lst _ => some false
  | .str _, .non => some false
  | .str _, .bl _ => some false
  | .str _, .int _ => some false
  | .str _, _ => none
def eqL : List D → List D → Option Bool
  | [], [] => some true
  | [], _ :: _ => some false
  | _ :: _, [] => some false
  | a :: l, b :: r => match eqD a b with
    | some true => eqL l r
    | some false => some false
    | none => none
end
mutual
def dp : D → Nat
  | .tup l => dpL l + 1
  | .lst l => dpL l + 1
  | .obj _ l => dpL l + 2
  | _ => 0
def dpL : List D → Nat
  | [] => 0
  | a :: l => max (dp a) (dpL l)
end
theorem dpL_get : ∀ {l : List D} {i : Nat} {d : D}, l[i]? = some d → dp d ≤ dpL l
  | [], _, _, h => by simp at h
  | a :: l, 0, d, h => by
    simp at h
    subst h
    rw [dpL]
    exact Nat.le_max_left _ _
  | a :: l, i + 1, d, h => by
    have h' : l[i]? = some d := by simpa using h
    rw [dpL]
    exact Nat.le_trans (dpL_get h') (Nat.le_max_right _ _)
theorem eqL_at {l r : List D} {i : Nat} {a b : D} {t : Bool} (ha : l[i]? = some a) (hb : r[i]? = some b) (h : eqL (l.drop i) (r.drop i) = some t) :
    ∃ t', eqD a b = some t' ∧ (t' = true → eqL (l.drop (i + 1)) (r.drop (i + 1)) = some t) ∧ (t' = false → t = false) := by
  obtain ⟨h1, e1⟩ := List.getElem?_eq_some_iff.mp ha
  obtain ⟨h2, e2⟩ := List.getElem?_eq_some_iff.mp hb
  rw [List.drop_eq_getElem_cons h1, List.drop_eq_getElem_cons h2, e1, e2, eqL] at h
  cases q : eqD a b with
  | none =>
    rw [q] at h
    cases h
  | some t' =>
    rw [q] at h
    refine ⟨t', rfl, fun e => ?_, fun e => ?_⟩
    · subst e
      exact h
    · subst e
      cases h
      rfl
theorem eqL_end {l r : List D} {t : Bool} (h : eqL (l.drop (min l.length r.length)) (r.drop (min l.length r.length)) = some t) : t = decide (l.length = r.length) := by
  rcases Nat.lt_trichotomy l.length r.length with z | z | z
  · rw [Nat.min_eq_left (Nat.le_of_lt z), List.drop_length, List.drop_eq_getElem_cons z, eqL] at h
    cases h
    exact (decide_eq_false (Nat.ne_of_lt z)).symm
  · rw [z, Nat.min_self, ← z, List.drop_length, z, List.drop_length, eqL] at h
    cases h
    exact (decide_eq_true z).symm
  · rw [Nat.min_eq_right (Nat.le_of_lt z), List.drop_length, List.drop_eq_getElem_cons z, eqL] at h
    cases h
    exact (decide_eq_false (Nat.ne_of_gt z)).symm
theorem eqL_len : ∀ {l r : List D}, eqL l r = some true → l.length = r.length
  | [], [], _ => rfl
  | [], _ :: _, h => by rw [eqL] at h; cases h
  | _ :: _, [], h => by rw [eqL] at h; cases h
  | a :: l, b :: r, h => by
    rw [eqL] at h
    cases q : eqD a b with
    | none =>
      rw [q] at h
      cases h
    | some t =>
      rw [q] at h
      cases t with
      | true => rw [List.length_cons, List.length_cons, eqL_len h]
      | false => cases h
mutual
theorem eqD_refl : ∀ (d : D) {b : Bool}, eqD d d = some b → b = true
  | .non, b, h => by rw [eqD] at h; cases h; rfl
  | .bl x, b, h => by rw [eqD] at h; cases h; simp
  | .int x, b, h => by rw [eqD] at h; cases h; simp
  | .str x, b, h => by rw [eqD] at h; cases h; simp
  | .adr x, b, h => by rw [eqD] at h; cases h
  | .ptr x, b, h => by rw [eqD] at h; cases h
  | .err _ _ _ _, b, h => by rw [eqD] at h; cases h
  | .tup l, b, h => by
    rw [eqD] at h
    exact eqL_refl l h
  | .lst l, b, h => by
    rw [eqD] at h
    exact eqL_refl l h
  | .obj c l, b, h => by
    rw [eqD] at h
    split at h
    · rw [if_pos rfl] at h
      exact eqL_refl l h
    · cases h
theorem eqL_refl : ∀ (l : List D) {b : Bool}, eqL l l = some b → b = true
  | [], b, h => by rw [eqL] at h; cases h; rfl
  | a :: l, b, h => by
    rw [eqL] at h
    cases q : eqD a a with
    | none =>
      rw [q] at h
      cases h
    | some t =>
      rw [q] at h
      have e := eqD_refl a q
      subst e
      exact eqL_refl l h
end
/-- a cell of a list, seen -/
def dr (mu : Sto) : D → D
  | .ptr n => (match mu[n]? with
    | some (.lst l) => .lst l
    | _ => .ptr n)
  | d => d
end DQ

/-! part DQ2 -/
/-! DQ2: == and != of values that stand for data: flat ones, lists, tuples. -/
namespace DQ
open PySem PySem.Spec PyProof.Rows L2 DL
/-- a value's kind in the heap -/
inductive Kind (h : Heap) : D → Value → Prop
  | non : Kind h .non .none
  | bl {b : Bool} : Kind h (.bl b) (.bool b)
  | int {i : Int} {t : Tok} : Kind h (.int i) (.int i t)
  | str {x : Str} {t : Tok} : Kind h (.str x) (.str x t)
  | tup {l : List D} {a : Addr} {its : Array Value} : h.IsTuple a its → Kind h (.tup l) (.ref a)
  | lst {l : List D} {a : Addr} {its : Array Value} : h.IsList a its → Kind h (.lst l) (.ref a)
  | obj {c : Nat} {l : List D} {a : Addr} : Kind h (.obj c l) (.ref a)
  | adr {p : Addr} {u : Value} : Kind h (.adr p) u
  | ptr {n : Nat} {u : Value} : Kind h (.ptr n) u
  | err {a : Addr} {d : Option Addr} {c : Nat} {l : List D} {u : Value} : Kind h (.err a d c l) u
def cmpd : D → Bool
  | .tup _ => true
  | .lst _ => true
  | _ => false
/-- two kinds that are told apart at once -/
def mixD : D → D → Bool
  | .tup _, .tup _ => false
  | .lst _, .lst _ => false
  | .obj _ _, _ => false
  | _, _ => true
open SeqAt in
theorem mix_at {A : Around} {s : Shared} {d e : D} {u v : Value} {b : Bool} (hu : A.units < cLine) (kd : Kind s.heap d u) (ke : Kind s.heap e v) (hm : mixD d e = true) (h : eqD d e = some b) : RcAt A s u v b ∧ RcNeAt A s u v (!b) ∧ EqAt A s u v b := by
  cases kd with
  | non =>
    cases ke with
    | non => rw [eqD] at h; cases h; exact ⟨.none_none, .none_none, .same _⟩
    | bl => rw [eqD] at h; cases h; exact ⟨.none_bool _, .none_bool _, .none_bool _⟩
    | int => rw [eqD] at h; cases h; exact ⟨.none_int _ _, .none_int _ _, .none_int _ _⟩
    | str => rw [eqD] at h; cases h; exact ⟨.none_str _ _, .none_str _ _, .none_str _ _⟩
    | tup k => rw [eqD] at h; cases h; exact ⟨.none_tuple k hu, .none_tuple k hu, .none_tuple k hu⟩
    | lst k => rw [eqD] at h; cases h; exact ⟨.none_list k hu, .none_list k hu, .none_list k hu⟩
    | obj => cases h
    | adr => cases h
    | ptr => cases h
    | err => cases h
  | bl =>
    cases ke with
    | non => rw [eqD] at h; cases h; exact ⟨.bool_none _, .bool_none _, .bool_none _⟩
    | bl => rw [eqD] at h; cases h; exact ⟨.bool_bool _ _, .bool_bool _ _, .bool_bool _ _⟩
    | int => rw [eqD] at h; cases h; exact ⟨.bool_int _ _ _, .bool_int _ _ _, .bool_int _ _ _⟩
    | str => rw [eqD] at h; cases h; exact ⟨.bool_str _ _ _, .bool_str _ _ _, .bool_str _ _ _⟩
    | tup k => rw [eqD] at h; cases h; exact ⟨.bool_tuple _ k hu, .bool_tuple _ k hu, .bool_tuple _ k hu⟩
    | lst k => rw [eqD] at h; cases h; exact ⟨.bool_list _ k hu, .bool_list _ k hu, .bool_list _ k hu⟩
    | obj => cases h
    | adr => cases h
    | ptr => cases h
    | err => cases h
  | int =>
    cases ke with
    | non => rw [eqD] at h; cases h; exact ⟨.int_none _ _, .int_none _ _, .int_none _ _⟩
    | bl => rw [eqD] at h; cases h; exact ⟨.int_bool _ _ _, .int_bool _ _ _, .int_bool _ _ _⟩
    | int => rw [eqD] at h; cases h; exact ⟨.int_int _ _ _ _, .int_int _ _ _ _, .int_int _ _ _ _⟩
    | str => rw [eqD] at h; cases h; exact ⟨.int_str _ _ _ _, .int_str _ _ _ _, .int_str _ _ _ _⟩
    | tup k => rw [eqD] at h; cases h; exact ⟨.int_tuple _ _ k hu, .int_tuple _ _ k hu, .int_tuple _ _ k hu⟩
    | lst k => rw [eqD] at h; cases h; exact ⟨.int_list _ _ k hu, .int_list _ _ k hu, .int_list _ _ k hu⟩
    | obj => cases h
    | adr => cases h
    | ptr => cases h
    | err => cases h
  | str =>
    cases ke with
    | non => rw [eqD] at h; cases h; exact ⟨.str_none _ _, .str_none _ _, .str_none _ _⟩
    | bl => rw [eqD] at h; cases h; exact ⟨.str_bool _ _ _, .str_bool _ _ _, .str_bool _ _ _⟩
    | int => rw [eqD] at h; cases h; exact ⟨.str_int _ _ _ _, .str_int _ _ _ _, .str_int _ _ _ _⟩
    | str => rw [eqD] at h; cases h; exact ⟨.str_str _ _ _ _, .str_str _ _ _ _, .str_str _ _ _ _⟩
    | tup k => rw [eqD] at h; cases h; exact ⟨.str_tuple _ _ k hu, .str_tuple _ _ k hu, .str_tuple _ _ k hu⟩
    | lst k => rw [eqD] at h; cases h; exact ⟨.str_list _ _ k hu, .str_list _ _ k hu, .str_list _ _ k hu⟩
    | obj => cases h
    | adr => cases h
    | ptr => cases h
    | err => cases h
  | tup k0 =>
    cases ke with
    | non => simp [eqD] at h; subst h; exact ⟨.tuple_none k0 hu, .tuple_none k0 hu, .tuple_none k0 hu⟩
    | bl => simp [eqD] at h; subst h; exact ⟨.tuple_bool _ k0 hu, .tuple_bool _ k0 hu, .tuple_bool _ k0 hu⟩
    | int => simp [eqD] at h; subst h; exact ⟨.tuple_int _ _ k0 hu, .tuple_int _ _ k0 hu, .tuple_int _ _ k0 hu⟩
    | str => simp [eqD] at h; subst h; exact ⟨.tuple_str _ _ k0 hu, .tuple_str _ _ k0 hu, .tuple_str _ _ k0 hu⟩
    | tup k => cases hm
    | lst k => simp [eqD] at h; subst h; exact ⟨.tuple_list k0 k hu, .tuple_list k0 k hu, .tuple_list k0 k hu⟩
    | obj => cases h
    | adr => cases h
    | ptr => cases h
    | err => cases h
  | lst k0 =>
    cases ke with
    | non => simp [eqD] at h; subst h; exact ⟨.list_none k0 hu, .list_none k0 hu, .list_none k0 hu⟩
    | bl => simp [eqD] at h; subst h; exact ⟨.list_bool _ k0 hu, .list_bool _ k0 hu, .list_bool _ k0 hu⟩
    | int => simp [eqD] at h; subst h; exact ⟨.list_int _ _ k0 hu, .list_int _ _ k0 hu, .list_int _ _ k0 hu⟩
    | str => simp [eqD] at h; subst h; exact ⟨.list_str _ _ k0 hu, .list_str _ _ k0 hu, .list_str _ _ k0 hu⟩
    | lst k => cases hm
    | tup k => simp [eqD] at h; subst h; exact ⟨.list_tuple k0 k hu, .list_tuple k0 k hu, .list_tuple k0 k hu⟩
    | obj => cases h
    | adr => cases h
    | ptr => cases h
    | err => cases h
  | obj => cases hm
  | adr =>
    rw [eqD] at h
    cases h
  | ptr =>
    rw [eqD] at h
    cases h
  | err =>
    rw [eqD] at h
    cases h
section
variable {K : PySem.W.Frag} {H : Hp} {al hd : List Addr} {mu : Sto}
theorem Rep.nil_np {fb : List Addr} {d : D} {v : V} (r : Rep K fb H [] d v) : np d := by
  cases r with
  | ptr e => simp at e
  | _ => trivial
theorem dr_np {d : D} (h : np d) : dr mu d = d := by
  cases d with
  | ptr n => exact h.elim
  | _ => rfl
theorem RepL.up {fb pt : List Addr} {l : List D} {xs : List V} (r : RepL K fb H [] l xs) : RepL K fb H pt l xs := r.fz (Fz.refl _ _) (Pre.nil _)
theorem Rep.up {fb pt : List Addr} {d : D} {v : V} (r : Rep K fb H [] d v) : Rep K fb H pt d v := r.fz (Fz.refl _ _) (Pre.nil _)
theorem dr_lst {d : D} {l : List D} (h : dr mu d = .lst l) : lv mu d = some l := by
  cases d with
  | lst r =>
    cases h
    rfl
  | ptr n =>
    have h' : (match mu[n]? with
      | some (.lst l) => D.lst l
      | _ => D.ptr n) = .lst l := h
    show (match mu[n]? with
      | some (.lst l) => some l
      | _ => none) = some l
    split at h' <;> cases h'
    rfl
  | _ => cases h
theorem dr_tup {d : D} {l : List D} (h : dr mu d = .tup l) : d = .tup l := by
  cases d with
  | tup r =>
    cases h
    rfl
  | ptr n =>
    have h' : (match mu[n]? with
      | some (.lst l) => D.lst l
      | _ => D.ptr n) = .tup l := h
    split at h' <;> cases h'
  | _ => cases h
theorem dr_obj {d : D} {c : Nat} {l : List D} (h : dr mu d = .obj c l) : d = .obj c l := by
  cases d with
  | obj _ r =>
    cases h
    rfl
  | ptr n =>
    have h' : (match mu[n]? with
      | some (.lst l) => D.lst l
      | _ => D.ptr n) = .obj c l := h
    split at h' <;> cases h'
  | _ => cases h
end
section
variable {X : Cx} {pins : List (Addr × Obj)} {s : Shared} {sg : L2.St} {H : Hp} {hd al : List Addr} {mu : Sto} {d e : D} {x y : V} {u v : Value}
theorem kind_of (I : Inv X pins sg H s) (o : Okay X.K hd H mu al) (r : Rep X.K (al ++ hd) H al d x) (ru : RelV x u) : Kind s.heap (dr mu d) u := by
  cases r with
  | non => cases ru; exact .non
  | bl => cases ru; exact .bl
  | int => obtain ⟨t, rfl⟩ := ru; exact .int
  | str => obtain ⟨t, rfl⟩ := ru; exact .str
  | adr => exact .adr
  | err0 => exact .err
  | err => exact .err
  | tup z r =>
    cases ru
    obtain ⟨its, rv, p, hz⟩ := I.tuple z.sq
    exact .tup p
  | lst z r =>
    cases ru
    obtain ⟨its, rv, p, hz⟩ := I.list z.sq
    exact .lst p.isList
  | obj a b c r =>
    cases ru
    exact .obj
  | ptr e0 =>
    rename_i n p
    cases h : dr mu (.ptr n) with
    | lst l =>
      obtain ⟨q, xs, e1, z, _⟩ := DL.Rep.lv o (.ptr e0) (dr_lst h)
      cases e1
      cases ru
      obtain ⟨its, rv, p, hz⟩ := I.list (.inl z)
      exact .lst p.isList
    | ptr m => exact .ptr
    | adr a => exact .adr
    | err _ _ _ _ => exact .err
    | tup l => cases dr_tup h
    | obj c l => cases dr_obj h
    | non =>
      have h' : (match mu[n]? with
        | some (.lst l) => D.lst l
        | _ => D.ptr n) = .non := h
      split at h' <;> cases h'
    | bl b =>
      have h' : (match mu[n]? with
        | some (.lst l) => D.lst l
        | _ => D.ptr n) = .bl b := h
      split at h' <;> cases h'
    | int b =>
      have h' : (match mu[n]? with
        | some (.lst l) => D.lst l
        | _ => D.ptr n) = .int b := h
      split at h' <;> cases h'
    | str b =>
      have h' : (match mu[n]? with
        | some (.lst l) => D.lst l
        | _ => D.ptr n) = .str b := h
      split at h' <;> cases h'
end
/-- the state later on, no cell changed -/
def Pst (X : Cx) (pins : List (Addr × Obj)) (sg : L2.St) (hd al : List Addr) (mu : Sto) (H : Hp) (s' : Shared) : Prop := ∃ H', Inv X pins sg H' s' ∧ Okay X.K hd H' mu al ∧ Go hd H al H' al
/-- == inside a built-in, for data of depth n at most; k: the room -/
def EqB (X : Cx) (n k : Nat) : Prop := ∀ (A : Around) (pins : List (Addr × Obj)) (s : Shared) (sg : L2.St) (H : Hp) (hd al : List Addr) (mu : Sto) (d e : D) (x y : V) (u v : Value) (b : Bool),
  Sub X k A → Inv X pins sg H s → Okay X.K hd H mu al → Rep X.K (al ++ hd) H al d x → Rep X.K (al ++ hd) H al e y → RelV x u → RelV y v → dp (dr mu d) ≤ n → eqD (dr mu d) (dr mu e) = some b →
    wpAny (model X.prog X.w) A (eqBool u v) (fun r s' => r = b ∧ Pst X pins sg hd al mu H s') X.xe s
def RcB (X : Cx) (n k : Nat) (op : CmpOp) (f : Bool → Bool) : Prop := ∀ (A : Around) (pins : List (Addr × Obj)) (s : Shared) (sg : L2.St) (H : Hp) (hd al : List Addr) (mu : Sto) (d e : D) (x y : V) (u v : Value) (b : Bool),
  Sub X k A → Inv X pins sg H s → Okay X.K hd H mu al → Rep X.K (al ++ hd) H al d x → Rep X.K (al ++ hd) H al e y → RelV x u → RelV y v → dp (dr mu d) ≤ n → eqD (dr mu d) (dr mu e) = some b →
    wpAny (model X.prog X.w) A (richCompare op u v) (fun r s' => r = .bool (f b) ∧ Pst X pins sg hd al mu H s') X.xe s
/-- the same, of instances with an own == on the left -/
def ObB (X : Cx) (n k : Nat) (op : CmpOp) (f : Bool → Bool) : Prop := ∀ (A : Around) (pins : List (Addr × Obj)) (s : Shared) (sg : L2.St) (H : Hp) (hd al : List Addr) (mu : Sto) (c : Nat) (l : List D) (e : D) (x y : V) (u v : Value) (b : Bool),
  Sub X k A → Inv X pins sg H s → Okay X.K hd H mu al → Rep X.K (al ++ hd) H al (.obj c l) x → Rep X.K (al ++ hd) H al e y → RelV x u → RelV y v → dp (.obj c l) ≤ n → eqD (.obj c l) (dr mu e) = some b →
    wpAny (model X.prog X.w) A (richCompare op u v) (fun r s' => r = .bool (f b) ∧ Pst X pins sg hd al mu H s') X.xe s
section
variable {X : Cx} {n k : Nat}
theorem turnB (h : EqB X n k) {A : Around} (sb : Sub X (k + 1) A) {pins : List (Addr × Obj)} {sg : L2.St} {H : Hp} {hd al : List Addr} {mu : Sto} {l r : List D} {xs ys : List V} {its its2 : List Value} {t : Bool} (r1 : RepL X.K (al ++ hd) H [] l xs) (r2 : RepL X.K (al ++ hd) H [] r ys)
    (v1 : Vals xs its) (v2 : Vals ys its2) (hn : dpL l ≤ n) (i : Nat) (h1 : i < its.toArray.size) (h2 : i < its2.toArray.size) (s' : Shared) (p : Pst X pins sg hd al mu H s') (he : eqL (l.drop i) (r.drop i) = some t) :
    wpAny (model X.prog X.w) A.in1 (eqBool its.toArray[i] its2.toArray[i]) (fun b s2 => (b = true → Pst X pins sg hd al mu H s2 ∧ eqL (l.drop (i + 1)) (r.drop (i + 1)) = some t) ∧ (b = false → Pst X pins sg hd al mu H s2 ∧ t = false)) X.xe s' := by
  obtain ⟨H1, I1, o1, g1⟩ := p
  have g1' : its[i]? = some its.toArray[i] := by
    have h1' : i < its.length := by simpa using h1
    rw [List.getElem?_eq_getElem h1'] <;> simp
  have g2' : its2[i]? = some its2.toArray[i] := by
    have h2' : i < its2.length := by simpa using h2
    rw [List.getElem?_eq_getElem h2'] <;> simp
  have k1 : i < xs.length := by rw [v1.length]; simpa using h1
  have k2 : i < ys.length := by rw [v2.length]; simpa using h2
  obtain ⟨u, hu, ru⟩ := v1.get (List.getElem?_eq_getElem k1)
  obtain ⟨v, hv, rv⟩ := v2.get (List.getElem?_eq_getElem k2)
  rw [g1'] at hu
  rw [g2'] at hv
  rw [Option.some.inj hu, Option.some.inj hv]
  obtain ⟨d, ed, rd⟩ := r1.get (List.getElem?_eq_getElem k1)
  obtain ⟨e, ee, re⟩ := r2.get (List.getElem?_eq_getElem k2)
  obtain ⟨t', q1, q2, q3⟩ := eqL_at ed ee he
  have md : dr mu d = d := dr_np (Rep.nil_np rd)
  have me : dr mu e = e := dr_np (Rep.nil_np re)
  refine wpAny_mono (h A.in1 pins s' sg H1 hd al mu d e _ _ u v t' sb.in1 I1 o1 (rd.go g1 (Pre.nil _)) (re.go g1 (Pre.nil _)) ru rv (by rw [md]; exact Nat.le_trans (dpL_get ed) hn) (by rw [md, me]; exact q1)) (fun b s2 z => ?_) fun _ _ x => x
  obtain ⟨rfl, H2, I2, o2, g2⟩ := z
  exact ⟨fun eb => ⟨⟨H2, I2, o2, g1.trans g2⟩, q2 eb⟩, fun eb => ⟨⟨H2, I2, o2, g1.trans g2⟩, q3 eb⟩⟩
theorem Pst.refl {pins : List (Addr × Obj)} {sg : L2.St} {H : Hp} {hd al : List Addr} {mu : Sto} {s : Shared} (I : Inv X pins sg H s) (o : Okay X.K hd H mu al) : Pst X pins sg hd al mu H s := ⟨H, I, o, Go.refl _ _⟩
/-- the two lists' objects, at any later state -/
theorem lists_at {pins : List (Addr × Obj)} {sg : L2.St} {H : Hp} {hd al : List Addr} {mu : Sto} {d : D} {l : List D} {a : Addr} {s' : Shared} (r : Rep X.K (al ++ hd) H al d (.ref a)) (hl : lv mu d = some l) (p : Pst X pins sg hd al mu H s') :
    ∃ (H1 : Hp) (xs : List V) (its : List Value) (n : Nat), Inv X pins sg H1 s' ∧ Okay X.K hd H1 mu al ∧ Go hd H al H1 al ∧ RepL X.K (al ++ hd) H1 [] l xs ∧ Vals xs its ∧ s'.heap.get? a = some { cls := .type "list", data := .seq its.toArray n } := by
  obtain ⟨H1, I1, o1, g1⟩ := p
  obtain ⟨q, xs, e1, z, r1⟩ := DL.Rep.lv o1 (r.go g1 (Pre.refl _)) hl
  cases e1
  obtain ⟨_, its, n, rv, e⟩ := z.ok I1.hok
  exact ⟨H1, xs, its, n, I1, o1, g1, r1, rv, e⟩
theorem rcB_list_eq (h : EqB X n k) {A : Around} (sb : Sub X (k + 1) A) {pins : List (Addr × Obj)} {s : Shared} {sg : L2.St} {H : Hp} {hd al : List Addr} {mu : Sto} {d e : D} {l r : List D} {a b : Addr} {t : Bool} (I : Inv X pins sg H s) (o : Okay X.K hd H mu al) (rd : Rep X.K (al ++ hd) H al d (.ref a)) (re : Rep X.K (al ++ hd) H al e (.ref b))
    (hl : lv mu d = some l) (hr : lv mu e = some r) (hn : dpL l ≤ n) (he : eqL l r = some t) : wpAny (model X.prog X.w) A (richCompare .Eq (.ref a) (.ref b)) (fun z s' => z = .bool t ∧ Pst X pins sg hd al mu H s') X.xe s := by
  obtain ⟨H1, xs, its, n1, I1, o1, g1, r1, v1, e1⟩ := lists_at rd hl (Pst.refl I o)
  obtain ⟨H2, ys, its2, n2, I2, o2, g2, r2, v2, e2⟩ := lists_at re hr (Pst.refl I o)
  refine wpAny_richCompare_same_room (op := .Eq) ⟨_, e1, rfl⟩ ⟨_, e2, rfl⟩ F.slot_list_eq (GQ.call_here F.slot_list_eq ⟨_, e1, rfl⟩ F.entry_list_eq (F.args_list_eq_2 _ _) ?_) sb.room.units0
  by_cases hsz : l.length = r.length
  · refine listB_eq (R := wants (fun v s' => v ≠ .notImplemented ∧ (v = .bool t ∧ Pst X pins sg hd al mu H s')) X.xe) a b l.length (fun i s' => Pst X pins sg hd al mu H s' ∧ eqL (l.drop i) (r.drop i) = some t) (fun i s' => Pst X pins sg hd al mu H s' ∧ t = false) (fun i s' q => ?_) (fun s' q => ?_) (fun i s' _ q => ?_) ⟨Pst.refl I o, he⟩
    · obtain ⟨q, q2⟩ := q
      obtain ⟨H1, xs, its, n1, I1, o1, g1, r1, v1, e1⟩ := lists_at rd hl q
      obtain ⟨H2, ys, its2, n2, I2, o2, g2, r2, v2, e2⟩ := lists_at re hr q
      refine ⟨its.toArray, its2.toArray, n1, n2, e1, e2, by rw [List.size_toArray, ← v1.length, r1.len], by rw [List.size_toArray, ← v2.length, ← r2.len, hsz], fun h1 h2 => ?_⟩
      obtain ⟨H3, I3, o3, g3⟩ := q
      have key : ∃ H', Inv X pins sg H' s' ∧ Okay X.K hd H' mu al ∧ Go hd H al H' al ∧ (∃ xs its n1, RepL X.K (al ++ hd) H' [] l xs ∧ Vals xs its ∧ s'.heap.get? a = some { cls := .type "list", data := .seq its.toArray n1 }) ∧ (∃ xs its n1, RepL X.K (al ++ hd) H' [] r xs ∧ Vals xs its ∧ s'.heap.get? b = some { cls := .type "list", data := .seq its.toArray n1 }) := by
        obtain ⟨q, xs, ee, z, r1⟩ := DL.Rep.lv o3 (rd.go g3 (Pre.refl _)) hl
        cases ee
        obtain ⟨_, its, m1, rv, e⟩ := z.ok I3.hok
        obtain ⟨q', xs', ee', z', r1'⟩ := DL.Rep.lv o3 (re.go g3 (Pre.refl _)) hr
        cases ee'
        obtain ⟨_, its', m1', rv', e'⟩ := z'.ok I3.hok
        exact ⟨H3, I3, o3, g3, ⟨xs, its, m1, r1, rv, e⟩, ⟨xs', its', m1', r1', rv', e'⟩⟩
      obtain ⟨H', I', o', g', ⟨xs', its', m1, r1', v1', e1'⟩, ⟨ys', its2', m2, r2', v2', e2'⟩⟩ := key
      have ea : its' = its := by
        rw [e1] at e1'
        have z := Option.some.inj e1'
        injection z with _ _ z _
        injection z with z _
        have z2 := congrArg Array.toList z
        simpa using z2.symm
      have eb : its2' = its2 := by
        rw [e2] at e2'
        have z := Option.some.inj e2'
        injection z with _ _ z _
        injection z with z _
        have z2 := congrArg Array.toList z
        simpa using z2.symm
      subst ea eb
      refine wpAny_mono (turnB h sb (hd := hd) (mu := mu) r1' r2' v1' v2' hn i h1 h2 s' (Pst.refl I' o') q2) (fun bb s2 z => ⟨fun hb => ?_, fun hb => ?_⟩) fun _ _ x => x
      · obtain ⟨⟨H4, I4, o4, g4⟩, z2⟩ := z.1 hb
        exact ⟨⟨H4, I4, o4, g'.trans g4⟩, z2⟩
      · obtain ⟨⟨H4, I4, o4, g4⟩, z2⟩ := z.2 hb
        have p4 : Pst X pins sg hd al mu H s2 := ⟨H4, I4, o4, g'.trans g4⟩
        obtain ⟨_, xs5, its5, n5, _, _, _, r5, v5, e5⟩ := lists_at rd hl p4
        obtain ⟨_, ys6, its6, n6, _, _, _, r6, v6, e6⟩ := lists_at re hr p4
        exact ⟨⟨p4, z2⟩, its5.toArray, its6.toArray, n5, n6, e5, e6, by rw [List.size_toArray, ← v5.length, r5.len], by rw [List.size_toArray, ← v6.length, ← r6.len, hsz]⟩
    · obtain ⟨q, q2⟩ := q
      have e : t = true := by
        rw [List.drop_length, hsz, List.drop_length, eqL] at q2
        cases q2
        rfl
      subst e
      exact ⟨(fun x => nomatch x), rfl, q⟩
    · obtain ⟨q, e⟩ := q
      subst e
      exact ⟨(fun x => nomatch x), rfl, q⟩
  · have e : t = false := by
      cases t with
      | false => rfl
      | true => exact (hsz (eqL_len he)).elim
    subst e
    refine listZ_eq (R := wants (fun v s' => v ≠ .notImplemented ∧ (v = .bool false ∧ Pst X pins sg hd al mu H s')) X.xe) e1 e2 (by rw [List.size_toArray, List.size_toArray, ← v1.length, ← v2.length, ← r1.len, ← r2.len]; exact hsz) ⟨(fun x => nomatch x), rfl, Pst.refl I o⟩
theorem rcB_tup_eq (h : EqB X n k) {A : Around} (sb : Sub X (k + 1) A) {pins : List (Addr × Obj)} {s : Shared} {sg : L2.St} {H : Hp} {hd al : List Addr} {mu : Sto} {l r : List D} {a b : Addr} {t : Bool} (I : Inv X pins sg H s) (o : Okay X.K hd H mu al) (rd : Rep X.K (al ++ hd) H al (.tup l) (.ref a)) (re : Rep X.K (al ++ hd) H al (.tup r) (.ref b))
    (hn : dpL l ≤ n) (he : eqL l r = some t) : wpAny (model X.prog X.w) A (richCompare .Eq (.ref a) (.ref b)) (fun z s' => z = .bool t ∧ Pst X pins sg hd al mu H s') X.xe s := by
  cases rd with
  | tup z1 r1 =>
    cases re with
    | tup z2 r2 =>
      obtain ⟨its, v1, p1, _⟩ := I.tuple z1.sq
      obtain ⟨its2, v2, p2, _⟩ := I.tuple z2.sq
      obtain ⟨⟨cls, dd, data, sl⟩, ho, hc, n1, hd1⟩ := id p1
      obtain ⟨⟨cls2, dd2, data2, sl2⟩, ho2, hc2, n2, hd2⟩ := id p2
      simp only at hc hd1 hc2 hd2
      subst hc hd1 hc2 hd2
      have sz1 : its.toArray.size = l.length := by rw [List.size_toArray, ← v1.length, ← r1.len]
      have sz2 : its2.toArray.size = r.length := by rw [List.size_toArray, ← v2.length, ← r2.len]
      refine wpAny_richCompare_same_room (op := .Eq) ⟨_, ho, rfl⟩ ⟨_, ho2, rfl⟩ F.slot_tuple_eq (GQ.call_here F.slot_tuple_eq ⟨_, ho, rfl⟩ F.entry_tuple_eq (F.args_tuple_eq_2 _ _) ?_) sb.room.units0
      refine tupB_eq (R := wants (fun v s' => v ≠ .notImplemented ∧ (v = .bool t ∧ Pst X pins sg hd al mu H s')) X.xe) a b its.toArray its2.toArray n1 n2 dd dd2 sl sl2 (fun i s' => Pst X pins sg hd al mu H s' ∧ eqL (l.drop i) (r.drop i) = some t) (fun i s' => Pst X pins sg hd al mu H s' ∧ t = false)
        (fun i h1 h2 s' q => turnB h sb r1 r2 v1 v2 hn i h1 h2 s' q.1 q.2) (fun s' q => ?_) (fun i s' q => ?_) ho ho2 ⟨Pst.refl I o, he⟩
      · obtain ⟨q, q2⟩ := q
        rw [sz1, sz2] at q2
        have e := eqL_end q2
        refine ⟨(fun x => nomatch x), ?_, q⟩
        rw [sz1, sz2, e]
        rfl
      · obtain ⟨q, e⟩ := q
        subst e
        exact ⟨(fun x => nomatch x), rfl, q⟩
theorem rcB_list_ne (h : EqB X n k) {A : Around} (sb : Sub X (k + 1) A) {pins : List (Addr × Obj)} {s : Shared} {sg : L2.St} {H : Hp} {hd al : List Addr} {mu : Sto} {d e : D} {l r : List D} {a b : Addr} {t : Bool} (I : Inv X pins sg H s) (o : Okay X.K hd H mu al) (rd : Rep X.K (al ++ hd) H al d (.ref a)) (re : Rep X.K (al ++ hd) H al e (.ref b))
    (hl : lv mu d = some l) (hr : lv mu e = some r) (hn : dpL l ≤ n) (he : eqL l r = some t) : wpAny (model X.prog X.w) A (richCompare .NotEq (.ref a) (.ref b)) (fun z s' => z = .bool (!t) ∧ Pst X pins sg hd al mu H s') X.xe s := by
  obtain ⟨H1, xs, its, n1, I1, o1, g1, r1, v1, e1⟩ := lists_at rd hl (Pst.refl I o)
  obtain ⟨H2, ys, its2, n2, I2, o2, g2, r2, v2, e2⟩ := lists_at re hr (Pst.refl I o)
  refine wpAny_richCompare_same_room (op := .NotEq) ⟨_, e1, rfl⟩ ⟨_, e2, rfl⟩ F.slot_list_ne (GQ.call_here F.slot_list_ne ⟨_, e1, rfl⟩ F.entry_list_ne (F.args_list_ne_2 _ _) ?_) sb.room.units0
  by_cases hsz : l.length = r.length
  · refine listB_ne (R := wants (fun v s' => v ≠ .notImplemented ∧ (v = .bool (!t) ∧ Pst X pins sg hd al mu H s')) X.xe) a b l.length (fun i s' => Pst X pins sg hd al mu H s' ∧ eqL (l.drop i) (r.drop i) = some t) (fun i s' => Pst X pins sg hd al mu H s' ∧ t = false) (fun i s' q => ?_) (fun s' q => ?_) (fun i s' _ q => ?_) ⟨Pst.refl I o, he⟩
    · obtain ⟨q, q2⟩ := q
      obtain ⟨H1, xs, its, n1, I1, o1, g1, r1, v1, e1⟩ := lists_at rd hl q
      obtain ⟨H2, ys, its2, n2, I2, o2, g2, r2, v2, e2⟩ := lists_at re hr q
      refine ⟨its.toArray, its2.toArray, n1, n2, e1, e2, by rw [List.size_toArray, ← v1.length, r1.len], by rw [List.size_toArray, ← v2.length, ← r2.len, hsz], fun h1 h2 => ?_⟩
      obtain ⟨H3, I3, o3, g3⟩ := q
      have key : ∃ H', Inv X pins sg H' s' ∧ Okay X.K hd H' mu al ∧ Go hd H al H' al ∧ (∃ xs its n1, RepL X.K (al ++ hd) H' [] l xs ∧ Vals xs its ∧ s'.heap.get? a = some { cls := .type "list", data := .seq its.toArray n1 }) ∧ (∃ xs its n1, RepL X.K (al ++ hd) H' [] r xs ∧ Vals xs its ∧ s'.heap.get? b = some { cls := .type "list", data := .seq its.toArray n1 }) := by
        obtain ⟨q, xs, ee, z, r1⟩ := DL.Rep.lv o3 (rd.go g3 (Pre.refl _)) hl
        cases ee
        obtain ⟨_, its, m1, rv, e⟩ := z.ok I3.hok
        obtain ⟨q', xs', ee', z', r1'⟩ := DL.Rep.lv o3 (re.go g3 (Pre.refl _)) hr
        cases ee'
        obtain ⟨_, its', m1', rv', e'⟩ := z'.ok I3.hok
        exact ⟨H3, I3, o3, g3, ⟨xs, its, m1, r1, rv, e⟩, ⟨xs', its', m1', r1', rv', e'⟩⟩
      obtain ⟨H', I', o', g', ⟨xs', its', m1, r1', v1', e1'⟩, ⟨ys', its2', m2, r2', v2', e2'⟩⟩ := key
      have ea : its' = its := by
        rw [e1] at e1'
        have z := Option.some.inj e1'
        injection z with _ _ z _
        injection z with z _
        have z2 := congrArg Array.toList z
        simpa using z2.symm
      have eb : its2' = its2 := by
        rw [e2] at e2'
        have z := Option.some.inj e2'
        injection z with _ _ z _
        injection z with z _
        have z2 := congrArg Array.toList z
        simpa using z2.symm
      subst ea eb
      refine wpAny_mono (turnB h sb (hd := hd) (mu := mu) r1' r2' v1' v2' hn i h1 h2 s' (Pst.refl I' o') q2) (fun bb s2 z => ⟨fun hb => ?_, fun hb => ?_⟩) fun _ _ x => x
      · obtain ⟨⟨H4, I4, o4, g4⟩, z2⟩ := z.1 hb
        exact ⟨⟨H4, I4, o4, g'.trans g4⟩, z2⟩
      · obtain ⟨⟨H4, I4, o4, g4⟩, z2⟩ := z.2 hb
        have p4 : Pst X pins sg hd al mu H s2 := ⟨H4, I4, o4, g'.trans g4⟩
        obtain ⟨_, xs5, its5, n5, _, _, _, r5, v5, e5⟩ := lists_at rd hl p4
        obtain ⟨_, ys6, its6, n6, _, _, _, r6, v6, e6⟩ := lists_at re hr p4
        exact ⟨⟨p4, z2⟩, its5.toArray, its6.toArray, n5, n6, e5, e6, by rw [List.size_toArray, ← v5.length, r5.len], by rw [List.size_toArray, ← v6.length, ← r6.len, hsz]⟩
    · obtain ⟨q, q2⟩ := q
      have e : t = true := by
        rw [List.drop_length, hsz, List.drop_length, eqL] at q2
        cases q2
        rfl
      subst e
      exact ⟨(fun x => nomatch x), rfl, q⟩
    · obtain ⟨q, e⟩ := q
      subst e
      exact ⟨(fun x => nomatch x), rfl, q⟩
  · have e : t = false := by
      cases t with
      | false => rfl
      | true => exact (hsz (eqL_len he)).elim
    subst e
    refine listZ_ne (R := wants (fun v s' => v ≠ .notImplemented ∧ (v = .bool true ∧ Pst X pins sg hd al mu H s')) X.xe) e1 e2 (by rw [List.size_toArray, List.size_toArray, ← v1.length, ← v2.length, ← r1.len, ← r2.len]; exact hsz) ⟨(fun x => nomatch x), rfl, Pst.refl I o⟩
theorem rcB_tup_ne (h : EqB X n k) {A : Around} (sb : Sub X (k + 1) A) {pins : List (Addr × Obj)} {s : Shared} {sg : L2.St} {H : Hp} {hd al : List Addr} {mu : Sto} {l r : List D} {a b : Addr} {t : Bool} (I : Inv X pins sg H s) (o : Okay X.K hd H mu al) (rd : Rep X.K (al ++ hd) H al (.tup l) (.ref a)) (re : Rep X.K (al ++ hd) H al (.tup r) (.ref b))
    (hn : dpL l ≤ n) (he : eqL l r = some t) : wpAny (model X.prog X.w) A (richCompare .NotEq (.ref a) (.ref b)) (fun z s' => z = .bool (!t) ∧ Pst X pins sg hd al mu H s') X.xe s := by
  cases rd with
  | tup z1 r1 =>
    cases re with
    | tup z2 r2 =>
      obtain ⟨its, v1, p1, _⟩ := I.tuple z1.sq
      obtain ⟨its2, v2, p2, _⟩ := I.tuple z2.sq
      obtain ⟨⟨cls, dd, data, sl⟩, ho, hc, n1, hd1⟩ := id p1
      obtain ⟨⟨cls2, dd2, data2, sl2⟩, ho2, hc2, n2, hd2⟩ := id p2
      simp only at hc hd1 hc2 hd2
      subst hc hd1 hc2 hd2
      have sz1 : its.toArray.size = l.length := by rw [List.size_toArray, ← v1.length, ← r1.len]
      have sz2 : its2.toArray.size = r.length := by rw [List.size_toArray, ← v2.length, ← r2.len]
      refine wpAny_richCompare_same_room (op := .NotEq) ⟨_, ho, rfl⟩ ⟨_, ho2, rfl⟩ F.slot_tuple_ne (GQ.call_here F.slot_tuple_ne ⟨_, ho, rfl⟩ F.entry_tuple_ne (F.args_tuple_ne_2 _ _) ?_) sb.room.units0
      refine tupB_ne (R := wants (fun v s' => v ≠ .notImplemented ∧ (v = .bool (!t) ∧ Pst X pins sg hd al mu H s')) X.xe) a b its.toArray its2.toArray n1 n2 dd dd2 sl sl2 (fun i s' => Pst X pins sg hd al mu H s' ∧ eqL (l.drop i) (r.drop i) = some t) (fun i s' => Pst X pins sg hd al mu H s' ∧ t = false)
        (fun i h1 h2 s' q => turnB h sb r1 r2 v1 v2 hn i h1 h2 s' q.1 q.2) (fun s' q => ?_) (fun i s' q => ?_) ho ho2 ⟨Pst.refl I o, he⟩
      · obtain ⟨q, q2⟩ := q
        rw [sz1, sz2] at q2
        have e := eqL_end q2
        refine ⟨(fun x => nomatch x), ?_, q⟩
        rw [sz1, sz2, e]
        rfl
      · obtain ⟨q, e⟩ := q
        subst e
        exact ⟨(fun x => nomatch x), rfl, q⟩
end
end DQ

/-! part DQ3 -/
/-! DQ3: == and != step by step in the depth; what one object stands for. -/
namespace DQ
open PySem PySem.Spec PyProof.Rows L2 DL
/-- two classes are two objects -/
def InjC (K : PySem.W.Frag) : Prop := ∀ c c', thg c = true → thg c' = true → ClsOk K c → ClsOk K c' → He.ga K (cn c) = He.ga K (cn c') → c = c'
section
variable {K : PySem.W.Frag} {fb : List Addr} {H : Hp}
theorem rd_tup {a : Addr} {xs ys : List V} (h1 : Rd H a (.tup xs)) (h2 : Rd H a (.tup ys)) : xs = ys := by
  rcases h1 with h1 | ⟨o1, h1⟩ <;> rcases h2 with h2 | ⟨o2, h2⟩ <;> rw [h1] at h2 <;> cases h2 <;> rfl
theorem rd_lst {a : Addr} {xs ys : List V} (h1 : Rd H a (.lst xs)) (h2 : Rd H a (.lst ys)) : xs = ys := by
  rcases h1 with h1 | ⟨o1, h1⟩ <;> rcases h2 with h2 | ⟨o2, h2⟩ <;> rw [h1] at h2 <;> cases h2 <;> rfl
theorem rd_no {a : Addr} {xs ys : List V} (h1 : Rd H a (.tup xs)) (h2 : Rd H a (.lst ys)) : False := by
  rcases h1 with h1 | ⟨o1, h1⟩ <;> rcases h2 with h2 | ⟨o2, h2⟩ <;> rw [h1] at h2 <;> cases h2
theorem rd_ins {a : Addr} {xs : List V} {C dx : Addr} {fs : List (Str × V)} (h1 : Rd H a (.tup xs) ∨ Rd H a (.lst xs)) (h2 : H a = some (.ins C dx fs)) : False := by
  rcases h1 with (h1 | ⟨o1, h1⟩) | (h1 | ⟨o1, h1⟩) <;> rw [h1] at h2 <;> cases h2
theorem fz_inj {c : Nat} {xs ys : List V} (h1 : xs.length = (fn c).length) (h2 : ys.length = (fn c).length) (h : DL.fz c xs = DL.fz c ys) : xs = ys := by
  have e1 : (DL.fz c xs).map (·.2) = xs := by unfold DL.fz; exact List.map_snd_zip (by omega)
  have e2 : (DL.fz c ys).map (·.2) = ys := by unfold DL.fz; exact List.map_snd_zip (by omega)
  rw [← e1, ← e2, h]
mutual
theorem uniqD (inj : InjC K) : ∀ (d e : D) {v : V} {b : Bool}, Rep K fb H [] d v → Rep K fb H [] e v → eqD d e = some b → b = true
  | .non, e, v, b, r, r', h => by
    cases r
    cases r' with
    | non => rw [eqD] at h; cases h; rfl
  | .bl _, e, v, b, r, r', h => by
    cases r
    cases r' with
    | bl => rw [eqD] at h; cases h; simp
  | .int _, e, v, b, r, r', h => by
    cases r
    cases r' with
    | int => rw [eqD] at h; cases h; simp
  | .str _, e, v, b, r, r', h => by
    cases r
    cases r' with
    | str => rw [eqD] at h; cases h; simp
  | .adr _, e, v, b, r, r', h => by
    rw [eqD] at h
    cases h
  | .ptr _, e, v, b, r, r', h => by
    rw [eqD] at h
    cases h
  | .err _ _ _ _, e, v, b, r, r', h => by
    rw [eqD] at h
    cases h
  | .tup l, e, v, b, r, r', h => by
    cases r with
    | tup a r =>
      cases r' with
      | tup a' r' =>
        rw [eqD] at h
        have z := rd_tup (.inl a.2) (.inl a'.2)
        subst z
        exact uniqL inj l _ r r' h
      | lst a' r' => exact (rd_no (.inl a.2) a'.2).elim
      | obj a' b' c' r' => exact (rd_ins (.inl (.inl a.2)) b').elim
      | adr => simp [eqD] at h
      | ptr => simp [eqD] at h
      | err0 => simp [eqD] at h
      | err => simp [eqD] at h
  | .lst l, e, v, b, r, r', h => by
    cases r with
    | lst a r =>
      cases r' with
      | lst a' r' =>
        rw [eqD] at h
        have z := rd_lst a.2 a'.2
        subst z
        exact uniqL inj l _ r r' h
      | tup a' r' => exact (rd_no (.inl a'.2) a.2).elim
      | obj a' b' c' r' => exact (rd_ins (.inr a.2) b').elim
      | adr => simp [eqD] at h
      | ptr => simp [eqD] at h
      | err0 => simp [eqD] at h
      | err => simp [eqD] at h
  | .obj c l, e, v, b, r, r', h => by
    cases r with
    | obj a bb cc r =>
      cases r' with
      | lst a' r' => exact (rd_ins (.inr a'.2) bb).elim
      | tup a' r' => exact (rd_ins (.inl (.inl a'.2)) bb).elim
      | obj a' b' c' r' =>
        rw [eqD] at h
        split at h
        · rename_i q
          rw [bb] at b'
          have z := Option.some.inj b'
          injection z with z1 z2 z3
          have ec := inj _ _ q.1 q.2 cc.2 c'.2 z1
          subst ec
          rw [if_pos rfl] at h
          have z4 := fz_inj (by rw [← r.len, cc.1]) (by rw [← r'.len, c'.1]) z3
          subst z4
          exact uniqL inj l _ r r' h
        · cases h
      | adr => simp [eqD] at h
      | ptr => simp [eqD] at h
      | err0 => simp [eqD] at h
      | err => simp [eqD] at h
theorem uniqL (inj : InjC K) : ∀ (l r : List D) {xs : List V} {b : Bool}, RepL K fb H [] l xs → RepL K fb H [] r xs → eqL l r = some b → b = true
  | [], r, xs, b, h1, h2, h => by
    cases h1
    cases h2
    rw [eqL] at h
    cases h
    rfl
  | a :: l, r, xs, b, h1, h2, h => by
    cases h1 with
    | cons r1 h1 =>
      cases h2 with
      | cons r2 h2 =>
        rw [eqL] at h
        split at h
        · exact uniqL inj l _ h1 h2 h
        · rename_i q
          cases uniqD inj a _ r1 r2 q
        · cases h
end
end
/-- == of two different values -/
theorem eqBool_gen {prog : Program} {w : World} {A : Around} {E : Value → Shared → Prop} {s : Shared} {a0 : Addr} {v : Value} {Q : Bool → Shared → Prop} (hne : Value.ref a0 ≠ v) (h : wpAny (model prog w) A (richCompare .Eq (.ref a0) v) (fun z s' => ∃ r, z = .bool r ∧ Q r s') E s) : wpAny (model prog w) A (eqBool (.ref a0) v) Q E s := by
  unfold eqBool
  refine wpAny_holding ?_
  refine wpAny_ite_split (fun hab => absurd (eq_of_beq hab) hne) (fun _ => ?_)
  refine wpAny_bind (wpAny_mono h (fun v s' hv => ?_) fun _ _ x => x)
  obtain ⟨r, rfl, q⟩ := hv
  exact wpAny_truthy_bool q
section
variable {X : Cx} {n k : Nat}
theorem rep_lst {pins : List (Addr × Obj)} {sg : L2.St} {H : Hp} {hd al : List Addr} {mu : Sto} {d : D} {x : V} {u : Value} {l : List D} (o : Okay X.K hd H mu al) (r : Rep X.K (al ++ hd) H al d x) (ru : RelV x u) (h : dr mu d = .lst l) : ∃ a, x = .ref a ∧ u = .ref a := by
  obtain ⟨p, xs, rfl, _⟩ := DL.Rep.lv o r (dr_lst h)
  cases ru
  exact ⟨p, rfl, rfl⟩
theorem rep_tup {K : PySem.W.Frag} {H : Hp} {fb pt : List Addr} {l : List D} {x : V} {u : Value} (r : Rep K fb H pt (.tup l) x) (ru : RelV x u) : ∃ a, x = .ref a ∧ u = .ref a := by
  cases r
  cases ru
  exact ⟨_, rfl, rfl⟩
theorem rcB_step {op : CmpOp} {f : Bool → Bool} (hop : op = .Eq ∧ (∀ b, f b = b) ∨ op = .NotEq ∧ ∀ b, f b = !b) (h : EqB X n k) (ob : ObB X (n + 1) (k + 1) op f) : RcB X (n + 1) (k + 1) op f := by
  intro A pins s sg H hd al mu d e x y u v b sb I o rd re ru rv hn he
  have kd := kind_of I o rd ru
  have ke := kind_of I o re rv
  by_cases hm : mixD (dr mu d) (dr mu e) = true
  · obtain ⟨q1, q2, _⟩ := mix_at (A := A) sb.room.units0 kd ke hm he
    rcases hop with ⟨rfl, hf⟩ | ⟨rfl, hf⟩
    · rw [hf]
      exact q1 _ _ _ _ ⟨rfl, Pst.refl I o⟩
    · rw [hf]
      exact q2 _ _ _ _ ⟨rfl, Pst.refl I o⟩
  · cases hd' : dr mu d with
    | obj c l =>
      have e1 := dr_obj hd'
      subst e1
      exact ob A pins s sg H hd al mu c l e x y u v b sb I o rd re ru rv hn (by rw [hd'] at he; exact he)
    | tup l =>
      cases he' : dr mu e with
      | tup r =>
        have e1 := dr_tup hd'
        have e2 := dr_tup he'
        subst e1 e2
        obtain ⟨a, rfl, rfl⟩ := rep_tup rd ru
        obtain ⟨a2, rfl, rfl⟩ := rep_tup re rv
        rw [hd', he', eqD] at he
        rw [hd', dp] at hn
        rcases hop with ⟨rfl, hf⟩ | ⟨rfl, hf⟩
        · rw [hf]
          exact rcB_tup_eq h sb I o rd re (by omega) he
        · rw [hf]
          exact rcB_tup_ne h sb I o rd re (by omega) he
      | _ =>
        rw [hd', he'] at hm
        exact (hm rfl).elim
    | lst l =>
      cases he' : dr mu e with
      | lst r =>
        obtain ⟨a, rfl, rfl⟩ := rep_lst (pins := pins) (sg := sg) o rd ru hd'
        obtain ⟨a2, rfl, rfl⟩ := rep_lst (pins := pins) (sg := sg) o re rv he'
        rw [hd', he', eqD] at he
        rw [hd', dp] at hn
        rcases hop with ⟨rfl, hf⟩ | ⟨rfl, hf⟩
        · rw [hf]
          exact rcB_list_eq h sb I o rd re (dr_lst hd') (dr_lst he') (by omega) he
        · rw [hf]
          exact rcB_list_ne h sb I o rd re (dr_lst hd') (dr_lst he') (by omega) he
      | _ =>
        rw [hd', he'] at hm
        exact (hm rfl).elim
    | _ =>
      rw [hd'] at hm
      exact (hm rfl).elim
/-- one object on both sides -/
theorem same_true (inj : InjC X.K) {H : Hp} {hd al : List Addr} {mu : Sto} {d e : D} {x : V} {b : Bool} (o : Okay X.K hd H mu al) (rd : Rep X.K (al ++ hd) H al d x) (re : Rep X.K (al ++ hd) H al e x) (he : eqD (dr mu d) (dr mu e) = some b) : b = true := by
  have np_of : ∀ {d : D}, np d ∨ ∃ n, d = .ptr n := fun {d} => by
    cases d with
    | ptr n => exact .inr ⟨n, rfl⟩
    | _ => exact .inl trivial
  rcases np_of (d := d) with h1 | ⟨n, rfl⟩ <;> rcases np_of (d := e) with h2 | ⟨m, rfl⟩
  · rw [dr_np h1, dr_np h2] at he
    exact uniqD inj d e (rd.np h1) (re.np h2) he
  · rw [dr_np h1] at he
    cases re with
    | ptr ea =>
      cases rd with
      | adr => rw [eqD] at he; cases he
      | err0 => rw [eqD] at he; cases he
      | err => rw [eqD] at he; cases he
      | ptr _ => exact h1.elim
      | tup a _ => exact (a.1 (List.mem_append_left _ (List.mem_of_getElem? ea))).elim
      | lst a _ => exact (a.1 (List.mem_append_left _ (List.mem_of_getElem? ea))).elim
      | obj a _ _ _ => exact (a (List.mem_append_left _ (List.mem_of_getElem? ea))).elim
  · rw [dr_np h2] at he
    cases rd with
    | ptr ea =>
      cases re with
      | adr =>
        cases q : dr mu (.ptr n) <;> rw [q] at he <;> simp [eqD] at he
      | err0 =>
        cases q : dr mu (.ptr n) <;> rw [q] at he <;> simp [eqD] at he
      | err _ _ _ _ =>
        cases q : dr mu (.ptr n) <;> rw [q] at he <;> simp [eqD] at he
      | ptr _ => exact h2.elim
      | tup a _ => exact (a.1 (List.mem_append_left _ (List.mem_of_getElem? ea))).elim
      | lst a _ => exact (a.1 (List.mem_append_left _ (List.mem_of_getElem? ea))).elim
      | obj a _ _ _ => exact (a (List.mem_append_left _ (List.mem_of_getElem? ea))).elim
  · cases rd with
    | ptr ea =>
      cases re with
      | ptr eb =>
        have e1 := nd_ix o.nd ea eb
        subst e1
        exact eqD_refl _ he
theorem eqB_of (inj : InjC X.K) (hk : 0 < k) (h : RcB X n k .Eq id) : EqB X n k := by
  intro A pins s sg H hd al mu d e x y u v b sb I o rd re ru rv hn he
  have kd := kind_of I o rd ru
  have ke := kind_of I o re rv
  by_cases hm : mixD (dr mu d) (dr mu e) = true
  · obtain ⟨_, _, q3⟩ := mix_at (A := A) sb.room.units0 kd ke hm he
    exact q3 _ _ _ _ ⟨rfl, Pst.refl I o⟩
  · have refs : (∃ a, x = .ref a ∧ u = .ref a) := by
      cases hd' : dr mu d with
      | obj c l =>
        have e1 := dr_obj hd'
        subst e1
        cases rd
        cases ru
        exact ⟨_, rfl, rfl⟩
      | tup l =>
        have e1 := dr_tup hd'
        subst e1
        exact rep_tup rd ru
      | lst l => exact rep_lst (pins := pins) (sg := sg) o rd ru hd'
      | _ =>
        rw [hd'] at hm
        exact (hm rfl).elim
    obtain ⟨a, rfl, rfl⟩ := refs
    by_cases huv : Value.ref a = v
    · subst huv
      have ey : y = .ref a := by
        cases y with
        | ref z => cases rv; rfl
        | int z => obtain ⟨t, q⟩ := rv; cases q
        | str z => obtain ⟨t, q⟩ := rv; cases q
        | flt z => obtain ⟨t, q⟩ := rv; cases q
        | byt z => obtain ⟨t, q⟩ := rv; cases q
        | _ => cases rv
      subst ey
      have e1 := same_true inj o rd re he
      subst e1
      exact SeqAt.EqAt.same (A := A) (s := s) (.ref a) X.prog X.w X.xe _ ⟨rfl, Pst.refl I o⟩
    · refine eqBool_gen huv (wpAny_mono (h A pins s sg H hd al mu d e (.ref a) y _ v b sb I o rd re rfl rv hn he) (fun r s' q => ?_) fun _ _ x => x)
      obtain ⟨hr, q⟩ := q
      exact ⟨b, hr, rfl, q⟩
end
end DQ

/-! part DQ4 -/
/-! DQ4: == and != of instances with an own __eq__. -/
namespace DQ
open PySem PySem.Spec PyProof.Rows L2 DL
section
variable {prog : Program} {w : World} {A : Around} {E : Value → Shared → Prop} {s : Shared} {K : PySem.W.Frag} {x C f L : Addr} {ox : Obj} {od : Option Obj} {h₀ : Heap} {m : Str → Option Value} {b tb : Value}
theorem ifBound_ne {M : Model} {args : List Value} {Q : Option Value → Shared → Prop} (X : K.In s.heap) (I : PySem.W.InstAt s.heap x ox C od) (hs : PySem.W.findIn K (.ref C) "__ne__" = some (some (.builtin "object.__ne__")))
    (h : wpAny M A (call (.builtin "object.__ne__") (.ref x :: args)) (fun v => Q (some v)) E s) : wpAny M A (callSpecialIfBound? (.ref x) "__ne__" args) Q E s := by
  simp only [callSpecialIfBound?, bindSpecialIfBound?]
  refine wpAny_holding (wpAny_bind (wpAny_bind (wpAny_bind (I.type.here ((PySem.W.looks_findIn X hs).here ?_)))))
  refine wpAny_bind (wpAny_askSetting (wpAny_ite ?_))
  have fin : wpAny M A (call (.builtin "object.__ne__") ([.ref x] ++ args) >>= fun v => pure (some v)) Q E s := wpAny_bind (wpAny_mono h (fun v s' h' => wpAny_pure h') fun _ _ h' => h')
  split
  · exact wpAny_bind (wpAny_of_eq (F.cmp_object.ne.bind _) (wpAny_pure (by exact fin)))
  · exact wpAny_tryCatch (wpAny_bind (wpAny_of_eq (F.cmp_object.ne.bind _) (wpAny_pure (by exact fin))))
theorem entry_ne {Q : Fin → Shared → Prop} (X : K.In s.heap) (I : PySem.W.InstAt s.heap x ox C od) (hu : A.units < cLine) (hs : PySem.W.findIn K (.ref C) "__eq__" = some (some (.ref f))) (hf : PySem.W.isFn K (.ref f) = true)
    (h : wpAny (model prog w) A (call (.ref f) [.ref x, b]) (fun v s' => ∃ r, v = .bool r ∧ Q (.done (.ret (.bool (!r)))) s') E s) : wpAny (model prog w) A (Builtin.«object.__ne__» ⟨[.ref x, b], []⟩) Q E s := by
  unfold Builtin.«object.__ne__»
  repeat (first
    | with_reducible refine wpAny_cRoomFor hu ?_
    | (refine wpAny_bind (m := callSpecialIfBound? (.ref x) (Str.ofString "__eq__") [b])
        (PySem.W.ifBound_K X I hs hf (wpAny_mono h (fun r s' hr => by
          obtain ⟨b, rfl, hq⟩ := hr
          repeat (first | exact hq | exact wpAny_pure hq | exact wpAny_truthy_bool hq | (refine wpAny_bind (m := truthy (.bool _)) (wpAny_truthy_bool ?_)) | wp_step)) fun _ _ e => e)))
    | wp_step)
/-- x != b by x's class's == -/
theorem ne_K {Q : Value → Shared → Prop} (hu : A.units + 1 < cLine) (F0 : Fr h₀ L s.heap m) (X₀ : K.In h₀) (I : PySem.W.InstAt s.heap x ox C od) (hb : PySem.W.Looks (model prog w) s.heap (typeOf b) tb) (hn : PySem.W.notFirst K C tb = true)
    (hm : PySem.W.mroIn K C (.type "object") = some true)
    (hs : PySem.W.findIn K (.ref C) "__eq__" = some (some (.ref f))) (hf : PySem.W.isFn K (.ref f) = true) (hne : PySem.W.findIn K (.ref C) "__ne__" = some (some (.builtin "object.__ne__")))
    (h : wpAny (model prog w) A.in1 (call (.ref f) [.ref x, b]) (fun v s' => ∃ r, v = .bool r ∧ Q (.bool (!r)) s') E s) : wpAny (model prog w) A (richCompare .NotEq (.ref x) b) Q E s := by
  have X := X₀.keeps F0.keep
  have one : wpAny (model prog w) A (tryCompare (.ref x) (cmpInfo .NotEq).2.1 b) (fun r s' => ∃ v, r = some v ∧ Q v s') E s := by
    unfold tryCompare
    refine wpAny_bind (ifBound_ne X I hne (wpAny_call (codeAny_call_builtin F.cmp_object.ne.plain F.cmpEntry_ne (PySem.W.check_slot F.cmpKind_ne F.cmpSplit_ne (I.type.andThen (PySem.W.looks_mroIn X hm)) (F.cmpArgs_ne _ _)
      (entry_ne (A := A.in1) X I hu hs hf (wpAny_mono h (fun v s' hv => ?_) fun _ _ e => e))))))
    obtain ⟨r, rfl, q⟩ := hv
    exact ⟨r, rfl, wpAny_pure ⟨_, rfl, q⟩⟩
  unfold richCompare
  simp only [oneThing_ref]
  refine wpAny_holding (wpAny_bind (wpAny_cRoomFor (Nat.lt_of_succ_lt hu) ?_))
  refine wpAny_bind (I.type.here (wpAny_bind (hb.here ?_)))
  split
  · rename_i q
    have e : PySem.W.subIn K tb (.ref C) = some false := by
      rcases Bool.or_eq_true_iff.mp hn with e | e
      · rw [beq_iff_eq.mp e] at q; simp at q
      · exact beq_iff_eq.mp e
    refine wpAny_bind ((PySem.W.looks_subIn X e).here ?_)
    simp only [Bool.false_eq_true, if_false]
    refine wpAny_bind (wpAny_mono one (fun r s' z => ?_) fun _ _ e => e)
    obtain ⟨v, rfl, hq⟩ := z
    exact wpAny_pure hq
  · refine wpAny_bind (wpAny_pure ?_)
    simp only [Bool.false_eq_true, if_false]
    refine wpAny_bind (wpAny_mono one (fun r s' z => ?_) fun _ _ e => e)
    obtain ⟨v, rfl, hq⟩ := z
    exact wpAny_pure hq
end
/-- what the text's classes of things say of == -/
structure EqF (K : PySem.W.Frag) (f : Addr) : Prop where
  inj : InjC K
  fn : PySem.W.isFn K (.ref f) = true
  eq : ∀ c, thg c = true → ClsOk K c → PySem.W.findIn K (.ref (He.ga K (cn c))) "__eq__" = some (some (.ref f))
  ne : ∀ c, thg c = true → ClsOk K c → PySem.W.findIn K (.ref (He.ga K (cn c))) "__ne__" = some (some (.builtin "object.__ne__"))
  mr : ∀ c, thg c = true → ClsOk K c → PySem.W.mroIn K (He.ga K (cn c)) (.type "object") = some true
  no : ∀ c c', thg c = true → ClsOk K c → thg c' = true → ClsOk K c' → PySem.W.notFirst K (He.ga K (cn c)) (.ref (He.ga K (cn c'))) = true
theorem notFirst_ty {K : PySem.W.Frag} {C : Addr} {t : String} {l : List Value} (h : fastBuiltinMro t = some l) (hl : l.contains (.ref C) = false) : PySem.W.notFirst K C (.type t) = true := by
  have e : PySem.W.subIn K (.type t) (.ref C) = some false := by
    show (fastBuiltinMro t).map (·.contains (.ref C)) = some false
    rw [h, Option.map_some, hl]
  unfold PySem.W.notFirst
  rw [e]
  simp
theorem mro_none : fastBuiltinMro "NoneType" = some [.type "NoneType", .type "object"] := by decide +kernel
theorem mro_bool : fastBuiltinMro "bool" = some [.type "bool", .type "int", .type "object"] := by decide +kernel
theorem mro_int : fastBuiltinMro "int" = some [.type "int", .type "object"] := by decide +kernel
theorem mro_str : fastBuiltinMro "str" = some [.type "str", .type "object"] := by decide +kernel
theorem mro_tuple : fastBuiltinMro "tuple" = some [.type "tuple", .type "object"] := by decide +kernel
theorem mro_list : fastBuiltinMro "list" = some [.type "list", .type "object"] := by decide +kernel
/-- =='s promise for data of depth n at most -/
def objOk : D → Prop
  | .obj c l => npL l ∧ l.length = (fn c).length
  | _ => True
theorem RepL.npL_ {K : PySem.W.Frag} {fb : List Addr} {H : Hp} : ∀ {l : List D} {xs : List V}, RepL K fb H [] l xs → npL l
  | [], _, _ => trivial
  | _ :: _, _, .cons h r => ⟨Rep.nil_np h, RepL.npL_ r⟩
theorem Rep.objOk_ {K : PySem.W.Frag} {fb pt : List Addr} {H : Hp} {d : D} {v : V} (r : Rep K fb H pt d v) : objOk d := by
  cases r with
  | obj a b c r => exact ⟨RepL.npL_ r, c.1⟩
  | _ => trivial
def spEqD (n : Nat) : DSp := fun ds mu P F => ∃ c l e b, ds = [.obj c l, e] ∧ (objOk (.obj c l) ∧ objOk e) ∧ thg c = true ∧ dp (.obj c l) ≤ n ∧ eqD (.obj c l) (dr mu e) = some b ∧ F (.bl b) mu
theorem al_eq {hd al al' : List Addr} {H H' : Hp} (g : Go hd H al H' al') (h : al'.length = al.length) : al' = al := by
  apply List.ext_getElem?
  intro i
  by_cases hi : i < al.length
  · have e := List.getElem?_eq_getElem hi
    rw [g.pre i _ e, e]
  · rw [List.getElem?_eq_none (by omega), List.getElem?_eq_none (by omega)]
section
variable {X : Cx} {n k : Nat} {f : Addr}
theorem thg_of {c : Nat} {l : List D} {e : D} {b : Bool} (h : eqD (.obj c l) e = some b) : thg c = true := by
  cases e with
  | obj c' r =>
    rw [eqD] at h
    split at h
    · rename_i q
      exact q.1
    · cases h
  | adr => rw [eqD] at h; cases h
  | err => rw [eqD] at h; cases h
  | ptr => rw [eqD] at h; cases h
  | _ =>
    simp [eqD] at h
    exact h.1
/-- the right value's type never comes first -/
theorem right_type (EF : EqF X.K f) {pins : List (Addr × Obj)} {s : Shared} {sg : L2.St} {H : Hp} {hd al : List Addr} {mu : Sto} {c : Nat} {l : List D} {e : D} {y : V} {v : Value} {b : Bool} (I : Inv X pins sg H s) (o : Okay X.K hd H mu al) (ck : ClsOk X.K c) (re : Rep X.K (al ++ hd) H al e y) (rv : RelV y v) (he : eqD (.obj c l) (dr mu e) = some b) :
    ∃ tb, PySem.W.Looks (model X.prog X.w) s.heap (typeOf v) tb ∧ PySem.W.notFirst X.K (He.ga X.K (cn c)) tb = true := by
  have th := thg_of he
  have base : ∀ {t : String} {m : List Value}, TyX X.K H y (.type t) → fastBuiltinMro t = some m → m.contains (.ref (He.ga X.K (cn c))) = false → ∃ tb, PySem.W.Looks (model X.prog X.w) s.heap (typeOf v) tb ∧ PySem.W.notFirst X.K (He.ga X.K (cn c)) tb = true := fun {t m} ty hm hc => by
    obtain ⟨P, Z, p, _⟩ := kit_of I rv ty
    exact ⟨_, Z.ty _ _ I.kIn p, notFirst_ty hm hc⟩
  cases re with
  | non => exact base (.base .non) mro_none (by simp)
  | bl => exact base (.base (.bl _)) mro_bool (by simp)
  | int => exact base (.base (.int _)) mro_int (by simp)
  | str => exact base (.base (.str _)) mro_str (by simp)
  | adr =>
    have he' : eqD (.obj c l) (.adr _) = some b := he
    rw [eqD] at he'
    cases he'
  | err0 =>
    have he' : eqD (.obj c l) (.err _ _ _ _) = some b := he
    rw [eqD] at he'
    cases he'
  | err =>
    have he' : eqD (.obj c l) (.err _ _ _ _) = some b := he
    rw [eqD] at he'
    cases he'
  | tup z r =>
    exact base (.base (.tup z.2)) mro_tuple (by simp)
  | lst z r =>
    rcases z.2 with h | ⟨ob, h⟩
    · exact base (.base (.lst h)) mro_list (by simp)
    · exact base (.base (.frz h)) mro_list (by simp)
  | obj a bb cc r =>
    cases rv
    obtain ⟨mA, J, _⟩ := ins_get I.hok bb
    obtain ⟨od, J, _⟩ := J.look
    have he' : eqD (.obj c l) (.obj _ _) = some b := he
    rw [eqD] at he'
    split at he'
    · rename_i q
      exact ⟨_, J.type, EF.no _ _ q.1 ck q.2 cc.2⟩
    · cases he'
  | ptr e0 =>
    rename_i j p
    cases h : dr mu (.ptr j) with
    | lst r =>
      obtain ⟨q, xs, e1, z, _⟩ := DL.Rep.lv o (.ptr e0) (dr_lst h)
      cases e1
      rcases z with h | ⟨ob, h⟩
      · exact base (.base (.lst h)) mro_list (by simp)
      · exact base (.base (.frz h)) mro_list (by simp)
    | ptr m => rw [h, eqD] at he; cases he
    | adr a => rw [h, eqD] at he; cases he
    | err _ _ _ _ => rw [h, eqD] at he; cases he
    | tup l => cases dr_tup h
    | obj c l => cases dr_obj h
    | non =>
      have h' : (match mu[j]? with
        | some (.lst l) => D.lst l
        | _ => D.ptr j) = .non := h
      split at h' <;> cases h'
    | bl b =>
      have h' : (match mu[j]? with
        | some (.lst l) => D.lst l
        | _ => D.ptr j) = .bl b := h
      split at h' <;> cases h'
    | int b =>
      have h' : (match mu[j]? with
        | some (.lst l) => D.lst l
        | _ => D.ptr j) = .int b := h
      split at h' <;> cases h'
    | str b =>
      have h' : (match mu[j]? with
        | some (.lst l) => D.lst l
        | _ => D.ptr j) = .str b := h
      split at h' <;> cases h'
theorem run_eq (PR : Prom X.prog X.w X.K X.mg X.base k f 2 (spEqD n)) (hx : Passes (L2.CX X.prog X.w) X (fun _ _ _ => False)) {A : Around} (hr : Room k A) (hfr : A.frames = X.A.frames) {pins : List (Addr × Obj)} {s : Shared} {sg : L2.St} {H : Hp} {hd al : List Addr} {mu : Sto} {c : Nat} {l : List D} {e : D} {x y : V} {u v : Value} {b : Bool}
    (I : Inv X pins sg H s) (o : Okay X.K hd H mu al) (rd : Rep X.K (al ++ hd) H al (.obj c l) x) (re : Rep X.K (al ++ hd) H al e y) (ru : RelV x u) (rv : RelV y v) (hn : dp (.obj c l) ≤ n) (he : eqD (.obj c l) (dr mu e) = some b) :
    wpAny (model X.prog X.w) A (call (.ref f) [u, v]) (fun z s' => z = .bool b ∧ Pst X pins sg hd al mu H s') X.xe s := by
  obtain ⟨fd, ps, hps, FO, bb⟩ := PR.ok
  have hsp : spD X.K 2 (spEqD n) [x, y] H (fun v H' => v = .bl b ∧ Okay X.K hd H' mu al ∧ Go hd H al H' al) (fun _ _ _ => False) := by
    refine ⟨rfl, mu, al, hd, [.obj c l, e], fun _ _ => False, fun d mu' => d = .bl b ∧ mu' = mu, o, .cons rd (.cons re .nil), ⟨c, l, e, b, rfl, ⟨Rep.objOk_ rd, Rep.objOk_ re⟩, thg_of he, hn, he, rfl, rfl⟩, ⟨fun d mu' v H' al' h o' g r => ?_⟩, ⟨fun _ _ _ _ _ _ h => h.elim⟩⟩
    obtain ⟨rfl, rfl⟩ := h
    have e1 := al_eq g (by rw [o'.len, o.len])
    subst e1
    exact ⟨r.bl_, o', g⟩
  have e0 : Env0 X.prog X.w X.K X.mg X.base A X.stack s H := by
    have e := I.env0
    exact ⟨by rw [hfr]; exact e.frames, e.mod, e.bs, e.bsz, e.funs, e.frf, e.hok, e.bare⟩
  have r2 : Vals [x, y] [u, v] := .cons ru (.cons rv .nil)
  refine wpAny_call (codeAny_mono (FO.run A X.stack s H ⟨[u, v], []⟩ [u, v] [x, y] _ _ hr e0 (by
    have := bb s [u, v] I.kIn (by simpa using hps.symm)
    simpa using this) r2 hsp) fun r s' hq => ?_)
  cases r with
  | error e => exact hx pins sg H s e s' I hq
  | ok fl =>
    cases fl with
    | ret w =>
      obtain ⟨z, H', I', rz, ez, o', g'⟩ := I.after hq
      subst ez
      cases rz
      exact ⟨rfl, H', I', o', g'⟩
    | next => exact False.elim hq
    | brk => exact False.elim hq
    | cont => exact False.elim hq
theorem obB_eq (EF : EqF X.K f) (PR : Prom X.prog X.w X.K X.mg X.base k f 2 (spEqD n)) (hx : Passes (L2.CX X.prog X.w) X (fun _ _ _ => False)) : ObB X n k .Eq id := by
  intro A pins s sg H hd al mu c l e x y u v b sb I o rd re ru rv hn he
  have th := thg_of he
  have go := fun (hr : Room k A) => run_eq PR hx hr sb.fr I o rd re ru rv hn he
  cases rd with
  | obj a bb cc r =>
    cases ru
    obtain ⟨mA, J, _⟩ := ins_get I.hok bb
    obtain ⟨od, J, _⟩ := J.look
    obtain ⟨tb, hb, hnf⟩ := right_type EF I o cc.2 re rv he
    obtain ⟨m, hF⟩ := I.fr
    refine PySem.W.cmp_K (op := .Eq) (tb := tb) sb.room.units0 hF I.ok.mod.kin J hb hnf (EF.eq c th cc.2) EF.fn (wpAny_mono (go sb.room) (fun z s' q => ?_) fun _ _ x => x)
    obtain ⟨rfl, q⟩ := q
    exact ⟨rfl, q⟩
theorem obB_ne (EF : EqF X.K f) (PR : Prom X.prog X.w X.K X.mg X.base k f 2 (spEqD n)) (hx : Passes (L2.CX X.prog X.w) X (fun _ _ _ => False)) : ObB X n (k + 1) .NotEq not := by
  intro A pins s sg H hd al mu c l e x y u v b sb I o rd re ru rv hn he
  have th := thg_of he
  have go := run_eq PR hx sb.in1.room sb.in1.fr I o rd re ru rv hn he
  cases rd with
  | obj a bb cc r =>
    cases ru
    obtain ⟨mA, J, _⟩ := ins_get I.hok bb
    obtain ⟨od, J, _⟩ := J.look
    obtain ⟨tb, hb, hnf⟩ := right_type EF I o cc.2 re rv he
    obtain ⟨m, hF⟩ := I.fr
    refine ne_K (tb := tb) (by have := sb.in1.room.units0; exact this) hF I.ok.mod.kin J hb hnf (EF.mr c th cc.2) (EF.eq c th cc.2) EF.fn (EF.ne c th cc.2) (wpAny_mono go (fun z s' q => ?_) fun _ _ x => x)
    obtain ⟨rfl, q⟩ := q
    exact ⟨b, rfl, rfl, q⟩
end
end DQ

/-! part DQ5 -/
/-! DQ5: == and != at every depth, by a text's __eq__; the two operators as rules. -/
namespace DQ
open PySem PySem.Spec PyProof.Rows L2 DL
theorem passes_no {X : Cx} : Passes (L2.CX X.prog X.w) X (fun _ _ _ => False) := fun _ _ _ _ _ _ _ ⟨_, _, _, _, _, _, _, _, _, _, _, _, z⟩ => z.elim
section
variable {X : Cx} {n k j : Nat} {op : CmpOp} {f : Bool → Bool}
theorem RcB.mono (h : RcB X n k op f) (hk : k ≤ j) : RcB X n j op f := fun A pins s sg H hd al mu d e x y u v b sb => h A pins s sg H hd al mu d e x y u v b (sb.mono hk)
theorem EqB.mono (h : EqB X n k) (hk : k ≤ j) : EqB X n j := fun A pins s sg H hd al mu d e x y u v b sb => h A pins s sg H hd al mu d e x y u v b (sb.mono hk)
theorem ObB.mono (h : ObB X n k op f) (hk : k ≤ j) : ObB X n j op f := fun A pins s sg H hd al mu c l e x y u v b sb => h A pins s sg H hd al mu c l e x y u v b (sb.mono hk)
theorem mix0 {d e : D} (h : dp d ≤ 0) : mixD d e = true := by
  cases d with
  | tup l =>
    rw [dp] at h
    omega
  | lst l =>
    rw [dp] at h
    omega
  | obj c l =>
    rw [dp] at h
    omega
  | _ => rfl
theorem rcB_0 (hop : op = .Eq ∧ (∀ b, f b = b) ∨ op = .NotEq ∧ ∀ b, f b = !b) : RcB X 0 k op f := by
  intro A pins s sg H hd al mu d e x y u v b sb I o rd re ru rv hn he
  obtain ⟨q1, q2, _⟩ := mix_at (A := A) sb.room.units0 (kind_of I o rd ru) (kind_of I o re rv) (mix0 hn) he
  rcases hop with ⟨rfl, hf⟩ | ⟨rfl, hf⟩
  · rw [hf]
    exact q1 _ _ _ _ ⟨rfl, Pst.refl I o⟩
  · rw [hf]
    exact q2 _ _ _ _ ⟨rfl, Pst.refl I o⟩
end
/-- the room of == at depth n -/
def kE (n : Nat) : Nat := 2 * n + 4
theorem hopE : (CmpOp.Eq = .Eq ∧ (∀ b : Bool, id b = b) ∨ CmpOp.Eq = .NotEq ∧ ∀ b : Bool, id b = !b) := .inl ⟨rfl, fun _ => rfl⟩
theorem hopN : (CmpOp.NotEq = .Eq ∧ (∀ b : Bool, (!b) = b) ∨ CmpOp.NotEq = .NotEq ∧ ∀ b : Bool, (!b) = !b) := .inr ⟨rfl, fun _ => rfl⟩
structure EqX (X : Cx) (n : Nat) : Prop where
  eq : RcB X n (kE n) .Eq id
  ne : RcB X n (kE n) .NotEq not
  bo : EqB X n (kE n)
structure EqAll (P : Program) (w : World) (K : PySem.W.Frag) (mg : Str → Option Value) (base : Heap) (n : Nat) : Prop where
  at_ : ∀ X : Cx, X.prog = P → X.w = w → X.K = K → X.mg = mg → X.base = base → EqX X n
section
variable {P : Program} {w : World} {K : PySem.W.Frag} {mg : Str → Option Value} {base : Heap} {f : Addr}
theorem EqAll.x {X : Cx} {n : Nat} (E : EqAll X.prog X.w X.K X.mg X.base n) : EqX X n := E.at_ X rfl rfl rfl rfl rfl
theorem eqX_0 {X : Cx} (inj : InjC X.K) : EqX X 0 := ⟨rcB_0 hopE, rcB_0 hopN, eqB_of inj (by unfold kE; omega) (rcB_0 hopE)⟩
theorem eqX_step {X : Cx} {n k : Nat} (EF : EqF X.K f) (h : EqX X n) (hk : k + 1 ≤ kE (n + 1)) (PR : Prom X.prog X.w X.K X.mg X.base k f 2 (spEqD (n + 1))) : EqX X (n + 1) := by
  have e1 : RcB X (n + 1) (kE (n + 1)) .Eq id := rcB_step (k := kE (n + 1) - 1) hopE (h.bo.mono (by unfold kE; omega)) ((obB_eq EF PR passes_no).mono (by omega))
  exact ⟨e1, rcB_step (k := kE (n + 1) - 1) hopN (h.bo.mono (by unfold kE; omega)) ((obB_ne EF PR passes_no).mono (by unfold kE at hk ⊢; omega)), eqB_of EF.inj (by unfold kE; omega) e1⟩
/-- at every depth, if a text's __eq__ keeps its promise at n + 1 by == at n -/
theorem eq_all (EF : EqF K f) (step : ∀ n, EqAll P w K mg base n → Prom P w K mg base (kE n + 1) f 2 (spEqD (n + 1))) : ∀ n, EqAll P w K mg base n
  | 0 => ⟨fun X h1 h2 h3 h4 h5 => by
    subst h1 h2 h3 h4 h5
    exact eqX_0 EF.inj⟩
  | n + 1 => ⟨fun X h1 h2 h3 h4 h5 => by
    have ih := eq_all EF step n
    subst h1 h2 h3 h4 h5
    exact eqX_step EF ih.x (by unfold kE; omega) (step n ih)⟩
end
/-- x == y -/
def gEq (n : Nat) : G2 := fun d e mu _ F => dp (dr mu d) ≤ n ∧ match eqD (dr mu d) (dr mu e) with
  | some b => F (.bl b) mu
  | none => False
def gNe (n : Nat) : G2 := fun d e mu _ F => dp (dr mu d) ≤ n ∧ match eqD (dr mu d) (dr mu e) with
  | some b => F (.bl (!b)) mu
  | none => False
section
variable {X : Cx} {W : WX}
theorem o_eq (n : Nat) (E : EqAll X.prog X.w X.K X.mg X.base n) (hr : Room (kE n) X.A) : OpS X (compareOp .Eq) (liftR X.K W (gEq n)) := by
  intro pins s sg H x y v u Q I rx ry ⟨mu, al, hd, d, e, P, F, o, rd, re, h, kv, kx⟩
  obtain ⟨hn, h⟩ := h
  split at h
  · rename_i b he
    show wpAny (model X.prog X.w) X.A (richCompare .Eq v u) (EP X pins sg Q) X.xe s
    refine wpAny_mono (E.x.eq X.A pins s sg H hd al mu d e x y v u b ⟨hr, rfl⟩ I o rd re rx ry hn he) (fun r s' z => ?_) fun _ _ x => x
    obtain ⟨rfl, H', I', o', g'⟩ := z
    exact ⟨.bl b, H', I', rfl, kv.go _ _ _ _ _ h o' g' .bl⟩
  · exact h.elim
theorem o_ne (n : Nat) (E : EqAll X.prog X.w X.K X.mg X.base n) (hr : Room (kE n) X.A) : OpS X (compareOp .NotEq) (liftR X.K W (gNe n)) := by
  intro pins s sg H x y v u Q I rx ry ⟨mu, al, hd, d, e, P, F, o, rd, re, h, kv, kx⟩
  obtain ⟨hn, h⟩ := h
  split at h
  · rename_i b he
    show wpAny (model X.prog X.w) X.A (richCompare .NotEq v u) (EP X pins sg Q) X.xe s
    refine wpAny_mono (E.x.ne X.A pins s sg H hd al mu d e x y v u b ⟨hr, rfl⟩ I o rd re rx ry hn he) (fun r s' z => ?_) fun _ _ x => x
    obtain ⟨rfl, H', I', o', g'⟩ := z
    exact ⟨.bl (!b), H', I', rfl, kv.go _ _ _ _ _ h o' g' .bl⟩
  · exact h.elim
end
end DQ

/-! part DQ6 -/
/-! DQ6: what is asked of a text's written part, as one Bool. -/
namespace DQ
open PySem PySem.Spec PyProof.Rows L2 DL
theorem ba2 {a b : Bool} (h : (a && b) = true) : a = true ∧ b = true := Bool.and_eq_true_iff.mp h
theorem bo2 {a b : Bool} (h : (!a || b) = true) (ha : a = true) : b = true := by
  rw [ha] at h
  exact h
theorem ckHere {K : PySem.W.Frag} {c : Nat} (h : ClsOk K c) : here K c = true := h.1.hd
theorem thg_lt {c : Nat} (h : thg c = true) : c < 18 := by
  unfold thg at h
  split at h <;> first | cases h | exact of_decide_eq_true h
section
variable {K : PySem.W.Frag}
theorem clsB_of (h : txtB K = true) {c : Nat} (hc : c < 18) : clsB K c = true := List.all_eq_true.mp (ba2 h).1 c (List.mem_range.mpr hc)
theorem isF_of (h : txtB K = true) : IsF K := by
  obtain ⟨_, h2⟩ := ba2 h
  obtain ⟨_, h3⟩ := ba2 h2
  obtain ⟨h4, h5⟩ := ba2 h3
  refine ⟨fun c ck hc => ?_, of_decide_eq_true h4, of_decide_eq_true h5⟩
  obtain ⟨a, b⟩ := ba2 (bo2 (clsB_of h hc) (ckHere ck))
  exact ⟨of_decide_eq_true (ba2 b).1, of_decide_eq_true a⟩
theorem thg_of2 (h : txtB K = true) {c : Nat} (t : thg c = true) (ck : ClsOk K c) : PySem.W.mroIn K (He.ga K (cn c)) (.type "object") = some true ∧ PySem.W.findIn K (.ref (He.ga K (cn c))) "__eq__" = some (some (.ref (eqAd K))) ∧ PySem.W.findIn K (.ref (He.ga K (cn c))) "__ne__" = some (some (.builtin "object.__ne__")) ∧
    ∀ c', thg c' = true → ClsOk K c' → PySem.W.notFirst K (He.ga K (cn c)) (.ref (He.ga K (cn c'))) = true ∧ (He.ga K (cn c) = He.ga K (cn c') → c = c') := by
  obtain ⟨a, b⟩ := ba2 (bo2 (clsB_of h (thg_lt t)) (ckHere ck))
  obtain ⟨d, e⟩ := ba2 (bo2 (ba2 b).2 t)
  obtain ⟨f, g⟩ := ba2 e
  refine ⟨of_decide_eq_true a, of_decide_eq_true d, of_decide_eq_true f, fun c' t' ck' => ?_⟩
  obtain ⟨i, j⟩ := ba2 (bo2 (bo2 (List.all_eq_true.mp g c' (List.mem_range.mpr (thg_lt t'))) (ckHere ck')) t')
  exact ⟨i, of_decide_eq_true j⟩
theorem eqF_of (h : txtB K = true) : EqF K (eqAd K) where
  inj := fun c c' t t' ck ck' => ((thg_of2 h t ck).2.2.2 c' t' ck').2
  fn := (ba2 (ba2 h).2).1
  eq := fun c t ck => (thg_of2 h t ck).2.1
  ne := fun c t ck => (thg_of2 h t ck).2.2.1
  mr := fun c t ck => (thg_of2 h t ck).1
  no := fun c c' t ck t' ck' => ((thg_of2 h t ck).2.2.2 c' t' ck').1
theorem isiT_of {u : Value} {bt : String → Bool} {cl : Nat → Bool} (h : isiB K u bt cl = true) : IsiT K u bt cl := by
  obtain ⟨a, b⟩ := ba2 h
  exact ⟨fun t ht => of_decide_eq_true (List.all_eq_true.mp a t ht), fun c ck hc => of_decide_eq_true (bo2 (List.all_eq_true.mp b c (List.mem_range.mpr hc)) (ckHere ck))⟩
theorem abs_of {c : Nat} (h : absB K c = true) : ¬ ClsOk K c := fun ck => by
  unfold absB at h
  rw [(ckHere ck)] at h
  cases h
theorem ck_of {c : Nat} (h : ckB K c = true) : ClsOk K c := by
  obtain ⟨a, b⟩ := ba2 h
  exact ⟨He.cls_ok a, fun f hf => He.noat_ok (List.all_eq_true.mp b f hf)⟩
theorem mk0_of {c : Nat} (hf : fn c = []) (h : mk0B K c = true) : Mk0 K c := by
  obtain ⟨a, h⟩ := ba2 h
  obtain ⟨b, h⟩ := ba2 h
  obtain ⟨d, h⟩ := ba2 h
  obtain ⟨e, g⟩ := ba2 h
  exact ⟨ck_of a, hf, b, of_decide_eq_true d, of_decide_eq_true e, g⟩
end
end DQ

/-! part DX1 -/
/-! DX1: own errors with fields, raised. -/
namespace DX
open PySem PySem.Spec PyProof.Rows L2 DL DQ
theorem oexB_ok {K : PySem.W.Frag} {C : Addr} (h : oexB K C = true) : OexC K C := by
  obtain ⟨h1, h⟩ := ba2 h
  obtain ⟨h2, h⟩ := ba2 h
  obtain ⟨h3, h⟩ := ba2 h
  obtain ⟨h4, h5⟩ := ba2 h
  refine ⟨?_, of_decide_eq_true h2, of_decide_eq_true h3, of_decide_eq_true h4, h5⟩
  split at h1
  · rename_i dd cd sl ho
    split at h1
    · rename_i C' bm k0 k1 k2 k3 n k5 hm hs
      simp only [Bool.and_eq_true, beq_iff_eq, Bool.not_eq_true'] at h1
      obtain ⟨⟨e1, e2⟩, hdel, hdc, hv⟩ := h1
      subst e1 e2
      obtain ⟨nm, bs, mro, ns, qn, hd, sn, sub, ab, col, del⟩ := cd
      dsimp only at hm hdel hdc
      subst hm hdel hdc
      have hsl : sl = #[k0, k1, k2, k3, some (.builtin "ValueError.__new__"), k5] := by
        obtain ⟨l⟩ := sl
        simp only at hs
        rw [hs]
      subst hsl
      exact ⟨_, _, _, _, _, _, _, _, _, _, _, _, _, _, _, ho, hv⟩
    · cases h1
  · cases h1
/-- the fields of such an object, the last one set first -/
def xfs (names : List Str) (ws : List V) : List (Str × V) := (names.zip ws).reverse
/-- self.f = f, one after the other, on an exception that is being made -/
def spX (K : PySem.W.Frag) (C : Addr) (names : List Str) : Sp := fun vs H Q _ => ∃ (a : Addr) (ws : List V), vs = .ref a :: ws ∧ ws.length = names.length ∧ OexC K C ∧ (∀ f ∈ names, PySem.W.findIn K (.ref C) f = some none) ∧ H a = some (exo a C none) ∧
  ∀ d H2, H d = none → d ≠ a → H2 a = some (exo a C (some d)) → H2 d = some (exd d (xfs names ws)) → (∀ b, b ≠ a → b ≠ d → H2 b = H b) → Q .non H2
/-- the class x of errors can be raised, its fields are set by its __init__ -/
structure XOk (P : Program) (w : World) (K : PySem.W.Frag) (mg : Str → Option Value) (base : Heap) (k x : Nat) : Prop where
  oex : OexC K (He.ga K (xn x))
  ok : ∃ f fd ps, PySem.W.findIn K (.ref (He.ga K (xn x))) "__init__" = some (some (.ref f)) ∧ PySem.W.typeIn K (.ref f) = some (.type "function") ∧ FnOk P w K mg base (L2.CX P w) k f fd ps (spX K (He.ga K (xn x)) (xf x)) ∧ Binds K fd ps []
  no : ∀ f ∈ xf x, PySem.W.findIn K (.ref (He.ga K (xn x))) f = some none
  nd : (xf x).Nodup
  ne : xf x ≠ []
  nm : PySem.W.keepIn K (.ref (He.ga K (xn x))) = true
def dRaise (x : Nat) (da : DA) : DS := fun E ga mu => da ga mu E.ex fun ds mu1 => (ds.length = (xf x).length ∧ npL ds) ∧ E.ex (x, ds) mu1
theorem lookup_zip {f : Str} : ∀ {ns : List Str} {xs : List V} {i : Nat}, ns.Nodup → ns.length = xs.length → ns[i]? = some f → (ns.zip xs).reverse.lookup f = xs[i]? := by
  intro ns xs i nd hl hi
  have key : ∀ (l : List (Str × V)) (v : V), (l.map (·.1)).Nodup → (f, v) ∈ l → l.lookup f = some v := by
    intro l
    induction l with
    | nil => intro v _ h; cases h
    | cons p l ih =>
      intro v hnd hm
      obtain ⟨g, y⟩ := p
      rw [List.map_cons, List.nodup_cons] at hnd
      rcases List.mem_cons.mp hm with e | hm
      · cases e
        simp
      · have hne : ¬ f = g := fun e => hnd.1 (e ▸ List.mem_map.mpr ⟨_, hm, rfl⟩)
        have hb : (f == g) = false := beq_eq_false_iff_ne.mpr hne
        rw [List.lookup_cons, hb]
        exact ih v hnd.2 hm
  have hix : i < ns.length := (List.getElem?_eq_some_iff.mp hi).1
  have hix2 : i < xs.length := by omega
  rw [List.getElem?_eq_getElem hix2]
  refine key _ _ ?_ ?_
  · rw [List.map_reverse, List.map_fst_zip (by omega)]
    unfold List.Nodup
    rw [List.pairwise_reverse]
    exact List.Pairwise.imp (fun h => Ne.symm h) nd
  · rw [List.mem_reverse]
    refine List.mem_iff_getElem?.mpr ⟨i, ?_⟩
    rw [List.getElem?_zip_eq_some]
    exact ⟨hi, List.getElem?_eq_getElem hix2⟩
section
variable {X : Cx} {W : WX}
theorem ds_raise {k x : Nat} {n : Str} {p pos pos' : Pos} {e : Expr} {es : List Expr} {da : DA} (hc : X.calm = true) (M : XOk X.prog X.w X.K X.mg X.base k x) (hr : Room (k + 1) X.A) (hm : X.mg n = some (.ref (He.ga X.K (xn x)))) (tk : Takes X W) (ha : PA X (e :: es) (liftA X.K W da)) (hg : Gl X n := by rfl)
    (hdb : (n == ("__debug__" : Str)) = false := by decide) (he : starEach (e :: es) X.env = (false, eval e X.env) :: starEach es X.env := by rfl) (hpl : (backTo pos (starEach es X.env)).any (·.1) = false := by rfl) :
    PS X (.Raise (some (.Call (.Name n p) (e :: es) [] pos)) none pos') (liftS X.K W (dRaise x da)) := by
  obtain ⟨f, fd, ps, iC, tI, F1, hb⟩ := M.ok
  refine ps_wk (ps_raise hc tk (pmk_oex (dvs := []) (ds := []) M.oex iC tI F1 hr hb .nil passes_no hg hm ha hdb he hpl)) fun Q sg H ⟨ga, mu, al, hd, E, at_, h, kk⟩ => ?_
  refine ⟨ga, mu, al, hd, E.ex, _, at_, h, ⟨fun ds mu1 vs H1 al1 h1 o1 g1 r1 => ?_⟩, kk.ex sg⟩
  obtain ⟨⟨hl, hn⟩, hx⟩ := h1
  have hlv : vs.length = (xf x).length := by rw [← r1.len, hl]
  have hx20 : ∀ y, (xf y).length ≤ 1000 := fun y => by
    unfold xf
    split <;> decide
  refine ⟨by rw [hlv]; exact hx20 x, fun a ha => ?_⟩
  rw [List.append_nil]
  refine ⟨a, vs, rfl, hlv, M.oex, M.no, upd_same, fun d H2 hd0 hda e1 e2 hrest => ?_⟩
  have hd1 : H1 d = none := by
    rw [upd_ne hda] at hd0
    exact hd0
  refine ⟨rfl, d, _, e1, e2, hd1, ?_⟩
  have keep : ∀ b u, H1 b = some u → (upd (del H2 a) d (.xd (xfs (xf x) vs))) b = some u := fun b u q => by
    have nba := ne_of_none q ha
    have nbd := ne_of_none q hd1
    rw [upd_ne nbd, del_ne nba, hrest b nba nbd, upd_ne nba]
    exact q
  have g2 : Go hd H1 al1 (upd (del H2 a) d (.xd (xfs (xf x) vs))) al1 := Go.ext o1 keep
  refine (kk.ex sg).go (x, ds) mu1 _ _ _ al1 hx (o1.ext keep) (g1.trans g2) ⟨rfl, hl, fun _ => ⟨d, _, vs, rfl, o1.new hd1, upd_same, (r1.np hn).go g2 (Pre.refl _), fun i f hi => ?_⟩, fun z => ?_⟩
  · exact lookup_zip M.nd (by rw [hlv]) hi
  · have z' : ds = [] := z
    rw [z'] at hl
    exact absurd (List.length_eq_zero_iff.mp hl.symm) M.ne
end
end DX

/-! part DX2 -/
/-! DX2: an error's __init__ with one or two fields. -/
namespace DX
open PySem PySem.Spec PyProof.Rows L2 DL DQ
section
variable {P : Program} {w : World} {K : PySem.W.Frag} {mg : Str → Option Value} {base : Heap} {qual : Str} {params : Arguments} {body : List Stmt} {scope : Scope} {f : Addr} {fd : FuncData} {N ps : List Str} {C : Addr} {a1 a2 : Str}
theorem xinit1 (F : FunD K "__init__" qual params body scope [] [] f fd) (S : FnScope N ps scope) (hn : ps.length = 2)
    (der : ∀ (cdv : Value) (A : Around) (outer : List Env) (s : Shared) (H : Hp) (E : XK), PSs (cxOf (L2.CX P w) P w K mg base N qual scope f cdv A outer s H E) body (tOst K a1 (tVar 0) (tVar 1))) : FnOk P w K mg base (L2.CX P w) 1 f fd ps (spX K C [a1]) := by
  refine F.ok S (fun vs H Q E h => ?_) (fun cdv A outer s H vs Q E hr h => ⟨_, der cdv A outer s H E, ?_⟩)
  · obtain ⟨a, ws, rfl, hl, _⟩ := h
    rw [List.length_cons, hl, hn] <;> rfl
  · obtain ⟨a, ws, rfl, hl, T, no, hH, hQ⟩ := h
    match ws, hl with
    | [y], _ =>
      refine ⟨y, rfl, .ref a, rfl, a, C, rfl, T, no a1 List.mem_cons_self, .inl ⟨hH, fun d hd hne => hQ d _ hd hne upd_same ?_ fun b hb hb2 => ?_⟩⟩
      · rw [upd_ne hne, upd_same] <;> rfl
      · rw [upd_ne hb, upd_ne hb2]
theorem xinit2 (F : FunD K "__init__" qual params body scope [] [] f fd) (S : FnScope N ps scope) (hn : ps.length = 3)
    (der : ∀ (cdv : Value) (A : Around) (outer : List Env) (s : Shared) (H : Hp) (E : XK), PSs (cxOf (L2.CX P w) P w K mg base N qual scope f cdv A outer s H E) body (tSeq (tOst K a1 (tVar 0) (tVar 1)) (tOst K a2 (tVar 0) (tVar 2)))) : FnOk P w K mg base (L2.CX P w) 1 f fd ps (spX K C [a1, a2]) := by
  refine F.ok S (fun vs H Q E h => ?_) (fun cdv A outer s H vs Q E hr h => ⟨_, der cdv A outer s H E, ?_⟩)
  · obtain ⟨a, ws, rfl, hl, _⟩ := h
    rw [List.length_cons, hl, hn] <;> rfl
  · obtain ⟨a, ws, rfl, hl, T, no, hH, hQ⟩ := h
    match ws, hl with
    | [y, z], _ =>
      refine ⟨y, rfl, .ref a, rfl, a, C, rfl, T, no a1 List.mem_cons_self, .inl ⟨hH, fun d hd hne => ?_⟩⟩
      refine ⟨z, rfl, .ref a, rfl, a, C, rfl, T, no a2 (List.mem_cons_of_mem _ List.mem_cons_self), .inr ⟨d, [(a1, y)], upd_same, ?_, (by show 1 ≤ 900; decide), hQ d _ hd hne ?_ upd_same fun b hb hb2 => ?_⟩⟩
      · rw [upd_ne hne, upd_same]
      · rw [upd_ne (Ne.symm hne), upd_same]
      · rw [upd_ne hb2, upd_ne hb, upd_ne hb2]
end
theorem xok_of {P : Program} {w : World} {K : PySem.W.Frag} {mg : Str → Option Value} {base : Heap} {k x : Nat} {fd : FuncData} {ps : List Str} (h : xoB K x = true) (nd : (xf x).Nodup) (ne : xf x ≠ [])
    (F : FnOk P w K mg base (L2.CX P w) k (He.ma K (He.ga K (xn x)) "__init__") fd ps (spX K (He.ga K (xn x)) (xf x))) (b : Binds K fd ps []) : XOk P w K mg base k x := by
  obtain ⟨h1, h⟩ := ba2 h
  obtain ⟨h2, h⟩ := ba2 h
  obtain ⟨h3, h4⟩ := ba2 h
  have T := oexB_ok h1
  exact ⟨T, ⟨_, fd, ps, of_decide_eq_true h2, of_decide_eq_true h3, F, b⟩, fun f hf => of_decide_eq_true (List.all_eq_true.mp h4 f hf), nd, ne, T.kC⟩
end DX

/-! part DX3 -/
/-! DX3: try with several clauses, with or without a name. -/
namespace DX
open PySem PySem.Spec PyProof.Rows L2 DL DQ
abbrev Cls1 : Type := Value × Option Nat × (Addr → Value → Option Addr → TS)
def away (i : Nat) (D : Ends) : Ends := { nx := fun q h => D.nx (q.set i none) h, rt := D.rt, bk := fun q h => D.bk (q.set i none) h, ct := fun q h => D.ct (q.set i none) h }
def suiteOf (D : Ends) (t : Option Nat × (Addr → Value → Option Addr → TS)) (a : Addr) (cls : Value) (d : Option Addr) (q : L2.St) (H : Hp) : Prop := match t.1 with
  | none => t.2 a cls d D q H
  | some i => t.2 a cls d (away i D) (q.set i (some (.ref a))) H
/-- what the clauses wish of an error -/
def wMix (K : PySem.W.Frag) (W0 : WX) (D : Ends) : List Cls1 → WX
  | [] => W0
  | (c, t) :: r => fun cls d q H => ∃ b, PySem.W.exmOne K cls c = some b ∧ (b = true → ∀ a, H a = none → suiteOf D t a cls d q H) ∧ (b = false → wMix K W0 D r cls d q H)
/-- the same, of slots in their number -/
def wLen (n : Nat) (W : WX) : WX := fun cls d q H => q.length = n → W cls d q H
inductive HdsMix (X : Cx) : List ExceptHandler → List Cls1 → Prop
  | nil : HdsMix X [] []
  | plain {x : Str} {c : Value} {ts : Addr → Value → Option Addr → TS} {b0 : Stmt} {rest : List Stmt} {np pos' : Pos} {hds : List ExceptHandler} {l : List Cls1} (hc : Names X x c)
      (hsu : ∀ (a : Addr) (oe : Obj) (cls : Value) (d : Option Addr) (pn : List (Addr × Obj)), Zc cls d oe → (∃ vs, oe.data = .fields vs) → PSs (X.suite a ((a, oe) :: pn)) (b0 :: rest) (ts a cls d)) (r : HdsMix X hds l) :
      HdsMix X (.ExceptHandler (some (.Name x np)) none (b0 :: rest) pos' :: hds) ((c, none, ts) :: l)
  | named {x n : Str} {i : Nat} {c : Value} {ts : Addr → Value → Option Addr → TS} {b0 : Stmt} {rest : List Stmt} {np pos' : Pos} {hds : List ExceptHandler} {l : List Cls1} (hc : Names X x c) (hi : X.N[i]? = some n) (hln : X.env.kindOf n = some .local)
      (hsu : ∀ (a : Addr) (oe : Obj) (cls : Value) (d : Option Addr) (pn : List (Addr × Obj)), Zc cls d oe → (∃ vs, oe.data = .fields vs) → PSs (X.suite a ((a, oe) :: pn)) (b0 :: rest) (ts a cls d)) (r : HdsMix X hds l) :
      HdsMix X (.ExceptHandler (some (.Name x np)) (some n) (b0 :: rest) pos' :: hds) ((c, some i, ts) :: l)
section
variable {X : Cx} {body : List Stmt} {h0 : ExceptHandler} {hds : List ExceptHandler} {l : List Cls1} {pos : Pos} {tb : WX → TS} {Wo : WX}
theorem ps_try_mix (hs : X.stack = X.env :: X.outer) (hf : X.env.frame = some X.env.locals) (hN : X.N.Nodup) (tk : Takes X Wo)
    (hb : ∀ (W : WX) (pn : List (Addr × Obj)) (xe : Value → Shared → Prop), Takes (X.tr pn xe) W → PassesOwn (model X.prog X.w) X.A X.env xe → PSs (X.tr pn xe) body (tb W))
    (hh : HdsMix X (h0 :: hds) l) : PS X (.Try body (h0 :: hds) [] [] pos) (fun D q H => tb (wLen X.N.length (wMix X.K Wo D l)) D q H) := by
  refine ⟨fun pins s q0 H D I h => ?_⟩
  have ok := I.ok
  have hfr : X.A.frames = some (X.env :: X.outer) := by rw [ok.frames, hs]
  refine wpAny_Try_except ?_
  refine wpAny_mono ((hb (wLen X.N.length (wMix X.K Wo D l)) (X.pn ++ pins) (fun e s1 => wpAny (model X.prog X.w) X.A (noteFrame e X.env) (fun _ s2 => wpAny (model X.prog X.w) X.A (setFlight e none) (fun _ s3 =>
    wpAny (model X.prog X.w) X.A (handleBy e X.env (h0 :: hds)) (SP X pins D) X.xe s3) X.xe s2) X.xe s1) (fun u s' xx => ?_) PassesOwn.looking).run [] s q0 H D (I.toTry _) h) (fun f s1 hsp => ?_) (fun e s1 he => he)
  · obtain ⟨a, B, sI, pins', q', H', cls, d, rfl, J', nb, up, sky, na, os, ag, w⟩ := xx
    have J : Inv X pins q' H' sI := J'.ofTry ok
    have sky2 : Sky B (X.env :: X.outer) a (Zc cls d) X.env.locals s'.heap := by rw [← hs]; exact sky
    show wpAny (model X.prog X.w) X.A (noteFrame (.ref a) X.env) _ _ _
    refine Sky.land Zc.steady hfr hf sky2 fun h3 fl3 up3 => ?_
    have J3 : Inv X pins q' H' { s' with heap := h3 } := J.landed nb fl3.1 (up.trans up3) os ag
    obtain ⟨oe3, vs3, he3, hz3, hd3⟩ := fl3.there
    have nfr : a ∉ frs (X.env :: X.outer) := fun hm => by
      obtain ⟨_, o2, e2, hnf⟩ := fl3.2.2.1.mem hm
      rw [he3] at e2
      cases e2
      exact hnf _ hd3
    have nL : a ≠ X.env.locals := fun z => nfr (List.mem_filterMap.mpr ⟨X.env, List.mem_cons_self, by rw [hf, z]⟩)
    have nF : a ∉ X.fs := fun hm => by
      obtain ⟨e, he, z⟩ := List.mem_filterMap.mp hm
      exact nfr (List.mem_filterMap.mpr ⟨e, List.mem_cons_of_mem _ he, z⟩)
    have S3 := J3.suite he3 hd3 na nL nF
    have LT : PySem.W.Looks (model X.prog X.w) h3 (typeOf (.ref a)) cls := fun A Q E s k z => wpAny_typeOf_ref (k _ _ he3) (by rw [hz3.1]; exact z)
    have test : ∀ {x : Str} {np : Pos} {c : Value} {Q : Value → Shared → Prop} {E : Value → Shared → Prop}, Names X x c → Q c { s' with heap := h3 } → wpAny (model X.prog X.w) (X.A.mark (some (.ref a))) (eval (.Name x np) X.env) Q E { s' with heap := h3 } := fun {x np c Q E} hc z => by
      obtain ⟨hg, hdbg, hm | ⟨hm, hv, hnn⟩⟩ := hc
      · exact ld_glob (X := X.suite a ((a, oe3) :: (X.pn ++ pins))) S3 hg hm z hdbg
      · exact ld_blt (X := X.suite a ((a, oe3) :: (X.pn ++ pins))) S3 hg hm hv z hnn hdbg
    have go : ∀ {hds2 : List ExceptHandler} {l2 : List Cls1}, HdsMix X hds2 l2 → wMix X.K Wo D l2 cls d q' H' →
        wpAny (model X.prog X.w) X.A (handleBy (.ref a) X.env hds2) (SP X pins D) X.xe { s' with heap := h3 } := by
      intro hds2 l2 hk
      induction hk with
      | nil =>
        intro w
        refine wpAny_handleBy_nil ?_
        obtain ⟨k1, k2, k3, oe, vs, T, oT, ts', he, hz, hd, h1, hr⟩ := id fl3
        unfold PySem.passOn
        refine wpAny_bind (wpAny_field he hd h1 ?_)
        rw [if_neg (show ¬ ((Value.ref T == Value.none) = true) from by simp)]
        have fin : wpAny (model X.prog X.w) X.A (setFlight (.ref a) X.env.frame) (fun _ s4 => wpAny (model X.prog X.w) X.A (throw (.ref a) : Sem Flow) (SP X pins D) X.xe s4) X.xe { s' with heap := h3 } := by
          rw [hf]
          refine HandSPX.setFlight_upZ fl3 fun h4 hh4 up4 => wpAny_throw (tk _ _ ?_)
          exact ⟨a, B, sI, pins, q', H', cls, d, rfl, J, nb, (up.trans up3).trans up4, .inr (.inr (by rw [hs]; exact hh4)), na, os, ag, w⟩
        first
          | exact wpAny_bind (wpAny_pure (wpAny_bind fin))
          | exact wpAny_bind fin
      | @plain x c ts b0 rest np pos' hds3 l3 hc hsu r ih =>
        intro w
        obtain ⟨b, hb1, hyes, hno⟩ := w
        refine wpAny_handleBy_cons (codeAny_handlers_test ?_) (by intro z; cases z)
        refine test hc ((PySem.W.exm_one (M := model X.prog X.w) (J3.kIn) LT hb1).here ?_)
        cases b with
        | true =>
          refine codeAny_handlers_suite ?_
          refine HandSPX.lands_againZ fl3 fun h4 fl4 up4 => ?_
          have J4 : Inv X pins q' H' { s' with heap := h4 } := J.landed nb fl4.1 ((up.trans up3).trans up4) os ag
          obtain ⟨oe4, vs4, he4, hz4, hd4⟩ := fl4.there
          have S4 := J4.suite he4 hd4 na nL nF
          refine wpAny_mono ((hsu a oe4 cls d (X.pn ++ pins) hz4 ⟨_, hd4⟩).run [] _ _ H' _ S4 (hyes rfl a na)) (fun f s6 hsp => ?_) (fun _ _ z => False.elim z)
          cases f with
          | ret u =>
            obtain ⟨v6, q6, H6, S6, r6, z6⟩ := hsp
            exact ⟨_, _, _, S6.unsuite ok, r6, z6⟩
          | _ =>
            obtain ⟨q6, H6, S6, z6⟩ := hsp
            exact ⟨_, _, S6.unsuite ok, z6⟩
        | false => exact ih (hno rfl)
      | @named x n i c ts b0 rest np pos' hds3 l3 hc hi hln hsu r ih =>
        intro w
        obtain ⟨b, hb1, hyes, hno⟩ := w
        refine wpAny_handleBy_cons (codeAny_handlers_test ?_) (by intro z; cases z)
        refine test hc ((PySem.W.exm_one (M := model X.prog X.w) (J3.kIn) LT hb1).here ?_)
        cases b with
        | true =>
          refine codeAny_handlers_suite_as ?_
          refine HandSPX.lands_againZ fl3 fun h4 fl4 up4 => ?_
          have J4 : Inv X pins q' H' { s' with heap := h4 } := J.landed nb fl4.1 ((up.trans up3).trans up4) os ag
          obtain ⟨oe4, vs4, he4, hz4, hd4⟩ := fl4.there
          have S4 := J4.suite he4 hd4 na nL nF
          refine store_ok (X := X.suite a ((a, oe4) :: (X.pn ++ pins))) (v := .ref a) S4 hN hi (.inl hln) rfl (fun s5 S5 => ?_) (.inr hln)
          refine wpAny_mono ((hsu a oe4 cls d (X.pn ++ pins) hz4 ⟨_, hd4⟩).run [] s5 _ H' _ S5 (hyes rfl a na)) (fun f s6 hsp => ?_) (fun _ _ z => False.elim z)
          have end_ : ∀ {q6 : L2.St} {H6 : Hp} {Q : Shared → Prop}, Inv (X.suite a ((a, oe4) :: (X.pn ++ pins))) [] q6 H6 s6 → (∀ s7, Inv X pins (q6.set i none) H6 s7 → Q s7) →
              wpAny (model X.prog X.w) X.A (do bindName X.env n .none; unbindBehindTheSuite X.env n pos') (fun _ s7 => Q s7) X.xe s6 := fun {q6 H6 Q} S6 hq => gone_ok (S6.unsuite ok) hN hi hln hq
          cases f with
          | ret u =>
            obtain ⟨v6, q6, H6, S6, r6, z6⟩ := hsp
            exact end_ S6 fun s7 J7 => ⟨_, _, _, J7, r6, z6⟩
          | _ =>
            obtain ⟨q6, H6, S6, z6⟩ := hsp
            exact end_ S6 fun s7 J7 => ⟨_, _, J7, z6⟩
        | false => exact ih (hno rfl)
    exact go hh (w J.len)
  · cases f with
    | next =>
      obtain ⟨q', H', J', z⟩ := hsp
      exact wpAny_execs_nil ⟨q', H', J'.ofTry ok, z⟩
    | ret u =>
      obtain ⟨v, q', H', J', r, z⟩ := hsp
      exact ⟨v, q', H', J'.ofTry ok, r, z⟩
    | _ =>
      obtain ⟨q', H', J', z⟩ := hsp
      exact ⟨q', H', J'.ofTry ok, z⟩
end
end DX

/-! part DX4 -/
/-! DX4: a caught error's fields, over data. -/
namespace DX
open PySem PySem.Spec PyProof.Rows L2 DL DQ
/-- e.f, e in slot i: the error at a, its dict at d -/
def dXf (i : Nat) (a : Addr) (d : Option Addr) (c j : Nat) : DE := fun ga mu _ F => ∃ (l : List D) (y : D), ga[i]? = some (some (.err a d c l)) ∧ l[j]? = some y ∧ F y mu
section
variable {X : Cx} {W : WX} {a : Addr} {oe : Obj} {cls : Value} {d : Option Addr} {pn : List (Addr × Obj)}
theorem d_xf (i j : Nat) {c : Nat} {n f : Str} {p0 pos : Pos} (T : XfC X.K (He.ga X.K (xn c))) (hno : PySem.W.findIn X.K (.ref (He.ga X.K (xn c))) f = some none) (hz : Zc cls d oe) (hf : ∃ vs, oe.data = .fields vs) (hcls : cls = .ref (He.ga X.K (xn c)))
    (hj : (xf c)[j]? = some f := by rfl) (hN : X.N[i]? = some n := by rfl) (hv : Vis X.env.scope n := by first | exact Or.inl rfl | exact Or.inr (Or.inl rfl) | exact Or.inr (Or.inr rfl)) (hd : (n == ("__debug__" : Str)) = false := by decide) (hcd : (n == ("__classdict__" : Str)) = false := by decide) :
    PE (X.suite a ((a, oe) :: pn)) (.Attribute (.Name n p0) f pos) (liftE X.K W (dXf i a d c j)) := by
  refine pe_wk (pe_xf T hno hz hf (pe_var (X := X.suite a ((a, oe) :: pn)) hN hv hd hcd)) fun sg H Q ⟨ga, mu, al, hd, P, F, at_, h, kv, kx⟩ => ?_
  obtain ⟨l, y, hg, hy, hF⟩ := h
  obtain ⟨v, hv, rv⟩ := at_.sl.at_ i _ hg
  cases rv with
  | err0 z =>
    rcases z with ⟨rfl, _⟩ | ⟨q, e, rfl, rfl, _⟩
    · simp at hy
    · exact absurd hj (by simp [xf])
  | err n1 eH z r =>
    obtain ⟨x, ex, rx⟩ := r.at_ hy
    exact ⟨.ref a, hv, rfl, hcls, _, _, x, rfl, eH, (z j f hj).trans ex, kv.now at_.ok hF (rx.fz (Fz.refl _ _) (Pre.nil _))⟩
end
end DX

/-! part DX5 -/
/-! DX5: try over data: several clauses, each with or without a name. -/
namespace DX
open PySem PySem.Spec PyProof.Rows L2 DL DQ
/-- a clause: its class, the slot of its name, its suite by the error's address, dict and class -/
abbrev Cl1 : Type := Nat × Option Nat × (Addr → Option Addr → Nat → DS)
def W0 : WX := fun _ _ _ _ => False
def endH (E : DEnds) (i : Option Nat) : DEnds := match i with
  | none => { E with ex := fun _ _ => False }
  | some i => { nx := fun ga mu => E.nx (ga.set i none) mu, rt := E.rt, ex := fun _ _ => False, bk := fun ga mu => E.bk (ga.set i none) mu, ct := fun ga mu => E.ct (ga.set i none) mu }
def gamH (n : Nat) (i : Option Nat) (d : D) : Gam := match i with
  | none => List.replicate n none
  | some i => (List.replicate n none).set i (some d)
def pick (n : Nat) (E : DEnds) (x : Exn) (mu : Sto) : List Cl1 → Prop
  | [] => E.ex x mu
  | t :: r => if xsub x.1 t.1 = true then ∀ a d, (x.2 = [] → d = none) → t.2.2 a d x.1 (endH E t.2.1) (gamH n t.2.1 (.err a d x.1 x.2)) mu else pick n E x mu r
def hcl (K : PySem.W.Frag) (t : Cl1) : Cls1 := (.ref (He.ga K (xn t.1)), t.2.1, fun a cls d Q q H => ∃ c, cls = .ref (He.ga K (xn c)) ∧ liftS K W0 (t.2.2 a d c) Q q H)
theorem Slots.setN {K : PySem.W.Frag} {hd al : List Addr} {H : Hp} {ga : Gam} {sg : L2.St} (s : Slots K hd al H ga sg) (i : Nat) : Slots K hd al H (ga.set i none) (sg.set i none) := by
  refine ⟨by rw [List.length_set, List.length_set]; exact s.len, fun j e h => ?_⟩
  by_cases hj : j = i
  · subst hj
    have hl : j < ga.length := by
      have := (List.getElem?_eq_some_iff.mp h).1
      rw [List.length_set] at this
      exact this
    rw [List.getElem?_set_self hl] at h
    cases h
  · rw [List.getElem?_set_ne (fun z => hj z.symm)] at h
    rw [List.getElem?_set_ne (fun z => hj z.symm)]
    exact s.at_ j e h
theorem slotsNo {K : PySem.W.Frag} {hd al : List Addr} {H : Hp} {n : Nat} {sg : L2.St} (h : sg.length = n) : Slots K hd al H (List.replicate n none) sg :=
  ⟨by rw [List.length_replicate, h], fun i d e => by
    have := List.mem_of_getElem? e
    have := (List.mem_replicate.mp this).2
    cases this⟩
theorem RepX.slot {K : PySem.W.Frag} {hd al : List Addr} {H : Hp} {cls : Value} {dd : Option Addr} {x : Exn} (r : RepX K hd al H cls dd x) (a : Addr) : Rep K (al ++ hd) H al (.err a dd x.1 x.2) (.ref a) := by
  obtain ⟨r1, r2, r3, r4⟩ := r
  cases q : x.2 with
  | nil => exact .err0 (.inl ⟨rfl, r4 q⟩)
  | cons y l =>
    obtain ⟨d, fs, xs, e1, e2, e3, e4, e5⟩ := r3 (by rw [q]; simp)
    rw [q] at e4
    subst e1
    exact .err e2 e3 e5 e4
theorem pick_mix {K : PySem.W.Frag} {hd : List Addr} {Wo : WX} {H : Hp} {al : List Addr} {E : DEnds} {D : Ends} {n : Nat} {es ys : List Nat} (k : KE K hd Wo H al E D) (hx : exmB K es ys = true) {x : Exn} {mu' : Sto} {cls : Value} {dd : Option Addr} {H' : Hp} {al' : List Addr} {q : L2.St}
    (hxe : x.1 ∈ es) (o : Okay K hd H' mu' al') (g : Go hd H al H' al') (r : RepX K hd al' H' cls dd x) (hq : q.length = n) : ∀ (l : List Cl1), (∀ t ∈ l, t.1 ∈ ys) → pick n E x mu' l → wMix K Wo D (l.map (hcl K)) cls dd q H'
  | [], _, h => (k.ex q).go _ _ _ _ _ _ h o g r
  | t :: l, hy, h => by
    have e := of_decide_eq_true (List.all_eq_true.mp (List.all_eq_true.mp hx _ hxe) _ (hy t List.mem_cons_self))
    rw [← r.1] at e
    refine ⟨xsub x.1 t.1, e, fun hb a ha => ?_, fun hb => ?_⟩
    · unfold pick at h
      rw [if_pos hb] at h
      have h2 := h a dd r.2.2.2
      have kk := k.to g
      have sl := slotsNo (K := K) (hd := hd) (al := al') (H := H') hq
      obtain ⟨y, i, dh⟩ := t
      cases i with
      | none => exact ⟨x.1, r.1, _, mu', al', hd, _, ⟨o, sl⟩, h2, ⟨kk.nx, kk.rt, fun _ => ⟨fun _ _ _ _ _ _ z => z.elim⟩, kk.bk, kk.ct⟩⟩
      | some i => exact ⟨x.1, r.1, _, mu', al', hd, _, ⟨o, sl.set i (RepX.slot r a)⟩, h2, ⟨fun ga mu sg H2 al2 z a2 g2 => kk.nx _ _ _ _ _ z ⟨a2.ok, Slots.setN a2.sl i⟩ g2, kk.rt, fun _ => ⟨fun _ _ _ _ _ _ z => z.elim⟩,
          fun ga mu sg H2 al2 z a2 g2 => kk.bk _ _ _ _ _ z ⟨a2.ok, Slots.setN a2.sl i⟩ g2, fun ga mu sg H2 al2 z a2 g2 => kk.ct _ _ _ _ _ z ⟨a2.ok, Slots.setN a2.sl i⟩ g2⟩⟩
    · unfold pick at h
      rw [if_neg (by rw [hb]; simp)] at h
      exact pick_mix k hx hxe o g r hq l (fun t ht => hy t (List.mem_cons_of_mem _ ht)) h
/-! ### clauses -/
section
variable {X : Cx} {l : List Cl1} {hds : List ExceptHandler} {b0 : Stmt} {rest : List Stmt} {x n : Str} {np pos' : Pos} {y i : Nat} {dh : Addr → Option Addr → Nat → DS}
theorem hd_nil : HdsMix X [] (([] : List Cl1).map (hcl X.K)) := .nil
theorem hd_named (hm : X.mg x = some (.ref (He.ga X.K (xn y)))) (hsu : ∀ (a : Addr) (oe : Obj) (cls : Value) (d : Option Addr) (pn : List (Addr × Obj)) (c : Nat), Zc cls d oe → (∃ vs, oe.data = .fields vs) → cls = .ref (He.ga X.K (xn c)) → PSs (X.suite a ((a, oe) :: pn)) (b0 :: rest) (liftS X.K W0 (dh a d c))) (r : HdsMix X hds (l.map (hcl X.K)))
    (hg : Gl X x := by rfl) (hdb : (x == ("__debug__" : Str)) = false := by decide) (hi : X.N[i]? = some n := by rfl) (hln : X.env.kindOf n = some .local := by rfl) : HdsMix X (.ExceptHandler (some (.Name x np)) (some n) (b0 :: rest) pos' :: hds) (((y, some i, dh) :: l).map (hcl X.K)) :=
  .named ⟨hg, hdb, .inl hm⟩ hi hln (fun a oe cls d pn z f => ⟨fun pins s sg H D I ⟨c, e, h⟩ => (hsu a oe cls d pn c z f e).run pins s sg H D I h⟩) r
theorem hd_plain (hm : X.mg x = some (.ref (He.ga X.K (xn y)))) (hsu : ∀ (a : Addr) (oe : Obj) (cls : Value) (d : Option Addr) (pn : List (Addr × Obj)) (c : Nat), Zc cls d oe → (∃ vs, oe.data = .fields vs) → cls = .ref (He.ga X.K (xn c)) → PSs (X.suite a ((a, oe) :: pn)) (b0 :: rest) (liftS X.K W0 (dh a d c))) (r : HdsMix X hds (l.map (hcl X.K)))
    (hg : Gl X x := by rfl) (hdb : (x == ("__debug__" : Str)) = false := by decide) : HdsMix X (.ExceptHandler (some (.Name x np)) none (b0 :: rest) pos' :: hds) (((y, none, dh) :: l).map (hcl X.K)) :=
  .plain ⟨hg, hdb, .inl hm⟩ (fun a oe cls d pn z f => ⟨fun pins s sg H D I ⟨c, e, h⟩ => (hsu a oe cls d pn c z f e).run pins s sg H D I h⟩) r
def dOnly (c y : Nat) (t : DS) : DS := fun E ga mu => c = y ∧ t E ga mu
theorem pss_only {W : WX} {ss : List Stmt} {c y : Nat} {t : DS} (h : c = y → PSs X ss (liftS X.K W t)) : PSs X ss (liftS X.K W (dOnly c y t)) :=
  ⟨fun pins s sg H D I ⟨ga, mu, al, hd, E, a, ⟨e, h'⟩, k⟩ => (h e).run pins s sg H D I ⟨ga, mu, al, hd, E, a, h', k⟩⟩
end
/-! ### the statement -/
def dTry (es : List Nat) (n : Nat) (b : DS) (l : List Cl1) : DS := fun E ga mu => b { E with ex := fun x mu1 => x.1 ∈ es ∧ pick n E x mu1 l } ga mu
theorem takes_mono {X : Cx} {W W' : WX} (tk : Takes X W) (h : ∀ c d q H, W' c d q H → W c d q H) : Takes X W' := fun u s' z => by
  obtain ⟨a, B, sI, pins', q', H', cls, d, e, J, nb, up, sky, na, os, ag, w⟩ := z
  exact tk u s' ⟨a, B, sI, pins', q', H', cls, d, e, J, nb, up, sky, na, os, ag, h _ _ _ _ w⟩
section
variable {X : Cx} {body : List Stmt} {h0 : ExceptHandler} {hds : List ExceptHandler} {l : List Cl1} {pos : Pos} {b : DS} {Wo : WX} {es ys : List Nat} {n : Nat}
theorem ds_try (hs : X.stack = X.env :: X.outer) (hf : X.env.frame = some X.env.locals) (hN : X.N.Nodup) (tk : Takes X Wo) (hx : exmB X.K es ys = true) (hy : ∀ t ∈ l, t.1 ∈ ys)
    (hb : ∀ (V : Value → Option Addr → Hp → Prop) (pn : List (Addr × Obj)) (xe : Value → Shared → Prop), Takes (X.tr pn xe) (fun c d _ h => V c d h) → PassesOwn (model X.prog X.w) X.A X.env xe → PSs (X.tr pn xe) body (liftS X.K (fun c d _ h => V c d h) b))
    (hh : HdsMix X (h0 :: hds) (l.map (hcl X.K))) (hn : X.N.length = n := by rfl) : PS X (.Try body (h0 :: hds) [] [] pos) (liftS X.K Wo (dTry es n b l)) := by
  refine ps_wk (ps_try_mix (tb := fun W D q H => ∃ V : Value → Option Addr → Hp → Prop, (∀ c d q h, V c d h → W c d q h) ∧ liftS X.K (fun c d _ h => V c d h) b D q H) hs hf hN tk (fun W pn xe tk' hp => ⟨fun pins s sg H D I ⟨V, hV, h⟩ => (hb V pn xe (takes_mono tk' fun c d q H z => hV c d q H z) hp).run pins s sg H D I h⟩) hh) fun Q sg H ⟨ga, mu, al, hd, E, a, h, k⟩ => ?_
  refine ⟨fun c d h => ∀ q : L2.St, q.length = X.N.length → wMix X.K Wo Q (l.map (hcl X.K)) c d q h, fun c d q h z hq => z q hq, ga, mu, al, hd, _, a, h, ⟨k.nx, k.rt, fun _ => ⟨fun x mu' cls dd H' al' hz o g r q hq => ?_⟩, k.bk, k.ct⟩⟩
  exact pick_mix k hx hz.1 o g r (hq.trans hn) l hy hz.2
end
end DX

/-! part DX6 -/
/-! DX6: a lambda handed to the def that tells its outcome. -/
namespace DX
open PySem PySem.Spec PyProof.Rows L2 DL DQ
/-! ### the tables of code objects in the store -/
def tabOf1 : MO → Option (Addr × Str)
  | .tab P q => some (P, q)
  | _ => none
def tabsOf (mu : Sto) : List (Addr × Str) := mu.filterMap tabOf1
theorem tabsOf_mem {mu : Sto} {p : Addr × Str} (h : p ∈ tabsOf mu) : ∃ n : Nat, mu[n]? = some (.tab p.1 p.2) := by
  obtain ⟨m, hm, e⟩ := List.mem_filterMap.mp h
  obtain ⟨n, hn⟩ := List.mem_iff_getElem?.mp hm
  cases m <;> try (cases e; done)
  cases e
  exact ⟨n, hn⟩
theorem mem_tabsOf {mu : Sto} {n : Nat} {P : Addr} {q : Str} (h : mu[n]? = some (.tab P q)) : (P, q) ∈ tabsOf mu := List.mem_filterMap.mpr ⟨_, List.mem_of_getElem? h, rfl⟩
theorem tabsOf_app (mu nu : Sto) : tabsOf (mu ++ nu) = tabsOf mu ++ tabsOf nu := List.filterMap_append
theorem tabsOf_set {mo mo' : MO} (h' : tabOf1 mo' = none) : ∀ {mu : Sto} {n : Nat}, mu[n]? = some mo → tabOf1 mo = none → tabsOf (mu.set n mo') = tabsOf mu
  | [], n, h, _ => by simp at h
  | m :: mu, 0, h, hm => by
    simp at h
    subst h
    unfold tabsOf
    rw [List.set_cons_zero, List.filterMap_cons_none h', List.filterMap_cons_none hm]
  | m :: mu, n + 1, h, hm => by
    have ih := tabsOf_set h' (mu := mu) (n := n) (by simpa using h) hm
    unfold tabsOf at ih ⊢
    rw [List.set_cons_succ]
    cases q : tabOf1 m with
    | none => rw [List.filterMap_cons_none q, List.filterMap_cons_none q, ih]
    | some y => rw [List.filterMap_cons_some q, List.filterMap_cons_some q, ih]
section
variable {K : PySem.W.Frag} {hd al : List Addr} {H H1 : Hp} {mu : Sto} {T : List (Addr × Str)}
theorem tabs_of (o : Okay K hd H mu al) (h : tabsOf mu = T) : LamX.Tabs T H := fun p hp => by
  subst h
  obtain ⟨n, hn⟩ := tabsOf_mem hp
  obtain ⟨a, ha, m⟩ := o.cellAt hn
  obtain ⟨e, ps, h1, h2, h3⟩ := m
  subst e
  refine ⟨ps, h1, h2, fun pos cv hc => ?_⟩
  obtain ⟨c, e1, _, e2⟩ := h3 pos cv hc
  exact ⟨c, e1, e2⟩
theorem go_tabs (o : Okay K hd H mu al) (eN : LamX.ExtN H H1) : Go hd H al H1 al :=
  ⟨fun _ _ z => z, fun a u n h t => ⟨eN a u h (fun ps z => by rw [z] at t; cases t), n⟩, fun a ha => by
    obtain ⟨_, u, hu⟩ := o.hid a ha
    rw [hu, eN a u hu fun ps z => by
      have t := o.hx a ha u hu
      rw [z] at t
      cases t]⟩
theorem okay_tabs (o : Okay K hd H mu al) (h : tabsOf mu = T) (eN : LamX.ExtN H H1) (T1 : LamX.Tabs T H1) : Okay K hd H1 mu al := by
  have g := go_tabs o eN
  refine ⟨o.len, o.nd, fun a ha => ⟨(o.hid a ha).1, by rw [g.hid a ha]; exact (o.hid a ha).2⟩, fun a ha u e => o.hx a ha u (by rw [← g.hid a ha]; exact e), fun n mo a h1 h2 => ?_⟩
  have q := o.at_ n mo a h1 h2
  cases mo with
  | lst l =>
    obtain ⟨xs, e, r⟩ := q
    exact ⟨xs, eN _ _ e (fun _ z => nomatch z), r.go g (Pre.refl _)⟩
  | lsp l =>
    obtain ⟨xs, e, r⟩ := q
    exact ⟨xs, eN _ _ e (fun _ z => nomatch z), r.go g g.pre⟩
  | ins c l =>
    obtain ⟨dx, xs, e, r, z⟩ := q
    exact ⟨dx, xs, eN _ _ e (fun _ z => nomatch z), r.go g g.pre, z⟩
  | dic kvs =>
    obtain ⟨vs, e, r⟩ := q
    exact ⟨vs, eN _ _ e (fun _ z => nomatch z), r.go g⟩
  | dit kvs =>
    obtain ⟨vs, e, r⟩ := q
    exact ⟨vs, eN _ _ e (fun _ z => nomatch z), r.go g⟩
  | dlk od ws kvs =>
    obtain ⟨vs, e, r⟩ := q
    exact ⟨vs, eN _ _ e (fun _ z => nomatch z), r.go g⟩
  | dlc od ws kvs =>
    obtain ⟨vs, e, r⟩ := q
    exact ⟨vs, eN _ _ e (fun _ z => nomatch z), r.go g⟩
  | tpl l =>
    obtain ⟨xs, e, r⟩ := q
    exact ⟨xs, eN _ _ e (fun _ z => nomatch z), r.go g g.pre⟩
  | tab P q' =>
    obtain ⟨e0, ps0, e, _, _⟩ := q
    subst e0
    obtain ⟨ps, t1, t2, t3⟩ := T1 _ (h ▸ mem_tabsOf h1)
    refine ⟨rfl, ps, t1, t2, fun pos cv hc => ?_⟩
    obtain ⟨c, e1, e2⟩ := t3 pos cv hc
    refine ⟨c, e1, fun z => ?_, e2⟩
    rcases List.mem_append.mp z with z | z
    · obtain ⟨j, hj⟩ := List.mem_iff_getElem?.mp z
      have hjm : j < mu.length := by rw [← o.len]; exact (List.getElem?_eq_some_iff.mp hj).1
      have q2 := o.at_ j mu[j] c (List.getElem?_eq_getElem hjm) hj
      have e2' : H1 c = some (LamX.CodeO c q') := e2
      unfold LamX.CodeO at e2'
      cases hm : mu[j] with
      | lst l =>
        rw [hm] at q2
        obtain ⟨xs, e, _⟩ := q2
        rw [eN _ _ e (fun _ z => nomatch z)] at e2'
        cases e2'
      | lsp l =>
        rw [hm] at q2
        obtain ⟨xs, e, _⟩ := q2
        rw [eN _ _ e (fun _ z => nomatch z)] at e2'
        cases e2'
      | ins c l =>
        rw [hm] at q2
        obtain ⟨dx, xs, e, _⟩ := q2
        rw [eN _ _ e (fun _ z => nomatch z)] at e2'
        cases e2'
      | dic kvs =>
        rw [hm] at q2
        obtain ⟨vs, e, _⟩ := q2
        rw [eN _ _ e (fun _ z => nomatch z)] at e2'
        cases e2'
      | dit kvs =>
        rw [hm] at q2
        obtain ⟨vs, e, _⟩ := q2
        rw [eN _ _ e (fun _ z => nomatch z)] at e2'
        cases e2'
      | dlk od ws kvs =>
        rw [hm] at q2
        obtain ⟨vs, e, _⟩ := q2
        rw [eN _ _ e (fun _ z => nomatch z)] at e2'
        cases e2'
      | dlc od ws kvs =>
        rw [hm] at q2
        obtain ⟨vs, e, _⟩ := q2
        rw [eN _ _ e (fun _ z => nomatch z)] at e2'
        cases e2'
      | tpl l =>
        rw [hm] at q2
        obtain ⟨xs, e, _⟩ := q2
        rw [eN _ _ e (fun _ z => nomatch z)] at e2'
        cases e2'
      | tab P2 q2' =>
        have hP : mu[j]? = some (.tab P2 q2') := by rw [List.getElem?_eq_getElem hjm, hm]
        rw [hm] at q2
        obtain ⟨e0, _⟩ := q2
        subst e0
        obtain ⟨ps2, t1', _⟩ := T1 _ (h ▸ mem_tabsOf hP)
        rw [show H1 c = _ from t1'] at e2'
        cases e2'
    · have t := o.hx c z _ ((g.hid c z).symm.trans e2)
      cases t
end
/-! ### try: return ('ok', x()) / except .. -/
def TTA (K : PySem.W.Frag) (n : Nat) (l : List Cl1) : (XK → Hp → VK → Prop) → Hp → VK → Prop := fun tl H Q =>
  tl (fun cls d H' => ∀ q : L2.St, q.length = n → wMix K W0 { nx := fun _ H' => Q .non H', rt := Q } (l.map (hcl K)) cls d q H') H
    (fun v H1 => [V.str "ok", v].length ≤ sizeLine ∧ ∀ p, H1 p = none → Q (.ref p) (upd H1 p (.tup [V.str "ok", v])))
theorem takes0' {X : Cx} : Takes X W0 := fun _ _ x => by
  obtain ⟨_, _, _, _, _, _, _, _, _, _, _, _, _, _, _, _, z⟩ := x
  exact z.elim
section
variable {X : Cx}
theorem gives_A {Ng : List Str} {x a q : Str} {sg : Scope} {g : Addr} {cdg : Value} {h0 : ExceptHandler} {hds : List ExceptHandler} {l : List Cl1} {n : Nat} {j1 : Nat} {p1 p2 p3 p4 p5 pt : Pos} {cx}
    (hN : Ng.Nodup) (hn : Ng.length = n) (hst : ∀ f : Addr, (L2.start Ng [V.ref f])[0]? = some (some (V.ref f)))
    (hh : ∀ (s : Shared) (H : Hp), HdsMix (cxOf C8.CX0 X.prog X.w X.K X.mg X.base Ng x sg g cdg X.A X.stack s H C8.E0).nox (h0 :: hds) (l.map (hcl X.K))) :
    LamX.GivesTo X Ng x sg g cdg [.Try [.Return (some (.Tuple [.Constant (.str "ok") j1 p1, .Call (.Name a p2) [] [] p3] cx pt)) p4] (h0 :: hds) [] [] p5] a q (TTA X.K n l) := by
  intro f c' s H Q tl act hc h
  refine ⟨_, pss_one (ps_try_mix (X := (cxOf C8.CX0 X.prog X.w X.K X.mg X.base Ng x sg g cdg X.A X.stack s H C8.E0).nox)
      (tb := fun W D σ H => ∃ Ech : XK, (∀ cls d σ' H', Ech cls d H' → W cls d σ' H') ∧ σ[0]? = some (some (.ref f)) ∧ H c' = some (LamX.CodeO c' q) ∧ tl Ech H (fun v H1 => [V.str "ok", v].length ≤ sizeLine ∧ ∀ p, H1 p = none → D.rt (.ref p) (upd H1 p (.tup [V.str "ok", v]))))
      rfl rfl hN takes0' (fun W pn xe tk _ => ?_) (hh s H)), ?_⟩
  · refine ⟨fun pins s' σ H' D I h' => ?_⟩
    obtain ⟨Ech, hW, h1, h2, h3⟩ := h'
    have hp := act W pn xe Ech p2 p3 tk hW
    have hq := pss_one (ps_ret (pos := p4) (pe_tup (pos := pt) (x1 := cx) (pa_cons (pe_str (x := "ok") (j := j1) (pos := p1)) (pa_cons hp pa_nil))))
    exact hq.run pins s' σ H' D I ⟨h1, h2, h3⟩
  · refine ⟨fun cls d H' => ∀ q : L2.St, q.length = n → wMix X.K W0 { nx := fun _ H' => Q .non H', rt := Q } (l.map (hcl X.K)) cls d q H', fun cls d σ' H' z hl => z σ' (hl.trans hn), hst f, hc, h⟩
end
def dLamA (T : List (Addr × Str)) (es : List Nat) (n : Nat) (l : List Cl1) (dc : DE) : DE := fun ga mu _ F => tabsOf mu = T ∧ dc ga mu (fun x mu1 => x.1 ∈ es ∧ pick n (endF (fun _ _ => False) F) x mu1 l) fun d mu1 => np d ∧ F (.tup [.str "ok", d]) mu1
section
variable {X : Cx} {W : WX} {T : List (Addr × Str)} {es ys : List Nat} {n : Nat} {l : List Cl1} {dc : DE} {x a : Str} {g c P : Addr} {k : Nat} {pg : Arguments} {bg : List Stmt} {sg : Scope} {fd : FuncData} {Ng : List Str} {params : Arguments} {body : Expr} {scope : Scope} {p lpos pos : Pos}
theorem d_lamA (hm : X.mg x = some (.ref g)) (F : ∃ fd, FunD X.K x x pg bg sg [] [] g fd)
    (hps : ∀ (kV doc pm : Value) (an : Option Addr) (cdv ct : Value) (us : List Value), us.length = [a].length → bindArgs (PySem.W.fnOf x x pg bg sg .none kV doc pm an cdv ct) ⟨us, []⟩ = pure ([a].zip us))
    (Sg : FnScope Ng [a] sg) (hG : ∀ cdv : Value, LamX.GivesTo X Ng x sg g cdv bg a (X.env.qual ++ "<lambda>") (TTA X.K n l)) (hx : exmB X.K es ys = true) (hy : ∀ t ∈ l, t.1 ∈ ys)
    (TB : LamX.TabB X.base X.mg c P) (hcode : X.env.code = .ref c) (hmT : (P, X.env.qual ++ "<lambda>") ∈ T) (hu : ∀ p ∈ T, p.1 = P → p.2 = X.env.qual ++ "<lambda>") (hr : Room (k + 2) X.A) (L : LamX.LamS X.env.scope scope)
    (hbody : ∀ (A : Around) (outer : List Env) (s : Shared) (H : Hp) (E : XK) (f c' : Addr), Room k (A.deeper (LamX.lamEnv X scope s.heap.objs.size f c')) → PE (LamX.lamCx X A outer s H E scope f c') body (liftE X.K (fun c d _ h => E c d h) dc))
    (hg : Gl X x := by rfl) (hNg : Ng[0]? = some a := by rfl) (hva : Vis sg a := by first | exact Or.inl rfl | exact Or.inr (Or.inl rfl) | exact Or.inr (Or.inr rfl)) (hdef : defaultsOf params X.env = ([], []) := by rfl)
    (hbind : ∀ (q : Str) (cl : List (Str × Addr)) (pm cv ctv : Value), bindArgs (PySem.W.kla_fn "<lambda>" q params body scope cl pm cv ctv) ⟨[], []⟩ = pure [] := by intro _ _ _ _ _; rfl)
    (hdb : (x == ("__debug__" : Str)) = false := by decide) (hd1 : (a == ("__debug__" : Str)) = false := by decide) (hcd1 : (a == ("__classdict__" : Str)) = false := by decide) :
    PE X (.Call (.Name x p) [.Lambda params body scope lpos] [] pos) (liftE X.K W (dLamA T es n l dc)) := by
  obtain ⟨fd, F⟩ := F
  obtain ⟨oc, od, dV, kV, doc, pm, an, cdv, ct, osl, hfd, lk, hcd, hdv, _⟩ := F.ex
  have hdv0 : dV = .none := by
    rcases hdv with ⟨_, e⟩ | ⟨e, _⟩
    · exact e
    · exact (e rfl).elim
  subst hdv0 hfd
  have hb : L2.Binds X.K (PySem.W.fnOf x x pg bg sg .none kV doc pm an cdv ct) [a] [] := F.bindsN hps
  refine pe_wk (LamX.pe_lamcall (TT := TTA X.K n l) (t := fun E => liftE X.K (fun c d _ h => E c d h) dc) hg hm F.kp lk hcd hb Sg hNg hva (hG cdv) TB hcode hmT hu hr L hdef hbind hbody hdb hd1 hcd1) fun σ H Q ⟨ga, mu, al, hd, P, F, at_, h, kv, kx⟩ => ?_
  obtain ⟨hT0, h⟩ := h
  refine ⟨tabs_of at_.ok hT0, fun H1 eN T1 => ?_⟩
  have o1 := okay_tabs at_.ok hT0 eN T1
  have g1 := go_tabs at_.ok eN
  have kv1 := kv.to g1
  refine ⟨ga, mu, al, hd, _, _, at_.to o1 g1, h, ⟨fun d mu1 v H2 al2 h2 o2 g2 r2 => ⟨by rw [sizeLine_eq]; exact (by decide : 2 ≤ 16777216), fun p hp => ?_⟩⟩, ⟨fun y mu1 cls dd H2 al2 h2 o2 g2 r2 q hq => ?_⟩⟩
  · exact (kv1.to g2).tupleN o2 hp (.cons .str (.cons (r2.np h2.1) .nil)) h2.2
  · exact pick_mix (Wo := W0) (H := H1) (al := al) (D := { nx := fun _ H' => Q .non H', rt := Q }) (E := endF (fun _ _ => False) F) ⟨fun ga mu sg H' al' z a g => kv1.go _ _ _ _ _ z a.ok g .non, kv1, fun _ => ⟨fun _ _ _ _ _ _ z => z.elim⟩, fun _ _ _ _ _ z _ _ => z.elim, fun _ _ _ _ _ z _ _ => z.elim⟩ hx h2.1 o2 g2 r2 hq l hy h2.2
/-! ### the def that makes lambdas: its code object is known -/
theorem okC {P : Program} {w : World} {K : PySem.W.Frag} {mg : Str → Option Value} {base : Heap} {x qual : Str} {params : Arguments} {body : List Stmt} {scope : Scope} {dvs : List V} {kws : List (Str × V)} {f : Addr} {fd : FuncData} {CX : CXT} {N ps : List Str} {k : Nat} {sp : Sp} {df : He.Defn}
    (F : FunD K x qual params body scope dvs kws f fd) (hf : He.fAd K df = f) (S : FnScope N ps scope) (len : ∀ vs H Q E, sp vs H Q E → vs.length = ps.length)
    (hbody : ∀ (A : Around) (outer : List Env) (s : Shared) (H : Hp) (vs : List V) (Q : VK) (E : XK), Room k (A.deeper (envOfC qual scope s.heap.objs.size f (.ref (He.cT K df).1))) → sp vs H Q E →
      ∃ t, PSs (cxOf CX P w K mg base N qual scope f (.ref (He.cT K df).1) A outer s H E) body t ∧ t { nx := fun _ H' => Q .non H', rt := Q } (L2.start N vs) H) : FnOk P w K mg base CX (k + 1) f fd ps sp := by
  obtain ⟨oc, od, dV, kV, doc, pm, an, cdv, ct, osl, rfl, lk, hcd, _, _⟩ := F.ex
  obtain ⟨c, rfl⟩ := He.codeIn_ref hcd
  have e : (He.cT K df).1 = c := He.codeOf_eq (p := df) (by rw [hf]; exact lk) rfl
  subst e
  exact fn_of lk hcd S len fun A outer s H vs Q E hr hsp => hbody A outer s H vs Q E hr hsp
end
section
variable {P : Program} {w : World} {K : PySem.W.Frag} {mg : Str → Option Value} {base : Heap} {x qual : Str} {params : Arguments} {body : List Stmt} {scope : Scope} {f : Addr} {fd : FuncData} {N ps : List Str} {k n : Nat} {sp : DSp} {dt : DS} {df : He.Defn}
/-- fn_dlT for a def that makes lambdas -/
theorem fn_dlC (F : FunD K x qual params body scope [] [] f fd) (hf : He.fAd K df = f) (S : FnScope N ps scope) (hps : params.args.map (·.arg) = ps) (hn : ps.length = n)
    (hb : ∀ (kV doc pm : Value) (an : Option Addr) (cdv ct : Value) (us : List Value), us.length = ps.length → bindArgs (PySem.W.fnOf x qual params body scope .none kV doc pm an cdv ct) ⟨us, []⟩ = pure (ps.zip us))
    (ar : ∀ ds mu P F, sp ds mu P F → ds.length = n)
    (der : ∀ (A : Around) (outer : List Env) (s : Shared) (H : Hp) (E : XK), Room k (A.deeper (envOfC qual scope s.heap.objs.size f (.ref (He.cT K df).1))) → PSs (cxOf (L2.CX P w) P w K mg base N qual scope f (.ref (He.cT K df).1) A outer s H E) body (liftS K (fun cls d _ H => E cls d H) dt))
    (pure : ∀ ds mu P F, sp ds mu P F → dt (endT mu P F) (gam0 N.length ds) mu) : Prom P w K mg base (k + 1) f n sp := by
  refine prom_of F hps hn (okC F hf S (fun vs H Q E h => h.1.trans hn.symm) (fun A outer s H vs Q E hr h => ?_)) (F.bindsN hb) ar
  obtain ⟨_, mu, al, hd, ds, P', F', o, r, h, kv, kx⟩ := h
  refine ⟨_, der A outer s H E hr, _, mu, al, hd, _, ⟨o, slots0 r⟩, pure ds mu P' F' h, ⟨?_, ⟨?_⟩, fun sg => ⟨?_⟩, fun _ _ _ _ _ h _ _ => h.elim, fun _ _ _ _ _ h _ _ => h.elim⟩⟩
  · rintro ga mu' sg H' al' ⟨mu2, t, h⟩ a g
    exact kv.go _ _ _ _ _ h (o.trim a.ok g t) g.home .non
  · rintro d mu' v H' al' ⟨mu2, d2, t, e, h⟩ o' g r'
    exact kv.go _ _ _ _ _ h (o.trim o' g t) g.home (Rep.frz o o' g r' e)
  · rintro y mu' cls dd H' al' ⟨mu2, t, h⟩ o' g r'
    exact kx.go _ _ _ _ _ _ h (o.trim o' g t) g.home (r'.home g)
end
end DX

/-! part DX7 -/
/-! DX7: facts of the errors' classes. -/
namespace DX
open PySem PySem.Spec PyProof.Rows L2 DL DQ
theorem xfc_of {K : PySem.W.Frag} {x : Nat} (h : xfB K x = true) : XfC K (He.ga K (xn x)) := by
  obtain ⟨h1, h⟩ := ba2 h
  obtain ⟨h2, h⟩ := ba2 h
  obtain ⟨h3, h4⟩ := ba2 h
  exact ⟨of_decide_eq_true h1, of_decide_eq_true h2, of_decide_eq_true h3, of_decide_eq_true h4⟩
theorem xno_of {K : PySem.W.Frag} {x : Nat} (h : xoB K x = true) {f : Str} (hf : (xf x).contains f = true) : PySem.W.findIn K (.ref (He.ga K (xn x))) f = some none := by
  obtain ⟨h1, h⟩ := ba2 h
  obtain ⟨h2, h⟩ := ba2 h
  obtain ⟨h3, h4⟩ := ba2 h
  exact of_decide_eq_true (List.all_eq_true.mp h4 f (List.contains_iff_mem.mp hf))
/-- the raise, of the class's number -/
theorem x1 {P : Program} {w : World} {K : PySem.W.Frag} {mg : Str → Option Value} {base : Heap} {x : Nat} {qual : Str} {params : Arguments} {body : List Stmt} {scope : Scope} {fd : FuncData} {N ps : List Str} {a1 : Str} (h : xoB K x = true) (hx : xf x = [a1])
    (F : FunD K "__init__" qual params body scope [] [] (He.ma K (He.ga K (xn x)) "__init__") fd) (S : FnScope N ps scope) (hn : ps.length = 2)
    (hb : ∀ (kV doc pm : Value) (an : Option Addr) (cdv ct : Value) (us : List Value), us.length = ps.length → bindArgs (PySem.W.fnOf "__init__" qual params body scope .none kV doc pm an cdv ct) ⟨us, []⟩ = pure (ps.zip us))
    (der : ∀ (cdv : Value) (A : Around) (outer : List Env) (s : Shared) (H : Hp) (E : XK), PSs (cxOf (L2.CX P w) P w K mg base N qual scope (He.ma K (He.ga K (xn x)) "__init__") cdv A outer s H E) body (tOst K a1 (tVar 0) (tVar 1))) : XOk P w K mg base 1 x :=
  xok_of h (by rw [hx]; exact List.nodup_cons.mpr ⟨by simp, List.nodup_nil⟩) (by rw [hx]; simp) (by rw [hx]; exact xinit1 F S hn der) (F.bindsN hb)
theorem x2 {P : Program} {w : World} {K : PySem.W.Frag} {mg : Str → Option Value} {base : Heap} {x : Nat} {qual : Str} {params : Arguments} {body : List Stmt} {scope : Scope} {fd : FuncData} {N ps : List Str} {a1 a2 : Str} (h : xoB K x = true) (hx : xf x = [a1, a2]) (hne : a1 ≠ a2)
    (F : FunD K "__init__" qual params body scope [] [] (He.ma K (He.ga K (xn x)) "__init__") fd) (S : FnScope N ps scope) (hn : ps.length = 3)
    (hb : ∀ (kV doc pm : Value) (an : Option Addr) (cdv ct : Value) (us : List Value), us.length = ps.length → bindArgs (PySem.W.fnOf "__init__" qual params body scope .none kV doc pm an cdv ct) ⟨us, []⟩ = pure (ps.zip us))
    (der : ∀ (cdv : Value) (A : Around) (outer : List Env) (s : Shared) (H : Hp) (E : XK), PSs (cxOf (L2.CX P w) P w K mg base N qual scope (He.ma K (He.ga K (xn x)) "__init__") cdv A outer s H E) body (tSeq (tOst K a1 (tVar 0) (tVar 1)) (tOst K a2 (tVar 0) (tVar 2)))) : XOk P w K mg base 1 x :=
  xok_of h (by rw [hx]; exact List.nodup_cons.mpr ⟨by simpa using hne, List.nodup_cons.mpr ⟨by simp, List.nodup_nil⟩⟩) (by rw [hx]; simp) (by rw [hx]; exact xinit2 F S hn der) (F.bindsN hb)
end DX

/-! part DX8 -/
/-! DX8: x + y of one own class; an outcome def that drops the lambda's value; errors without fields. -/
namespace DX
open PySem PySem.Spec PyProof.Rows L2 DL DQ
section
variable {X : Cx} {W : WX}
/-- x + y, both of class c, by the text's own __add__ -/
def gAddO (c : Nat) (sp : DSp) : G2 := fun x y mu P F => (clsD mu x = some c ∧ clsD mu y = some c) ∧ sp [x, y] mu P F
theorem o_addO {k c : Nat} {f : Addr} {sp : DSp} (Pm : Prom X.prog X.w X.K X.mg X.base k f 2 sp) (hM : Meth X.K (He.ga X.K (cn c)) "__add__" f) (hsf : PySem.W.selfFirst X.K (He.ga X.K (cn c)) = true) (hr : Room k X.A) (tk : Takes X W) : OpS X (binaryOp .Add) (liftR X.K W (gAddO c sp)) := by
  intro pins s sg H x y v u Q I rx ry h
  obtain ⟨mu, al, hd, d, e, P, F, o, r1, r2, ⟨⟨c1, c2⟩, hsp⟩, kv, kx⟩ := h
  obtain ⟨a, dx, xs, rfl, ck, ea⟩ := r1.cls o c1
  obtain ⟨b, dy, ys, rfl, _, eb⟩ := r2.cls o c2
  cases (show v = Value.ref a from rx)
  cases (show u = Value.ref b from ry)
  obtain ⟨mA, J, _⟩ := ins_get I.hok ea
  obtain ⟨od, J, _⟩ := J.look
  obtain ⟨mB, J', _⟩ := ins_get I.hok eb
  obtain ⟨od', J', _⟩ := J'.look
  obtain ⟨m, hF⟩ := I.fr
  obtain ⟨fd, ps, hn, G, bb⟩ := Pm.ok
  refine PySem.W.binop_K (op := .Add) hF I.ok.mod.kin J J'.type hsf hM.at_ hM.fn ?_
  refine wpAny_mono (run_fnS (us := [.ref a, .ref b]) (vs := [.ref a, .ref b]) G hr bb (passAt tk sg) I (.cons rfl (.cons rfl .nil)) (args_in Pm.ar hsp o (Go.refl _ _) (.cons r1 (.cons r2 .nil)) kv kx)) (fun w s' z => ?_) fun _ _ x => x
  obtain ⟨z', H', I', rz, qz⟩ := z
  exact SlX.cmpback rz ⟨z', H', I', rz, qz⟩
/-! ### errors without fields -/
theorem pmk_own0 {x : Str} {C : Addr} {bmB : List Value} {B newId initId : String} {p pos : Pos} (F : ExcBaseFacts B newId initId bmB) (q : PySem.W.excIn X.K C bmB newId = true) (gC : X.mg x = some (.ref C)) (kC : PySem.W.keepIn X.K (.ref C) = true) (r : Raises X (.ref C)) (hg : Gl X x)
    (hdb : (x == ("__debug__" : Str)) = false := by decide) : PMk X (.Call (.Name x p) [] [] pos) (fun _ H Q => Q (.ref C) none H) := by
  intro pins s σ H Q I h
  refine wpAny_Call_Name_kw (ld_glob I hg gC ?_ hdb)
  refine PySem.W.callWith_K0 I.kIn kC ?_
  obtain ⟨bm, N, nm, qn, bs, hdct, sn, sub, ab, col, dd, k0, k1, k2, k3, k5, mN, hC, hN, hni, T⟩ := exc_obj I.kIn q
  refine wpAny_call_exc_subT F T hC hN hni (fun h' e hm => ?_) (by show 0 ≤ sizeLine; exact Nat.zero_le _)
  exact mk_of I hm r h (I.hok.gone hm.new)
theorem ds_raise0 {x : Nat} {n : Str} {p pos pos' : Pos} (hc : X.calm = true) (h : PySem.W.excIn X.K (He.ga X.K (xn x)) He.veBase "ValueError.__new__" = true ∧ PySem.W.keepIn X.K (.ref (He.ga X.K (xn x))) = true ∧ PySem.W.subIn X.K (.ref (He.ga X.K (xn x))) (.type "BaseException") = some true ∧ PySem.W.typeIn X.K (.ref (He.ga X.K (xn x))) = some (.type "type"))
    (hm : X.mg n = some (.ref (He.ga X.K (xn x)))) (tk : Takes X W) (hx : (xf x).length = 0 := by rfl) (hg : Gl X n := by rfl) (hdb : (n == ("__debug__" : Str)) = false := by decide) : PS X (.Raise (some (.Call (.Name n p) [] [] pos)) none pos') (liftS X.K W (dRaise x dNil)) := by
  obtain ⟨h1, h2, h3, h4⟩ := h
  refine ps_wk (ps_raise hc tk (pmk_own0 PySem.F.excBase_ValueError h1 hm h2 (raises_own h3 h4) hg hdb)) fun Q sg H ⟨ga, mu, al, hd, E, at_, h, kk⟩ => ?_
  exact (kk.ex sg).go (x, []) mu _ _ _ al h.2 at_.ok (Go.refl _ _) ⟨rfl, by rw [hx] <;> rfl, fun z => (z rfl).elim, fun _ => rfl⟩
end
/-! ### try: x() / except .. ; return 'none' -/
def TTD (K : PySem.W.Frag) (n : Nat) (ret : Str) (l : List Cl1) : (XK → Hp → VK → Prop) → Hp → VK → Prop := fun tl H Q =>
  tl (fun cls d H' => ∀ q : L2.St, q.length = n → wMix K W0 { nx := fun _ H' => Q (.str ret) H', rt := Q } (l.map (hcl K)) cls d q H') H (fun _ H1 => Q (.str ret) H1)
section
variable {X : Cx}
theorem gives_D {Ng : List Str} {x a q ret : Str} {sg : Scope} {g : Addr} {cdg : Value} {h0 : ExceptHandler} {hds : List ExceptHandler} {l : List Cl1} {n : Nat} {j1 : Nat} {p1 p2 p3 p4 p5 p6 : Pos}
    (hN : Ng.Nodup) (hn : Ng.length = n) (hst : ∀ f : Addr, (L2.start Ng [V.ref f])[0]? = some (some (V.ref f))) (hsw : ∀ env : Env, swapsWith (.Call (.Name a p2) [] [] p3) none p4.line env = pure false)
    (hh : ∀ (s : Shared) (H : Hp), HdsMix (cxOf C8.CX0 X.prog X.w X.K X.mg X.base Ng x sg g cdg X.A X.stack s H C8.E0).nox (h0 :: hds) (l.map (hcl X.K))) :
    LamX.GivesTo X Ng x sg g cdg [.Try [.Expr (.Call (.Name a p2) [] [] p3) p4] (h0 :: hds) [] [] p5, .Return (some (.Constant (.str ret) j1 p1)) p6] a q (TTD X.K n ret l) := by
  intro f c' s H Q tl act hc h
  refine ⟨_, pss_cons (ps_try_mix (X := (cxOf C8.CX0 X.prog X.w X.K X.mg X.base Ng x sg g cdg X.A X.stack s H C8.E0).nox)
      (tb := fun W D σ H => ∃ Ech : XK, (∀ cls d σ' H', Ech cls d H' → W cls d σ' H') ∧ σ[0]? = some (some (.ref f)) ∧ H c' = some (LamX.CodeO c' q) ∧ tl Ech H (fun v H1 => D.nx σ H1))
      rfl rfl hN takes0' (fun W pn xe tk _ => ?_) (hh s H)) (pss_one (ps_ret pe_str)), ?_⟩
  · refine ⟨fun pins s' σ H' D I h' => ?_⟩
    obtain ⟨Ech, hW, h1, h2, h3⟩ := h'
    have hp := act W pn xe Ech p2 p3 tk hW
    have hq := pss_one (ps_expr (pos := p4) hp (hsw _))
    exact hq.run pins s' σ H' D I ⟨h1, h2, h3⟩
  · refine ⟨fun cls d H' => ∀ q : L2.St, q.length = n → wMix X.K W0 { nx := fun _ H' => Q (.str ret) H', rt := Q } (l.map (hcl X.K)) cls d q H', fun cls d σ' H' z hl => z σ' (hl.trans hn), hst f, hc, h⟩
end
def dLamD (T : List (Addr × Str)) (es : List Nat) (n : Nat) (ret : Str) (l : List Cl1) (dc : DE) : DE := fun ga mu _ F => tabsOf mu = T ∧ dc ga mu (fun x mu1 => x.1 ∈ es ∧ pick n { nx := fun _ mu2 => F (.str ret) mu2, rt := F, ex := fun _ _ => False } x mu1 l) fun _ mu1 => F (.str ret) mu1
section
variable {X : Cx} {W : WX} {T : List (Addr × Str)} {es ys : List Nat} {n : Nat} {ret : Str} {l : List Cl1} {dc : DE} {x a : Str} {g c P : Addr} {k : Nat} {pg : Arguments} {bg : List Stmt} {sg : Scope} {Ng : List Str} {params : Arguments} {body : Expr} {scope : Scope} {p lpos pos : Pos}
theorem d_lamD (hm : X.mg x = some (.ref g)) (F : ∃ fd, FunD X.K x x pg bg sg [] [] g fd)
    (hps : ∀ (kV doc pm : Value) (an : Option Addr) (cdv ct : Value) (us : List Value), us.length = [a].length → bindArgs (PySem.W.fnOf x x pg bg sg .none kV doc pm an cdv ct) ⟨us, []⟩ = pure ([a].zip us))
    (Sg : FnScope Ng [a] sg) (hG : ∀ cdv : Value, LamX.GivesTo X Ng x sg g cdv bg a (X.env.qual ++ "<lambda>") (TTD X.K n ret l)) (hx : exmB X.K es ys = true) (hy : ∀ t ∈ l, t.1 ∈ ys)
    (TB : LamX.TabB X.base X.mg c P) (hcode : X.env.code = .ref c) (hmT : (P, X.env.qual ++ "<lambda>") ∈ T) (hu : ∀ p ∈ T, p.1 = P → p.2 = X.env.qual ++ "<lambda>") (hr : Room (k + 2) X.A) (L : LamX.LamS X.env.scope scope)
    (hbody : ∀ (A : Around) (outer : List Env) (s : Shared) (H : Hp) (E : XK) (f c' : Addr), Room k (A.deeper (LamX.lamEnv X scope s.heap.objs.size f c')) → PE (LamX.lamCx X A outer s H E scope f c') body (liftE X.K (fun c d _ h => E c d h) dc))
    (hg : Gl X x := by rfl) (hNg : Ng[0]? = some a := by rfl) (hva : Vis sg a := by first | exact Or.inl rfl | exact Or.inr (Or.inl rfl) | exact Or.inr (Or.inr rfl)) (hdef : defaultsOf params X.env = ([], []) := by rfl)
    (hbind : ∀ (q : Str) (cl : List (Str × Addr)) (pm cv ctv : Value), bindArgs (PySem.W.kla_fn "<lambda>" q params body scope cl pm cv ctv) ⟨[], []⟩ = pure [] := by intro _ _ _ _ _; rfl)
    (hdb : (x == ("__debug__" : Str)) = false := by decide) (hd1 : (a == ("__debug__" : Str)) = false := by decide) (hcd1 : (a == ("__classdict__" : Str)) = false := by decide) :
    PE X (.Call (.Name x p) [.Lambda params body scope lpos] [] pos) (liftE X.K W (dLamD T es n ret l dc)) := by
  obtain ⟨fd, F⟩ := F
  obtain ⟨oc, od, dV, kV, doc, pm, an, cdv, ct, osl, hfd, lk, hcd, hdv, _⟩ := F.ex
  have hdv0 : dV = .none := by
    rcases hdv with ⟨_, e⟩ | ⟨e, _⟩
    · exact e
    · exact (e rfl).elim
  subst hdv0 hfd
  have hb : L2.Binds X.K (PySem.W.fnOf x x pg bg sg .none kV doc pm an cdv ct) [a] [] := F.bindsN hps
  refine pe_wk (LamX.pe_lamcall (TT := TTD X.K n ret l) (t := fun E => liftE X.K (fun c d _ h => E c d h) dc) hg hm F.kp lk hcd hb Sg hNg hva (hG cdv) TB hcode hmT hu hr L hdef hbind hbody hdb hd1 hcd1) fun σ H Q ⟨ga, mu, al, hd, P, F, at_, h, kv, kx⟩ => ?_
  obtain ⟨hT0, h⟩ := h
  refine ⟨tabs_of at_.ok hT0, fun H1 eN T1 => ?_⟩
  have o1 := okay_tabs at_.ok hT0 eN T1
  have g1 := go_tabs at_.ok eN
  have kv1 := kv.to g1
  refine ⟨ga, mu, al, hd, _, _, at_.to o1 g1, h, ⟨fun d mu1 v H2 al2 h2 o2 g2 r2 => kv1.go _ _ _ _ _ h2 o2 g2 .str⟩, ⟨fun y mu1 cls dd H2 al2 h2 o2 g2 r2 q hq => ?_⟩⟩
  exact pick_mix (Wo := W0) (H := H1) (al := al) (D := { nx := fun _ H' => Q (.str ret) H', rt := Q }) (E := { nx := fun _ mu2 => F (.str ret) mu2, rt := F, ex := fun _ _ => False }) ⟨fun ga mu sg H' al' z a g => kv1.go _ _ _ _ _ z a.ok g .str, kv1, fun _ => ⟨fun _ _ _ _ _ _ z => z.elim⟩, fun _ _ _ _ _ z _ _ => z.elim, fun _ _ _ _ _ z _ _ => z.elim⟩ hx h2.1 o2 g2 r2 hq l hy h2.2
/-- one name to a table -/
theorem ts_uni : ∀ {T : List (Addr × Str)}, (T.map (·.1)).Nodup → ∀ {P : Addr} {q : Str}, (P, q) ∈ T → ∀ p ∈ T, p.1 = P → p.2 = q
  | [], _, _, _, h, _, _, _ => (List.not_mem_nil h).elim
  | t :: T, nd, P, q, h, p, hp, e => by
    rw [List.map_cons, List.nodup_cons] at nd
    rcases List.mem_cons.mp h with h2 | h2
    · subst h2
      rcases List.mem_cons.mp hp with hp | hp
      · rw [hp]
      · exact (nd.1 (by rw [← e]; exact List.mem_map.mpr ⟨p, hp, rfl⟩)).elim
    · rcases List.mem_cons.mp hp with hp | hp
      · subst hp
        exact (nd.1 (by rw [e]; exact List.mem_map.mpr ⟨(P, q), h2, rfl⟩)).elim
      · exact ts_uni nd.2 h2 p hp e
end
end DX

/-! part DX9 -/
/-! DX9: int(x), enumerate(list), a written dict looked up. -/
namespace DX
open PySem PySem.Spec PyProof.Rows L2 DL DQ
section
variable {X : Cx} {W : WX}
def bInt : GL := fun ds mu F => match ds with
  | [.int i] => F (.int i) mu
  | [.bl k] => F (.int (if k = true then 1 else 0)) mu
  | _ => False
theorem b_int : CbS X (.type "int") bInt := by
  refine ⟨_, call_int1, fun H mu al hd ds vs F Q o r hg kv => ?_⟩
  unfold bInt at hg
  split at hg
  · obtain ⟨v, ys, rfl, r1, r2⟩ := r.cons_
    cases r2.nil_
    exact .inl ⟨_, by rw [r1.int_], kv.now o hg .int⟩
  · obtain ⟨v, ys, rfl, r1, r2⟩ := r.cons_
    cases r2.nil_
    exact .inr ⟨_, by rw [r1.bl_], kv.now o hg .int⟩
  · exact hg.elim
/-! ### enumerate -/
def enF : Nat → List D → List D
  | _, [] => []
  | k, d :: l => .tup [.int (k : Nat), d] :: enF (k + 1) l
theorem enF_len : ∀ (l : List D) (k : Nat), (enF k l).length = l.length
  | [], _ => rfl
  | _ :: l, k => congrArg Nat.succ (enF_len l (k + 1))
theorem enF_get : ∀ (l : List D) (k i : Nat) (d : D), l[i]? = some d → (enF k l)[i]? = some (.tup [.int ((k + i : Nat) : Int), d])
  | [], _, _, _, h => by simp at h
  | x :: l, k, 0, d, h => by
    simp at h
    subst h
    rfl
  | x :: l, k, i + 1, d, h => by
    have e := enF_get l (k + 1) i d (by simpa using h)
    have e2 : k + 1 + i = k + (i + 1) := by omega
    rw [e2] at e
    exact e
def iEn (da : DA) : DI := fun ga mu P F => da ga mu P fun ds mu1 => match ds with
  | [x] => ∃ l, lv mu1 x = some l ∧ F (enF 0 l) (fun m => lv m x = some l) mu1
  | _ => False
theorem wk_en {K : PySem.W.Frag} {x : D} {p : Addr} {l : List D} {hd0 : List Addr} {H0 : Hp} {al0 : List Addr} (r : Rep K (al0 ++ hd0) H0 al0 x (.ref p)) : WkOk K (Ite K p) (enF 0 l) (fun m => lv m x = some l) hd0 H0 al0 := by
  have key : ∀ hd H mu al, Fz H0 (al0 ++ hd0) H (al ++ hd) → Pre al0 al → Okay K hd H mu al → lv mu x = some l → ∃ xs, SqL K H p xs ∧ RepL K (al ++ hd) H [] l xs := fun hd H mu al g pr o h => by
    obtain ⟨q, xs, e, s, r2⟩ := (r.fz g pr).lv o h
    cases e
    exact ⟨xs, .inl s, r2⟩
  refine ⟨fun hd H mu al g pr o h => ?_, fun hd H mu al i g pr o h hi => ?_, fun hd H mu al i v H' g pr o h hi y => ?_⟩
  · obtain ⟨xs, s, r1⟩ := key hd H mu al g pr o h
    exact ⟨xs, s, by rw [enF_len, r1.len]; exact Nat.le_refl _⟩
  · obtain ⟨xs, s, r1⟩ := key hd H mu al g pr o h
    rw [enF_len, r1.len] at hi
    exact ⟨xs, xs[i], s, List.getElem?_eq_getElem hi⟩
  · obtain ⟨xs, s, r1⟩ := key hd H mu al g pr o h
    obtain ⟨T, z, rfl, hT, rfl, q⟩ := y
    obtain ⟨d, e1, r2⟩ := r1.get (q xs s)
    have gl := Go.lay (hd := hd) (al := al) (u := .tup [.int (i : Nat), z]) o hT
    refine ⟨_, enF_get l 0 i d e1, o.lay hT, gl, ?_⟩
    rw [Nat.zero_add]
    exact .tup ⟨o.new hT, upd_same⟩ (.cons .int (.cons (r2.go gl (Pre.refl _)) .nil))
theorem di_enum {e : Expr} {da : DA} {p pos tpos : Pos} {elts : List Expr} {kk : Nat} (hm : X.mg "enumerate" = none) (ha : PA X [e] (liftA X.K W da)) (hg : Gl X "enumerate" := by rfl) (hs : starEach [e] X.env = [(false, eval e X.env)] := by rfl) :
    PI X (.Tuple elts kk tpos) (.Call (.Name "enumerate" p) [e] [] pos) (liftI X.K W (iEn da)) := by
  refine pi_wk (pi_enum hg hm ha hs) fun sg H R ⟨ga, mu, al, hd, P, F, a, h, k, kx⟩ => ?_
  refine ⟨ga, mu, al, hd, P, _, a, h, ⟨fun ds mu1 vs H1 al1 h1 o1 g1 r1 => ?_⟩, kx⟩
  split at h1
  · obtain ⟨l, hl, h2⟩ := h1
    obtain ⟨v, ys, rfl, r2, r3⟩ := r1.cons_
    cases r3.nil_
    obtain ⟨q, xs, rfl, s, r4⟩ := r2.lv o1 hl
    exact ⟨q, xs, rfl, .inl s, k _ _ _ _ _ _ h2 o1 g1 (wk_en r2)⟩
  · exact h1.elim
/-! ### {..}[e] -/
def dDix (kvs : List (Str × Int)) (de : DE) : DE := fun ga mu P F => de ga mu P fun x mu1 => match x with
  | .str s => (match kvs.lookup s with
    | some v => F (.int v) mu1
    | none => False)
  | _ => False
theorem tPairs_c : ∀ (kvs : List (Str × Int)) (σ : L2.St) (H : Hp) (Q : List (V × V) → Hp → Prop), Q (kvs.map fun p => (V.str p.1, V.int p.2)) H → tPairs (kvs.map fun p => (tC (.str p.1), tC (.int p.2))) σ H Q
  | [], _, _, _, h => h
  | p :: kvs, σ, H, Q, h => tPairs_c kvs σ H _ h
theorem look_no {s : Str} : ∀ {kvs : List (Str × Int)}, ¬ s ∈ kvs.map (·.1) → kvs.lookup s = none
  | [], _ => rfl
  | p :: kvs, h => by
    obtain ⟨k, v⟩ := p
    have hne : ¬ s = k := fun e => h (by rw [e]; exact List.mem_cons_self)
    rw [List.lookup_cons, beq_eq_false_iff_ne.mpr hne]
    exact look_no fun z => h (List.mem_cons_of_mem _ z)
theorem hv_acc (s : Str) : ∀ (kvs : List (Str × Int)) (acc : List (Key × V)), (kvs.map (·.1)).Nodup → valV (mergeK acc (kvs.map fun p => ((.inr p.1 : Key), V.int p.2))) (.inr s) = (match kvs.lookup s with
    | some v => some (V.int v)
    | none => valV acc (.inr s))
  | [], acc, _ => rfl
  | p :: kvs, acc, nd => by
    obtain ⟨k, v⟩ := p
    rw [List.map_cons, List.nodup_cons] at nd
    have ih := hv_acc s kvs (putK acc (.inr k) (.int v)) nd.2
    rw [List.map_cons]
    show valV (mergeK (putK acc (.inr k) (.int v)) (kvs.map fun p => ((.inr p.1 : Key), V.int p.2))) (.inr s) = _
    rw [ih, List.lookup_cons, valV_put]
    by_cases e : s = k
    · subst e
      rw [look_no nd.1, beq_self_eq_true, if_pos rfl]
    · have e1 : (s == k) = false := beq_eq_false_iff_ne.mpr e
      have e2 : ¬ (.inr s : Key) = .inr k := fun z => e (Sum.inr.inj z)
      rw [e1, if_neg e2]
theorem hv_of {kvs : List (Str × Int)} (nd : (kvs.map (·.1)).Nodup) (s : Str) : valV (mergeK [] (kvs.map fun p => ((.inr p.1 : Key), V.int p.2))) (.inr s) = (kvs.lookup s).map V.int := by
  rw [hv_acc s kvs [] nd]
  cases kvs.lookup s <;> rfl
theorem d_dix (kvs : List (Str × Int)) {keys : List (Option Expr)} {values : List Expr} {e : Expr} {de : DE} {pos pos2 : Pos} (hp : PPs X pos keys values (kvs.map fun p => (tC (.str p.1), tC (.int p.2)))) (hi : PE X e (liftE X.K W de)) (hu : X.A.units + 1 < cLine)
    (hv : ∀ s : Str, valV (mergeK [] (kvs.map fun p => ((.inr p.1 : Key), V.int p.2))) (.inr s) = (kvs.lookup s).map V.int) (hlen : kvs.length ≤ 15)
    (hs : NoSl e := by intro _ _; rfl) (hall : keys.all (·.isSome) = true := by rfl) (hl : keys.length = values.length := by rfl) (h0 : keys ≠ [] := by simp) (h15 : keys.length ≤ 15 := by decide) : PE X (.Subscript (.Dict keys values pos) e pos2) (liftE X.K W (dDix kvs de)) := by
  refine pe_wk (pe_dget hu (pe_disp hp hall hl h0 h15) hi hs) fun sg H Q ⟨ga, mu, al, hd, P, F, a, h, kv, kx⟩ p hpn => ?_
  refine tPairs_c kvs sg _ _ ⟨upd_same, kvs.map fun p => (.inr p.1, .int p.2), by rw [List.map_map]; rfl, by rw [List.length_map]; exact hlen, ?_⟩
  have keep : ∀ b u, H b = some u → upd (upd H p (.dK [])) p (.dK (mergeK [] (kvs.map fun p => ((.inr p.1 : Key), V.int p.2)))) b = some u := fun b u q => by
    have n := ne_of_none q hpn
    rw [upd_ne n, upd_ne n]
    exact q
  have o1 := a.ok.ext keep
  have g1 := Go.ext (hd := hd) (al := al) a.ok keep
  refine ⟨ga, mu, al, hd, P, _, a.to o1 g1, h, ⟨fun d mu1 v H2 al2 h1 o2 g2 r2 => ?_⟩, kx.to g1⟩
  split at h1
  · rename_i s
    cases r2.str_
    cases q : kvs.lookup s with
    | none => simp only [q] at h1
    | some w =>
      simp only [q] at h1
      have ep := (g2.frz p _ (a.ok.new hpn) upd_same rfl).1
      exact ⟨p, .int w, rfl, .inl ⟨_, .inr s, .inl ep, rfl, by rw [hv s, q]; rfl⟩, kv.go _ _ _ _ _ h1 o2 (g1.trans g2) .int⟩
  · exact h1.elim
end
end DX
namespace DX
open PySem PySem.Spec PyProof.Rows L2 DL DQ
theorem unit_lt {A : Around} (r : Room 0 A) : A.units + 1 < cLine := by
  have := r.un
  omega
end DX

/-! part DX10 -/
/-! DX10: e.m() of a caught error without fields, where m returns a constant. -/
namespace PySem.HandSPX
open PySem PySem.Spec PyProof.Rows PySem.W
theorem canon_bga : (Manifest.canonical "BaseException.__getattribute__" != "object.__getattribute__") = false := by decide +kernel
theorem exc_meth {prog : Program} {w : World} {A : Around} {E : Value → Shared → Prop} {s : Shared} {K : Frag} {x C f : Addr} {ox : Obj} {od : Option Obj} {name : Str} {pl : Sem Bool} {Q : Value × List Value → Shared → Prop}
    (X : K.In s.heap) (I : PySem.W.InstAt s.heap x ox C od) (hga : findIn K (.ref C) "__getattribute__" = some (some (.builtin "BaseException.__getattribute__"))) (hk : findIn K (.ref C) "__getattr__" = some none)
    (hf : findIn K (.ref C) name = some (some (.ref f))) (ht : typeIn K (.ref f) = some (.type "function")) (hs : shadowIn od name = some false) (h : Q (.ref f, [.ref x]) s) : wpAny (model prog w) A (getMethod (.ref x) name pl) Q E s := by
  unfold getMethod specialOf
  refine wpAny_bind (wpAny_bind (I.type.here ((looks_findIn X hga).here ?_)))
  dsimp only
  rw [canon_bga, if_neg (by decide)]
  refine wpAny_bind (wpAny_bind (I.type.here ((looks_findIn X hk).here ?_)))
  refine wpAny_bind (wpAny_bind (I.type.here ((looks_findIn X hf).here (wpAny_bind ((looks_typeIn X ht).here ?_)))))
  rw [if_neg (by decide +kernel)]
  refine wpAny_bind (wpAny_loadPart I.at_ ?_)
  have hd := I.dict
  cases e : ox.dict with
  | none => exact wpAny_bind (wpAny_rule (wpAny_pure h))
  | some dx =>
    cases od with
    | none => rw [e] at hd; exact hd.elim
    | some o =>
      rw [e] at hd
      obtain ⟨r, a, b⟩ := Option.map_eq_some_iff.mp hs
      refine wpAny_bind (wpAny_bind (wpAny_loadPart hd ?_))
      rw [nsLook_of a]
      refine wpAny_pure ?_
      rw [b]
      exact wpAny_bind (wpAny_rule (wpAny_pure h))
end PySem.HandSPX
namespace DX
open PySem PySem.Spec PyProof.Rows L2 DL DQ
/-- the method m of the error class x -/
structure TolC (K : PySem.W.Frag) (C : Addr) (m : Str) (f : Addr) : Prop where
  xf : XfC K C
  fi : PySem.W.findIn K (.ref C) m = some (some (.ref f))
  ty : PySem.W.typeIn K (.ref f) = some (.type "function")
theorem tolC_of {K : PySem.W.Frag} {x : Nat} {m : Str} (h : tolB K x m = true) : TolC K (He.ga K (xn x)) m (He.ma K (He.ga K (xn x)) m) := by
  obtain ⟨h1, h⟩ := ba2 h
  obtain ⟨h2, h3⟩ := ba2 h
  exact ⟨xfc_of h1, of_decide_eq_true h2, of_decide_eq_true h3⟩
section
variable {P : Program} {w : World} {K : PySem.W.Frag} {mg : Str → Option Value} {base : Heap}
/-- a def (self) that returns a text, called where an exception may be handled -/
theorem tell_run {m qual z : Str} {params : Arguments} {scope : Scope} {j : Nat} {p1 p2 : Pos} {f : Addr} {fd : FuncData} (F : FunD K m qual params [.Return (some (.Constant (.str z) j p1)) p2] scope [] [] f fd) (S : FnScope ["self"] ["self"] scope)
    (hb : ∀ (kV doc pm : Value) (an : Option Addr) (cdv ct : Value) (us : List Value), us.length = 1 → bindArgs (PySem.W.fnOf m qual params [.Return (some (.Constant (.str z) j p1)) p2] scope .none kV doc pm an cdv ct) ⟨us, []⟩ = pure ((["self"] : List Str).zip us))
    {A : Around} {outer : List Env} {s : Shared} {H : Hp} {u : Value} {v : V} {Q : VK} {p : Addr × Obj} {R : Result → Shared → Prop} (hr : L2H.RoomH 1 A) (hpin : L2H.PinOk outer H s p) (e0 : Env0 P w K mg base A outer s H) (r : RelV v u) (q : Q (.str z) H)
    (hR : ∀ u' s', CE outer P w H s Q u' s' → R (.ok (.ret u')) s') : codeAny (model P w) A (.call (.ref f) ⟨[u], []⟩) R s := by
  have B := F.bindsN (ps := ["self"]) hb
  obtain ⟨oc, od, dV, kV, doc, pm, an, cdv, ct, osl, rfl, lk, hcd, hdv, _⟩ := F.ex
  have KX : K.In s.heap := e0.mod.kin.keeps fun b o e => (e0.bs b o e).1
  have lim : s.heap.NoLimit := e0.mod.nolimit.keeps fun b o e => (e0.bs b o e).1
  have hkind : ∀ y ∈ (["self"] : List Str).zip [u], scope.names.lookup y.1 = some .local ∨ (scope.names.lookup y.1 = some .cell ∧ ((cellsFrom (s.heap.objs.size + 1) scope.names []).lookup y.1).isSome = true) := fun ⟨n, v⟩ hy => by
    rcases S.par n (List.of_mem_zip hy).1 with q | q
    · exact .inl q
    · exact .inr ⟨q, PySem.W.cellsFrom_some _ _ _ (.inl q)⟩
  have hbb := B s [u] KX rfl
  rw [List.append_nil] at hbb
  refine codeAny_call_function hr.depth (KX _ _ lk) rfl S.co S.gen rfl (PySem.W.codeRec_of KX hcd) (hbb _ _ _ _ ?_)
  refine wpAny_newFunctionEnv_cells S.kind hkind fun env he s1 x => ?_
  subst he
  refine ⟨lim.keeps x.toInCall.keep, codeAny_func ?_⟩
  have I : Inv (L2H.cxH C8.CX0 P w K mg base ["self"] qual scope f cdv A outer s H (fun _ _ _ => False) p) [] (L2.start ["self"] [v]) H s1 := L2H.inv_startH S hpin e0 rfl (.cons r .nil) x
  have ht := pss_one (X := (L2H.cxH C8.CX0 P w K mg base ["self"] qual scope f cdv A outer s H (fun _ _ _ => False) p).nox) (ps_ret (pos := p2) (pe_str (x := z) (j := j) (pos := p1)))
  refine wpAny_mono (ht.run [] s1 (L2.start ["self"] [v]) H { nx := fun _ H' => Q .non H', rt := Q } (I.wish _) q) (fun fl s' hs => ?_) fun e s' hs => ?_
  · cases fl with
    | ret u' =>
      obtain ⟨v', σ', H', J, rv, q'⟩ := hs
      exact hR _ _ ⟨v', H', J.os, J.bare, J.base, J.hok, rv, q'⟩
    | next =>
      obtain ⟨σ', H', J, q'⟩ := hs
      exact hR _ _ ⟨.non, H', J.os, J.bare, J.base, J.hok, rfl, q'⟩
    | brk =>
      obtain ⟨_, _, _, q'⟩ := hs
      exact q'.elim
    | cont =>
      obtain ⟨_, _, _, q'⟩ := hs
      exact q'.elim
  · exact False.elim hs
end
/-! ### is None -/
def isNon : D → Bool
  | .non => true
  | _ => false
def gIsN : G2 := fun x y mu _ F => y = .non ∧ F (.bl (isNon x)) mu
def gNotN : G2 := fun x y mu _ F => y = .non ∧ F (.bl (!isNon x)) mu
theorem isNon_of {K : PySem.W.Frag} {al pt : List Addr} {H : Hp} {d : D} {v : V} (r : Rep K al H pt d v) : decide (v = V.non) = isNon d := by
  cases r <;> simp [isNon]
theorem o_isN {X : Cx} {W : WX} : OpS X (compareOp .Is) (liftR X.K W gIsN) := by
  refine ops_wk (opr_s op_isN) fun sg x y H Q ⟨mu, al, hd, d, e, P, F, o, r1, r2, ⟨he, h⟩, kv, kx⟩ => ?_
  subst he
  refine ⟨by cases r2; rfl, ?_⟩
  rw [isNon_of r1]
  exact kv.now o h .bl
theorem o_notN {X : Cx} {W : WX} : OpS X (compareOp .IsNot) (liftR X.K W gNotN) := by
  refine ops_wk (opr_s op_notN) fun sg x y H Q ⟨mu, al, hd, d, e, P, F, o, r1, r2, ⟨he, h⟩, kv, kx⟩ => ?_
  subst he
  refine ⟨by cases r2; rfl, ?_⟩
  rw [isNon_of r1]
  exact kv.now o h .bl
/-- e.m(), e in slot i, the error at a without a dict -/
def dTold (i : Nat) (a : Addr) (d : Option Addr) (c : Nat) (z : Str) : DE := fun ga mu _ F => (d = none ∧ ∃ l, ga[i]? = some (some (.err a d c l))) ∧ F (.str z) mu
section
variable {X : Cx} {W : WX} {a : Addr} {oe : Obj} {cls : Value} {d : Option Addr} {pn : List (Addr × Obj)}
theorem d_told (i : Nat) {c : Nat} {n m qual z : Str} {f : Addr} {params : Arguments} {scope : Scope} {j : Nat} {p0 p1 p2 apos pos : Pos} {pl : Sem Bool} (T : TolC X.K (He.ga X.K (xn c)) m f) (hz : Zc cls d oe) (hf : ∃ vs, oe.data = .fields vs) (hcls : cls = .ref (He.ga X.K (xn c)))
    (F : ∃ fd, FunD X.K m qual params [.Return (some (.Constant (.str z) j p1)) p2] scope [] [] f fd) (S : FnScope ["self"] ["self"] scope)
    (hb : ∀ (kV doc pm : Value) (an : Option Addr) (cdv ct : Value) (us : List Value), us.length = 1 → bindArgs (PySem.W.fnOf m qual params [.Return (some (.Constant (.str z) j p1)) p2] scope .none kV doc pm an cdv ct) ⟨us, []⟩ = pure ((["self"] : List Str).zip us))
    (hr : Room 2 X.A) (hN : X.N[i]? = some n := by rfl) (hv : Vis X.env.scope n := by first | exact Or.inl rfl | exact Or.inr (Or.inl rfl) | exact Or.inr (Or.inr rfl)) (hdn : (n == ("__debug__" : Str)) = false := by decide) (hcd : (n == ("__classdict__" : Str)) = false := by decide)
    (ht : eval (.Call (.Attribute (.Name n p0) m apos) [] [] pos) X.env = (do
      let ov ← eval (.Name n p0) X.env
      standAt apos.atName
      let (f, first) ← holding [ov] (getMethod ov m pl)
      callWith pos f first (backTo pos (starEach [] X.env)) (backToKw pos (keywordEach [] X.env))) := by rfl) :
    PE (X.suite a ((a, oe) :: pn)) (.Call (.Attribute (.Name n p0) m apos) [] [] pos) (liftE X.K W (dTold i a d c z)) := by
  obtain ⟨fd, F⟩ := F
  refine ⟨fun pins s σ H Q I ⟨ga, mu, al, hd, P, F', at_, ⟨⟨hd0, l, hg⟩, hF⟩, kv, kx⟩ => ?_⟩
  obtain ⟨v, hv', rv⟩ := at_.sl.at_ i _ hg
  have ev : v = .ref a := by cases rv <;> rfl
  subst ev
  refine PySem.W.methodCall_KW (pl := pl) (thn ((pe_var (X := X.suite a ((a, oe) :: pn)) hN hv hdn hcd).run pins s σ H (fun x H1 => x = .ref a ∧ H1 = H) I ⟨_, hv', rfl, rfl⟩) fun u s1 ⟨x, H1, I1, rx, ex, eH⟩ => ?_) ht
  subst ex
  subst eH
  obtain rfl : u = Value.ref a := rx
  have P1 := I1.pin (a, oe) (List.mem_append_left _ List.mem_cons_self)
  obtain ⟨vs, hfd⟩ := hf
  have J : PySem.W.InstAt s1.heap a oe (He.ga X.K (xn c)) none := ⟨P1.1, hz.1.trans hcls, by unfold PySem.W.notCls; rw [hfd] <;> rfl, by rw [hz.2, hd0]; trivial⟩
  refine HandSPX.exc_meth I1.kIn J T.xf.ga T.xf.gg T.fi T.ty rfl ?_
  refine PySem.W.callWith_K0 I1.kIn F.kp (wpAny_call ?_)
  exact tell_run (p := (a, oe)) (v := .ref a) (Q := Q) F S hb ⟨by have := hr.dp; show X.A.depth + 3 * 1 + 5 < _; omega, by have := hr.un; show X.A.units + 16 * 1 + 200 < _; omega⟩
    ⟨P1.1, P1.2.1, fun hm => (List.mem_cons.mp (I1.stkSub a hm)).elim P1.2.2.1 P1.2.2.2.1, P1.2.2.2.2⟩ I1.env0 rfl (kv.go _ mu _ _ al hF at_.ok (Go.refl _ _) .str) (fun u' s' ce => I1.after ce)
end
end DX

/-! part DX11 -/
/-! DX11: in, sum, all, any, min of two, list.clear; the script's own len, item, slice. -/
namespace DX
open PySem PySem.Spec PyProof.Rows L2 DL DQ
/-! ### i in a list or tuple of ints -/
def gInB (neg : Bool) : G2 := fun x y mu _ F => ∃ i ns, x = .int i ∧ (pv_ mu y).bind intsD = some ns ∧ F (.bl (if neg then !decide (i ∈ ns) else decide (i ∈ ns))) mu
def gIn : G2 := gInB false
def gNotIn : G2 := gInB true
theorem inV_int (i : Int) : ∀ ns : List Int, inV (.int i) (ns.map V.int) = decide (i ∈ ns)
  | [] => by simp [inV]
  | n :: ns => by
    have ih := inV_int i ns
    unfold inV at ih ⊢
    rw [List.map_cons, List.any_cons, ih]
    have e : eqV (V.int n) (V.int i) = decide (n = i) := by
      show (n == i) = decide (n = i)
      by_cases h : n = i
      · subst h
        simp
      · simp [h]
    rw [e]
    by_cases h : n = i
    · subst h
      simp
    · have h2 : ¬ i = n := fun z => h z.symm
      simp [h, h2]
theorem all_flat (ns : List Int) : (ns.map V.int).all flatV = true := by
  induction ns with
  | nil => rfl
  | cons n ns ih => rw [List.map_cons, List.all_cons, ih]; rfl
section
variable {X : Cx} {W : WX}
theorem in_aux {neg : Bool} {sg : L2.St} {x y : V} {H : Hp} {Q : VK} (h : liftR X.K W (gInB neg) sg x y H Q) : rIn X.K neg x y H Q := by
  obtain ⟨mu, al, hd, d, e, P, F, o, r1, r2, ⟨i, ns, rfl, he, h⟩, kv, kx⟩ := h
  obtain ⟨l, hl, hi⟩ := Option.bind_eq_some_iff.mp he
  obtain ⟨p, xs, rfl, s, r⟩ := r2.pv_ o hl
  rw [intsD_eq hi] at r
  have ex := r.ints
  subst ex
  cases r1.int_
  refine ⟨p, ns.map V.int, rfl, s, rfl, all_flat ns, ?_⟩
  rw [inV_int]
  exact kv.now o h .bl
theorem o_in : OpS X (compareOp .In) (liftR X.K W gIn) := ops_wk (opr_s op_in_seq) fun sg x y H Q h => in_aux h
theorem o_notIn : OpS X (compareOp .NotIn) (liftR X.K W gNotIn) := ops_wk (opr_s op_notIn_seq) fun sg x y H Q h => in_aux h
end
/-! ### sum, all, any, min -/
def blsD : List D → Option (List Bool)
  | [] => some []
  | .bl b :: l => (blsD l).map (b :: ·)
  | _ => none
theorem blsD_ok : ∀ {l : List D} {bs : List Bool}, blsD l = some bs → l = bs.map D.bl
  | [], bs, h => by
    cases h
    rfl
  | d :: l, bs, h => by
    cases d <;> try (simp [blsD] at h; done)
    rename_i b
    simp only [blsD, Option.map_eq_some_iff] at h
    obtain ⟨ms, h1, rfl⟩ := h
    rw [List.map_cons, ← blsD_ok h1]
theorem blsD_of : ∀ bs : List Bool, blsD (bs.map D.bl) = some bs
  | [] => rfl
  | n :: ns => by
    rw [List.map_cons, blsD, blsD_of ns]
    rfl
theorem RepL.bls {K : PySem.W.Frag} {fb pt : List Addr} {H : Hp} : ∀ {bs : List Bool} {xs : List V}, RepL K fb H pt (bs.map D.bl) xs → xs = bs.map V.bl
  | [], _, .nil => rfl
  | _ :: _, _, .cons .bl r => by rw [List.map_cons, RepL.bls r]
def bSum : GL := fun ds mu F => match ds with
  | [x] => (match (lv mu x).bind intsD with
    | some ns => F (.int ns.sum) mu
    | none => False)
  | _ => False
def bAll : GL := fun ds mu F => match ds with
  | [x] => (match (lv mu x).bind blsD with
    | some bs => F (.bl (bs.all id)) mu
    | none => False)
  | _ => False
def bAny : GL := fun ds mu F => match ds with
  | [x] => (match (lv mu x).bind blsD with
    | some bs => F (.bl (bs.any id)) mu
    | none => False)
  | _ => False
def bMin : GL := fun ds mu F => match ds with
  | [.int i, .int j] => F (.int (if j < i then j else i)) mu
  | _ => False
section
variable {X : Cx}
theorem b_sum (hc : X.calm = true) : CbS X (.builtin "sum") bSum := by
  refine ⟨_, cr_sum hc, fun H mu al hd ds vs F Q o r hg kv => ?_⟩
  unfold bSum at hg
  split at hg
  · rename_i x
    obtain ⟨v, ys, rfl, r1, r2⟩ := r.cons_
    cases r2.nil_
    cases q : (lv mu x).bind intsD with
    | none => simp only [q] at hg
    | some ns =>
      simp only [q] at hg
      obtain ⟨l, hl, hi⟩ := Option.bind_eq_some_iff.mp q
      obtain ⟨p, xs, rfl, s, r3⟩ := r1.lv o hl
      rw [intsD_eq hi] at r3
      have ex := r3.ints
      subst ex
      exact ⟨p, ns, rfl, .inl s, kv.now o hg .int⟩
  · exact hg.elim
theorem b_all (hc : X.calm = true) : CbS X (.builtin "all") bAll := by
  refine ⟨_, cr_all hc, fun H mu al hd ds vs F Q o r hg kv => ?_⟩
  unfold bAll at hg
  split at hg
  · rename_i x
    obtain ⟨v, ys, rfl, r1, r2⟩ := r.cons_
    cases r2.nil_
    cases q : (lv mu x).bind blsD with
    | none => simp only [q] at hg
    | some ns =>
      simp only [q] at hg
      obtain ⟨l, hl, hi⟩ := Option.bind_eq_some_iff.mp q
      obtain ⟨p, xs, rfl, s, r3⟩ := r1.lv o hl
      rw [blsD_ok hi] at r3
      have ex := RepL.bls r3
      subst ex
      exact ⟨p, ns, rfl, .inl s, kv.now o hg .bl⟩
  · exact hg.elim
theorem b_any (hc : X.calm = true) : CbS X (.builtin "any") bAny := by
  refine ⟨_, cr_any hc, fun H mu al hd ds vs F Q o r hg kv => ?_⟩
  unfold bAny at hg
  split at hg
  · rename_i x
    obtain ⟨v, ys, rfl, r1, r2⟩ := r.cons_
    cases r2.nil_
    cases q : (lv mu x).bind blsD with
    | none => simp only [q] at hg
    | some ns =>
      simp only [q] at hg
      obtain ⟨l, hl, hi⟩ := Option.bind_eq_some_iff.mp q
      obtain ⟨p, xs, rfl, s, r3⟩ := r1.lv o hl
      rw [blsD_ok hi] at r3
      have ex := RepL.bls r3
      subst ex
      exact ⟨p, ns, rfl, .inl s, kv.now o hg .bl⟩
  · exact hg.elim
theorem b_min (hc : X.calm = true) : CbS X (.builtin "min") bMin := by
  refine ⟨_, call_min2 hc, fun H mu al hd ds vs F Q o r hg kv => ?_⟩
  unfold bMin at hg
  split at hg
  · rename_i i j
    obtain ⟨v, ys, rfl, r1, r2⟩ := r.cons_
    obtain ⟨v2, ys2, rfl, r3, r4⟩ := r2.cons_
    cases r4.nil_
    cases r1.int_
    cases r3.int_
    exact ⟨i, j, rfl, kv.now o hg .int⟩
  · exact hg.elim
/-! ### list.clear -/
def gClear : GM := fun x ds mu F => match x, ds with
  | .ptr n, [] => (match mu[n]? with
    | some (.lst _) => F .non (mu.set n (.lst []))
    | _ => False)
  | _, _ => False
theorem m_clear : MbS X "list.clear" gClear := by
  refine ⟨_, mt_clear, fun H mu al hd x v ds vs F Q o rx rs h kv => ?_⟩
  unfold gClear at h
  split at h
  · rename_i n
    cases rs.nil_
    cases rx with
    | ptr e =>
      split at h
      · rename_i l q
        obtain ⟨xs, e1, r1⟩ := o.at_ n _ _ q e
        exact ⟨_, xs, rfl, rfl, e1, Kv.setL o e kv .nil .non h⟩
      · exact h.elim
  · exact h.elim
end
/-! ### a tuple that holds pointers: a cell -/
def dTupP (da : DA) : DE := fun ga mu P F => da ga mu P fun xs mu1 => xs.length ≤ 16777216 ∧ F (.ptr mu1.length) (mu1 ++ [.tpl xs])
theorem d_tupP {X : Cx} {W : WX} {es : List Expr} {x1} {da : DA} {pos : Pos} (h : PA X es (liftA X.K W da)) : PE X (.Tuple es x1 pos) (liftE X.K W (dTupP da)) :=
  pe_wk (pe_tup h) fun sg H Q ⟨ga, mu, al, hd, P, F, a, h, kv, kx⟩ => ⟨ga, mu, al, hd, P, _, a, h, ⟨fun ds mu1 vs H1 al1 h1 o1 g1 r1 => ⟨by rw [← r1.len, sizeLine_eq]; exact h1.1, fun p hp => (kv.to g1).cel o1 hp (upd_keep hp) h1.2 fun g => ⟨vs, upd_same, r1.go g g.pre⟩⟩⟩, kx⟩
def gIxP : G2 := fun x y mu _ F => ∃ n l i d, x = .ptr n ∧ mu[n]? = some (.tpl l) ∧ y = .int i ∧ L2.atI l i = some d ∧ F d mu
theorem d_ixP {X : Cx} {W : WX} {ea eb : Expr} {da db : DE} {pos : Pos} (ha : PE X ea (liftE X.K W da)) (hb : PE X eb (liftE X.K W db)) (hs : PlainIx eb := by exact fun _ _ => rfl) : PE X (.Subscript ea eb pos) (liftE X.K W (dBin gIxP da db)) := by
  refine pe_wk (pe_ix ix_seq ha hb hs) fun sg H Q h => op_wk (fun x y H' ⟨mu, al, hd, d, e, P, F, o, r1, r2, hg, kv, kx⟩ => ?_) h
  obtain ⟨n, l, i, d', rfl, hn, rfl, ha2, h⟩ := hg
  cases r1 with
  | ptr e1 =>
    cases r2.int_
    obtain ⟨xs, e2, r⟩ := o.at_ n _ _ hn e1
    obtain ⟨v, ev, rv⟩ := r.atI ha2
    exact .inr (.inl ⟨_, xs, i, v, rfl, rfl, .inl (.inl e2), ev, kv.now o h rv⟩)
/-! ### the script -/
def gIxS (a : Addr) (ns : List Int) : G2 := fun x y mu _ F => x = .adr a ∧ ∃ i z, y = .int i ∧ L2.atI ns i = some z ∧ F (.int z) mu
def bLenS (a : Addr) (ns : List Int) : GL := fun ds mu F => ds = [.adr a] ∧ F (.int (ns.length : Nat)) mu
abbrev GS := D → Option Int → Option Int → Sto → KD → Prop
def dSlG (g : GS) (de : DE) (dl dh : DO) : DE := fun ga mu P F => de ga mu P fun x mu1 => dl ga mu1 P fun lo mu2 => dh ga mu2 P fun hi mu3 => g x lo hi mu3 F
def gSlF : GS := fun x lo hi mu F => ∃ l, lv mu x = some l ∧ F (.lst (DL.cutD l lo hi)) mu
def gSlS (a : Addr) (ns : List Int) : GS := fun x lo hi mu F => x = .adr a ∧ F (.lst (DL.cutD (ns.map D.int) lo hi)) mu
section
variable {X : Cx} {W : WX} {a : Addr} {ns : List Int}
theorem atI_map {ns : List Int} {i z : Int} (h : L2.atI ns i = some z) : L2.atI (ns.map V.int) i = some (V.int z) := by
  unfold L2.atI at h ⊢
  rw [List.length_map]
  obtain ⟨j, h1, h2⟩ := Option.bind_eq_some_iff.mp h
  rw [h1, Option.bind_some, List.getElem?_map, h2]
  rfl
theorem d_ixS (hS : ∀ H, SqL X.K H a (ns.map V.int)) {ea eb : Expr} {da db : DE} {pos : Pos} (ha : PE X ea (liftE X.K W da)) (hb : PE X eb (liftE X.K W db)) (hs : PlainIx eb) : PE X (.Subscript ea eb pos) (liftE X.K W (dBin (gIxS a ns) da db)) := by
  refine pe_wk (pe_ix ix_seq ha hb hs) fun sg H Q h => op_wk (fun x y H' ⟨mu, al, hd, d, e, P, F, o, r1, r2, hg, kv, kx⟩ => ?_) h
  obtain ⟨rfl, i, z, rfl, hz, h⟩ := hg
  cases r1
  cases r2.int_
  exact .inl ⟨a, ns.map V.int, i, .int z, rfl, rfl, hS H', atI_map hz, kv.now o h .int⟩
theorem b_lenS (hS : ∀ H, SqL X.K H a (ns.map V.int)) : CbS X (.builtin "len") (bLenS a ns) := by
  refine ⟨_, call_len_seq, fun H mu al hd ds vs F Q o r hg kv => ?_⟩
  obtain ⟨rfl, h⟩ := hg
  obtain ⟨v, ys, rfl, r1, r2⟩ := r.cons_
  cases r2.nil_
  cases r1
  refine ⟨a, ns.map V.int, rfl, .inl (hS H), ?_⟩
  rw [List.length_map]
  exact kv.now o h .int
theorem RepL.cutI {K : PySem.W.Frag} {fb pt : List Addr} {H : Hp} (ns : List Int) (lo hi : Option Int) : RepL K fb H pt (DL.cutD (ns.map D.int) lo hi) (cutV (ns.map V.int) lo hi) := (RepL.ofInts ns).cut lo hi
theorem d_sliceS (hS : ∀ H, SqL X.K H a (ns.map V.int)) {e : Expr} {lo hi : Option Expr} {de : DE} {dl dh : DO} {pos p2 : Pos} (he : PE X e (liftE X.K W de)) (hl : PO X lo (liftO X.K W dl)) (hu : PO X hi (liftO X.K W dh)) : PE X (.Subscript e (.Slice lo hi none p2) pos) (liftE X.K W (dSlG (gSlS a ns) de dl dh)) := by
  refine pe_wk (pe_slice sl_list he hl hu) fun sg H Q ⟨ga, mu, al, hd, P, F, at_, h, kv, kx⟩ => ?_
  refine ⟨ga, mu, al, hd, P, _, at_, h, ⟨fun d mu1 v H1 al1 h1 o1 g1 r1 => ⟨ga, mu1, al1, hd, P, _, at_.to o1 g1, h1, fun o mu2 H2 al2 h2 o2 g2 => ⟨ga, mu2, al2, hd, P, _, at_.to o2 (g1.trans g2), h2, fun u mu3 H3 al3 h3 o3 g3 => ?_, kx.to (g1.trans g2)⟩, kx.to g1⟩⟩, kx⟩
  obtain ⟨rfl, h4⟩ := h3
  cases r1
  exact ⟨a, ns.map V.int, rfl, hS H3, fun b hb => (kv.to ((g1.trans g2).trans g3)).listN (m := 0) o3 hb (RepL.cutI ns o u) h4⟩
theorem d_sliceF {e : Expr} {lo hi : Option Expr} {de : DE} {dl dh : DO} {pos p2 : Pos} (he : PE X e (liftE X.K W de)) (hl : PO X lo (liftO X.K W dl)) (hu : PO X hi (liftO X.K W dh)) : PE X (.Subscript e (.Slice lo hi none p2) pos) (liftE X.K W (dSlG gSlF de dl dh)) := by
  refine pe_wk (pe_slice sl_list he hl hu) fun sg H Q ⟨ga, mu, al, hd, P, F, at_, h, kv, kx⟩ => ?_
  refine ⟨ga, mu, al, hd, P, _, at_, h, ⟨fun d mu1 v H1 al1 h1 o1 g1 r1 => ⟨ga, mu1, al1, hd, P, _, at_.to o1 g1, h1, fun o mu2 H2 al2 h2 o2 g2 => ⟨ga, mu2, al2, hd, P, _, at_.to o2 (g1.trans g2), h2, fun u mu3 H3 al3 h3 o3 g3 => ?_, kx.to (g1.trans g2)⟩, kx.to g1⟩⟩, kx⟩
  obtain ⟨l, hl3, h4⟩ := h3
  have g13 := (g1.trans g2).trans g3
  have r3 := r1.fz (g2.trans g3).frz (g2.trans g3).pre
  obtain ⟨p, xs, rfl, e1, s1⟩ := r3.lv o3 hl3
  exact ⟨p, xs, rfl, .inl e1, fun b hb => (kv.to g13).listN (m := 0) o3 hb (s1.cut o u) h4⟩
end
/-- how the script is read -/
structure ScrR (K : PySem.W.Frag) (gl : GL) (gx : G2) (gs : GS) : Prop where
  len : ∀ X : Cx, X.K = K → CbS X (.builtin "len") gl
  ix : ∀ (X : Cx) (W : WX), X.K = K → ∀ (ea eb : Expr) (da db : DE) (pos : Pos), PE X ea (liftE X.K W da) → PE X eb (liftE X.K W db) → PlainIx eb → PE X (.Subscript ea eb pos) (liftE X.K W (dBin gx da db))
  sl : ∀ (X : Cx) (W : WX), X.K = K → ∀ (e : Expr) (lo hi : Option Expr) (de : DE) (dl dh : DO) (pos p2 : Pos), PE X e (liftE X.K W de) → PO X lo (liftO X.K W dl) → PO X hi (liftO X.K W dh) → PE X (.Subscript e (.Slice lo hi none p2) pos) (liftE X.K W (dSlG gs de dl dh))
theorem scrF (K : PySem.W.Frag) : ScrR K bLen gIx gSlF := ⟨fun X _ => b_len, fun X W _ ea eb da db pos ha hb hs => d_ix ha hb hs, fun X W _ e lo hi de dl dh pos p2 he hl hu => d_sliceF he hl hu⟩
theorem scrS {K : PySem.W.Frag} {a : Addr} {ns : List Int} (hS : ∀ H, SqL K H a (ns.map V.int)) : ScrR K (bLenS a ns) (gIxS a ns) (gSlS a ns) :=
  ⟨fun X e => b_lenS (by rw [e]; exact hS), fun X W e ea eb da db pos ha hb hs => d_ixS (by rw [e]; exact hS) ha hb hs, fun X W e e' lo hi de dl dh pos p2 he hl hu => d_sliceS (by rw [e]; exact hS) he hl hu⟩
end DX

/-! part DZ1 -/
/-! DZ1: zip of two or three, each a list or a tuple. -/
namespace DZ
open PySem PySem.F PySem.Spec PyProof.Rows L2
theorem ad {a b : Nat} (h : a < b ∨ b < a) : a ≠ b := by omega
def AIt (h : Heap) : Bool → Addr → Addr → Nat → Prop
  | true, it, l, i => h.IsListIter it l i
  | false, it, l, i => h.IsTupleIter it l i
def ASq (h : Heap) : Bool → Addr → Array Value → Prop
  | true, l, xs => h.IsList l xs
  | false, l, xs => h.IsTuple l xs
def itO : Bool → Addr → Obj
  | true, l => { cls := .type "list_iterator", data := .fields #[.ref l, .int 0 0] }
  | false, l => { cls := .type "tuple_iterator", data := .fields #[.ref l, .int 0 0] }
abbrev TupA (h : Heap) (T : Addr) (xs : Array Value) : Prop := h.get? T = some { cls := .type "tuple", data := .seq xs }
theorem AIt.ext {h h' : Heap} {k : Bool} {it l b : Addr} {i : Nat} (x : AIt h k it l i) (hs : Heap.ExtBut b h h') (n : it ≠ b) : AIt h' k it l i := by
  cases k
  · exact Heap.IsTupleIter.extBut x hs n
  · exact Heap.IsListIter.extBut x hs n
theorem AIt.at {h h' : Heap} {k : Bool} {it l : Addr} {i : Nat} (x : AIt h k it l i) (e : ∀ o, h.get? it = some o → h'.get? it = some o) : AIt h' k it l i := by
  cases k
  · exact Heap.IsTupleIter.at x e
  · exact Heap.IsListIter.at x e
theorem AIt.get {h : Heap} {k : Bool} {it l : Addr} {i : Nat} (x : AIt h k it l i) : ∃ o, h.get? it = some o ∧ o.data = .fields #[.ref l, .int i 0] := by
  cases k
  · obtain ⟨o, e, _, d⟩ := x
    exact ⟨o, e, d⟩
  · obtain ⟨o, e, _, d⟩ := x
    exact ⟨o, e, d⟩
theorem AIt.new {h : Heap} {k : Bool} {it l : Addr} (x : h.get? it = some (itO k l)) : AIt h k it l 0 := by
  cases k
  · exact ⟨_, x, rfl, rfl⟩
  · exact ⟨_, x, rfl, rfl⟩
theorem itO_free (k : Bool) (l : Addr) : (itO k l).isFreed = false := by cases k <;> rfl
theorem ASq.ext {h h' : Heap} {k : Bool} {l b : Addr} {xs : Array Value} (x : ASq h k l xs) (hs : Heap.ExtBut b h h') (n : l ≠ b) : ASq h' k l xs := by
  cases k
  · exact Heap.IsTuple.extBut x hs n
  · exact Heap.IsList.extBut x hs n
theorem ASq.push {h : Heap} {k : Bool} {l : Addr} {xs : Array Value} (x : ASq h k l xs) (o : Obj) : ASq (h.push o) k l xs := by
  cases k
  · exact Heap.IsTuple.push x o
  · exact Heap.IsList.push x o
section
variable {prog : Program} {w : World} {A : Around} {E : Value → Shared → Prop} {s : Shared}
theorem next_item {k : Bool} {it l : Addr} {i : Nat} {items} {x : Value} {Q : Value → Shared → Prop} (hit : AIt s.heap k it l i)
    (hl : ASq s.heap k l items) (hx : items[i]? = some x)
    (hQ : ∀ h', AIt h' k it l (i + 1) → Heap.SameBut it s.heap h' → Q x { s with heap := h' }) :
    wpAny (model prog w) A (Builtin.SmallTypes.nextOf (.ref it)) Q E s := by
  cases k
  · exact RZ.nextOf_tuple_item hit hl hx hQ
  · exact wpAny_nextOf_list_item hit hl hx hQ
theorem next_end {k : Bool} {it l : Addr} {i : Nat} {items} {Q : Value → Shared → Prop} (hh : A.handled = none)
    (hit : AIt s.heap k it l i) (hl : ASq s.heap k l items) (hx : items[i]? = none)
    (hE : ∀ h' e, Heap.ExtBut it s.heap h' → (∃ o, h'.get? e = some o ∧ o.cls = .type "StopIteration") → E (.ref e) { s with heap := h' }) :
    wpAny (model prog w) A (Builtin.SmallTypes.nextOf (.ref it)) Q E s := by
  cases k
  · exact RZ.nextOf_tuple_end hh hit hl hx hE
  · exact wpAny_nextOf_list_end hh hit hl hx hE
theorem iter_any {k : Bool} {l : Addr} {items} {Q : Value → Shared → Prop} (ht : ASq s.heap k l items)
    (hQ : Q (.ref s.heap.objs.size) { s with heap := s.heap.push (itO k l) }) :
    wpAny (model prog w) A (pyIter (.ref l)) Q E s := by
  cases k
  · exact wpAny_pyIter_tuple ht hQ
  · exact wpAny_pyIter_list ht hQ
theorem updateSeq_arr {T : Addr} {arr : Array Value} {x : Value} {k : Nat} {Q : Unit → Shared → Prop} (h3 : arr.size ≤ 3) (hT : TupA s.heap T arr)
    (h : ∀ h', TupA h' T (arr.setIfInBounds k x) → Heap.SameBut T s.heap h' → Q () { s with heap := h' }) :
    wpAny (model prog w) A (updateSeq T (·.setIfInBounds k x)) Q E s := by
  refine wpAny_updateSeq hT rfl (h _ ?_ (Heap.SameBut.update ..)) (by have : (3 : Nat) ≤ sizeLine := (by decide); omega) (by have : (3 : Nat) ≤ sizeLine := (by decide); rw [Array.size_setIfInBounds]; omega)
  rw [TupA, Heap.get?_update_self _ hT rfl]
  simp [Obj.mapSeq]
end
theorem typeCall_zip_3 (a b c : Value) : checkTypeCall "zip" ⟨[a, b, c], []⟩ = pure () := by kernel_rfl
theorem newCall_zip_3 (a b c : Value) : checkBuiltinCall "zip.__new__" ⟨[.type "zip", a, b, c], []⟩ = pure () := by kernel_rfl
theorem args_object_init_4 (a b c d : Value) : argsOk "object.__init__" ⟨[a, b, c, d], []⟩ := by
  unfold argsOk; rw [signature?_of (id := "object.__init__") (n := ['_', '_', 't', 'i', 'n', 'i', '_', '_']) (o := ['t', 'c', 'e', 'j', 'b', 'o']) (by kernel_rfl) owner_object]; kernel_rfl

def SqA (K : PySem.W.Frag) (H : Hp) : Bool → Addr → List V → Prop
  | true, a, xs => SqL K H a xs
  | false, a, xs => SqT K H a xs
theorem sqa_at {X : Cx} {pins : List (Addr × Obj)} {σ : L2.St} {H : Hp} {s : Shared} {b : Bool} {a : Addr} {xs : List V} (I : Inv X pins σ H s) (h : SqA X.K H b a xs) : ∃ its : List Value, Vals xs its ∧ ASq s.heap b a its.toArray := by
  cases b
  · obtain ⟨its, rv, p, _⟩ := I.tuple h
    exact ⟨its, rv, p⟩
  · obtain ⟨its, rv, p, _⟩ := I.list h
    exact ⟨its, rv, p.isList⟩
theorem sqa_inj {X : Cx} {pins : List (Addr × Obj)} {σ : L2.St} {H : Hp} {s : Shared} {b : Bool} {a : Addr} {xs ys : List V} (I : Inv X pins σ H s) (h : SqA X.K H b a xs) (h' : SqA X.K H b a ys) : xs = ys := by
  cases b
  · exact I.tuple_inj h h'
  · exact I.list_inj h h'
theorem asq_lt {h : Heap} {b : Bool} {a : Addr} {xs : Array Value} (p : ASq h b a xs) : a < h.objs.size := by
  cases b
  · obtain ⟨o, e, _⟩ := p
    exact Heap.lt_size e
  · obtain ⟨o, e, _⟩ := p
    exact Heap.lt_size e
theorem vals_cons {x : V} {xs : List V} {us : List Value} (r : Vals (x :: xs) us) : ∃ v vs, us = v :: vs ∧ RelV x v ∧ Vals xs vs := by
  cases r with
  | cons a b => exact ⟨_, _, rfl, a, b⟩
section
variable {prog : Program} {w : World} {A : Around} {E : Value → Shared → Prop} {s : Shared}
theorem zn2_item {I : Nat} {l1 l2 : Nat} {b1 b2 : Bool} {k : Nat} {xs1 xs2 : Array Value} {y1 y2 : Value} {x1 x2 : Value} {Q : Value → Shared → Prop} (L1 : l1 < I) (L2 : l2 < I)
    (hz : IsZip s.heap (I + 4) (I + 2) (I + 3) .none) (hTI : TupA s.heap (I + 2) #[.ref I, .ref (I + 1)]) (hTO : TupA s.heap (I + 3) #[y1, y2]) (it1 : AIt s.heap b1 I l1 k) (it2 : AIt s.heap b2 (I + 1) l2 k) (sq1 : ASq s.heap b1 l1 xs1) (sq2 : ASq s.heap b2 l2 xs2) (e1 : xs1[k]? = some x1) (e2 : xs2[k]? = some x2)
    (hQ : ∀ h', IsZip h' (I + 4) (I + 2) (I + 3) (rawInt s.heap.objs.size) → TupA h' (I + 3) #[x1, x2] → AIt h' b1 I l1 (k + 1) → AIt h' b2 (I + 1) l2 (k + 1) → TupA h' s.heap.objs.size #[x1, x2] → h'.objs.size = s.heap.objs.size + 1 → (∀ (c : Nat) o, (c < I ∨ c = I + 2 ∨ I + 4 < c) → s.heap.get? c = some o → h'.get? c = some o) → Q (.ref s.heap.objs.size) { s with heap := h' }) :
    wpAny (model prog w) A (Builtin.«zip.__next__» ⟨[.ref (I + 4)], []⟩) (fun fin s' => ∃ v, fin = .done (.ret v) ∧ Q v s') E s := by
  show wpAny _ _ (field (.ref (I + 4)) 2 >>= _) _ _ _
  refine wpAny_bind (wpAny_field hz rfl (x := .bool false) rfl ?_)
  show wpAny _ _ (field (.ref (I + 4)) 3 >>= _) _ _ _
  refine wpAny_bind (wpAny_field hz rfl (x := .ref (I + 2)) rfl ?_)
  refine wpAny_bind (wpAny_seqItems hTI rfl ?_)
  show wpAny _ _ (Builtin.SmallTypes.ownedTupleIsFree (.ref (I + 4)) >>= _) _ _ _
  refine wpAny_bind ?_
  unfold Builtin.SmallTypes.ownedTupleIsFree
  refine wpAny_bind (wpAny_field hz rfl (x := .none) rfl (wpAny_pure ?_))
  simp only [if_true]
  refine wpAny_bind (wpAny_rule ?_)
  refine wpAny_bind (wpAny_field hz rfl (x := .ref (I + 3)) rfl ?_)
  refine wpAny_bind (wpAny_setField_rec hz (by simp) fun g hz1 hs => ?_)
  have hk : ∀ (c : Nat) o, (c < I ∨ c = I + 2 ∨ I + 4 < c) → s.heap.get? c = some o → g.get? c = some o := fun c o hc e => hs.extBut _ _ (by first | omega | exact ad (by omega)) e
  have hsz : g.objs.size = s.heap.objs.size := hs.1
  replace hz : IsZip g (I + 4) (I + 2) (I + 3) .ellipsis := hz1
  replace hTO := hs.extBut _ _ (by first | omega | exact ad (by omega)) hTO
  replace it1 := it1.ext hs.extBut (by first | omega | exact ad (by omega))
  replace sq1 := sq1.ext hs.extBut (by first | omega | exact ad (by omega))
  replace it2 := it2.ext hs.extBut (by first | omega | exact ad (by omega))
  replace sq2 := sq2.ext hs.extBut (by first | omega | exact ad (by omega))
  clear hz1 hs
  refine wpAny_bind ?_
  simp only [List.zipIdx_cons, List.zipIdx_nil, List.forIn_cons, List.forIn_nil]
  refine wpAny_bind (wpAny_bind (wpAny_onRaise ?_))
  show wpAny _ _ (Builtin.SmallTypes.nextOf (.ref I) >>= _) _ _ _
  refine wpAny_bind (next_item it1 sq1 e1 fun g1 it1' hs => wpAny_pure ?_)
  clear it1
  have it1 := it1'
  clear it1'
  replace hz := hs.extBut _ _ (by first | omega | exact ad (by omega)) hz
  replace hTO := hs.extBut _ _ (by first | omega | exact ad (by omega)) hTO
  replace sq1 := sq1.ext hs.extBut (by first | omega | exact ad (by omega))
  replace it2 := it2.ext hs.extBut (by first | omega | exact ad (by omega))
  replace sq2 := sq2.ext hs.extBut (by first | omega | exact ad (by omega))
  replace hk : ∀ (c : Nat) o, (c < I ∨ c = I + 2 ∨ I + 4 < c) → s.heap.get? c = some o → g1.get? c = some o := fun c o hc e => hs.extBut _ _ (by first | omega | exact ad (by omega)) (hk c o hc e)
  replace hsz : g1.objs.size = s.heap.objs.size := by rw [hs.1, hsz]
  clear hs
  refine wpAny_bind (wpAny_seqItems hTO rfl ?_)
  refine wpAny_bind (updateSeq_arr (by simp) hTO fun g2 hTO1 hs => ?_)
  replace hTO : TupA g2 (I + 3) #[x1, y2] := hTO1
  clear hTO1
  replace hz := hs.extBut _ _ (by first | omega | exact ad (by omega)) hz
  replace it1 := it1.ext hs.extBut (by first | omega | exact ad (by omega))
  replace sq1 := sq1.ext hs.extBut (by first | omega | exact ad (by omega))
  replace it2 := it2.ext hs.extBut (by first | omega | exact ad (by omega))
  replace sq2 := sq2.ext hs.extBut (by first | omega | exact ad (by omega))
  replace hk : ∀ (c : Nat) o, (c < I ∨ c = I + 2 ∨ I + 4 < c) → s.heap.get? c = some o → g2.get? c = some o := fun c o hc e => hs.extBut _ _ (by first | omega | exact ad (by omega)) (hk c o hc e)
  replace hsz : g2.objs.size = s.heap.objs.size := by rw [hs.1, hsz]
  clear hs
  refine wpAny_bind (wpAny_letGo (wpAny_pure ?_))
  refine wpAny_bind (wpAny_bind (wpAny_onRaise ?_))
  show wpAny _ _ (Builtin.SmallTypes.nextOf (.ref (I + 1)) >>= _) _ _ _
  refine wpAny_bind (next_item it2 sq2 e2 fun g1 it2' hs => wpAny_pure ?_)
  clear it2
  have it2 := it2'
  clear it2'
  replace hz := hs.extBut _ _ (by first | omega | exact ad (by omega)) hz
  replace hTO := hs.extBut _ _ (by first | omega | exact ad (by omega)) hTO
  replace it1 := it1.ext hs.extBut (by first | omega | exact ad (by omega))
  replace sq1 := sq1.ext hs.extBut (by first | omega | exact ad (by omega))
  replace sq2 := sq2.ext hs.extBut (by first | omega | exact ad (by omega))
  replace hk : ∀ (c : Nat) o, (c < I ∨ c = I + 2 ∨ I + 4 < c) → s.heap.get? c = some o → g1.get? c = some o := fun c o hc e => hs.extBut _ _ (by first | omega | exact ad (by omega)) (hk c o hc e)
  replace hsz : g1.objs.size = s.heap.objs.size := by rw [hs.1, hsz]
  clear hs
  refine wpAny_bind (wpAny_seqItems hTO rfl ?_)
  refine wpAny_bind (updateSeq_arr (by simp) hTO fun g2 hTO1 hs => ?_)
  replace hTO : TupA g2 (I + 3) #[x1, x2] := hTO1
  clear hTO1
  replace hz := hs.extBut _ _ (by first | omega | exact ad (by omega)) hz
  replace it1 := it1.ext hs.extBut (by first | omega | exact ad (by omega))
  replace sq1 := sq1.ext hs.extBut (by first | omega | exact ad (by omega))
  replace it2 := it2.ext hs.extBut (by first | omega | exact ad (by omega))
  replace sq2 := sq2.ext hs.extBut (by first | omega | exact ad (by omega))
  replace hk : ∀ (c : Nat) o, (c < I ∨ c = I + 2 ∨ I + 4 < c) → s.heap.get? c = some o → g2.get? c = some o := fun c o hc e => hs.extBut _ _ (by first | omega | exact ad (by omega)) (hk c o hc e)
  replace hsz : g2.objs.size = s.heap.objs.size := by rw [hs.1, hsz]
  clear hs
  refine wpAny_bind (wpAny_letGo (wpAny_pure (wpAny_pure ?_)))
  refine wpAny_bind (wpAny_seqItems hTO rfl ?_)
  refine wpAny_bind (wpAny_newTuple ?_)
  have hzlt : (I + 4) < g2.objs.size := Heap.lt_size hz
  have hTOlt : (I + 3) < g2.objs.size := Heap.lt_size hTO
  show wpAny _ _ (Builtin.SmallTypes.ownedTupleHandOut (.ref (I + 4)) (.ref g2.objs.size) >>= _) _ _ _
  refine wpAny_bind ?_
  unfold Builtin.SmallTypes.ownedTupleHandOut
  have hz₆ : IsZip (g2.push { cls := .type "tuple", data := .seq #[x1, x2] }) (I + 4) (I + 2) (I + 3) .ellipsis := Heap.get?_push_of_some _ hz
  refine wpAny_bind (wpAny_setField_rec hz₆ (by simp) fun h₇ hz₇ hs₇ => ?_)
  replace hz₇ : IsZip h₇ (I + 4) (I + 2) (I + 3) (rawInt g2.objs.size) := hz₇
  refine wpAny_setField_rec hz₇ (by simp) fun h₈ hz₈ hs₈ => ?_
  replace hz₈ : IsZip h₈ (I + 4) (I + 2) (I + 3) (rawInt g2.objs.size) := hz₈
  have up : ∀ (c : Nat) o, c ≠ (I + 4) → g2.get? c = some o → h₈.get? c = some o := fun c o c1 e => hs₈.extBut _ _ c1 (hs₇.extBut _ _ c1 (Heap.get?_push_of_some _ e))
  have hT₈ : TupA h₈ g2.objs.size #[x1, x2] := hs₈.extBut _ _ (Nat.ne_of_gt hzlt) (hs₇.extBut _ _ (Nat.ne_of_gt hzlt) (Heap.get?_push_size _ rfl))
  have hz8 : h₈.objs.size = g2.objs.size + 1 := by rw [hs₈.1, hs₇.1, Heap.size_push]
  rw [hsz] at hz₈ hT₈ hz8
  refine wpAny_pure ⟨_, rfl, ?_⟩
  show Q (.ref g2.objs.size) _
  rw [hsz]
  exact hQ h₈ hz₈ (up _ _ (by first | omega | exact ad (by omega)) hTO) (it1.at fun o e => up _ o (by first | omega | exact ad (by omega)) e) (it2.at fun o e => up _ o (by first | omega | exact ad (by omega)) e) hT₈ hz8 fun c o hc e => up c o (by first | omega | exact ad (by omega)) (hk c o hc e)
theorem zn2_end {I : Nat} {l1 l2 : Nat} {b1 b2 : Bool} {k : Nat} {xs1 xs2 : Array Value} {y1 y2 : Value} {Q : Fin → Shared → Prop} (hh : A.handled = none) (L1 : l1 < I) (L2 : l2 < I)
    (hz : IsZip s.heap (I + 4) (I + 2) (I + 3) .none) (hTI : TupA s.heap (I + 2) #[.ref I, .ref (I + 1)]) (hTO : TupA s.heap (I + 3) #[y1, y2]) (it1 : AIt s.heap b1 I l1 k) (it2 : AIt s.heap b2 (I + 1) l2 k) (sq1 : ASq s.heap b1 l1 xs1) (sq2 : ASq s.heap b2 l2 xs2) (hend : xs1[k]? = none ∨ xs2[k]? = none)
    (hE : ∀ h' e, (∀ (c : Nat) o, (c < I ∨ c = I + 2 ∨ I + 4 < c) → s.heap.get? c = some o → h'.get? c = some o) → (∃ o, h'.get? e = some o ∧ o.cls = .type "StopIteration") → E (.ref e) { s with heap := h' }) :
    wpAny (model prog w) A (Builtin.«zip.__next__» ⟨[.ref (I + 4)], []⟩) Q E s := by
  show wpAny _ _ (field (.ref (I + 4)) 2 >>= _) _ _ _
  refine wpAny_bind (wpAny_field hz rfl (x := .bool false) rfl ?_)
  show wpAny _ _ (field (.ref (I + 4)) 3 >>= _) _ _ _
  refine wpAny_bind (wpAny_field hz rfl (x := .ref (I + 2)) rfl ?_)
  refine wpAny_bind (wpAny_seqItems hTI rfl ?_)
  show wpAny _ _ (Builtin.SmallTypes.ownedTupleIsFree (.ref (I + 4)) >>= _) _ _ _
  refine wpAny_bind ?_
  unfold Builtin.SmallTypes.ownedTupleIsFree
  refine wpAny_bind (wpAny_field hz rfl (x := .none) rfl (wpAny_pure ?_))
  simp only [if_true]
  refine wpAny_bind (wpAny_rule ?_)
  refine wpAny_bind (wpAny_field hz rfl (x := .ref (I + 3)) rfl ?_)
  refine wpAny_bind (wpAny_setField_rec hz (by simp) fun g hz1 hs => ?_)
  have hk : ∀ (c : Nat) o, (c < I ∨ c = I + 2 ∨ I + 4 < c) → s.heap.get? c = some o → g.get? c = some o := fun c o hc e => hs.extBut _ _ (by first | omega | exact ad (by omega)) e
  have hsz : g.objs.size = s.heap.objs.size := hs.1
  replace hz : IsZip g (I + 4) (I + 2) (I + 3) .ellipsis := hz1
  replace hTO := hs.extBut _ _ (by first | omega | exact ad (by omega)) hTO
  replace it1 := it1.ext hs.extBut (by first | omega | exact ad (by omega))
  replace sq1 := sq1.ext hs.extBut (by first | omega | exact ad (by omega))
  replace it2 := it2.ext hs.extBut (by first | omega | exact ad (by omega))
  replace sq2 := sq2.ext hs.extBut (by first | omega | exact ad (by omega))
  clear hz1 hs
  refine wpAny_bind ?_
  simp only [List.zipIdx_cons, List.zipIdx_nil, List.forIn_cons, List.forIn_nil]
  refine wpAny_bind (wpAny_bind (wpAny_onRaise ?_))
  show wpAny _ _ (Builtin.SmallTypes.nextOf (.ref I) >>= _) _ _ _
  cases e1 : xs1[k]? with
  | none =>
    refine wpAny_bind (next_end hh it1 sq1 e1 fun g3 e hs he => ?_)
    obtain ⟨oe, hoe, hce⟩ := he
    replace hz : IsZip g3 (I + 4) (I + 2) (I + 3) .ellipsis := hs _ _ (by first | omega | exact ad (by omega)) hz
    have hez : e ≠ (I + 4) := fun x => by subst x; rw [hz] at hoe; cases hoe; simp at hce
    refine wpAny_setField_rec hz (by simp) fun g4 _ hs4 => hE g4 e (fun c o hc x => hs4.extBut _ _ (by first | omega | exact ad (by omega)) (hs _ _ (by first | omega | exact ad (by omega)) (hk c o hc x))) ⟨oe, hs4.extBut _ _ hez hoe, hce⟩
  | some x1 =>
    refine wpAny_bind (next_item it1 sq1 e1 fun g1 it1' hs => wpAny_pure ?_)
    clear it1
    have it1 := it1'
    clear it1'
    replace hz := hs.extBut _ _ (by first | omega | exact ad (by omega)) hz
    replace hTO := hs.extBut _ _ (by first | omega | exact ad (by omega)) hTO
    replace sq1 := sq1.ext hs.extBut (by first | omega | exact ad (by omega))
    replace it2 := it2.ext hs.extBut (by first | omega | exact ad (by omega))
    replace sq2 := sq2.ext hs.extBut (by first | omega | exact ad (by omega))
    replace hk : ∀ (c : Nat) o, (c < I ∨ c = I + 2 ∨ I + 4 < c) → s.heap.get? c = some o → g1.get? c = some o := fun c o hc e => hs.extBut _ _ (by first | omega | exact ad (by omega)) (hk c o hc e)
    replace hsz : g1.objs.size = s.heap.objs.size := by rw [hs.1, hsz]
    clear hs
    refine wpAny_bind (wpAny_seqItems hTO rfl ?_)
    refine wpAny_bind (updateSeq_arr (by simp) hTO fun g2 hTO1 hs => ?_)
    replace hTO : TupA g2 (I + 3) #[x1, y2] := hTO1
    clear hTO1
    replace hz := hs.extBut _ _ (by first | omega | exact ad (by omega)) hz
    replace it1 := it1.ext hs.extBut (by first | omega | exact ad (by omega))
    replace sq1 := sq1.ext hs.extBut (by first | omega | exact ad (by omega))
    replace it2 := it2.ext hs.extBut (by first | omega | exact ad (by omega))
    replace sq2 := sq2.ext hs.extBut (by first | omega | exact ad (by omega))
    replace hk : ∀ (c : Nat) o, (c < I ∨ c = I + 2 ∨ I + 4 < c) → s.heap.get? c = some o → g2.get? c = some o := fun c o hc e => hs.extBut _ _ (by first | omega | exact ad (by omega)) (hk c o hc e)
    replace hsz : g2.objs.size = s.heap.objs.size := by rw [hs.1, hsz]
    clear hs
    refine wpAny_bind (wpAny_letGo (wpAny_pure ?_))
    refine wpAny_bind (wpAny_bind (wpAny_onRaise ?_))
    show wpAny _ _ (Builtin.SmallTypes.nextOf (.ref (I + 1)) >>= _) _ _ _
    have e2 : xs2[k]? = none := by
      rcases hend with q | q
      · rw [e1] at q; cases q
      · exact q
    refine wpAny_bind (next_end hh it2 sq2 e2 fun g3 e hs he => ?_)
    obtain ⟨oe, hoe, hce⟩ := he
    replace hz : IsZip g3 (I + 4) (I + 2) (I + 3) .ellipsis := hs _ _ (by first | omega | exact ad (by omega)) hz
    have hez : e ≠ (I + 4) := fun x => by subst x; rw [hz] at hoe; cases hoe; simp at hce
    refine wpAny_setField_rec hz (by simp) fun g4 _ hs4 => hE g4 e (fun c o hc x => hs4.extBut _ _ (by first | omega | exact ad (by omega)) (hs _ _ (by first | omega | exact ad (by omega)) (hk c o hc x))) ⟨oe, hs4.extBut _ _ hez hoe, hce⟩
theorem py2_item {I : Nat} {l1 l2 : Nat} {b1 b2 : Bool} {k : Nat} {xs1 xs2 : Array Value} {y1 y2 : Value} {x1 x2 : Value} {Q : Option Value → Shared → Prop} (L1 : l1 < I) (L2 : l2 < I)
    (hz : IsZip s.heap (I + 4) (I + 2) (I + 3) .none) (hTI : TupA s.heap (I + 2) #[.ref I, .ref (I + 1)]) (hTO : TupA s.heap (I + 3) #[y1, y2]) (it1 : AIt s.heap b1 I l1 k) (it2 : AIt s.heap b2 (I + 1) l2 k) (sq1 : ASq s.heap b1 l1 xs1) (sq2 : ASq s.heap b2 l2 xs2) (e1 : xs1[k]? = some x1) (e2 : xs2[k]? = some x2)
    (hQ : ∀ h', IsZip h' (I + 4) (I + 2) (I + 3) (rawInt s.heap.objs.size) → TupA h' (I + 3) #[x1, x2] → AIt h' b1 I l1 (k + 1) → AIt h' b2 (I + 1) l2 (k + 1) → TupA h' s.heap.objs.size #[x1, x2] → h'.objs.size = s.heap.objs.size + 1 → (∀ (c : Nat) o, (c < I ∨ c = I + 2 ∨ I + 4 < c) → s.heap.get? c = some o → h'.get? c = some o) → Q (some (.ref s.heap.objs.size)) { s with heap := h' }) :
    wpAny (model prog w) A (pyNext (.ref (I + 4))) Q E s := by
  have hT : s.TypeIs (.ref (I + 4)) "zip" := ⟨_, hz, rfl⟩
  unfold pyNext
  exact wpAny_bind (wpAny_attempt (wpAny_callSpecial?_slot (name := Str.ofString "__next__") hT F.slot_zip_next
    (wpAny_call_entry F.slot_zip_next hT F.entry_zip_next
      (zn2_item L1 L2 hz hTI hTO it1 it2 sq1 sq2 e1 e2 fun h' a0 a1 a2 a3 a4 a5 a6 => wpAny_pure (hQ h' a0 a1 a2 a3 a4 a5 a6)) (F.args_zip_next_1 _))))
theorem py2_end {I : Nat} {l1 l2 : Nat} {b1 b2 : Bool} {k : Nat} {xs1 xs2 : Array Value} {y1 y2 : Value} {Q : Option Value → Shared → Prop} (hh : A.handled = none) (L1 : l1 < I) (L2 : l2 < I)
    (hz : IsZip s.heap (I + 4) (I + 2) (I + 3) .none) (hTI : TupA s.heap (I + 2) #[.ref I, .ref (I + 1)]) (hTO : TupA s.heap (I + 3) #[y1, y2]) (it1 : AIt s.heap b1 I l1 k) (it2 : AIt s.heap b2 (I + 1) l2 k) (sq1 : ASq s.heap b1 l1 xs1) (sq2 : ASq s.heap b2 l2 xs2) (hend : xs1[k]? = none ∨ xs2[k]? = none)
    (hQ : ∀ h', (∀ (c : Nat) o, (c < I ∨ c = I + 2 ∨ I + 4 < c) → s.heap.get? c = some o → h'.get? c = some o) → Q none { s with heap := h' }) : wpAny (model prog w) A (pyNext (.ref (I + 4))) Q E s := by
  have hT : s.TypeIs (.ref (I + 4)) "zip" := ⟨_, hz, rfl⟩
  unfold pyNext
  refine wpAny_bind (wpAny_attempt (wpAny_callSpecial?_slot (name := Str.ofString "__next__") hT F.slot_zip_next
    (wpAny_call_entry F.slot_zip_next hT F.entry_zip_next (zn2_end hh L1 L2 hz hTI hTO it1 it2 sq1 sq2 hend fun h' e hk he => ?_) (F.args_zip_next_1 _))))
  obtain ⟨o, ho, hc⟩ := he
  refine wpAny_bind (wpAny_isInstance (T := "StopIteration") (b := true) ⟨o, ho, hc⟩ isSubtype_stop ?_)
  exact wpAny_pure (hQ _ hk)
end
abbrev zH21 (h : Heap) (b1 : Bool) (l1 : Nat) : Heap := h.push (itO b1 l1)
abbrev zH22 (h : Heap) (b1 : Bool) (l1 : Nat) (b2 : Bool) (l2 : Nat) : Heap := (zH21 h b1 l1).push (itO b2 l2)
abbrev zH2T (h : Heap) (b1 : Bool) (l1 : Nat) (b2 : Bool) (l2 : Nat) : Heap := (zH22 h b1 l1 b2 l2).push { cls := .type "tuple", data := .seq #[.ref h.objs.size, .ref (zH21 h b1 l1).objs.size] }
abbrev zH2O (h : Heap) (b1 : Bool) (l1 : Nat) (b2 : Bool) (l2 : Nat) : Heap := (zH2T h b1 l1 b2 l2).push { cls := .type "tuple", data := .seq #[.none, .none] }
abbrev zH2Z (h : Heap) (b1 : Bool) (l1 : Nat) (b2 : Bool) (l2 : Nat) : Heap := (zH2O h b1 l1 b2 l2).push { cls := .type "zip", data := .fields #[.none, .bool false, .bool false, .ref (zH22 h b1 l1 b2 l2).objs.size, .ref (zH2T h b1 l1 b2 l2).objs.size] }
theorem meets2 {b1 b2 : Bool} (l1 l2 : Nat) (xs1 xs2 : Array Value) :
    Meets (Builtin.«zip.__new__» ⟨[.type "zip", .ref l1, .ref l2], []⟩) (fun _ R s => ASq s.heap b1 l1 xs1 ∧ ASq s.heap b2 l2 xs2 ∧ R (.ok (.ret (.ref (zH2O s.heap b1 l1 b2 l2).objs.size))) { s with heap := zH2Z s.heap b1 l1 b2 l2 }) :=
  .of_wp fun prog w A R s h => by
    obtain ⟨hp, g, d, tk, os⟩ := s; obtain ⟨sq1, sq2, h⟩ := h
    have hsub := sub_zip
    have hL1 : ASq (Shared.heap ⟨hp, g, d, tk, os⟩) b1 l1 xs1 := sq1
    have hL2 : ASq (Shared.heap ⟨(hp).push (itO b1 l1), g, d, tk, os⟩) b2 l2 xs2 := sq2.push _
    wp_walk using iter_any hL1, iter_any hL2
    exact ⟨_, rfl, h⟩
section
variable {prog : Program} {w : World} {A : Around} {E : Value → Shared → Prop} {s : Shared}
theorem call2 {b1 b2 : Bool} {l1 l2 : Nat} {xs1 xs2 : Array Value} {Q : Value → Shared → Prop} (sq1 : ASq s.heap b1 l1 xs1) (sq2 : ASq s.heap b2 l2 xs2)
    (h : ∀ h', IsZip h' (s.heap.objs.size + 4) (s.heap.objs.size + 2) (s.heap.objs.size + 3) .none → TupA h' (s.heap.objs.size + 2) #[.ref s.heap.objs.size, .ref (s.heap.objs.size + 1)] → TupA h' (s.heap.objs.size + 3) #[.none, .none] → AIt h' b1 s.heap.objs.size l1 0 → AIt h' b2 (s.heap.objs.size + 1) l2 0 → h'.objs.size = s.heap.objs.size + 5 → (∀ c o, s.heap.get? c = some o → h'.get? c = some o) → Q (.ref (s.heap.objs.size + 4)) { s with heap := h' }) :
    wpAny (model prog w) A (call (.type "zip") [.ref l1, .ref l2]) Q E s := by
  refine callType_new F.called_zip (by decide) (F.typeCall_zip_2 _ _ ) (F.newCall_zip_2 _ _ ) (fun obj => F.args_object_init_3 obj _ _ ) F.entry_zip_new
    (meets2 l1 l2 xs1 xs2) ⟨sq1, sq2, ?_⟩
  have z1 : (zH21 s.heap b1 l1).objs.size = s.heap.objs.size + 1 := by rw [Heap.size_push]
  have z2 : (zH22 s.heap b1 l1 b2 l2).objs.size = s.heap.objs.size + 2 := by rw [Heap.size_push, z1]
  have z3 : (zH2T s.heap b1 l1 b2 l2).objs.size = s.heap.objs.size + 3 := by rw [Heap.size_push, z2]
  have z4 : (zH2O s.heap b1 l1 b2 l2).objs.size = s.heap.objs.size + 4 := by rw [Heap.size_push, z3]
  have z5 : (zH2Z s.heap b1 l1 b2 l2).objs.size = s.heap.objs.size + 5 := by rw [Heap.size_push, z4]
  have g1 : (zH2Z s.heap b1 l1 b2 l2).get? s.heap.objs.size = some _ := Heap.get?_push_of_some _ (Heap.get?_push_of_some _ (Heap.get?_push_of_some _ (Heap.get?_push_of_some _ (Heap.get?_push_size _ (itO_free b1 l1)))))
  have g2 : (zH2Z s.heap b1 l1 b2 l2).get? (zH21 s.heap b1 l1).objs.size = some _ := Heap.get?_push_of_some _ (Heap.get?_push_of_some _ (Heap.get?_push_of_some _ (Heap.get?_push_size _ (itO_free b2 l2))))
  have g3 : (zH2Z s.heap b1 l1 b2 l2).get? (zH22 s.heap b1 l1 b2 l2).objs.size = some _ := Heap.get?_push_of_some _ (Heap.get?_push_of_some _ (Heap.get?_push_size _ rfl))
  have g4 : (zH2Z s.heap b1 l1 b2 l2).get? (zH2T s.heap b1 l1 b2 l2).objs.size = some _ := Heap.get?_push_of_some _ (Heap.get?_push_size _ rfl)
  have g5 : (zH2Z s.heap b1 l1 b2 l2).get? (zH2O s.heap b1 l1 b2 l2).objs.size = some _ := Heap.get?_push_size _ rfl
  show _ ∧ _
  rw [z1] at g2
  rw [z1, z2] at g3
  rw [z3] at g4
  rw [z2, z3, z4] at g5
  rw [z4]
  exact ⟨⟨_, g5, rfl⟩, h _ g5 g3 g4 (AIt.new g1) (AIt.new g2) z5 fun c o x => Heap.get?_push_of_some _ (Heap.get?_push_of_some _ (Heap.get?_push_of_some _ (Heap.get?_push_of_some _ (Heap.get?_push_of_some _ (x)))))⟩
end
def ItA2 (K : PySem.W.Frag) (b1 b2 : Bool) (l1 l2 : Nat) : It :=
  ⟨fun i H => ∃ (xs1 xs2 : List V) (x1 x2 : V), SqA K H b1 l1 xs1 ∧ SqA K H b2 l2 xs2 ∧ xs1[i]? = some x1 ∧ xs2[i]? = some x2,
    fun i H v H' => ∃ T x1 x2, v = .ref T ∧ H T = none ∧ H' = upd H T (.tup [x1, x2]) ∧ (∀ xs, SqA K H b1 l1 xs → xs[i]? = some x1) ∧ (∀ xs, SqA K H b2 l2 xs → xs[i]? = some x2),
    fun i H => ∃ xs1 xs2 : List V, SqA K H b1 l1 xs1 ∧ SqA K H b2 l2 xs2 ∧ (xs1.length ≤ i ∨ xs2.length ≤ i)⟩
theorem out2 {I c : Nat} (h : ¬ c ∈ [(I + 4), (I + 2), (I + 3), I, (I + 1)]) : (c < I ∨ c = I + 2 ∨ I + 4 < c) := by
  simp at h
  omega
theorem turn2 {P : Program} {w : World} {K : PySem.W.Frag} {elts : List Expr} {kk : Nat} {tpos : Pos} {b1 b2 : Bool} {l1 l2 : Nat} {I : Nat} (L1 : l1 < I) (L2 : l2 < I) :
    Turn P w K (.Tuple elts kk tpos) (ItA2 K b1 b2 l1 l2) [(I + 4), (I + 2), (I + 3), I, (I + 1)] (I + 4) (fun i h => IsZip h (I + 4) (I + 2) (I + 3) .none ∧ TupA h (I + 2) #[.ref I, .ref (I + 1)] ∧ (∃ y1 y2, TupA h (I + 3) #[y1, y2]) ∧ AIt h b1 I l1 i ∧ AIt h b2 (I + 1) l2 i) where
  mem := by simp
  obj := fun i h st c hc => by
    obtain ⟨hz, hTI, ⟨y1, y2, hTO⟩, it1, it2⟩ := st
    have e' : c = (I + 4) ∨ c = (I + 2) ∨ c = (I + 3) ∨ c = I ∨ c = (I + 1) := by simpa using hc
    rcases e' with q | q | q | q | q
    · rw [q]; exact ⟨_, hz, fun v q => nomatch q⟩
    · rw [q]; exact ⟨_, hTI, fun v q => nomatch q⟩
    · rw [q]; exact ⟨_, hTO, fun v q => nomatch q⟩
    · rw [q]; obtain ⟨o, e, d⟩ := it1.get; exact ⟨o, e, fun v q => by rw [d] at q; cases q⟩
    · rw [q]; obtain ⟨o, e, d⟩ := it2.get; exact ⟨o, e, fun v q => by rw [d] at q; cases q⟩
  keep := fun i h h' st k => by
    obtain ⟨hz, hTI, ⟨y1, y2, hTO⟩, it1, it2⟩ := st
    exact ⟨k _ (by simp) _ hz, k _ (by simp) _ hTI, ⟨y1, y2, k _ (by simp) _ hTO⟩, it1.at fun o q => k _ (by simp) o q, it2.at fun o q => k _ (by simp) o q⟩
  item := by
    intro X hP hw hK hc i pins s σ H E Iv hf st hg
    subst hP hw hK
    obtain ⟨hz, hTI, ⟨y1, y2, hTO⟩, it1, it2⟩ := st
    obtain ⟨xs1, xs2, x1, x2, q1, q2, e1, e2⟩ := hg
    obtain ⟨its1, rv1, p1⟩ := sqa_at Iv q1
    obtain ⟨u1, hu1, ru1⟩ := rv1.get e1
    obtain ⟨its2, rv2, p2⟩ := sqa_at Iv q2
    obtain ⟨u2, hu2, ru2⟩ := rv2.get e2
    have hzl : (I + 4) < s.heap.objs.size := Heap.lt_size hz
    refine py2_item L1 L2 hz hTI hTO it1 it2 p1 p2 (x1 := u1) (x2 := u2) (by simpa using hu1) (by simpa using hu2) fun h' z' TO' it1w it2w hT hsz hk => ?_
    refine ⟨_, rfl, wpAny_letOwnedTupleGo_zip (s := { s with heap := h' }) z' fun h'' z'' sb => ?_⟩
    have hT2 : h''.get? s.heap.objs.size = some { cls := .type "tuple", data := .seq #[u1, u2] } := (sb.2 _ (Nat.ne_of_gt hzl)).trans hT
    have new : ObjOk X.prog X.w (upd H s.heap.objs.size (.tup [x1, x2])) h'' s.heap.objs.size (.tup [x1, x2]) :=
      ⟨by show 2 ≤ sizeLine; decide, [u1, u2], .cons ru1 (.cons ru2 .nil), ⟨_, hT2, rfl, _, rfl⟩⟩
    have I1 : Inv X pins σ (upd H s.heap.objs.size (.tup [x1, x2])) { s with heap := h'' } :=
      Iv.turnedNew (t' := s.toks) (ch := [(I + 4), (I + 2), (I + 3), I, (I + 1)]) (fun (c : Nat) o hb q => (sb.2 c (fun q' => hb (by simp [q']))).trans (hk c o (out2 hb) q)) hf (Nat.le_refl _) new
    refine ⟨.ref s.heap.objs.size, _, I1, rfl, ⟨_, x1, x2, rfl, Iv.hok.fresh (Nat.le_refl _), rfl, fun l hl => by rw [sqa_inj Iv hl q1]; exact e1, fun l hl => by rw [sqa_inj Iv hl q2]; exact e2⟩, ⟨z'', ?_, ⟨u1, u2, ?_⟩, ?_, ?_⟩, fun (c : Nat) hcm => ?_⟩
    · exact (sb.2 _ (by first | omega | exact ad (by omega))).trans (hk _ _ (by first | omega | exact ad (by omega)) hTI)
    · exact (sb.2 _ (by first | omega | exact ad (by omega))).trans TO'
    · exact it1w.at fun o q => (sb.2 _ (by first | omega | exact ad (by omega))).trans q
    · exact it2w.at fun o q => (sb.2 _ (by first | omega | exact ad (by omega))).trans q
    · have hlt : c < s.heap.objs.size := by
        have e' : c = (I + 4) ∨ c = (I + 2) ∨ c = (I + 3) ∨ c = I ∨ c = (I + 1) := by simpa using hcm
        omega
      rw [upd_ne (Nat.ne_of_lt hlt)]
      exact (hf c hcm).1
  done := by
    intro X hP hw hK hc i pins s σ H E Iv hf st hg
    subst hP hw hK
    obtain ⟨hz, hTI, ⟨y1, y2, hTO⟩, it1, it2⟩ := st
    obtain ⟨xs1, xs2, q1, q2, hend⟩ := hg
    obtain ⟨its1, rv1, p1⟩ := sqa_at Iv q1
    have m1 := rv1.length
    obtain ⟨its2, rv2, p2⟩ := sqa_at Iv q2
    have m2 := rv2.length
    have he : its1.toArray[i]? = none ∨ its2.toArray[i]? = none := by
      rcases hend with q | q
      · exact (.inl (by simp; first | omega | exact ad (by omega)))
      · exact (.inr (by simp; first | omega | exact ad (by omega)))
    exact py2_end (Iv.ok.hd hc) L1 L2 hz hTI hTO it1 it2 p1 p2 he fun h' hk => ⟨rfl, Iv.turnedL (t' := s.toks) (ch := [(I + 4), (I + 2), (I + 3), I, (I + 1)]) (fun (c : Nat) o hb q => hk c o (out2 hb) q) hf⟩
  self := fun A i s Q E st h => wpAny_pyIter_zip st.1 h
def iZA2 (K : PySem.W.Frag) (ta : TA) : TI := fun σ H R => ta σ H fun vs H1 => ∃ (b1 b2 : Bool) (l1 l2 : Nat) (xs1 xs2 : List V), vs = [.ref l1, .ref l2] ∧ SqA K H1 b1 l1 xs1 ∧ SqA K H1 b2 l2 xs2 ∧ R (ItA2 K b1 b2 l1 l2) H1
theorem pi2 {X : Cx} {a1 a2 : Expr} {ta : TA} {p pos tpos : Pos} {elts : List Expr} {kk : Nat} (hg : Gl X "zip") (hm : X.mg "zip" = none) (ha : PA X [a1, a2] ta)
    (hs : starEach [a1, a2] X.env = (false, eval a1 X.env) :: starEach [a2] X.env := by rfl) (hpl : (backTo pos (starEach [a2] X.env)).any (·.1) = false := by rfl) :
    PI X (.Tuple elts kk tpos) (.Call (.Name "zip" p) [a1, a2] [] pos) (iZA2 X.K ta) := by
  refine ⟨fun pins s σ H R I h => ?_⟩
  refine Call_ (ld_blt I hg hm PyProof.Rows.boot_zip (PyProof.Rows.callWith_type1 (thn (ha.run pos pins s σ H _ I h) fun us s1 ⟨vs, H1, I1, r1, q1⟩ => ?_) hs hpl))
  obtain ⟨b1, b2, l1, l2, xs1, xs2, ex, q1, q2, q⟩ := q1
  subst ex
  obtain ⟨v1, us1, rfl, w1, rr1⟩ := vals_cons r1
  obtain ⟨v2, us2, rfl, w2, rr2⟩ := vals_cons rr1
  cases rr2
  cases w1
  cases w2
  obtain ⟨its1, rv1, p1⟩ := sqa_at I1 q1
  have L1 := asq_lt p1
  obtain ⟨its2, rv2, p2⟩ := sqa_at I1 q2
  have L2 := asq_lt p2
  have fresh : ∀ c, c ∈ [(s1.heap.objs.size + 4), (s1.heap.objs.size + 2), (s1.heap.objs.size + 3), s1.heap.objs.size, (s1.heap.objs.size + 1)] → FpOk X pins H1 c := fun (c : Nat) hcm => by
    have hle : s1.heap.objs.size ≤ c := by
      have e' : c = (s1.heap.objs.size + 4) ∨ c = (s1.heap.objs.size + 2) ∨ c = (s1.heap.objs.size + 3) ∨ c = s1.heap.objs.size ∨ c = (s1.heap.objs.size + 1) := by simpa using hcm
      omega
    exact I1.fpOk hle (I1.hok.fresh hle)
  refine call2 p1 p2 ?_
  intro h' hz hTI hTO it1 it2 hsz hk
  refine wpAny_pyIter_zip hz ?_
  have I2 : Inv X pins σ H1 { s1 with heap := h' } := I1.kept (t' := s1.toks) hk
  exact ⟨s1.heap.objs.size + 4, [(s1.heap.objs.size + 4), (s1.heap.objs.size + 2), (s1.heap.objs.size + 3), s1.heap.objs.size, (s1.heap.objs.size + 1)], _, _, H1, rfl, I2, turn2 L1 L2, ⟨hz, hTI, ⟨_, _, hTO⟩, it1, it2⟩, fresh, q⟩
section
variable {prog : Program} {w : World} {A : Around} {E : Value → Shared → Prop} {s : Shared}
theorem zn3_item {I : Nat} {l1 l2 l3 : Nat} {b1 b2 b3 : Bool} {k : Nat} {xs1 xs2 xs3 : Array Value} {y1 y2 y3 : Value} {x1 x2 x3 : Value} {Q : Value → Shared → Prop} (L1 : l1 < I) (L2 : l2 < I) (L3 : l3 < I)
    (hz : IsZip s.heap (I + 5) (I + 3) (I + 4) .none) (hTI : TupA s.heap (I + 3) #[.ref I, .ref (I + 1), .ref (I + 2)]) (hTO : TupA s.heap (I + 4) #[y1, y2, y3]) (it1 : AIt s.heap b1 I l1 k) (it2 : AIt s.heap b2 (I + 1) l2 k) (it3 : AIt s.heap b3 (I + 2) l3 k) (sq1 : ASq s.heap b1 l1 xs1) (sq2 : ASq s.heap b2 l2 xs2) (sq3 : ASq s.heap b3 l3 xs3) (e1 : xs1[k]? = some x1) (e2 : xs2[k]? = some x2) (e3 : xs3[k]? = some x3)
    (hQ : ∀ h', IsZip h' (I + 5) (I + 3) (I + 4) (rawInt s.heap.objs.size) → TupA h' (I + 4) #[x1, x2, x3] → AIt h' b1 I l1 (k + 1) → AIt h' b2 (I + 1) l2 (k + 1) → AIt h' b3 (I + 2) l3 (k + 1) → TupA h' s.heap.objs.size #[x1, x2, x3] → h'.objs.size = s.heap.objs.size + 1 → (∀ (c : Nat) o, (c < I ∨ c = I + 3 ∨ I + 5 < c) → s.heap.get? c = some o → h'.get? c = some o) → Q (.ref s.heap.objs.size) { s with heap := h' }) :
    wpAny (model prog w) A (Builtin.«zip.__next__» ⟨[.ref (I + 5)], []⟩) (fun fin s' => ∃ v, fin = .done (.ret v) ∧ Q v s') E s := by
  show wpAny _ _ (field (.ref (I + 5)) 2 >>= _) _ _ _
  refine wpAny_bind (wpAny_field hz rfl (x := .bool false) rfl ?_)
  show wpAny _ _ (field (.ref (I + 5)) 3 >>= _) _ _ _
  refine wpAny_bind (wpAny_field hz rfl (x := .ref (I + 3)) rfl ?_)
  refine wpAny_bind (wpAny_seqItems hTI rfl ?_)
  show wpAny _ _ (Builtin.SmallTypes.ownedTupleIsFree (.ref (I + 5)) >>= _) _ _ _
  refine wpAny_bind ?_
  unfold Builtin.SmallTypes.ownedTupleIsFree
  refine wpAny_bind (wpAny_field hz rfl (x := .none) rfl (wpAny_pure ?_))
  simp only [if_true]
  refine wpAny_bind (wpAny_rule ?_)
  refine wpAny_bind (wpAny_field hz rfl (x := .ref (I + 4)) rfl ?_)
  refine wpAny_bind (wpAny_setField_rec hz (by simp) fun g hz1 hs => ?_)
  have hk : ∀ (c : Nat) o, (c < I ∨ c = I + 3 ∨ I + 5 < c) → s.heap.get? c = some o → g.get? c = some o := fun c o hc e => hs.extBut _ _ (by first | omega | exact ad (by omega)) e
  have hsz : g.objs.size = s.heap.objs.size := hs.1
  replace hz : IsZip g (I + 5) (I + 3) (I + 4) .ellipsis := hz1
  replace hTO := hs.extBut _ _ (by first | omega | exact ad (by omega)) hTO
  replace it1 := it1.ext hs.extBut (by first | omega | exact ad (by omega))
  replace sq1 := sq1.ext hs.extBut (by first | omega | exact ad (by omega))
  replace it2 := it2.ext hs.extBut (by first | omega | exact ad (by omega))
  replace sq2 := sq2.ext hs.extBut (by first | omega | exact ad (by omega))
  replace it3 := it3.ext hs.extBut (by first | omega | exact ad (by omega))
  replace sq3 := sq3.ext hs.extBut (by first | omega | exact ad (by omega))
  clear hz1 hs
  refine wpAny_bind ?_
  simp only [List.zipIdx_cons, List.zipIdx_nil, List.forIn_cons, List.forIn_nil]
  refine wpAny_bind (wpAny_bind (wpAny_onRaise ?_))
  show wpAny _ _ (Builtin.SmallTypes.nextOf (.ref I) >>= _) _ _ _
  refine wpAny_bind (next_item it1 sq1 e1 fun g1 it1' hs => wpAny_pure ?_)
  clear it1
  have it1 := it1'
  clear it1'
  replace hz := hs.extBut _ _ (by first | omega | exact ad (by omega)) hz
  replace hTO := hs.extBut _ _ (by first | omega | exact ad (by omega)) hTO
  replace sq1 := sq1.ext hs.extBut (by first | omega | exact ad (by omega))
  replace it2 := it2.ext hs.extBut (by first | omega | exact ad (by omega))
  replace sq2 := sq2.ext hs.extBut (by first | omega | exact ad (by omega))
  replace it3 := it3.ext hs.extBut (by first | omega | exact ad (by omega))
  replace sq3 := sq3.ext hs.extBut (by first | omega | exact ad (by omega))
  replace hk : ∀ (c : Nat) o, (c < I ∨ c = I + 3 ∨ I + 5 < c) → s.heap.get? c = some o → g1.get? c = some o := fun c o hc e => hs.extBut _ _ (by first | omega | exact ad (by omega)) (hk c o hc e)
  replace hsz : g1.objs.size = s.heap.objs.size := by rw [hs.1, hsz]
  clear hs
  refine wpAny_bind (wpAny_seqItems hTO rfl ?_)
  refine wpAny_bind (updateSeq_arr (by simp) hTO fun g2 hTO1 hs => ?_)
  replace hTO : TupA g2 (I + 4) #[x1, y2, y3] := hTO1
  clear hTO1
  replace hz := hs.extBut _ _ (by first | omega | exact ad (by omega)) hz
  replace it1 := it1.ext hs.extBut (by first | omega | exact ad (by omega))
  replace sq1 := sq1.ext hs.extBut (by first | omega | exact ad (by omega))
  replace it2 := it2.ext hs.extBut (by first | omega | exact ad (by omega))
  replace sq2 := sq2.ext hs.extBut (by first | omega | exact ad (by omega))
  replace it3 := it3.ext hs.extBut (by first | omega | exact ad (by omega))
  replace sq3 := sq3.ext hs.extBut (by first | omega | exact ad (by omega))
  replace hk : ∀ (c : Nat) o, (c < I ∨ c = I + 3 ∨ I + 5 < c) → s.heap.get? c = some o → g2.get? c = some o := fun c o hc e => hs.extBut _ _ (by first | omega | exact ad (by omega)) (hk c o hc e)
  replace hsz : g2.objs.size = s.heap.objs.size := by rw [hs.1, hsz]
  clear hs
  refine wpAny_bind (wpAny_letGo (wpAny_pure ?_))
  refine wpAny_bind (wpAny_bind (wpAny_onRaise ?_))
  show wpAny _ _ (Builtin.SmallTypes.nextOf (.ref (I + 1)) >>= _) _ _ _
  refine wpAny_bind (next_item it2 sq2 e2 fun g1 it2' hs => wpAny_pure ?_)
  clear it2
  have it2 := it2'
  clear it2'
  replace hz := hs.extBut _ _ (by first | omega | exact ad (by omega)) hz
  replace hTO := hs.extBut _ _ (by first | omega | exact ad (by omega)) hTO
  replace it1 := it1.ext hs.extBut (by first | omega | exact ad (by omega))
  replace sq1 := sq1.ext hs.extBut (by first | omega | exact ad (by omega))
  replace sq2 := sq2.ext hs.extBut (by first | omega | exact ad (by omega))
  replace it3 := it3.ext hs.extBut (by first | omega | exact ad (by omega))
  replace sq3 := sq3.ext hs.extBut (by first | omega | exact ad (by omega))
  replace hk : ∀ (c : Nat) o, (c < I ∨ c = I + 3 ∨ I + 5 < c) → s.heap.get? c = some o → g1.get? c = some o := fun c o hc e => hs.extBut _ _ (by first | omega | exact ad (by omega)) (hk c o hc e)
  replace hsz : g1.objs.size = s.heap.objs.size := by rw [hs.1, hsz]
  clear hs
  refine wpAny_bind (wpAny_seqItems hTO rfl ?_)
  refine wpAny_bind (updateSeq_arr (by simp) hTO fun g2 hTO1 hs => ?_)
  replace hTO : TupA g2 (I + 4) #[x1, x2, y3] := hTO1
  clear hTO1
  replace hz := hs.extBut _ _ (by first | omega | exact ad (by omega)) hz
  replace it1 := it1.ext hs.extBut (by first | omega | exact ad (by omega))
  replace sq1 := sq1.ext hs.extBut (by first | omega | exact ad (by omega))
  replace it2 := it2.ext hs.extBut (by first | omega | exact ad (by omega))
  replace sq2 := sq2.ext hs.extBut (by first | omega | exact ad (by omega))
  replace it3 := it3.ext hs.extBut (by first | omega | exact ad (by omega))
  replace sq3 := sq3.ext hs.extBut (by first | omega | exact ad (by omega))
  replace hk : ∀ (c : Nat) o, (c < I ∨ c = I + 3 ∨ I + 5 < c) → s.heap.get? c = some o → g2.get? c = some o := fun c o hc e => hs.extBut _ _ (by first | omega | exact ad (by omega)) (hk c o hc e)
  replace hsz : g2.objs.size = s.heap.objs.size := by rw [hs.1, hsz]
  clear hs
  refine wpAny_bind (wpAny_letGo (wpAny_pure ?_))
  refine wpAny_bind (wpAny_bind (wpAny_onRaise ?_))
  show wpAny _ _ (Builtin.SmallTypes.nextOf (.ref (I + 2)) >>= _) _ _ _
  refine wpAny_bind (next_item it3 sq3 e3 fun g1 it3' hs => wpAny_pure ?_)
  clear it3
  have it3 := it3'
  clear it3'
  replace hz := hs.extBut _ _ (by first | omega | exact ad (by omega)) hz
  replace hTO := hs.extBut _ _ (by first | omega | exact ad (by omega)) hTO
  replace it1 := it1.ext hs.extBut (by first | omega | exact ad (by omega))
  replace sq1 := sq1.ext hs.extBut (by first | omega | exact ad (by omega))
  replace it2 := it2.ext hs.extBut (by first | omega | exact ad (by omega))
  replace sq2 := sq2.ext hs.extBut (by first | omega | exact ad (by omega))
  replace sq3 := sq3.ext hs.extBut (by first | omega | exact ad (by omega))
  replace hk : ∀ (c : Nat) o, (c < I ∨ c = I + 3 ∨ I + 5 < c) → s.heap.get? c = some o → g1.get? c = some o := fun c o hc e => hs.extBut _ _ (by first | omega | exact ad (by omega)) (hk c o hc e)
  replace hsz : g1.objs.size = s.heap.objs.size := by rw [hs.1, hsz]
  clear hs
  refine wpAny_bind (wpAny_seqItems hTO rfl ?_)
  refine wpAny_bind (updateSeq_arr (by simp) hTO fun g2 hTO1 hs => ?_)
  replace hTO : TupA g2 (I + 4) #[x1, x2, x3] := hTO1
  clear hTO1
  replace hz := hs.extBut _ _ (by first | omega | exact ad (by omega)) hz
  replace it1 := it1.ext hs.extBut (by first | omega | exact ad (by omega))
  replace sq1 := sq1.ext hs.extBut (by first | omega | exact ad (by omega))
  replace it2 := it2.ext hs.extBut (by first | omega | exact ad (by omega))
  replace sq2 := sq2.ext hs.extBut (by first | omega | exact ad (by omega))
  replace it3 := it3.ext hs.extBut (by first | omega | exact ad (by omega))
  replace sq3 := sq3.ext hs.extBut (by first | omega | exact ad (by omega))
  replace hk : ∀ (c : Nat) o, (c < I ∨ c = I + 3 ∨ I + 5 < c) → s.heap.get? c = some o → g2.get? c = some o := fun c o hc e => hs.extBut _ _ (by first | omega | exact ad (by omega)) (hk c o hc e)
  replace hsz : g2.objs.size = s.heap.objs.size := by rw [hs.1, hsz]
  clear hs
  refine wpAny_bind (wpAny_letGo (wpAny_pure (wpAny_pure ?_)))
  refine wpAny_bind (wpAny_seqItems hTO rfl ?_)
  refine wpAny_bind (wpAny_newTuple ?_)
  have hzlt : (I + 5) < g2.objs.size := Heap.lt_size hz
  have hTOlt : (I + 4) < g2.objs.size := Heap.lt_size hTO
  show wpAny _ _ (Builtin.SmallTypes.ownedTupleHandOut (.ref (I + 5)) (.ref g2.objs.size) >>= _) _ _ _
  refine wpAny_bind ?_
  unfold Builtin.SmallTypes.ownedTupleHandOut
  have hz₆ : IsZip (g2.push { cls := .type "tuple", data := .seq #[x1, x2, x3] }) (I + 5) (I + 3) (I + 4) .ellipsis := Heap.get?_push_of_some _ hz
  refine wpAny_bind (wpAny_setField_rec hz₆ (by simp) fun h₇ hz₇ hs₇ => ?_)
  replace hz₇ : IsZip h₇ (I + 5) (I + 3) (I + 4) (rawInt g2.objs.size) := hz₇
  refine wpAny_setField_rec hz₇ (by simp) fun h₈ hz₈ hs₈ => ?_
  replace hz₈ : IsZip h₈ (I + 5) (I + 3) (I + 4) (rawInt g2.objs.size) := hz₈
  have up : ∀ (c : Nat) o, c ≠ (I + 5) → g2.get? c = some o → h₈.get? c = some o := fun c o c1 e => hs₈.extBut _ _ c1 (hs₇.extBut _ _ c1 (Heap.get?_push_of_some _ e))
  have hT₈ : TupA h₈ g2.objs.size #[x1, x2, x3] := hs₈.extBut _ _ (Nat.ne_of_gt hzlt) (hs₇.extBut _ _ (Nat.ne_of_gt hzlt) (Heap.get?_push_size _ rfl))
  have hz8 : h₈.objs.size = g2.objs.size + 1 := by rw [hs₈.1, hs₇.1, Heap.size_push]
  rw [hsz] at hz₈ hT₈ hz8
  refine wpAny_pure ⟨_, rfl, ?_⟩
  show Q (.ref g2.objs.size) _
  rw [hsz]
  exact hQ h₈ hz₈ (up _ _ (by first | omega | exact ad (by omega)) hTO) (it1.at fun o e => up _ o (by first | omega | exact ad (by omega)) e) (it2.at fun o e => up _ o (by first | omega | exact ad (by omega)) e) (it3.at fun o e => up _ o (by first | omega | exact ad (by omega)) e) hT₈ hz8 fun c o hc e => up c o (by first | omega | exact ad (by omega)) (hk c o hc e)
theorem zn3_end {I : Nat} {l1 l2 l3 : Nat} {b1 b2 b3 : Bool} {k : Nat} {xs1 xs2 xs3 : Array Value} {y1 y2 y3 : Value} {Q : Fin → Shared → Prop} (hh : A.handled = none) (L1 : l1 < I) (L2 : l2 < I) (L3 : l3 < I)
    (hz : IsZip s.heap (I + 5) (I + 3) (I + 4) .none) (hTI : TupA s.heap (I + 3) #[.ref I, .ref (I + 1), .ref (I + 2)]) (hTO : TupA s.heap (I + 4) #[y1, y2, y3]) (it1 : AIt s.heap b1 I l1 k) (it2 : AIt s.heap b2 (I + 1) l2 k) (it3 : AIt s.heap b3 (I + 2) l3 k) (sq1 : ASq s.heap b1 l1 xs1) (sq2 : ASq s.heap b2 l2 xs2) (sq3 : ASq s.heap b3 l3 xs3) (hend : xs1[k]? = none ∨ xs2[k]? = none ∨ xs3[k]? = none)
    (hE : ∀ h' e, (∀ (c : Nat) o, (c < I ∨ c = I + 3 ∨ I + 5 < c) → s.heap.get? c = some o → h'.get? c = some o) → (∃ o, h'.get? e = some o ∧ o.cls = .type "StopIteration") → E (.ref e) { s with heap := h' }) :
    wpAny (model prog w) A (Builtin.«zip.__next__» ⟨[.ref (I + 5)], []⟩) Q E s := by
  show wpAny _ _ (field (.ref (I + 5)) 2 >>= _) _ _ _
  refine wpAny_bind (wpAny_field hz rfl (x := .bool false) rfl ?_)
  show wpAny _ _ (field (.ref (I + 5)) 3 >>= _) _ _ _
  refine wpAny_bind (wpAny_field hz rfl (x := .ref (I + 3)) rfl ?_)
  refine wpAny_bind (wpAny_seqItems hTI rfl ?_)
  show wpAny _ _ (Builtin.SmallTypes.ownedTupleIsFree (.ref (I + 5)) >>= _) _ _ _
  refine wpAny_bind ?_
  unfold Builtin.SmallTypes.ownedTupleIsFree
  refine wpAny_bind (wpAny_field hz rfl (x := .none) rfl (wpAny_pure ?_))
  simp only [if_true]
  refine wpAny_bind (wpAny_rule ?_)
  refine wpAny_bind (wpAny_field hz rfl (x := .ref (I + 4)) rfl ?_)
  refine wpAny_bind (wpAny_setField_rec hz (by simp) fun g hz1 hs => ?_)
  have hk : ∀ (c : Nat) o, (c < I ∨ c = I + 3 ∨ I + 5 < c) → s.heap.get? c = some o → g.get? c = some o := fun c o hc e => hs.extBut _ _ (by first | omega | exact ad (by omega)) e
  have hsz : g.objs.size = s.heap.objs.size := hs.1
  replace hz : IsZip g (I + 5) (I + 3) (I + 4) .ellipsis := hz1
  replace hTO := hs.extBut _ _ (by first | omega | exact ad (by omega)) hTO
  replace it1 := it1.ext hs.extBut (by first | omega | exact ad (by omega))
  replace sq1 := sq1.ext hs.extBut (by first | omega | exact ad (by omega))
  replace it2 := it2.ext hs.extBut (by first | omega | exact ad (by omega))
  replace sq2 := sq2.ext hs.extBut (by first | omega | exact ad (by omega))
  replace it3 := it3.ext hs.extBut (by first | omega | exact ad (by omega))
  replace sq3 := sq3.ext hs.extBut (by first | omega | exact ad (by omega))
  clear hz1 hs
  refine wpAny_bind ?_
  simp only [List.zipIdx_cons, List.zipIdx_nil, List.forIn_cons, List.forIn_nil]
  refine wpAny_bind (wpAny_bind (wpAny_onRaise ?_))
  show wpAny _ _ (Builtin.SmallTypes.nextOf (.ref I) >>= _) _ _ _
  cases e1 : xs1[k]? with
  | none =>
    refine wpAny_bind (next_end hh it1 sq1 e1 fun g3 e hs he => ?_)
    obtain ⟨oe, hoe, hce⟩ := he
    replace hz : IsZip g3 (I + 5) (I + 3) (I + 4) .ellipsis := hs _ _ (by first | omega | exact ad (by omega)) hz
    have hez : e ≠ (I + 5) := fun x => by subst x; rw [hz] at hoe; cases hoe; simp at hce
    refine wpAny_setField_rec hz (by simp) fun g4 _ hs4 => hE g4 e (fun c o hc x => hs4.extBut _ _ (by first | omega | exact ad (by omega)) (hs _ _ (by first | omega | exact ad (by omega)) (hk c o hc x))) ⟨oe, hs4.extBut _ _ hez hoe, hce⟩
  | some x1 =>
    refine wpAny_bind (next_item it1 sq1 e1 fun g1 it1' hs => wpAny_pure ?_)
    clear it1
    have it1 := it1'
    clear it1'
    replace hz := hs.extBut _ _ (by first | omega | exact ad (by omega)) hz
    replace hTO := hs.extBut _ _ (by first | omega | exact ad (by omega)) hTO
    replace sq1 := sq1.ext hs.extBut (by first | omega | exact ad (by omega))
    replace it2 := it2.ext hs.extBut (by first | omega | exact ad (by omega))
    replace sq2 := sq2.ext hs.extBut (by first | omega | exact ad (by omega))
    replace it3 := it3.ext hs.extBut (by first | omega | exact ad (by omega))
    replace sq3 := sq3.ext hs.extBut (by first | omega | exact ad (by omega))
    replace hk : ∀ (c : Nat) o, (c < I ∨ c = I + 3 ∨ I + 5 < c) → s.heap.get? c = some o → g1.get? c = some o := fun c o hc e => hs.extBut _ _ (by first | omega | exact ad (by omega)) (hk c o hc e)
    replace hsz : g1.objs.size = s.heap.objs.size := by rw [hs.1, hsz]
    clear hs
    refine wpAny_bind (wpAny_seqItems hTO rfl ?_)
    refine wpAny_bind (updateSeq_arr (by simp) hTO fun g2 hTO1 hs => ?_)
    replace hTO : TupA g2 (I + 4) #[x1, y2, y3] := hTO1
    clear hTO1
    replace hz := hs.extBut _ _ (by first | omega | exact ad (by omega)) hz
    replace it1 := it1.ext hs.extBut (by first | omega | exact ad (by omega))
    replace sq1 := sq1.ext hs.extBut (by first | omega | exact ad (by omega))
    replace it2 := it2.ext hs.extBut (by first | omega | exact ad (by omega))
    replace sq2 := sq2.ext hs.extBut (by first | omega | exact ad (by omega))
    replace it3 := it3.ext hs.extBut (by first | omega | exact ad (by omega))
    replace sq3 := sq3.ext hs.extBut (by first | omega | exact ad (by omega))
    replace hk : ∀ (c : Nat) o, (c < I ∨ c = I + 3 ∨ I + 5 < c) → s.heap.get? c = some o → g2.get? c = some o := fun c o hc e => hs.extBut _ _ (by first | omega | exact ad (by omega)) (hk c o hc e)
    replace hsz : g2.objs.size = s.heap.objs.size := by rw [hs.1, hsz]
    clear hs
    refine wpAny_bind (wpAny_letGo (wpAny_pure ?_))
    refine wpAny_bind (wpAny_bind (wpAny_onRaise ?_))
    show wpAny _ _ (Builtin.SmallTypes.nextOf (.ref (I + 1)) >>= _) _ _ _
    cases e2 : xs2[k]? with
    | none =>
      refine wpAny_bind (next_end hh it2 sq2 e2 fun g3 e hs he => ?_)
      obtain ⟨oe, hoe, hce⟩ := he
      replace hz : IsZip g3 (I + 5) (I + 3) (I + 4) .ellipsis := hs _ _ (by first | omega | exact ad (by omega)) hz
      have hez : e ≠ (I + 5) := fun x => by subst x; rw [hz] at hoe; cases hoe; simp at hce
      refine wpAny_setField_rec hz (by simp) fun g4 _ hs4 => hE g4 e (fun c o hc x => hs4.extBut _ _ (by first | omega | exact ad (by omega)) (hs _ _ (by first | omega | exact ad (by omega)) (hk c o hc x))) ⟨oe, hs4.extBut _ _ hez hoe, hce⟩
    | some x2 =>
      refine wpAny_bind (next_item it2 sq2 e2 fun g1 it2' hs => wpAny_pure ?_)
      clear it2
      have it2 := it2'
      clear it2'
      replace hz := hs.extBut _ _ (by first | omega | exact ad (by omega)) hz
      replace hTO := hs.extBut _ _ (by first | omega | exact ad (by omega)) hTO
      replace it1 := it1.ext hs.extBut (by first | omega | exact ad (by omega))
      replace sq1 := sq1.ext hs.extBut (by first | omega | exact ad (by omega))
      replace sq2 := sq2.ext hs.extBut (by first | omega | exact ad (by omega))
      replace it3 := it3.ext hs.extBut (by first | omega | exact ad (by omega))
      replace sq3 := sq3.ext hs.extBut (by first | omega | exact ad (by omega))
      replace hk : ∀ (c : Nat) o, (c < I ∨ c = I + 3 ∨ I + 5 < c) → s.heap.get? c = some o → g1.get? c = some o := fun c o hc e => hs.extBut _ _ (by first | omega | exact ad (by omega)) (hk c o hc e)
      replace hsz : g1.objs.size = s.heap.objs.size := by rw [hs.1, hsz]
      clear hs
      refine wpAny_bind (wpAny_seqItems hTO rfl ?_)
      refine wpAny_bind (updateSeq_arr (by simp) hTO fun g2 hTO1 hs => ?_)
      replace hTO : TupA g2 (I + 4) #[x1, x2, y3] := hTO1
      clear hTO1
      replace hz := hs.extBut _ _ (by first | omega | exact ad (by omega)) hz
      replace it1 := it1.ext hs.extBut (by first | omega | exact ad (by omega))
      replace sq1 := sq1.ext hs.extBut (by first | omega | exact ad (by omega))
      replace it2 := it2.ext hs.extBut (by first | omega | exact ad (by omega))
      replace sq2 := sq2.ext hs.extBut (by first | omega | exact ad (by omega))
      replace it3 := it3.ext hs.extBut (by first | omega | exact ad (by omega))
      replace sq3 := sq3.ext hs.extBut (by first | omega | exact ad (by omega))
      replace hk : ∀ (c : Nat) o, (c < I ∨ c = I + 3 ∨ I + 5 < c) → s.heap.get? c = some o → g2.get? c = some o := fun c o hc e => hs.extBut _ _ (by first | omega | exact ad (by omega)) (hk c o hc e)
      replace hsz : g2.objs.size = s.heap.objs.size := by rw [hs.1, hsz]
      clear hs
      refine wpAny_bind (wpAny_letGo (wpAny_pure ?_))
      refine wpAny_bind (wpAny_bind (wpAny_onRaise ?_))
      show wpAny _ _ (Builtin.SmallTypes.nextOf (.ref (I + 2)) >>= _) _ _ _
      have e3 : xs3[k]? = none := by
        rcases hend with q | q | q
        · rw [e1] at q; cases q
        · rw [e2] at q; cases q
        · exact q
      refine wpAny_bind (next_end hh it3 sq3 e3 fun g3 e hs he => ?_)
      obtain ⟨oe, hoe, hce⟩ := he
      replace hz : IsZip g3 (I + 5) (I + 3) (I + 4) .ellipsis := hs _ _ (by first | omega | exact ad (by omega)) hz
      have hez : e ≠ (I + 5) := fun x => by subst x; rw [hz] at hoe; cases hoe; simp at hce
      refine wpAny_setField_rec hz (by simp) fun g4 _ hs4 => hE g4 e (fun c o hc x => hs4.extBut _ _ (by first | omega | exact ad (by omega)) (hs _ _ (by first | omega | exact ad (by omega)) (hk c o hc x))) ⟨oe, hs4.extBut _ _ hez hoe, hce⟩
theorem py3_item {I : Nat} {l1 l2 l3 : Nat} {b1 b2 b3 : Bool} {k : Nat} {xs1 xs2 xs3 : Array Value} {y1 y2 y3 : Value} {x1 x2 x3 : Value} {Q : Option Value → Shared → Prop} (L1 : l1 < I) (L2 : l2 < I) (L3 : l3 < I)
    (hz : IsZip s.heap (I + 5) (I + 3) (I + 4) .none) (hTI : TupA s.heap (I + 3) #[.ref I, .ref (I + 1), .ref (I + 2)]) (hTO : TupA s.heap (I + 4) #[y1, y2, y3]) (it1 : AIt s.heap b1 I l1 k) (it2 : AIt s.heap b2 (I + 1) l2 k) (it3 : AIt s.heap b3 (I + 2) l3 k) (sq1 : ASq s.heap b1 l1 xs1) (sq2 : ASq s.heap b2 l2 xs2) (sq3 : ASq s.heap b3 l3 xs3) (e1 : xs1[k]? = some x1) (e2 : xs2[k]? = some x2) (e3 : xs3[k]? = some x3)
    (hQ : ∀ h', IsZip h' (I + 5) (I + 3) (I + 4) (rawInt s.heap.objs.size) → TupA h' (I + 4) #[x1, x2, x3] → AIt h' b1 I l1 (k + 1) → AIt h' b2 (I + 1) l2 (k + 1) → AIt h' b3 (I + 2) l3 (k + 1) → TupA h' s.heap.objs.size #[x1, x2, x3] → h'.objs.size = s.heap.objs.size + 1 → (∀ (c : Nat) o, (c < I ∨ c = I + 3 ∨ I + 5 < c) → s.heap.get? c = some o → h'.get? c = some o) → Q (some (.ref s.heap.objs.size)) { s with heap := h' }) :
    wpAny (model prog w) A (pyNext (.ref (I + 5))) Q E s := by
  have hT : s.TypeIs (.ref (I + 5)) "zip" := ⟨_, hz, rfl⟩
  unfold pyNext
  exact wpAny_bind (wpAny_attempt (wpAny_callSpecial?_slot (name := Str.ofString "__next__") hT F.slot_zip_next
    (wpAny_call_entry F.slot_zip_next hT F.entry_zip_next
      (zn3_item L1 L2 L3 hz hTI hTO it1 it2 it3 sq1 sq2 sq3 e1 e2 e3 fun h' a0 a1 a2 a3 a4 a5 a6 a7 => wpAny_pure (hQ h' a0 a1 a2 a3 a4 a5 a6 a7)) (F.args_zip_next_1 _))))
theorem py3_end {I : Nat} {l1 l2 l3 : Nat} {b1 b2 b3 : Bool} {k : Nat} {xs1 xs2 xs3 : Array Value} {y1 y2 y3 : Value} {Q : Option Value → Shared → Prop} (hh : A.handled = none) (L1 : l1 < I) (L2 : l2 < I) (L3 : l3 < I)
    (hz : IsZip s.heap (I + 5) (I + 3) (I + 4) .none) (hTI : TupA s.heap (I + 3) #[.ref I, .ref (I + 1), .ref (I + 2)]) (hTO : TupA s.heap (I + 4) #[y1, y2, y3]) (it1 : AIt s.heap b1 I l1 k) (it2 : AIt s.heap b2 (I + 1) l2 k) (it3 : AIt s.heap b3 (I + 2) l3 k) (sq1 : ASq s.heap b1 l1 xs1) (sq2 : ASq s.heap b2 l2 xs2) (sq3 : ASq s.heap b3 l3 xs3) (hend : xs1[k]? = none ∨ xs2[k]? = none ∨ xs3[k]? = none)
    (hQ : ∀ h', (∀ (c : Nat) o, (c < I ∨ c = I + 3 ∨ I + 5 < c) → s.heap.get? c = some o → h'.get? c = some o) → Q none { s with heap := h' }) : wpAny (model prog w) A (pyNext (.ref (I + 5))) Q E s := by
  have hT : s.TypeIs (.ref (I + 5)) "zip" := ⟨_, hz, rfl⟩
  unfold pyNext
  refine wpAny_bind (wpAny_attempt (wpAny_callSpecial?_slot (name := Str.ofString "__next__") hT F.slot_zip_next
    (wpAny_call_entry F.slot_zip_next hT F.entry_zip_next (zn3_end hh L1 L2 L3 hz hTI hTO it1 it2 it3 sq1 sq2 sq3 hend fun h' e hk he => ?_) (F.args_zip_next_1 _))))
  obtain ⟨o, ho, hc⟩ := he
  refine wpAny_bind (wpAny_isInstance (T := "StopIteration") (b := true) ⟨o, ho, hc⟩ isSubtype_stop ?_)
  exact wpAny_pure (hQ _ hk)
end
abbrev zH31 (h : Heap) (b1 : Bool) (l1 : Nat) : Heap := h.push (itO b1 l1)
abbrev zH32 (h : Heap) (b1 : Bool) (l1 : Nat) (b2 : Bool) (l2 : Nat) : Heap := (zH31 h b1 l1).push (itO b2 l2)
abbrev zH33 (h : Heap) (b1 : Bool) (l1 : Nat) (b2 : Bool) (l2 : Nat) (b3 : Bool) (l3 : Nat) : Heap := (zH32 h b1 l1 b2 l2).push (itO b3 l3)
abbrev zH3T (h : Heap) (b1 : Bool) (l1 : Nat) (b2 : Bool) (l2 : Nat) (b3 : Bool) (l3 : Nat) : Heap := (zH33 h b1 l1 b2 l2 b3 l3).push { cls := .type "tuple", data := .seq #[.ref h.objs.size, .ref (zH31 h b1 l1).objs.size, .ref (zH32 h b1 l1 b2 l2).objs.size] }
abbrev zH3O (h : Heap) (b1 : Bool) (l1 : Nat) (b2 : Bool) (l2 : Nat) (b3 : Bool) (l3 : Nat) : Heap := (zH3T h b1 l1 b2 l2 b3 l3).push { cls := .type "tuple", data := .seq #[.none, .none, .none] }
abbrev zH3Z (h : Heap) (b1 : Bool) (l1 : Nat) (b2 : Bool) (l2 : Nat) (b3 : Bool) (l3 : Nat) : Heap := (zH3O h b1 l1 b2 l2 b3 l3).push { cls := .type "zip", data := .fields #[.none, .bool false, .bool false, .ref (zH33 h b1 l1 b2 l2 b3 l3).objs.size, .ref (zH3T h b1 l1 b2 l2 b3 l3).objs.size] }
theorem meets3 {b1 b2 b3 : Bool} (l1 l2 l3 : Nat) (xs1 xs2 xs3 : Array Value) :
    Meets (Builtin.«zip.__new__» ⟨[.type "zip", .ref l1, .ref l2, .ref l3], []⟩) (fun _ R s => ASq s.heap b1 l1 xs1 ∧ ASq s.heap b2 l2 xs2 ∧ ASq s.heap b3 l3 xs3 ∧ R (.ok (.ret (.ref (zH3O s.heap b1 l1 b2 l2 b3 l3).objs.size))) { s with heap := zH3Z s.heap b1 l1 b2 l2 b3 l3 }) :=
  .of_wp fun prog w A R s h => by
    obtain ⟨hp, g, d, tk, os⟩ := s; obtain ⟨sq1, sq2, sq3, h⟩ := h
    have hsub := sub_zip
    have hL1 : ASq (Shared.heap ⟨hp, g, d, tk, os⟩) b1 l1 xs1 := sq1
    have hL2 : ASq (Shared.heap ⟨(hp).push (itO b1 l1), g, d, tk, os⟩) b2 l2 xs2 := sq2.push _
    have hL3 : ASq (Shared.heap ⟨((hp).push (itO b1 l1)).push (itO b2 l2), g, d, tk, os⟩) b3 l3 xs3 := (sq3.push _).push _
    wp_walk using iter_any hL1, iter_any hL2, iter_any hL3
    exact ⟨_, rfl, h⟩
section
variable {prog : Program} {w : World} {A : Around} {E : Value → Shared → Prop} {s : Shared}
theorem call3 {b1 b2 b3 : Bool} {l1 l2 l3 : Nat} {xs1 xs2 xs3 : Array Value} {Q : Value → Shared → Prop} (sq1 : ASq s.heap b1 l1 xs1) (sq2 : ASq s.heap b2 l2 xs2) (sq3 : ASq s.heap b3 l3 xs3)
    (h : ∀ h', IsZip h' (s.heap.objs.size + 5) (s.heap.objs.size + 3) (s.heap.objs.size + 4) .none → TupA h' (s.heap.objs.size + 3) #[.ref s.heap.objs.size, .ref (s.heap.objs.size + 1), .ref (s.heap.objs.size + 2)] → TupA h' (s.heap.objs.size + 4) #[.none, .none, .none] → AIt h' b1 s.heap.objs.size l1 0 → AIt h' b2 (s.heap.objs.size + 1) l2 0 → AIt h' b3 (s.heap.objs.size + 2) l3 0 → h'.objs.size = s.heap.objs.size + 6 → (∀ c o, s.heap.get? c = some o → h'.get? c = some o) → Q (.ref (s.heap.objs.size + 5)) { s with heap := h' }) :
    wpAny (model prog w) A (call (.type "zip") [.ref l1, .ref l2, .ref l3]) Q E s := by
  refine callType_new F.called_zip (by decide) (typeCall_zip_3 _ _ _ ) (newCall_zip_3 _ _ _ ) (fun obj => args_object_init_4 obj _ _ _ ) F.entry_zip_new
    (meets3 l1 l2 l3 xs1 xs2 xs3) ⟨sq1, sq2, sq3, ?_⟩
  have z1 : (zH31 s.heap b1 l1).objs.size = s.heap.objs.size + 1 := by rw [Heap.size_push]
  have z2 : (zH32 s.heap b1 l1 b2 l2).objs.size = s.heap.objs.size + 2 := by rw [Heap.size_push, z1]
  have z3 : (zH33 s.heap b1 l1 b2 l2 b3 l3).objs.size = s.heap.objs.size + 3 := by rw [Heap.size_push, z2]
  have z4 : (zH3T s.heap b1 l1 b2 l2 b3 l3).objs.size = s.heap.objs.size + 4 := by rw [Heap.size_push, z3]
  have z5 : (zH3O s.heap b1 l1 b2 l2 b3 l3).objs.size = s.heap.objs.size + 5 := by rw [Heap.size_push, z4]
  have z6 : (zH3Z s.heap b1 l1 b2 l2 b3 l3).objs.size = s.heap.objs.size + 6 := by rw [Heap.size_push, z5]
  have g1 : (zH3Z s.heap b1 l1 b2 l2 b3 l3).get? s.heap.objs.size = some _ := Heap.get?_push_of_some _ (Heap.get?_push_of_some _ (Heap.get?_push_of_some _ (Heap.get?_push_of_some _ (Heap.get?_push_of_some _ (Heap.get?_push_size _ (itO_free b1 l1))))))
  have g2 : (zH3Z s.heap b1 l1 b2 l2 b3 l3).get? (zH31 s.heap b1 l1).objs.size = some _ := Heap.get?_push_of_some _ (Heap.get?_push_of_some _ (Heap.get?_push_of_some _ (Heap.get?_push_of_some _ (Heap.get?_push_size _ (itO_free b2 l2)))))
  have g3 : (zH3Z s.heap b1 l1 b2 l2 b3 l3).get? (zH32 s.heap b1 l1 b2 l2).objs.size = some _ := Heap.get?_push_of_some _ (Heap.get?_push_of_some _ (Heap.get?_push_of_some _ (Heap.get?_push_size _ (itO_free b3 l3))))
  have g4 : (zH3Z s.heap b1 l1 b2 l2 b3 l3).get? (zH33 s.heap b1 l1 b2 l2 b3 l3).objs.size = some _ := Heap.get?_push_of_some _ (Heap.get?_push_of_some _ (Heap.get?_push_size _ rfl))
  have g5 : (zH3Z s.heap b1 l1 b2 l2 b3 l3).get? (zH3T s.heap b1 l1 b2 l2 b3 l3).objs.size = some _ := Heap.get?_push_of_some _ (Heap.get?_push_size _ rfl)
  have g6 : (zH3Z s.heap b1 l1 b2 l2 b3 l3).get? (zH3O s.heap b1 l1 b2 l2 b3 l3).objs.size = some _ := Heap.get?_push_size _ rfl
  show _ ∧ _
  rw [z1] at g2
  rw [z2] at g3
  rw [z1, z2, z3] at g4
  rw [z4] at g5
  rw [z3, z4, z5] at g6
  rw [z5]
  exact ⟨⟨_, g6, rfl⟩, h _ g6 g4 g5 (AIt.new g1) (AIt.new g2) (AIt.new g3) z6 fun c o x => Heap.get?_push_of_some _ (Heap.get?_push_of_some _ (Heap.get?_push_of_some _ (Heap.get?_push_of_some _ (Heap.get?_push_of_some _ (Heap.get?_push_of_some _ (x))))))⟩
end
def ItA3 (K : PySem.W.Frag) (b1 b2 b3 : Bool) (l1 l2 l3 : Nat) : It :=
  ⟨fun i H => ∃ (xs1 xs2 xs3 : List V) (x1 x2 x3 : V), SqA K H b1 l1 xs1 ∧ SqA K H b2 l2 xs2 ∧ SqA K H b3 l3 xs3 ∧ xs1[i]? = some x1 ∧ xs2[i]? = some x2 ∧ xs3[i]? = some x3,
    fun i H v H' => ∃ T x1 x2 x3, v = .ref T ∧ H T = none ∧ H' = upd H T (.tup [x1, x2, x3]) ∧ (∀ xs, SqA K H b1 l1 xs → xs[i]? = some x1) ∧ (∀ xs, SqA K H b2 l2 xs → xs[i]? = some x2) ∧ (∀ xs, SqA K H b3 l3 xs → xs[i]? = some x3),
    fun i H => ∃ xs1 xs2 xs3 : List V, SqA K H b1 l1 xs1 ∧ SqA K H b2 l2 xs2 ∧ SqA K H b3 l3 xs3 ∧ (xs1.length ≤ i ∨ xs2.length ≤ i ∨ xs3.length ≤ i)⟩
theorem out3 {I c : Nat} (h : ¬ c ∈ [(I + 5), (I + 3), (I + 4), I, (I + 1), (I + 2)]) : (c < I ∨ c = I + 3 ∨ I + 5 < c) := by
  simp at h
  omega
theorem turn3 {P : Program} {w : World} {K : PySem.W.Frag} {elts : List Expr} {kk : Nat} {tpos : Pos} {b1 b2 b3 : Bool} {l1 l2 l3 : Nat} {I : Nat} (L1 : l1 < I) (L2 : l2 < I) (L3 : l3 < I) :
    Turn P w K (.Tuple elts kk tpos) (ItA3 K b1 b2 b3 l1 l2 l3) [(I + 5), (I + 3), (I + 4), I, (I + 1), (I + 2)] (I + 5) (fun i h => IsZip h (I + 5) (I + 3) (I + 4) .none ∧ TupA h (I + 3) #[.ref I, .ref (I + 1), .ref (I + 2)] ∧ (∃ y1 y2 y3, TupA h (I + 4) #[y1, y2, y3]) ∧ AIt h b1 I l1 i ∧ AIt h b2 (I + 1) l2 i ∧ AIt h b3 (I + 2) l3 i) where
  mem := by simp
  obj := fun i h st c hc => by
    obtain ⟨hz, hTI, ⟨y1, y2, y3, hTO⟩, it1, it2, it3⟩ := st
    have e' : c = (I + 5) ∨ c = (I + 3) ∨ c = (I + 4) ∨ c = I ∨ c = (I + 1) ∨ c = (I + 2) := by simpa using hc
    rcases e' with q | q | q | q | q | q
    · rw [q]; exact ⟨_, hz, fun v q => nomatch q⟩
    · rw [q]; exact ⟨_, hTI, fun v q => nomatch q⟩
    · rw [q]; exact ⟨_, hTO, fun v q => nomatch q⟩
    · rw [q]; obtain ⟨o, e, d⟩ := it1.get; exact ⟨o, e, fun v q => by rw [d] at q; cases q⟩
    · rw [q]; obtain ⟨o, e, d⟩ := it2.get; exact ⟨o, e, fun v q => by rw [d] at q; cases q⟩
    · rw [q]; obtain ⟨o, e, d⟩ := it3.get; exact ⟨o, e, fun v q => by rw [d] at q; cases q⟩
  keep := fun i h h' st k => by
    obtain ⟨hz, hTI, ⟨y1, y2, y3, hTO⟩, it1, it2, it3⟩ := st
    exact ⟨k _ (by simp) _ hz, k _ (by simp) _ hTI, ⟨y1, y2, y3, k _ (by simp) _ hTO⟩, it1.at fun o q => k _ (by simp) o q, it2.at fun o q => k _ (by simp) o q, it3.at fun o q => k _ (by simp) o q⟩
  item := by
    intro X hP hw hK hc i pins s σ H E Iv hf st hg
    subst hP hw hK
    obtain ⟨hz, hTI, ⟨y1, y2, y3, hTO⟩, it1, it2, it3⟩ := st
    obtain ⟨xs1, xs2, xs3, x1, x2, x3, q1, q2, q3, e1, e2, e3⟩ := hg
    obtain ⟨its1, rv1, p1⟩ := sqa_at Iv q1
    obtain ⟨u1, hu1, ru1⟩ := rv1.get e1
    obtain ⟨its2, rv2, p2⟩ := sqa_at Iv q2
    obtain ⟨u2, hu2, ru2⟩ := rv2.get e2
    obtain ⟨its3, rv3, p3⟩ := sqa_at Iv q3
    obtain ⟨u3, hu3, ru3⟩ := rv3.get e3
    have hzl : (I + 5) < s.heap.objs.size := Heap.lt_size hz
    refine py3_item L1 L2 L3 hz hTI hTO it1 it2 it3 p1 p2 p3 (x1 := u1) (x2 := u2) (x3 := u3) (by simpa using hu1) (by simpa using hu2) (by simpa using hu3) fun h' z' TO' it1w it2w it3w hT hsz hk => ?_
    refine ⟨_, rfl, wpAny_letOwnedTupleGo_zip (s := { s with heap := h' }) z' fun h'' z'' sb => ?_⟩
    have hT2 : h''.get? s.heap.objs.size = some { cls := .type "tuple", data := .seq #[u1, u2, u3] } := (sb.2 _ (Nat.ne_of_gt hzl)).trans hT
    have new : ObjOk X.prog X.w (upd H s.heap.objs.size (.tup [x1, x2, x3])) h'' s.heap.objs.size (.tup [x1, x2, x3]) :=
      ⟨by show 3 ≤ sizeLine; decide, [u1, u2, u3], .cons ru1 (.cons ru2 (.cons ru3 .nil)), ⟨_, hT2, rfl, _, rfl⟩⟩
    have I1 : Inv X pins σ (upd H s.heap.objs.size (.tup [x1, x2, x3])) { s with heap := h'' } :=
      Iv.turnedNew (t' := s.toks) (ch := [(I + 5), (I + 3), (I + 4), I, (I + 1), (I + 2)]) (fun (c : Nat) o hb q => (sb.2 c (fun q' => hb (by simp [q']))).trans (hk c o (out3 hb) q)) hf (Nat.le_refl _) new
    refine ⟨.ref s.heap.objs.size, _, I1, rfl, ⟨_, x1, x2, x3, rfl, Iv.hok.fresh (Nat.le_refl _), rfl, fun l hl => by rw [sqa_inj Iv hl q1]; exact e1, fun l hl => by rw [sqa_inj Iv hl q2]; exact e2, fun l hl => by rw [sqa_inj Iv hl q3]; exact e3⟩, ⟨z'', ?_, ⟨u1, u2, u3, ?_⟩, ?_, ?_, ?_⟩, fun (c : Nat) hcm => ?_⟩
    · exact (sb.2 _ (by first | omega | exact ad (by omega))).trans (hk _ _ (by first | omega | exact ad (by omega)) hTI)
    · exact (sb.2 _ (by first | omega | exact ad (by omega))).trans TO'
    · exact it1w.at fun o q => (sb.2 _ (by first | omega | exact ad (by omega))).trans q
    · exact it2w.at fun o q => (sb.2 _ (by first | omega | exact ad (by omega))).trans q
    · exact it3w.at fun o q => (sb.2 _ (by first | omega | exact ad (by omega))).trans q
    · have hlt : c < s.heap.objs.size := by
        have e' : c = (I + 5) ∨ c = (I + 3) ∨ c = (I + 4) ∨ c = I ∨ c = (I + 1) ∨ c = (I + 2) := by simpa using hcm
        omega
      rw [upd_ne (Nat.ne_of_lt hlt)]
      exact (hf c hcm).1
  done := by
    intro X hP hw hK hc i pins s σ H E Iv hf st hg
    subst hP hw hK
    obtain ⟨hz, hTI, ⟨y1, y2, y3, hTO⟩, it1, it2, it3⟩ := st
    obtain ⟨xs1, xs2, xs3, q1, q2, q3, hend⟩ := hg
    obtain ⟨its1, rv1, p1⟩ := sqa_at Iv q1
    have m1 := rv1.length
    obtain ⟨its2, rv2, p2⟩ := sqa_at Iv q2
    have m2 := rv2.length
    obtain ⟨its3, rv3, p3⟩ := sqa_at Iv q3
    have m3 := rv3.length
    have he : its1.toArray[i]? = none ∨ its2.toArray[i]? = none ∨ its3.toArray[i]? = none := by
      rcases hend with q | q | q
      · exact (.inl (by simp; first | omega | exact ad (by omega)))
      · exact (.inr (.inl (by simp; first | omega | exact ad (by omega))))
      · exact (.inr (.inr (by simp; first | omega | exact ad (by omega))))
    exact py3_end (Iv.ok.hd hc) L1 L2 L3 hz hTI hTO it1 it2 it3 p1 p2 p3 he fun h' hk => ⟨rfl, Iv.turnedL (t' := s.toks) (ch := [(I + 5), (I + 3), (I + 4), I, (I + 1), (I + 2)]) (fun (c : Nat) o hb q => hk c o (out3 hb) q) hf⟩
  self := fun A i s Q E st h => wpAny_pyIter_zip st.1 h
def iZA3 (K : PySem.W.Frag) (ta : TA) : TI := fun σ H R => ta σ H fun vs H1 => ∃ (b1 b2 b3 : Bool) (l1 l2 l3 : Nat) (xs1 xs2 xs3 : List V), vs = [.ref l1, .ref l2, .ref l3] ∧ SqA K H1 b1 l1 xs1 ∧ SqA K H1 b2 l2 xs2 ∧ SqA K H1 b3 l3 xs3 ∧ R (ItA3 K b1 b2 b3 l1 l2 l3) H1
theorem pi3 {X : Cx} {a1 a2 a3 : Expr} {ta : TA} {p pos tpos : Pos} {elts : List Expr} {kk : Nat} (hg : Gl X "zip") (hm : X.mg "zip" = none) (ha : PA X [a1, a2, a3] ta)
    (hs : starEach [a1, a2, a3] X.env = (false, eval a1 X.env) :: starEach [a2, a3] X.env := by rfl) (hpl : (backTo pos (starEach [a2, a3] X.env)).any (·.1) = false := by rfl) :
    PI X (.Tuple elts kk tpos) (.Call (.Name "zip" p) [a1, a2, a3] [] pos) (iZA3 X.K ta) := by
  refine ⟨fun pins s σ H R I h => ?_⟩
  refine Call_ (ld_blt I hg hm PyProof.Rows.boot_zip (PyProof.Rows.callWith_type1 (thn (ha.run pos pins s σ H _ I h) fun us s1 ⟨vs, H1, I1, r1, q1⟩ => ?_) hs hpl))
  obtain ⟨b1, b2, b3, l1, l2, l3, xs1, xs2, xs3, ex, q1, q2, q3, q⟩ := q1
  subst ex
  obtain ⟨v1, us1, rfl, w1, rr1⟩ := vals_cons r1
  obtain ⟨v2, us2, rfl, w2, rr2⟩ := vals_cons rr1
  obtain ⟨v3, us3, rfl, w3, rr3⟩ := vals_cons rr2
  cases rr3
  cases w1
  cases w2
  cases w3
  obtain ⟨its1, rv1, p1⟩ := sqa_at I1 q1
  have L1 := asq_lt p1
  obtain ⟨its2, rv2, p2⟩ := sqa_at I1 q2
  have L2 := asq_lt p2
  obtain ⟨its3, rv3, p3⟩ := sqa_at I1 q3
  have L3 := asq_lt p3
  have fresh : ∀ c, c ∈ [(s1.heap.objs.size + 5), (s1.heap.objs.size + 3), (s1.heap.objs.size + 4), s1.heap.objs.size, (s1.heap.objs.size + 1), (s1.heap.objs.size + 2)] → FpOk X pins H1 c := fun (c : Nat) hcm => by
    have hle : s1.heap.objs.size ≤ c := by
      have e' : c = (s1.heap.objs.size + 5) ∨ c = (s1.heap.objs.size + 3) ∨ c = (s1.heap.objs.size + 4) ∨ c = s1.heap.objs.size ∨ c = (s1.heap.objs.size + 1) ∨ c = (s1.heap.objs.size + 2) := by simpa using hcm
      omega
    exact I1.fpOk hle (I1.hok.fresh hle)
  refine call3 p1 p2 p3 ?_
  intro h' hz hTI hTO it1 it2 it3 hsz hk
  refine wpAny_pyIter_zip hz ?_
  have I2 : Inv X pins σ H1 { s1 with heap := h' } := I1.kept (t' := s1.toks) hk
  exact ⟨s1.heap.objs.size + 5, [(s1.heap.objs.size + 5), (s1.heap.objs.size + 3), (s1.heap.objs.size + 4), s1.heap.objs.size, (s1.heap.objs.size + 1), (s1.heap.objs.size + 2)], _, _, H1, rfl, I2, turn3 L1 L2 L3, ⟨hz, hTI, ⟨_, _, _, hTO⟩, it1, it2, it3⟩, fresh, q⟩
end DZ

/-! part DZ2 -/
/-! DZ2: zip over data; min and max of a list of alike data. -/
namespace DZ
open PySem PySem.Spec PyProof.Rows L2 DL DQ DX
section
variable {X : Cx} {W : WX}
/-! ### zip -/
def zipD2 : List D → List D → List D
  | x :: xs, y :: ys => .tup [x, y] :: zipD2 xs ys
  | _, _ => []
def zipD3 : List D → List D → List D → List D
  | x :: xs, y :: ys, z :: zs => .tup [x, y, z] :: zipD3 xs ys zs
  | _, _, _ => []
theorem zipD2_len : ∀ (l m : List D), (zipD2 l m).length = min l.length m.length
  | [], _ => by simp [zipD2]
  | _ :: _, [] => by simp [zipD2]
  | x :: xs, y :: ys => by
    simp only [zipD2, List.length_cons, zipD2_len xs ys]
    omega
theorem zipD3_len : ∀ (l m n : List D), (zipD3 l m n).length = min l.length (min m.length n.length)
  | [], _, _ => by simp [zipD3]
  | _ :: _, [], _ => by simp [zipD3]
  | _ :: _, _ :: _, [] => by simp [zipD3]
  | x :: xs, y :: ys, z :: zs => by
    simp only [zipD3, List.length_cons, zipD3_len xs ys zs]
    omega
theorem zipD2_get : ∀ {l m : List D} {i : Nat} {x y : D}, l[i]? = some x → m[i]? = some y → (zipD2 l m)[i]? = some (.tup [x, y])
  | [], _, _, _, _, h, _ => by simp at h
  | _ :: _, [], _, _, _, _, h => by simp at h
  | _ :: _, _ :: _, 0, _, _, h, h2 => by
    simp at h h2
    subst h h2
    rfl
  | _ :: l, _ :: m, i + 1, x, y, h, h2 => by
    have := zipD2_get (l := l) (m := m) (i := i) (by simpa using h) (by simpa using h2)
    simpa [zipD2] using this
theorem zipD3_get : ∀ {l m n : List D} {i : Nat} {x y z : D}, l[i]? = some x → m[i]? = some y → n[i]? = some z → (zipD3 l m n)[i]? = some (.tup [x, y, z])
  | [], _, _, _, _, _, _, h, _, _ => by simp at h
  | _ :: _, [], _, _, _, _, _, _, h, _ => by simp at h
  | _ :: _, _ :: _, [], _, _, _, _, _, _, h => by simp at h
  | _ :: _, _ :: _, _ :: _, 0, _, _, _, h, h2, h3 => by
    simp at h h2 h3
    subst h h2 h3
    rfl
  | _ :: l, _ :: m, _ :: n, i + 1, x, y, z, h, h2, h3 => by
    have := zipD3_get (l := l) (m := m) (n := n) (i := i) (by simpa using h) (by simpa using h2) (by simpa using h3)
    simpa [zipD3] using this
/-- no pointer among the items -/
def npD : D → Bool
  | .ptr _ => false
  | _ => true
theorem np_of {d : D} (h : npD d = true) : np d := by cases d <;> first | trivial | cases h
def okZ (x : D) (l : List D) : Sto → Prop := fun mu => okS x l mu
def iZip2 (da : DA) : DI := fun ga mu P F => da ga mu P fun ds mu1 => match ds with
  | [x, y] => ∃ l m, pv_ mu1 x = some l ∧ pv_ mu1 y = some m ∧ l.all npD = true ∧ m.all npD = true ∧ F (zipD2 l m) (fun mu2 => okS x l mu2 ∧ okS y m mu2) mu1
  | _ => False
def iZip3 (da : DA) : DI := fun ga mu P F => da ga mu P fun ds mu1 => match ds with
  | [x, y, z] => ∃ l m n, pv_ mu1 x = some l ∧ pv_ mu1 y = some m ∧ pv_ mu1 z = some n ∧ l.all npD = true ∧ m.all npD = true ∧ n.all npD = true ∧ F (zipD3 l m n) (fun mu2 => okS x l mu2 ∧ okS y m mu2 ∧ okS z n mu2) mu1
  | _ => False
def kindB : D → Bool
  | .tup _ => false
  | _ => true
theorem sq_of {K : PySem.W.Frag} {x : D} {l : List D} {hd hd0 : List Addr} {H H0 : Hp} {mu : Sto} {al al0 : List Addr} {p : Addr} (r : Rep K (al0 ++ hd0) H0 al0 x (.ref p)) (g : Fz H0 (al0 ++ hd0) H (al ++ hd)) (pr : Pre al0 al) (o : Okay K hd H mu al) (h : okS x l mu) :
    ∃ xs, SqA K H (kindB x) p xs ∧ RepL K (al ++ hd) H al l xs := by
  rcases seqKind r g pr o h with ⟨⟨t, rfl⟩, q⟩ | ⟨hn, q⟩
  · exact q
  · cases x <;> first | exact q | exact (hn _ rfl).elim
theorem all_at {l : List D} (h : l.all npD = true) {i : Nat} {d : D} (e : l[i]? = some d) : np d := np_of (List.all_eq_true.mp h d (List.mem_of_getElem? e))
theorem wk_zip2 {K : PySem.W.Frag} {x y : D} {p q : Addr} {l m : List D} {hd0 : List Addr} {H0 : Hp} {al0 : List Addr} (r : Rep K (al0 ++ hd0) H0 al0 x (.ref p)) (r2 : Rep K (al0 ++ hd0) H0 al0 y (.ref q)) (hl : l.all npD = true) (hm : m.all npD = true) :
    WkOk K (ItA2 K (kindB x) (kindB y) p q) (zipD2 l m) (fun mu2 => okS x l mu2 ∧ okS y m mu2) hd0 H0 al0 := by
  refine ⟨fun hd H mu al g pr o h => ?_, fun hd H mu al i g pr o h hi => ?_, fun hd H mu al i v H' g pr o h hi y => ?_⟩
  · obtain ⟨xs, s, r1⟩ := sq_of r g pr o h.1
    obtain ⟨ys, t, r3⟩ := sq_of r2 g pr o h.2
    refine ⟨xs, ys, s, t, ?_⟩
    rw [zipD2_len, r1.len, r3.len]
    omega
  · obtain ⟨xs, s, r1⟩ := sq_of r g pr o h.1
    obtain ⟨ys, t, r3⟩ := sq_of r2 g pr o h.2
    rw [zipD2_len, r1.len, r3.len] at hi
    have h1 : i < xs.length := by omega
    have h2 : i < ys.length := by omega
    exact ⟨xs, ys, xs[i], ys[i], s, t, List.getElem?_eq_getElem h1, List.getElem?_eq_getElem h2⟩
  · obtain ⟨xs, s, r1⟩ := sq_of r g pr o h.1
    obtain ⟨ys, t, r3⟩ := sq_of r2 g pr o h.2
    obtain ⟨T, x1, x2, rfl, hT, rfl, q1, q2⟩ := y
    obtain ⟨d, e1, r4⟩ := r1.get (q1 xs s)
    obtain ⟨e, e2, r5⟩ := r3.get (q2 ys t)
    have gl := Go.lay (hd := hd) (al := al) (u := .tup [x1, x2]) o hT
    refine ⟨_, zipD2_get e1 e2, o.lay hT, gl, ?_⟩
    exact .tup ⟨o.new hT, upd_same⟩ (.cons ((r4.np (all_at hl e1)).go gl (Pre.refl _)) (.cons ((r5.np (all_at hm e2)).go gl (Pre.refl _)) .nil))
theorem wk_zip3 {K : PySem.W.Frag} {x y z : D} {p q w : Addr} {l m n : List D} {hd0 : List Addr} {H0 : Hp} {al0 : List Addr} (r : Rep K (al0 ++ hd0) H0 al0 x (.ref p)) (r2 : Rep K (al0 ++ hd0) H0 al0 y (.ref q)) (r3 : Rep K (al0 ++ hd0) H0 al0 z (.ref w)) (hl : l.all npD = true) (hm : m.all npD = true) (hn : n.all npD = true) :
    WkOk K (ItA3 K (kindB x) (kindB y) (kindB z) p q w) (zipD3 l m n) (fun mu2 => okS x l mu2 ∧ okS y m mu2 ∧ okS z n mu2) hd0 H0 al0 := by
  refine ⟨fun hd H mu al g pr o h => ?_, fun hd H mu al i g pr o h hi => ?_, fun hd H mu al i v H' g pr o h hi y => ?_⟩
  · obtain ⟨xs, s, a1⟩ := sq_of r g pr o h.1
    obtain ⟨ys, t, a2⟩ := sq_of r2 g pr o h.2.1
    obtain ⟨zs, u, a3⟩ := sq_of r3 g pr o h.2.2
    refine ⟨xs, ys, zs, s, t, u, ?_⟩
    rw [zipD3_len, a1.len, a2.len, a3.len]
    omega
  · obtain ⟨xs, s, a1⟩ := sq_of r g pr o h.1
    obtain ⟨ys, t, a2⟩ := sq_of r2 g pr o h.2.1
    obtain ⟨zs, u, a3⟩ := sq_of r3 g pr o h.2.2
    rw [zipD3_len, a1.len, a2.len, a3.len] at hi
    have h1 : i < xs.length := by omega
    have h2 : i < ys.length := by omega
    have h3 : i < zs.length := by omega
    exact ⟨xs, ys, zs, xs[i], ys[i], zs[i], s, t, u, List.getElem?_eq_getElem h1, List.getElem?_eq_getElem h2, List.getElem?_eq_getElem h3⟩
  · obtain ⟨xs, s, a1⟩ := sq_of r g pr o h.1
    obtain ⟨ys, t, a2⟩ := sq_of r2 g pr o h.2.1
    obtain ⟨zs, u, a3⟩ := sq_of r3 g pr o h.2.2
    obtain ⟨T, x1, x2, x3, rfl, hT, rfl, q1, q2, q3⟩ := y
    obtain ⟨d, e1, r4⟩ := a1.get (q1 xs s)
    obtain ⟨e, e2, r5⟩ := a2.get (q2 ys t)
    obtain ⟨f, e3, r6⟩ := a3.get (q3 zs u)
    have gl := Go.lay (hd := hd) (al := al) (u := .tup [x1, x2, x3]) o hT
    refine ⟨_, zipD3_get e1 e2 e3, o.lay hT, gl, ?_⟩
    exact .tup ⟨o.new hT, upd_same⟩ (.cons ((r4.np (all_at hl e1)).go gl (Pre.refl _)) (.cons ((r5.np (all_at hm e2)).go gl (Pre.refl _)) (.cons ((r6.np (all_at hn e3)).go gl (Pre.refl _)) .nil)))
theorem di_zip2 {a1 a2 : Expr} {da : DA} {p pos tpos : Pos} {elts : List Expr} {kk : Nat} (hm : X.mg "zip" = none) (ha : PA X [a1, a2] (liftA X.K W da)) (hg : Gl X "zip" := by rfl)
    (hs : starEach [a1, a2] X.env = (false, eval a1 X.env) :: starEach [a2] X.env := by rfl) (hpl : (backTo pos (starEach [a2] X.env)).any (·.1) = false := by rfl) :
    PI X (.Tuple elts kk tpos) (.Call (.Name "zip" p) [a1, a2] [] pos) (liftI X.K W (iZip2 da)) := by
  refine pi_wk (pi2 hg hm ha hs hpl) fun sg H R ⟨ga, mu, al, hd, P, F, a, h, k, kx⟩ => ?_
  refine ⟨ga, mu, al, hd, P, _, a, h, ⟨fun ds mu1 vs H1 al1 h1 o1 g1 r1 => ?_⟩, kx⟩
  split at h1
  · obtain ⟨l, m, hl, hm, nl, nm, h2⟩ := h1
    obtain ⟨v, ys, rfl, r2, r3⟩ := r1.cons_
    obtain ⟨v2, ys2, rfl, r4, r5⟩ := r3.cons_
    cases r5.nil_
    obtain ⟨q, xs, rfl, _, _⟩ := r2.pv_ o1 hl
    obtain ⟨q2, xs2, rfl, _, _⟩ := r4.pv_ o1 hm
    obtain ⟨us, s1, _⟩ := sq_of (hd0 := hd) (H0 := H1) (al0 := al1) r2 (Fz.refl _ _) (Pre.refl _) o1 hl
    obtain ⟨us2, s2, _⟩ := sq_of (hd0 := hd) (H0 := H1) (al0 := al1) r4 (Fz.refl _ _) (Pre.refl _) o1 hm
    exact ⟨_, _, q, q2, us, us2, rfl, s1, s2, k _ _ _ _ _ _ h2 o1 g1 (wk_zip2 r2 r4 nl nm)⟩
  · exact h1.elim
theorem di_zip3 {a1 a2 a3 : Expr} {da : DA} {p pos tpos : Pos} {elts : List Expr} {kk : Nat} (hm : X.mg "zip" = none) (ha : PA X [a1, a2, a3] (liftA X.K W da)) (hg : Gl X "zip" := by rfl)
    (hs : starEach [a1, a2, a3] X.env = (false, eval a1 X.env) :: starEach [a2, a3] X.env := by rfl) (hpl : (backTo pos (starEach [a2, a3] X.env)).any (·.1) = false := by rfl) :
    PI X (.Tuple elts kk tpos) (.Call (.Name "zip" p) [a1, a2, a3] [] pos) (liftI X.K W (iZip3 da)) := by
  refine pi_wk (pi3 hg hm ha hs hpl) fun sg H R ⟨ga, mu, al, hd, P, F, a, h, k, kx⟩ => ?_
  refine ⟨ga, mu, al, hd, P, _, a, h, ⟨fun ds mu1 vs H1 al1 h1 o1 g1 r1 => ?_⟩, kx⟩
  split at h1
  · obtain ⟨l, m, n, hl, hm, hn, nl, nm, nn, h2⟩ := h1
    obtain ⟨v, ys, rfl, r2, r3⟩ := r1.cons_
    obtain ⟨v2, ys2, rfl, r4, r5⟩ := r3.cons_
    obtain ⟨v3, ys3, rfl, r6, r7⟩ := r5.cons_
    cases r7.nil_
    obtain ⟨q, xs, rfl, _, _⟩ := r2.pv_ o1 hl
    obtain ⟨q2, xs2, rfl, _, _⟩ := r4.pv_ o1 hm
    obtain ⟨q3, xs3, rfl, _, _⟩ := r6.pv_ o1 hn
    obtain ⟨us, s1, _⟩ := sq_of (hd0 := hd) (H0 := H1) (al0 := al1) r2 (Fz.refl _ _) (Pre.refl _) o1 hl
    obtain ⟨us2, s2, _⟩ := sq_of (hd0 := hd) (H0 := H1) (al0 := al1) r4 (Fz.refl _ _) (Pre.refl _) o1 hm
    obtain ⟨us3, s3, _⟩ := sq_of (hd0 := hd) (H0 := H1) (al0 := al1) r6 (Fz.refl _ _) (Pre.refl _) o1 hn
    exact ⟨_, _, _, q, q2, q3, us, us2, us3, rfl, s1, s2, s3, k _ _ _ _ _ _ h2 o1 g1 (wk_zip3 r2 r4 r6 nl nm nn)⟩
  · exact h1.elim
theorem unit65 {A : Around} (r : Room 0 A) : A.units + 65 < cLine := by
  have := r.un
  omega
/-! ### data as PyData -/
mutual
def toPy : D → PyData
  | .bl b => .bool b
  | .int i => .int i
  | .str x => .str x
  | .tup l => .tuple (toPyL l)
  | .lst l => .list (toPyL l)
  | _ => .none
def toPyL : List D → List PyData
  | [] => []
  | d :: l => toPy d :: toPyL l
end
mutual
def isPy : D → Bool
  | .non => true
  | .bl _ => true
  | .int _ => true
  | .str _ => true
  | .tup l => isPyL l
  | .lst l => isPyL l
  | _ => false
def isPyL : List D → Bool
  | [] => true
  | d :: l => isPy d && isPyL l
end
mutual
def frPy : PyData → D
  | .none => .non
  | .bool b => .bl b
  | .int i => .int i
  | .str x => .str x
  | .list l => .lst (frPyL l)
  | .tuple l => .tup (frPyL l)
  | .dict _ => .non
def frPyL : List PyData → List D
  | [] => []
  | d :: l => frPy d :: frPyL l
end
mutual
theorem fr_to : ∀ d : D, isPy d = true → frPy (toPy d) = d
  | .non, _ => by simp [toPy, frPy]
  | .bl _, _ => by simp [toPy, frPy]
  | .int _, _ => by simp [toPy, frPy]
  | .str _, _ => by simp [toPy, frPy]
  | .tup l, h => by
    simp only [toPy, frPy]
    rw [frL_to l (by simpa [isPy] using h)]
  | .lst l, h => by
    simp only [toPy, frPy]
    rw [frL_to l (by simpa [isPy] using h)]
  | .adr _, h => by simp [isPy] at h
  | .ptr _, h => by simp [isPy] at h
  | .obj _ _, h => by simp [isPy] at h
  | .err _ _ _ _, h => by simp [isPy] at h
theorem frL_to : ∀ l : List D, isPyL l = true → frPyL (toPyL l) = l
  | [], _ => by simp [toPyL, frPyL]
  | d :: l, h => by
    simp only [isPyL, Bool.and_eq_true] at h
    simp only [toPyL, frPyL]
    rw [fr_to d h.1, frL_to l h.2]
end
theorem toPyL_map : ∀ l : List D, toPyL l = l.map toPy
  | [] => by simp [toPyL]
  | d :: l => by rw [toPyL, toPyL_map l, List.map_cons]
mutual
theorem rep_dp {K : PySem.W.Frag} {al pt : List Addr} {H : Hp} : ∀ {d : D} {v : V}, isPy d = true → Rep K al H pt d v → Dp K H v (toPy d)
  | .non, _, _, .non => by simp only [toPy]; exact .non
  | .bl _, _, _, .bl => by simp only [toPy]; exact .bl _
  | .int _, _, _, .int => by simp only [toPy]; exact .int _
  | .str _, _, _, .str => by simp only [toPy]; exact .str _
  | .tup l, _, h, .tup z r => by
    simp only [toPy]
    exact .tup z.sq (repL_dp (by simpa [isPy] using h) r)
  | .lst l, _, h, .lst z r => by
    simp only [toPy]
    exact .lst z.sq (repL_dp (by simpa [isPy] using h) r)
theorem repL_dp {K : PySem.W.Frag} {al pt : List Addr} {H : Hp} : ∀ {l : List D} {vs : List V}, isPyL l = true → RepL K al H pt l vs → DpAll K H vs (toPyL l)
  | [], _, _, .nil => by simp only [toPyL]; exact .nil
  | d :: l, _, h, .cons a r => by
    simp only [isPyL, Bool.and_eq_true] at h
    simp only [toPyL]
    exact .cons (rep_dp h.1 a) (repL_dp h.2 r)
end
end
/-! ### min and max of a list of alike data -/
theorem fold_mem {f : PyData → PyData → Bool} : ∀ (xs : List PyData) (x : PyData), xs.foldl (fun a y => if f y a then y else a) x ∈ x :: xs
  | [], x => by simp
  | y :: ys, x => by
    rw [List.foldl_cons]
    rcases List.mem_cons.mp (fold_mem ys (if f y x then y else x)) with h | h
    · rw [h]
      split <;> simp
    · exact List.mem_cons_of_mem _ (List.mem_cons_of_mem _ h)
def rMinD (K : PySem.W.Frag) : List V → Hp → VK → Prop := fun vs H Q => ∃ (a : Addr) (xs : List V) (d : PyData) (ds : List PyData), vs = [.ref a] ∧ SqL K H a xs ∧ DpAll K H xs (d :: ds) ∧ PySem.W.AlikeAll (d :: ds) ∧ PyData.depthAll (d :: ds) ≤ 60 ∧ ∀ (i : Nat) (x : V), xs[i]? = some x → (d :: ds)[i]? = some (PySem.W.minD d ds) → Q x H
theorem foldg_mem {f : PyData → PyData → Bool} (xs : List PyData) (x : PyData) : xs.foldl (fun a y => if f y a = true then y else a) x ∈ x :: xs := fold_mem xs x
theorem minD_mem (x : PyData) (xs : List PyData) : PySem.W.minD x xs ∈ x :: xs := fold_mem (f := PySem.W.dataLt) xs x
section
variable {X : Cx}
theorem cr_minD (hc : X.calm = true) (hu : X.A.units + 65 < cLine) : CallR X (.builtin "min") (rMinD X.K) := by
  intro pins s σ H vs us Q I r h
  obtain ⟨a, xs, d, ds, rfl, hs, hd, ha, hde, q⟩ := h
  obtain ⟨its, rv, hl, _⟩ := I.list hs
  rw [Vals.ref1 r]
  obtain ⟨as, hr⟩ := Dp.readsAll I (d :: ds) xs its hd rv
  refine PySem.W.min_list_data (I.ok.hd hc) hl.isList (by simpa using hr) ha (by omega) fun i v h' tk bs hv hrd hk => ?_
  have hv' : its[i]? = some v := by simpa using hv
  have hlen := rv.length
  have hi : i < xs.length := by have := (List.getElem?_eq_some_iff.mp hv').1; omega
  obtain ⟨u, hu', ru⟩ := rv.get (List.getElem?_eq_getElem hi)
  have eu : u = v := Option.some.inj (hu'.symm.trans hv')
  subst eu
  obtain ⟨cs, r1, hlt, hmem, _⟩ := PySem.W.readsAll_at hr i u hv'
  have r2 := PySem.W.reads_keeps hk r1
  have e := PySem.W.alike_unique _ _ _ _ _ (ha.1 _ hmem _ (minD_mem d ds)) r2 hrd
  refine ⟨xs[i], H, I.kept hk, ru, q i xs[i] (List.getElem?_eq_getElem hi) ?_⟩
  rw [← e, List.getD_eq_getElem?_getD, List.getElem?_eq_getElem hlt]
  rfl
/-- min of a list of alike data -/
def minDD (d : D) (l : List D) : D := frPy (PySem.W.minD (toPy d) (toPyL l))
def bMinD : GL := fun ds mu F => match ds with
  | [x] => ∃ d l, lv mu x = some (d :: l) ∧ isPyL (d :: l) = true ∧ PySem.W.AlikeAll (toPyL (d :: l)) ∧ PyData.depthAll (toPyL (d :: l)) ≤ 60 ∧ F (minDD d l) mu
  | _ => False
theorem isPyL_at : ∀ {l : List D} {i : Nat} {d : D}, isPyL l = true → l[i]? = some d → isPy d = true
  | [], _, _, _, h => by simp at h
  | x :: l, 0, d, h, e => by
    simp only [isPyL, Bool.and_eq_true] at h
    simp at e
    subst e
    exact h.1
  | x :: l, i + 1, d, h, e => by
    simp only [isPyL, Bool.and_eq_true] at h
    exact isPyL_at h.2 (by simpa using e)
theorem minDD_mem {d : D} {l : List D} (h : isPyL (d :: l) = true) : minDD d l ∈ d :: l := by
  have m := minD_mem (toPy d) (toPyL l)
  have e : toPy d :: toPyL l = (d :: l).map toPy := by rw [toPyL_map]; rfl
  rw [e] at m
  obtain ⟨x, hx, ex⟩ := List.mem_map.mp m
  obtain ⟨i, hi, e2⟩ := List.mem_iff_getElem.mp hx
  have hp : isPy x = true := isPyL_at h (by rw [List.getElem?_eq_getElem hi, e2])
  unfold minDD
  rw [← ex, fr_to x hp]
  exact hx
theorem b_minD (hc : X.calm = true) (hu : X.A.units + 65 < cLine) : CbS X (.builtin "min") bMinD := by
  refine ⟨_, cr_minD hc hu, fun H mu al hd ds vs F Q o r hg kv => ?_⟩
  unfold bMinD at hg
  split at hg
  · rename_i x
    obtain ⟨v, ys, rfl, r1, r2⟩ := r.cons_
    cases r2.nil_
    obtain ⟨d, l, hl, hp, ha, hde, hF⟩ := hg
    obtain ⟨p, xs, rfl, s, r3⟩ := r1.lv o hl
    have hdp := repL_dp hp r3
    refine ⟨p, xs, toPy d, toPyL l, rfl, .inl s, hdp, ha, hde, fun i x hx hm => ?_⟩
    obtain ⟨d', e1, r4⟩ := r3.get hx
    have e2 : (toPy d :: toPyL l)[i]? = some (toPy d') := by
      have e : toPy d :: toPyL l = (d :: l).map toPy := by rw [toPyL_map]; rfl
      rw [e, List.getElem?_map, e1]
      rfl
    have e3 : toPy d' = PySem.W.minD (toPy d) (toPyL l) := Option.some.inj (e2.symm.trans hm)
    have e4 : d' = minDD d l := by
      unfold minDD
      rw [← e3, fr_to d' (isPyL_at hp e1)]
    subst e4
    exact kv.now o hF (r4.fz (Fz.refl _ _) (Pre.nil _))
  · exact hg.elim
end
end DZ

/-! part DZ3 -/
/-! DZ3: enumerate of a tuple, range with a step, over data. -/
namespace DZ
open PySem PySem.Spec PyProof.Rows L2 DL DQ DX
theorem meets_enumT (l : Addr) (items : Array Value) :
    Meets (Builtin.«enumerate.__new__» ⟨[.type "enumerate", .ref l], []⟩) (fun _ R s => s.heap.IsTuple l items ∧
      R (.ok (.ret (.ref (s.heap.push { cls := .type "tuple_iterator", data := .fields #[.ref l, .int 0 0] }).objs.size)))
        { s with heap := (s.heap.push { cls := .type "tuple_iterator", data := .fields #[.ref l, .int 0 0] }).push { cls := .type "enumerate", data := .fields #[.none, .bool false, .ref s.heap.objs.size, rawInt 0, .none, .none] } }) :=
  .of_wp fun prog w A R s h => by
    obtain ⟨hp, g, d, tk, os⟩ := s; obtain ⟨hl, h⟩ := h
    have hsub := sub_enumerate
    have hL : Heap.IsTuple (Shared.heap ⟨hp, g, d, tk, os⟩) l items := hl
    wp_walk using wpAny_pyIter_tuple hL
    refine wpAny_stack_any fun st => wpAny_pure ?_
    split
    · rename_i c _ _ _ _ _
      cases (c == Value.type "enumerate")
      · wp_walk using wpAny_pyIter_tuple hL
        exact ⟨_, rfl, h⟩
      · wp_walk using wpAny_pyIter_tuple hL
        exact ⟨_, rfl, h⟩
    · wp_walk using wpAny_pyIter_tuple hL
      exact ⟨_, rfl, h⟩
section
variable {prog : Program} {w : World} {A : Around} {E : Value → Shared → Prop} {s : Shared}
theorem call_enumT {l : Addr} {items : Array Value} {Q : Value → Shared → Prop} (hL : s.heap.IsTuple l items)
    (h : ∀ h', IsEnum h' (s.heap.objs.size + 1) s.heap.objs.size 0 .none → h'.IsTupleIter s.heap.objs.size l 0 → h'.objs.size = s.heap.objs.size + 2 →
      (∀ b o, s.heap.get? b = some o → h'.get? b = some o) → Q (.ref (s.heap.objs.size + 1)) { s with heap := h' }) :
    wpAny (model prog w) A (call (.type "enumerate") [.ref l]) Q E s := by
  refine callType_new F.called_enumerate (by decide) (F.typeCall_enumerate_1 _) (F.newCall_enumerate_1 _) (fun obj => F.args_object_init_2 obj _) F.entry_enumerate_new
    (meets_enumT l items) ⟨hL, ?_⟩
  have hz : (s.heap.push { cls := .type "tuple_iterator", data := .fields #[.ref l, .int 0 0] }).objs.size = s.heap.objs.size + 1 := Heap.size_push ..
  show _ ∧ _
  rw [hz]
  have he : IsEnum ((s.heap.push { cls := .type "tuple_iterator", data := .fields #[.ref l, .int 0 0] }).push
      { cls := .type "enumerate", data := .fields #[.none, .bool false, .ref s.heap.objs.size, rawInt 0, .none, .none] }) (s.heap.objs.size + 1) s.heap.objs.size 0 .none := by
    have := Heap.get?_push_size (s.heap.push { cls := .type "tuple_iterator", data := .fields #[.ref l, .int 0 0] })
      (o := { cls := .type "enumerate", data := .fields #[.none, .bool false, .ref s.heap.objs.size, rawInt 0, .none, .none] }) rfl
    rw [hz] at this; exact this
  refine ⟨⟨_, he, rfl⟩, h _ he ⟨_, Heap.get?_push_of_some _ (Heap.get?_push_size _ rfl), rfl, rfl⟩ (by rw [Heap.size_push, hz]) fun b o x => Heap.get?_push_of_some _ (Heap.get?_push_of_some _ x)⟩
end
/-- the tuple at a, each item in a new pair -/
def IteT (K : PySem.W.Frag) (a : Addr) : It :=
  ⟨fun i H => ∃ (xs : List V) (x : V), SqT K H a xs ∧ xs[i]? = some x, fun i H v H' => ∃ T x, v = .ref T ∧ H T = none ∧ H' = upd H T (.tup [.int (i : Nat), x]) ∧ ∀ xs, SqT K H a xs → xs[i]? = some x, fun i H => ∃ xs : List V, SqT K H a xs ∧ xs.length ≤ i⟩
theorem turn_enumT {P : Program} {w : World} {K : PySem.W.Frag} {elts : List Expr} {kk : Nat} {tpos : Pos} (a e it : Addr) :
    Turn P w K (.Tuple elts kk tpos) (IteT K a) [e, it] e (fun i h => (∃ old, IsEnum h e it ((i : Nat) : Int) old) ∧ h.IsTupleIter it a i ∧ e ≠ it ∧ a ≠ it ∧ e ≠ a) where
  mem := by simp
  obj := fun i h st b hb => by
    obtain ⟨⟨old, he⟩, ⟨o, ho, hc, hd⟩, _⟩ := st
    have e' : b = e ∨ b = it := by simpa using hb
    rcases e' with z | z
    · rw [z]; exact ⟨_, he, fun v q => nomatch q⟩
    · rw [z]; exact ⟨o, ho, fun v q => by rw [hd] at q; cases q⟩
  keep := fun i h h' st k => let ⟨⟨old, he⟩, hi, hne⟩ := st; ⟨⟨old, k e (by simp) _ he⟩, hi.at fun o q => k it (by simp) o q, hne⟩
  item := by
    intro X hP hw hK hc i pins s σ H E I hf st hg
    subst hP hw hK
    obtain ⟨⟨old, he⟩, hit, hne, hai, hea⟩ := st
    obtain ⟨xs, x, hq, hx⟩ := hg
    obtain ⟨its, rv, p, hz⟩ := I.tuple hq
    obtain ⟨u, hu, ru⟩ := rv.get hx
    have hel : e < s.heap.objs.size := Heap.lt_size he
    have hil : it < s.heap.objs.size := by obtain ⟨_, q, _⟩ := hit; exact Heap.lt_size q
    have hlt : i < its.length := (List.getElem?_eq_some_iff.mp hu).1
    refine wpAny_pyNext_enum_itemD (Draws.tuple (prog := X.prog) (w := X.w) (A := X.A.in1) (by exact I.ok.hd hc) it a hai its.toArray) he ⟨hit, p⟩ (by simpa using hlt) hne (by simp; exact ⟨hne, hea⟩) fun u' h' tk hu' ho hst' hT hsz hk => ?_
    have eu : u' = u := by
      have h1 : its.toArray[i]? = some u := by simpa using hu
      rw [h1] at hu'
      exact (Option.some.inj hu').symm
    subst eu
    obtain ⟨hit', _⟩ := hst'
    refine ⟨_, rfl, wpAny_letOwnedTupleGo_enum (s := { s with heap := h', toks := tk + 1 }) ho fun h'' he' sb => ?_⟩
    have hT2 : h''.get? s.heap.objs.size = some { cls := .type "tuple", data := .seq #[.int i tk, u'] } := (sb.2 _ (Nat.ne_of_gt hel)).trans hT
    have new : ObjOk X.prog X.w (upd H s.heap.objs.size (.tup [.int (i : Nat), x])) h'' s.heap.objs.size (.tup [.int (i : Nat), x]) :=
      ⟨by show 2 ≤ sizeLine; decide, [.int i tk, u'], .cons ⟨_, rfl⟩ (.cons ru .nil), ⟨_, hT2, rfl, _, rfl⟩⟩
    have I1 : Inv X pins σ (upd H s.heap.objs.size (.tup [.int (i : Nat), x])) { s with heap := h'', toks := tk + 1 } :=
      I.turnedNew (ch := [e, it]) (fun b ob hb q => (sb.2 b (fun z => hb (by simp [z]))).trans (hk b ob (fun z => hb (by simp [z])) (fun z => hb (by simp [z])) q)) hf (Nat.le_refl _) new
    refine ⟨.ref s.heap.objs.size, _, I1, rfl, ⟨_, x, rfl, I.hok.fresh (Nat.le_refl _), rfl, fun ys hy => by rw [I.tuple_inj hy hq]; exact hx⟩, ⟨⟨u', ?_⟩, hit'.at fun o q => (sb.2 it (Ne.symm hne)).trans q, hne, hai, hea⟩, fun b hb => ?_⟩
    · have e1 : ((i + 1 : Nat) : Int) = (i : Int) + 1 := by omega
      rw [e1]; exact he'
    · have hb' : b < s.heap.objs.size := by
        have e' : b = e ∨ b = it := by simpa using hb
        rcases e' with z | z
        · rw [z]; exact hel
        · rw [z]; exact hil
      rw [upd_ne (Nat.ne_of_lt hb')]
      exact (hf b hb).1
  done := by
    intro X hP hw hK hc i pins s σ H E I hf st hg
    subst hP hw hK
    obtain ⟨⟨old, he⟩, hit, hne, hai, hea⟩ := st
    obtain ⟨xs, hq, hx⟩ := hg
    obtain ⟨its, rv, p, hz⟩ := I.tuple hq
    obtain ⟨f0, f1, f2, f3, f4, f5⟩ := hf it (by simp)
    have hl := rv.length
    have hT : s.TypeIs (.ref e) "enumerate" := ⟨_, he, rfl⟩
    unfold pyNext
    refine wpAny_bind (wpAny_attempt (wpAny_callSpecial?_slot (name := Str.ofString "__next__") hT F.slot_enumerate_next
      (wpAny_call_entry F.slot_enumerate_next hT F.entry_enumerate_next ?_ (F.args_enumerate_next_1 _))))
    show wpAny _ _ (field (.ref e) 2 >>= _) _ _ _
    refine wpAny_bind (wpAny_field he rfl (x := .ref it) rfl ?_)
    refine wpAny_bind (next_end (k := false) (by exact I.ok.hd hc) hit p (by simp; omega) fun h' x he' hx' => ?_)
    obtain ⟨o, ho, hcc⟩ := hx'
    refine wpAny_bind (wpAny_isInstance (T := "StopIteration") (b := true) ⟨o, ho, hcc⟩ isSubtype_stop ?_)
    exact wpAny_pure ⟨rfl, I.turned (t' := s.toks) (fun b o hb q => he' b o hb q) f0 f1 f3 f4 f5⟩
  self := fun A i s Q E st h => let ⟨⟨_, he⟩, _⟩ := st; wpAny_pyIter_enum he h
def iEnumT (K : PySem.W.Frag) (ta : TA) : TI := fun σ H R => ta σ H fun vs H1 => ∃ a xs, vs = [.ref a] ∧ (SqL K H1 a xs ∧ R (Ite K a) H1 ∨ SqT K H1 a xs ∧ R (IteT K a) H1)
theorem pi_enumA {X : Cx} {e : Expr} {ta : TA} {p pos tpos : Pos} {elts : List Expr} {kk : Nat} (hg : Gl X "enumerate") (hm : X.mg "enumerate" = none) (ha : PA X [e] ta) (hs : starEach [e] X.env = [(false, eval e X.env)] := by rfl) :
    PI X (.Tuple elts kk tpos) (.Call (.Name "enumerate" p) [e] [] pos) (iEnumT X.K ta) := by
  refine ⟨fun pins s σ H R I h => ?_⟩
  refine Call_ (ld_blt I hg hm boot_enumerate (PyProof.Rows.callWith_type1 (thn (ha.run pos pins s σ H _ I h) fun us s1 ⟨vs, H1, I1, r1, q1⟩ => ?_) hs rfl))
  obtain ⟨a, xs, ex, q⟩ := q1
  subst ex
  cases r1 with
  | cons r rr =>
    cases rr
    cases r
    rcases q with ⟨hq, q⟩ | ⟨hq, q⟩
    · obtain ⟨its, rv, p', hz⟩ := I1.list hq
      refine call_enumerate_list p'.isList fun h' he hit hsz hk => wpAny_pyIter_enum he ?_
      have I2 : Inv X pins σ H1 { s1 with heap := h' } := I1.kept (t' := s1.toks) hk
      refine ⟨s1.heap.objs.size + 1, [s1.heap.objs.size + 1, s1.heap.objs.size], _, _, H1, rfl, I2, turn_enum a (s1.heap.objs.size + 1) s1.heap.objs.size, ⟨⟨.none, he⟩, hit, Nat.succ_ne_self _⟩, fun b hb => ?_, q⟩
      have e' : b = s1.heap.objs.size + 1 ∨ b = s1.heap.objs.size := by simpa using hb
      have hle : s1.heap.objs.size ≤ b := by
        rcases e' with z | z
        · rw [z]; exact Nat.le_add_right _ _
        · rw [z]; exact Nat.le_refl _
      exact I1.fpOk hle (I1.hok.fresh hle)
    · obtain ⟨its, rv, p', hz⟩ := I1.tuple hq
      have hal : a < s1.heap.objs.size := asq_lt (b := false) p'
      refine call_enumT p' fun h' he hit hsz hk => wpAny_pyIter_enum he ?_
      have I2 : Inv X pins σ H1 { s1 with heap := h' } := I1.kept (t' := s1.toks) hk
      refine ⟨s1.heap.objs.size + 1, [s1.heap.objs.size + 1, s1.heap.objs.size], _, _, H1, rfl, I2, turn_enumT a (s1.heap.objs.size + 1) s1.heap.objs.size, ⟨⟨.none, he⟩, hit, Nat.succ_ne_self _, Nat.ne_of_lt hal, Nat.ne_of_gt (Nat.lt_succ_of_lt hal)⟩, fun b hb => ?_, q⟩
      have e' : b = s1.heap.objs.size + 1 ∨ b = s1.heap.objs.size := by simpa using hb
      have hle : s1.heap.objs.size ≤ b := by
        rcases e' with z | z
        · rw [z]; exact Nat.le_add_right _ _
        · rw [z]; exact Nat.le_refl _
      exact I1.fpOk hle (I1.hok.fresh hle)
section
variable {X : Cx} {W : WX}
def iEnA (da : DA) : DI := fun ga mu P F => da ga mu P fun ds mu1 => match ds with
  | [x] => ∃ l, pv_ mu1 x = some l ∧ l.all npD = true ∧ F (enF 0 l) (okS x l) mu1
  | _ => False
theorem wk_enL {K : PySem.W.Frag} {x : D} {p : Addr} {l : List D} {hd0 : List Addr} {H0 : Hp} {al0 : List Addr} (r : Rep K (al0 ++ hd0) H0 al0 x (.ref p)) (hl : l.all npD = true) (hx : kindB x = true) : WkOk K (Ite K p) (enF 0 l) (okS x l) hd0 H0 al0 := by
  have key : ∀ hd H mu al, Fz H0 (al0 ++ hd0) H (al ++ hd) → Pre al0 al → Okay K hd H mu al → okS x l mu → ∃ xs, SqL K H p xs ∧ RepL K (al ++ hd) H al l xs := fun hd H mu al g pr o h => by
    have := sq_of r g pr o h
    rw [hx] at this
    exact this
  refine ⟨fun hd H mu al g pr o h => ?_, fun hd H mu al i g pr o h hi => ?_, fun hd H mu al i v H' g pr o h hi y => ?_⟩
  · obtain ⟨xs, s, r1⟩ := key hd H mu al g pr o h
    exact ⟨xs, s, by rw [enF_len, r1.len]; exact Nat.le_refl _⟩
  · obtain ⟨xs, s, r1⟩ := key hd H mu al g pr o h
    rw [enF_len, r1.len] at hi
    exact ⟨xs, xs[i], s, List.getElem?_eq_getElem hi⟩
  · obtain ⟨xs, s, r1⟩ := key hd H mu al g pr o h
    obtain ⟨T, z, rfl, hT, rfl, q⟩ := y
    obtain ⟨d, e1, r2⟩ := r1.get (q xs s)
    have gl := Go.lay (hd := hd) (al := al) (u := .tup [.int (i : Nat), z]) o hT
    refine ⟨_, enF_get l 0 i d e1, o.lay hT, gl, ?_⟩
    rw [Nat.zero_add]
    exact .tup ⟨o.new hT, upd_same⟩ (.cons .int (.cons ((r2.np (all_at hl e1)).go gl (Pre.refl _)) .nil))
theorem wk_enT {K : PySem.W.Frag} {x : D} {p : Addr} {l : List D} {hd0 : List Addr} {H0 : Hp} {al0 : List Addr} (r : Rep K (al0 ++ hd0) H0 al0 x (.ref p)) (hl : l.all npD = true) (hx : kindB x = false) : WkOk K (IteT K p) (enF 0 l) (okS x l) hd0 H0 al0 := by
  have key : ∀ hd H mu al, Fz H0 (al0 ++ hd0) H (al ++ hd) → Pre al0 al → Okay K hd H mu al → okS x l mu → ∃ xs, SqT K H p xs ∧ RepL K (al ++ hd) H al l xs := fun hd H mu al g pr o h => by
    have := sq_of r g pr o h
    rw [hx] at this
    exact this
  refine ⟨fun hd H mu al g pr o h => ?_, fun hd H mu al i g pr o h hi => ?_, fun hd H mu al i v H' g pr o h hi y => ?_⟩
  · obtain ⟨xs, s, r1⟩ := key hd H mu al g pr o h
    exact ⟨xs, s, by rw [enF_len, r1.len]; exact Nat.le_refl _⟩
  · obtain ⟨xs, s, r1⟩ := key hd H mu al g pr o h
    rw [enF_len, r1.len] at hi
    exact ⟨xs, xs[i], s, List.getElem?_eq_getElem hi⟩
  · obtain ⟨xs, s, r1⟩ := key hd H mu al g pr o h
    obtain ⟨T, z, rfl, hT, rfl, q⟩ := y
    obtain ⟨d, e1, r2⟩ := r1.get (q xs s)
    have gl := Go.lay (hd := hd) (al := al) (u := .tup [.int (i : Nat), z]) o hT
    refine ⟨_, enF_get l 0 i d e1, o.lay hT, gl, ?_⟩
    rw [Nat.zero_add]
    exact .tup ⟨o.new hT, upd_same⟩ (.cons .int (.cons ((r2.np (all_at hl e1)).go gl (Pre.refl _)) .nil))
theorem di_enumA {e : Expr} {da : DA} {p pos tpos : Pos} {elts : List Expr} {kk : Nat} (hm : X.mg "enumerate" = none) (ha : PA X [e] (liftA X.K W da)) (hg : Gl X "enumerate" := by rfl) (hs : starEach [e] X.env = [(false, eval e X.env)] := by rfl) :
    PI X (.Tuple elts kk tpos) (.Call (.Name "enumerate" p) [e] [] pos) (liftI X.K W (iEnA da)) := by
  refine pi_wk (pi_enumA hg hm ha hs) fun sg H R ⟨ga, mu, al, hd, P, F, a, h, k, kx⟩ => ?_
  refine ⟨ga, mu, al, hd, P, _, a, h, ⟨fun ds mu1 vs H1 al1 h1 o1 g1 r1 => ?_⟩, kx⟩
  split at h1
  · rename_i x
    obtain ⟨l, hl, nl, h2⟩ := h1
    obtain ⟨v, ys, rfl, r2, r3⟩ := r1.cons_
    cases r3.nil_
    obtain ⟨q, xs, rfl, _, r4⟩ := r2.pv_ o1 hl
    obtain ⟨us, s1, _⟩ := sq_of (hd0 := hd) (H0 := H1) (al0 := al1) r2 (Fz.refl _ _) (Pre.refl _) o1 hl
    cases hx : kindB x with
    | true =>
      rw [hx] at s1
      exact ⟨q, us, rfl, .inl ⟨s1, k _ _ _ _ _ _ h2 o1 g1 (wk_enL r2 nl hx)⟩⟩
    | false =>
      rw [hx] at s1
      exact ⟨q, us, rfl, .inr ⟨s1, k _ _ _ _ _ _ h2 o1 g1 (wk_enT r2 nl hx)⟩⟩
  · exact h1.elim
/-! ### range(i, j, -1) -/
def rngD (i : Int) (n : Nat) : List D := (List.range n).map fun (k : Nat) => D.int (i + (k : Int) * (-1))
def iR3 (da : DA) : DI := fun ga mu P F => da ga mu P fun ds mu1 => match ds with
  | [.int i, .int j, .int c] => (c = -1 ∧ -(2 ^ 62) ≤ i ∧ i < 2 ^ 62 ∧ -(2 ^ 62) ≤ j ∧ j < 2 ^ 62) ∧ F (rngD i (i - j).toNat) (fun _ => True) mu1
  | _ => False
theorem rngD_len (lo : Int) (n : Nat) : (rngD lo n).length = n := by unfold rngD; rw [List.length_map, List.length_range]
theorem rngD_get {lo : Int} {n i : Nat} (h : i < n) : (rngD lo n)[i]? = some (.int (lo + (i : Int) * (-1))) := by
  unfold rngD
  rw [List.getElem?_map, List.getElem?_range h]
  rfl
theorem wk_rangeC {K : PySem.W.Frag} {lo : Int} {n : Nat} {hd0 : List Addr} {H0 : Hp} {al0 : List Addr} : WkOk K (Itc lo (-1) n) (rngD lo n) (fun _ => True) hd0 H0 al0 := by
  refine ⟨fun hd H mu al g pr o h => ?_, fun hd H mu al i g pr o h hi => ?_, fun hd H mu al i v H' g pr o h hi y => ?_⟩
  · rw [rngD_len]
    exact Nat.le_refl _
  · rw [rngD_len] at hi
    exact hi
  · rw [rngD_len] at hi
    obtain ⟨e, q⟩ := y
    subst e q
    exact ⟨_, rngD_get hi, o, Go.refl _ _, .int⟩
theorem di_range3 {tg a b c : Expr} {da : DA} {p pos : Pos} (hm : X.mg "range" = none) (ha : PA X [a, b, c] (liftA X.K W da)) (hg : Gl X "range" := by rfl)
    (hs : starEach [a, b, c] X.env = (false, eval a X.env) :: starEach [b, c] X.env := by rfl) (hpl : (backTo pos (starEach [b, c] X.env)).any (·.1) = false := by rfl) : PI X tg (.Call (.Name "range" p) [a, b, c] [] pos) (liftI X.K W (iR3 da)) := by
  refine pi_wk (pi_range3 hg hm ha hs hpl) fun sg H R ⟨ga, mu, al, hd, P, F, a, h, k, kx⟩ => ?_
  refine ⟨ga, mu, al, hd, P, _, a, h, ⟨fun ds mu1 vs H1 al1 h1 o1 g1 r1 => ?_⟩, kx⟩
  split at h1
  · obtain ⟨v, ys, rfl, r2, r3⟩ := r1.cons_
    obtain ⟨v2, ys2, rfl, r4, r5⟩ := r3.cons_
    obtain ⟨v3, ys3, rfl, r6, r7⟩ := r5.cons_
    cases r7.nil_
    cases r2.int_
    cases r4.int_
    cases r6.int_
    obtain ⟨⟨rfl, h1, h2, h3, h4⟩, hF⟩ := h1
    exact ⟨_, _, _, _, rfl, RgC.neg h1 h2 h3 h4, k _ _ _ _ _ _ hF o1 g1 wk_rangeC⟩
  · exact h1.elim
end
end DZ

/-! part DZ4 -/
/-! DZ4: x in y by the text's own __contains__; a lambda handed to a def that tells whether it raises. -/
namespace DZ
open PySem PySem.Spec PyProof.Rows L2 DL DQ DX
open PySem.W in
theorem contains_K {prog : Program} {w : World} {A : Around} {E : Value → Shared → Prop} {s : Shared} {K : Frag} {x C f : Addr} {ox : Obj} {od : Option Obj} {v : Value} {Q : Bool → Shared → Prop} (X : K.In s.heap) (I : InstAt s.heap x ox C od)
    (hs : findIn K (.ref C) "__contains__" = some (some (.ref f))) (hf : typeIn K (.ref f) = some (.type "function")) (h : wpAny (model prog w) A (call (.ref f) [.ref x, v]) (fun r s' => ∃ b, r = .bool b ∧ Q b s') E s) : wpAny (model prog w) A (contains (.ref x) v) Q E s := by
  unfold contains
  refine wpAny_holding ?_
  show wpAny _ _ (specialOf (.ref x) "__contains__" >>= _) _ _ _
  refine wpAny_bind (wpAny_bind (I.type.here ((looks_findIn X hs).here ?_)))
  have e : ((some (Value.ref f) : Option Value) == some .none) = false := rfl
  simp only [e, Bool.false_eq_true, if_false]
  show wpAny _ _ (callSpecialUnlessNone? (.ref x) "__contains__" [v] _ >>= _) _ _ _
  refine wpAny_bind ?_
  unfold callSpecialUnlessNone?
  refine wpAny_bind (wpAny_bind (I.type.here ((looks_findIn X hs).here ?_)))
  refine wpAny_holding (wpAny_bind ((bind_fn X _ hf).here ?_))
  have e2 : ((Value.ref f) == Value.none) = false := rfl
  simp only [e2, Bool.false_eq_true, if_false]
  refine wpAny_bind (wpAny_mono h (fun r s' hr => ?_) fun _ _ z => z)
  obtain ⟨b, rfl, hq⟩ := hr
  exact wpAny_pure (wpAny_truthy_bool hq)
section
variable {X : Cx} {W : WX}
/-- x in y, y of class c -/
def gInO (c : Nat) (sp : DSp) : G2 := fun x y mu P F => clsD mu y = some c ∧ sp [y, x] mu P fun d mu' => match d with
  | .bl b => F (.bl b) mu'
  | _ => False
theorem o_inO {k c : Nat} {f : Addr} {sp : DSp} (Pm : Prom X.prog X.w X.K X.mg X.base k f 2 sp) (hM : Meth X.K (He.ga X.K (cn c)) "__contains__" f) (hr : Room k X.A) (tk : Takes X W) : OpS X (compareOp .In) (liftR X.K W (gInO c sp)) := by
  intro pins s sg H x y v u Q I rx ry h
  obtain ⟨mu, al, hd, d, e, P, F, o, r1, r2, ⟨c2, hsp⟩, kv, kx⟩ := h
  obtain ⟨b, dy, ys, rfl, _, eb⟩ := r2.cls o c2
  cases (show u = Value.ref b from ry)
  obtain ⟨mB, J', _⟩ := ins_get I.hok eb
  obtain ⟨od', J', _⟩ := J'.look
  obtain ⟨fd, ps, hn, G, bb⟩ := Pm.ok
  show wpAny _ _ (contains (.ref b) v >>= fun r => pure (Value.bool r)) _ _ _
  refine wpAny_bind (contains_K I.kIn J' hM.at_ (beq_iff_eq.mp hM.fn) ?_)
  have kv' : Kv X.K hd H al (fun d mu' => match d with
    | .bl b => F (.bl b) mu'
    | _ => False) (fun v H' => ∃ bo, v = .bl bo ∧ Q (.bl bo) H') := ⟨fun d' mu' v' H' al' hF o' g' r' => by
      cases d' <;> try exact hF.elim
      rename_i bo
      exact ⟨bo, r'.bl_, kv.go _ _ _ _ _ hF o' g' .bl⟩⟩
  refine wpAny_mono (run_fnS (us := [.ref b, v]) (vs := [.ref b, x]) G hr bb (passAt tk sg) I (.cons rfl (.cons rx .nil)) (args_in Pm.ar hsp o (Go.refl _ _) (.cons r2 (.cons r1 .nil)) kv' kx)) (fun w s' z => ?_) fun _ _ x => x
  obtain ⟨z', H', I', rz, bo, rfl, qz⟩ := z
  have ew : w = .bool bo := rz
  exact ⟨bo, ew, wpAny_pure ⟨.bl bo, H', I', rfl, qz⟩⟩
end
/-! ### flag = False; try: x() / except ..; return flag -/
def TTE (K : PySem.W.Frag) (n : Nat) (l : List Cl1) : (XK → Hp → VK → Prop) → Hp → VK → Prop := fun tl H Q =>
  tl (fun cls d H' => ∀ q : L2.St, q.length = n → wMix K DX.W0 { nx := fun σ H' => ∃ v, σ[1]? = some (some v) ∧ Q v H', rt := Q } (l.map (hcl K)) cls d q H') H (fun _ H1 => ∃ v, (some (some (V.bl false)) : Option (Option V)) = some (some v) ∧ Q v H1)
section
variable {X : Cx}
theorem gives_E {Ng : List Str} {x a fl q : Str} {sg : Scope} {g : Addr} {cdg : Value} {h0 : ExceptHandler} {hds : List ExceptHandler} {l : List Cl1} {n : Nat} {p0 p1 p2 p3 p4 p5 p6 p7 p8 : Pos} {jx}
    (hN : Ng.Nodup) (hn : Ng.length = n) (hst : ∀ f : Addr, L2.start Ng [V.ref f] = [some (V.ref f), none]) (hfl : Ng[1]? = some fl) (hlo : Loc sg fl) (hlk : sg.names.lookup fl = some .local) (hvi : Vis sg fl)
    (hsw : ∀ env : Env, swapsWith (.Call (.Name a p2) [] [] p3) none p4.line env = pure false) (hsw2 : ∀ env : Env, swapsWith (.Constant (.bool false) jx p1) (some (.Name fl p0)) p7.line env = pure false)
    (hd : (fl == ("__debug__" : Str)) = false) (hcd : (fl == ("__classdict__" : Str)) = false)
    (hh : ∀ (s : Shared) (H : Hp), HdsMix (cxOf C8.CX0 X.prog X.w X.K X.mg X.base Ng x sg g cdg X.A X.stack s H C8.E0).nox (h0 :: hds) (l.map (hcl X.K))) :
    LamX.GivesTo X Ng x sg g cdg [.Assign [.Name fl p0] (.Constant (.bool false) jx p1) p7, .Try [.Expr (.Call (.Name a p2) [] [] p3) p4] (h0 :: hds) [] [] p5, .Return (some (.Name fl p8)) p6] a q (TTE X.K n l) := by
  intro f c' s H Q tl act hc h
  refine ⟨_, pss_cons (ps_set (i := 1) hN hfl hlo pe_bl (hsw2 _) (.inr hlk)) (pss_cons (ps_try_mix (X := (cxOf C8.CX0 X.prog X.w X.K X.mg X.base Ng x sg g cdg X.A X.stack s H C8.E0).nox)
      (tb := fun W D σ H => ∃ Ech : XK, (∀ cls d σ' H', Ech cls d H' → W cls d σ' H') ∧ σ[0]? = some (some (.ref f)) ∧ H c' = some (LamX.CodeO c' q) ∧ tl Ech H (fun v H1 => D.nx σ H1))
      rfl rfl hN takes0' (fun W pn xe tk _ => ?_) (hh s H)) (pss_one (ps_ret (pe_var (i := 1) hfl hvi hd hcd)))), ?_⟩
  · refine ⟨fun pins s' σ H' D I h' => ?_⟩
    obtain ⟨Ech, hW, h1, h2, h3⟩ := h'
    have hp := act W pn xe Ech p2 p3 tk hW
    have hq := pss_one (ps_expr (pos := p4) hp (hsw _))
    exact hq.run pins s' σ H' D I ⟨h1, h2, h3⟩
  · rw [hst]
    exact ⟨fun cls d H' => ∀ q : L2.St, q.length = n → wMix X.K DX.W0 { nx := fun σ H' => ∃ v, σ[1]? = some (some v) ∧ Q v H', rt := Q } (l.map (hcl X.K)) cls d q H', fun cls d σ' H' z hl => z σ' (hl.trans hn), rfl, hc, h⟩
end
def dLamE (T : List (Addr × Str)) (es : List Nat) (n : Nat) (l : List Cl1) (dc : DE) : DE := fun ga mu _ F => tabsOf mu = T ∧ dc ga mu (fun x mu1 => x.1 ∈ es ∧ pick n { nx := fun ga2 mu2 => ∃ d, ga2[1]? = some (some d) ∧ F d mu2, rt := F, ex := fun _ _ => False } x mu1 l) fun _ mu1 => F (.bl false) mu1
section
variable {X : Cx} {W : WX} {T : List (Addr × Str)} {es ys : List Nat} {n : Nat} {l : List Cl1} {dc : DE} {x a : Str} {g c P : Addr} {k : Nat} {pg : Arguments} {bg : List Stmt} {sg : Scope} {Ng : List Str} {params : Arguments} {body : Expr} {scope : Scope} {p lpos pos : Pos}
theorem d_lamE (hm : X.mg x = some (.ref g)) (F : ∃ fd, FunD X.K x x pg bg sg [] [] g fd)
    (hps : ∀ (kV doc pm : Value) (an : Option Addr) (cdv ct : Value) (us : List Value), us.length = [a].length → bindArgs (PySem.W.fnOf x x pg bg sg .none kV doc pm an cdv ct) ⟨us, []⟩ = pure ([a].zip us))
    (Sg : FnScope Ng [a] sg) (hG : ∀ cdv : Value, LamX.GivesTo X Ng x sg g cdv bg a (X.env.qual ++ "<lambda>") (TTE X.K n l)) (hx : exmB X.K es ys = true) (hy : ∀ t ∈ l, t.1 ∈ ys)
    (TB : LamX.TabB X.base X.mg c P) (hcode : X.env.code = .ref c) (hmT : (P, X.env.qual ++ "<lambda>") ∈ T) (hu : ∀ p ∈ T, p.1 = P → p.2 = X.env.qual ++ "<lambda>") (hr : Room (k + 2) X.A) (L : LamX.LamS X.env.scope scope)
    (hbody : ∀ (A : Around) (outer : List Env) (s : Shared) (H : Hp) (E : XK) (f c' : Addr), Room k (A.deeper (LamX.lamEnv X scope s.heap.objs.size f c')) → PE (LamX.lamCx X A outer s H E scope f c') body (liftE X.K (fun c d _ h => E c d h) dc))
    (hg : Gl X x := by rfl) (hNg : Ng[0]? = some a := by rfl) (hva : Vis sg a := by first | exact Or.inl rfl | exact Or.inr (Or.inl rfl) | exact Or.inr (Or.inr rfl)) (hdef : defaultsOf params X.env = ([], []) := by rfl)
    (hbind : ∀ (q : Str) (cl : List (Str × Addr)) (pm cv ctv : Value), bindArgs (PySem.W.kla_fn "<lambda>" q params body scope cl pm cv ctv) ⟨[], []⟩ = pure [] := by intro _ _ _ _ _; rfl)
    (hdb : (x == ("__debug__" : Str)) = false := by decide) (hd1 : (a == ("__debug__" : Str)) = false := by decide) (hcd1 : (a == ("__classdict__" : Str)) = false := by decide) :
    PE X (.Call (.Name x p) [.Lambda params body scope lpos] [] pos) (liftE X.K W (dLamE T es n l dc)) := by
  obtain ⟨fd, F⟩ := F
  obtain ⟨oc, od, dV, kV, doc, pm, an, cdv, ct, osl, hfd, lk, hcd, hdv, _⟩ := F.ex
  have hdv0 : dV = .none := by
    rcases hdv with ⟨_, e⟩ | ⟨e, _⟩
    · exact e
    · exact (e rfl).elim
  subst hdv0 hfd
  have hb : L2.Binds X.K (PySem.W.fnOf x x pg bg sg .none kV doc pm an cdv ct) [a] [] := F.bindsN hps
  refine pe_wk (LamX.pe_lamcall (TT := TTE X.K n l) (t := fun E => liftE X.K (fun c d _ h => E c d h) dc) hg hm F.kp lk hcd hb Sg hNg hva (hG cdv) TB hcode hmT hu hr L hdef hbind hbody hdb hd1 hcd1) fun σ H Q ⟨ga, mu, al, hd, P, F, at_, h, kv, kx⟩ => ?_
  obtain ⟨hT0, h⟩ := h
  refine ⟨tabs_of at_.ok hT0, fun H1 eN T1 => ?_⟩
  have o1 := okay_tabs at_.ok hT0 eN T1
  have g1 := go_tabs at_.ok eN
  have kv1 := kv.to g1
  refine ⟨ga, mu, al, hd, _, _, at_.to o1 g1, h, ⟨fun d mu1 v H2 al2 h2 o2 g2 r2 => ⟨_, rfl, kv1.go _ _ _ _ _ h2 o2 g2 .bl⟩⟩, ⟨fun y mu1 cls dd H2 al2 h2 o2 g2 r2 q hq => ?_⟩⟩
  refine pick_mix (Wo := DX.W0) (H := H1) (al := al) (D := { nx := fun σ H' => ∃ v, σ[1]? = some (some v) ∧ Q v H', rt := Q }) (E := { nx := fun ga2 mu2 => ∃ d, ga2[1]? = some (some d) ∧ F d mu2, rt := F, ex := fun _ _ => False }) ⟨fun ga mu sg H' al' z a g => ?_, kv1, fun _ => ⟨fun _ _ _ _ _ _ z => z.elim⟩, fun _ _ _ _ _ z _ _ => z.elim, fun _ _ _ _ _ z _ _ => z.elim⟩ hx h2.1 o2 g2 r2 hq l hy h2.2
  obtain ⟨d, e, z⟩ := z
  obtain ⟨v, hv, r⟩ := a.sl.at_ 1 d e
  exact ⟨v, hv, kv1.go _ _ _ _ _ z a.ok g r⟩
end
end DZ

/-! part DZ5 -/
/-! DZ5: dicts with keys that are tuples of numbers and texts; sorted of alike data. -/
namespace DZ
open PySem PySem.Spec PyProof.Rows L2 DL

/-! ### keys -/
def keyD : D → Option Key
  | .int i => some (.inl i)
  | .str x => some (.inr x)
  | _ => none
def keyL : List D → Option (List Key)
  | [] => some []
  | d :: l => match keyD d, keyL l with
    | some k, some r => some (k :: r)
    | _, _ => none
def dK : Key → D
  | .inl i => .int i
  | .inr x => .str x
theorem keyL_ints : ∀ l : List Int, keyL (l.map D.int) = some (l.map Sum.inl)
  | [] => rfl
  | x :: l => by rw [List.map_cons, keyL, keyL_ints l]; rfl
theorem rep_key {K : PySem.W.Frag} {al pt : List Addr} {H : Hp} {d : D} {v : V} {k : Key} (r : Rep K al H pt d v) (h : keyD d = some k) : v = kV k := by
  cases r <;> cases h <;> rfl
theorem rep_keyL {K : PySem.W.Frag} {al pt : List Addr} {H : Hp} : ∀ {l : List D} {xs : List V} {k : List Key}, RepL K al H pt l xs → keyL l = some k → xs = k.map kV
  | _, _, k, .nil, h => by cases h; rfl
  | d :: l, v :: xs, k, .cons r s, h => by
    rw [keyL] at h
    split at h
    · rename_i k0 k1 h0 h1
      cases h
      rw [List.map_cons, ← rep_key r h0, ← rep_keyL s h1]
    · cases h
theorem rep_dK {K : PySem.W.Frag} {al pt : List Addr} {H : Hp} : ∀ k : Key, Rep K al H pt (dK k) (kV k)
  | .inl _ => .int
  | .inr _ => .str
theorem repL_dK {K : PySem.W.Frag} {al pt : List Addr} {H : Hp} : ∀ k : List Key, RepL K al H pt (k.map dK) (k.map kV)
  | [] => .nil
  | x :: k => .cons (rep_dK x) (repL_dK k)
/-! ### tables -/
def valD (kvs : List (List Key × D)) (k : List Key) : Option D := (kvs.find? fun kv => decide (kv.1 = k)).map (·.2)
def putD (kvs : List (List Key × D)) (k : List Key) (d : D) : List (List Key × D) :=
  if (kvs.any fun kv => decide (kv.1 = k)) = true then kvs.map (fun kv => if kv.1 = k then (kv.1, d) else kv) else kvs ++ [(k, d)]
section
variable {K : PySem.W.Frag} {al : List Addr} {H : Hp}
theorem kv_len : ∀ {l : List (List Key × D)} {xs : List (List Key × V)}, RepKV K al H l xs → l.length = xs.length
  | [], [], _ => rfl
  | (k, d) :: l, (j, v) :: xs, h => congrArg Nat.succ (kv_len h.2.2)
  | [], _ :: _, h => h.elim
  | _ :: _, [], h => h.elim
theorem kv_val (k0 : List Key) : ∀ {l : List (List Key × D)} {xs : List (List Key × V)}, RepKV K al H l xs → (valD l k0 = none ∧ valV xs k0 = none) ∨ ∃ d v, valD l k0 = some d ∧ valV xs k0 = some v ∧ Rep K al H [] d v
  | [], [], _ => .inl ⟨rfl, rfl⟩
  | (k, d) :: l, (j, v) :: xs, h => by
    obtain ⟨rfl, h1, h2⟩ := h
    by_cases e : k = k0
    · exact .inr ⟨d, v, by simp [valD, List.find?_cons, e], valV_pos e, h1⟩
    · have ih := kv_val k0 h2
      have e1 : valD ((k, d) :: l) k0 = valD l k0 := by simp [valD, List.find?_cons, e]
      rw [e1, valV_neg (p := (k, v)) e]
      exact ih
  | [], _ :: _, h => h.elim
  | _ :: _, [], h => h.elim
theorem kv_app : ∀ {l l' : List (List Key × D)} {xs xs' : List (List Key × V)}, RepKV K al H l xs → RepKV K al H l' xs' → RepKV K al H (l ++ l') (xs ++ xs')
  | [], _, [], _, _, h => h
  | (k, d) :: l, _, (j, v) :: xs, _, h, h' => ⟨h.1, h.2.1, kv_app h.2.2 h'⟩
  | [], _, _ :: _, _, h, _ => h.elim
  | _ :: _, _, [], _, h, _ => h.elim
theorem kv_any (k0 : List Key) : ∀ {l : List (List Key × D)} {xs : List (List Key × V)}, RepKV K al H l xs → (l.any fun kv => decide (kv.1 = k0)) = (xs.any fun kv => decide (kv.1 = k0))
  | [], [], _ => rfl
  | (k, d) :: l, (j, v) :: xs, h => by
    obtain ⟨rfl, h1, h2⟩ := h
    rw [List.any_cons, List.any_cons, kv_any k0 h2]
  | [], _ :: _, h => h.elim
  | _ :: _, [], h => h.elim
theorem kv_map (k0 : List Key) {d0 : D} {v0 : V} (r : Rep K al H [] d0 v0) : ∀ {l : List (List Key × D)} {xs : List (List Key × V)}, RepKV K al H l xs → RepKV K al H (l.map (fun kv => if kv.1 = k0 then (kv.1, d0) else kv)) (xs.map (fun kv => if kv.1 = k0 then (kv.1, v0) else kv))
  | [], [], _ => trivial
  | (k, d) :: l, (j, v) :: xs, h => by
    obtain ⟨rfl, h1, h2⟩ := h
    have ih := kv_map k0 r h2
    rw [List.map_cons, List.map_cons]
    by_cases e : k = k0
    · rw [if_pos (by exact e), if_pos (by exact e)]
      exact ⟨rfl, r, ih⟩
    · rw [if_neg (by exact e), if_neg (by exact e)]
      exact ⟨rfl, h1, ih⟩
  | [], _ :: _, h => h.elim
  | _ :: _, [], h => h.elim
theorem kv_put {k : List Key} {d : D} {v : V} {l : List (List Key × D)} {xs : List (List Key × V)} (h : RepKV K al H l xs) (r : Rep K al H [] d v) : RepKV K al H (putD l k d) (putK xs k v) := by
  unfold putD putK
  rw [kv_any k h]
  split
  · exact kv_map k r h
  · exact kv_app h ⟨rfl, r, trivial⟩
end
section
variable {X : Cx} {W : WX}
/-- {}, with tuples as keys -/
def dDitN : DE := fun _ mu _ F => F (.ptr mu.length) (mu ++ [.dit []])
theorem d_ditN {pos : Pos} : PE X (.Dict [] [] pos) (liftE X.K W dDitN) := pe_wk pe_dnewT fun sg H Q ⟨ga, mu, al, hd, P, F, a, h, kv, kx⟩ => fun p hp =>
  kv.cel a.ok hp (upd_keep hp) h fun g => ⟨[], upd_same, trivial⟩
/-- d.get(k, x) -/
def dDGet (do_ de df : DE) : DE := fun ga mu P F => do_ ga mu P fun x mu1 => (∃ n kvs, x = .ptr n ∧ mu1[n]? = some (.dit kvs)) ∧ de ga mu1 P fun y mu2 => df ga mu2 P fun z mu3 => match x, y with
  | .ptr n, .tup l => ∃ kvs k, mu3[n]? = some (.dit kvs) ∧ keyL l = some k ∧ F ((valD kvs k).getD z) mu3
  | _, _ => False
theorem d_dget {o e f : Expr} {apos cpos : Pos} {do_ de df : DE} (hu : X.A.units + 1 < cLine) (ho : PE X o (liftE X.K W do_)) (he : PE X e (liftE X.K W de)) (hf : PE X f (liftE X.K W df))
    (m : M2 X o "get" apos e f cpos := by exact ⟨rfl, rfl, rfl, rfl⟩) : PE X (.Call (.Attribute o "get" apos) [e, f] [] cpos) (liftE X.K W (dDGet do_ de df)) := by
  refine pe_wk (pe_dget2 hu ho he hf m) fun sg H Q ⟨ga, mu, al, hd, P, F, a, h, kv, kx⟩ => ?_
  refine ⟨ga, mu, al, hd, P, _, a, h, ⟨fun x mu1 xv H1 al1 h1 o1 g1 r1 => ?_⟩, kx⟩
  obtain ⟨⟨n, kvs, rfl, hn⟩, h1⟩ := h1
  cases r1 with
  | ptr ep =>
    rename_i p
    obtain ⟨vs, e1, _⟩ := o1.at_ n _ p hn ep
    refine ⟨p, rfl, .inr ⟨vs, .inl e1⟩, ga, mu1, al1, hd, P, _, a.to o1 g1, h1, ⟨fun y mu2 yv H2 al2 h2 o2 g2 r2 => ⟨ga, mu2, al2, hd, P, _, a.to o2 (g1.trans g2), h2, ⟨fun z mu3 zv H3 al3 h3 o3 g3 r3 => ?_⟩, kx.to (g1.trans g2)⟩⟩, kx.to g1⟩
    cases y <;> try exact h3.elim
    rename_i l
    obtain ⟨kvs3, k, q3, hk, hF⟩ := h3
    obtain ⟨b, xs, rfl, _, eb, sx⟩ := (r2.go g3 g3.pre).tv (l := l) rfl
    rw [rep_keyL sx hk] at eb
    have ep3 := (g2.trans g3).pre n p ep
    obtain ⟨vs3, e3, rk⟩ := o3.at_ n _ p q3 ep3
    refine ⟨_, DGet.t e3 eb, ?_⟩
    have kv3 := kv.to ((g1.trans g2).trans g3)
    rcases kv_val k rk with ⟨n1, n2⟩ | ⟨d, v, n1, n2, rv⟩
    · rw [n2]
      rw [n1] at hF
      exact kv3.now o3 hF r3
    · rw [n2]
      rw [n1] at hF
      exact kv3.now o3 hF (rv.fz (Fz.refl _ _) (Pre.nil _))
/-- d[k] -/
def dDIx (do_ de : DE) : DE := fun ga mu P F => do_ ga mu P fun x mu1 => de ga mu1 P fun y mu2 => match x, y with
  | .ptr n, .tup l => ∃ kvs k d, mu2[n]? = some (.dit kvs) ∧ keyL l = some k ∧ valD kvs k = some d ∧ F d mu2
  | _, _ => False
theorem d_dix2 {o e : Expr} {pos : Pos} {do_ de : DE} (hu : X.A.units + 1 < cLine) (ho : PE X o (liftE X.K W do_)) (he : PE X e (liftE X.K W de)) (hs : NoSl e) : PE X (.Subscript o e pos) (liftE X.K W (dDIx do_ de)) := by
  refine pe_wk (pe_dget hu ho he hs) fun sg H Q ⟨ga, mu, al, hd, P, F, a, h, kv, kx⟩ => ?_
  refine ⟨ga, mu, al, hd, P, _, a, h, ⟨fun x mu1 xv H1 al1 h1 o1 g1 r1 => ⟨ga, mu1, al1, hd, P, _, a.to o1 g1, h1, ⟨fun y mu2 yv H2 al2 h2 o2 g2 r2 => ?_⟩, kx.to g1⟩⟩, kx⟩
  cases x <;> try exact h2.elim
  cases y <;> try exact h2.elim
  rename_i n l
  obtain ⟨kvs, k, d, q, hk, hv, hF⟩ := h2
  cases r1 with
  | ptr ep =>
    rename_i p
    obtain ⟨b, xs, rfl, _, eb, sx⟩ := r2.tv (l := l) rfl
    rw [rep_keyL sx hk] at eb
    obtain ⟨vs, e3, rk⟩ := o2.at_ n _ p q (g2.pre n p ep)
    rcases kv_val k rk with ⟨n1, n2⟩ | ⟨d', v, n1, n2, rv⟩
    · rw [hv] at n1
      cases n1
    · rw [hv] at n1
      cases n1
      refine ⟨p, v, rfl, ?_, (kv.to (g1.trans g2)).now o2 hF (rv.fz (Fz.refl _ _) (Pre.nil _))⟩
      rw [← n2]
      exact DGet.t e3 eb
/-- k in d -/
def dDIn (de do_ : DE) : DE := fun ga mu P F => de ga mu P fun y mu1 => do_ ga mu1 P fun x mu2 => match x, y with
  | .ptr n, .tup l => ∃ kvs k, mu2[n]? = some (.dit kvs) ∧ keyL l = some k ∧ F (.bl (valD kvs k).isSome) mu2
  | _, _ => False
/-- d[k] = e -/
def dDPut (do_ di de : DE) : DS := fun E ga mu => de ga mu E.ex fun v mu1 => do_ ga mu1 E.ex fun x mu2 => di ga mu2 E.ex fun y mu3 => match x, y with
  | .ptr n, .tup l => ∃ kvs k, mu3[n]? = some (.dit kvs) ∧ keyL l = some k ∧ np v ∧ kvs.length < 16777216 ∧ E.nx ga (mu3.set n (.dit (putD kvs k v)))
  | _, _ => False
theorem ds_dput {o i e : Expr} {do_ di de : DE} {pos pos' : Pos} (hu : X.A.units + 1 < cLine) (ho : PE X o (liftE X.K W do_)) (hi : PE X i (liftE X.K W di)) (he : PE X e (liftE X.K W de))
    (hs : swapsWith e (some (.Subscript o i pos')) pos.line X.env = pure false := by rfl) : PS X (.Assign [.Subscript o i pos'] e pos) (liftS X.K W (dDPut do_ di de)) := by
  refine ps_wk (ps_dput hu ho hi he hs) fun Q sg H ⟨ga, mu, al, hd, E, a, h, k⟩ => ?_
  refine ⟨ga, mu, al, hd, _, _, a, h, ⟨fun v mu1 vv H1 al1 h1 o1 g1 r1 => ⟨ga, mu1, al1, hd, _, _, a.to o1 g1, h1, ⟨fun x mu2 xv H2 al2 h2 o2 g2 r2 => ⟨ga, mu2, al2, hd, _, _, a.to o2 (g1.trans g2), h2, ⟨fun y mu3 yv H3 al3 h3 o3 g3 r3 => ?_⟩, (k.ex sg).to (g1.trans g2)⟩⟩, (k.ex sg).to g1⟩⟩, k.ex sg⟩
  cases x <;> try exact h3.elim
  cases y <;> try exact h3.elim
  rename_i n l
  obtain ⟨kvs, kk, q, hk, hnp, hz, hN⟩ := h3
  cases r2 with
  | ptr ep =>
    rename_i p
    obtain ⟨b, xs, rfl, _, eb, sx⟩ := r3.tv (l := l) rfl
    rw [rep_keyL sx hk] at eb
    have ep3 := g3.pre n p ep
    obtain ⟨vs, e3, rk⟩ := o3.at_ n _ p q ep3
    have g123 := (g1.trans g2).trans g3
    have rv := r1.go (g2.trans g3) (g2.trans g3).pre
    have gw := Go.write (hd := hd) (H' := upd H3 p (.dT (putK vs kk vv))) o3 ep3 fun b hb => upd_ne hb
    refine ⟨p, _, rfl, DPut.t e3 eb (by rw [← kv_len rk, sizeLine_eq]; exact hz), ?_⟩
    exact k.nx _ _ _ _ _ hN ⟨o3.write ep3 (fun b hb => upd_ne hb) ⟨_, upd_same, RepKV.go gw (kv_put rk (rv.np hnp))⟩, a.sl.go (g123.trans gw)⟩ (g123.trans gw)
/-! ### list(d) -/
def noTpl (mu : Sto) : Bool := mu.all fun m => match m with
  | .tpl _ => false
  | _ => true
theorem tup_out {K : PySem.W.Frag} {hd al : List Addr} {H : Hp} {mu : Sto} (o : Okay K hd H mu al) (h : noTpl mu = true) {b : Addr} {xs : List V} (e : H b = some (.tup xs)) : ¬ b ∈ al ++ hd := fun z => by
  rcases List.mem_append.mp z with z | z
  · obtain ⟨n, hn, e1⟩ := List.mem_iff_getElem.mp z
    have hm : n < mu.length := by rw [← o.len]; exact hn
    have m := o.at_ n mu[n] b (List.getElem?_eq_getElem hm) (by rw [List.getElem?_eq_getElem hn, e1])
    have hq := List.all_eq_true.mp h mu[n] (List.getElem_mem hm)
    cases q : mu[n] with
    | lst l => rw [q] at m; obtain ⟨_, z, _⟩ := m; rw [e] at z; cases z
    | lsp l => rw [q] at m; obtain ⟨_, z, _⟩ := m; rw [e] at z; cases z
    | ins c l => rw [q] at m; obtain ⟨_, _, z, _⟩ := m; rw [e] at z; cases z
    | dic l => rw [q] at m; obtain ⟨_, z, _⟩ := m; rw [e] at z; cases z
    | dit l => rw [q] at m; obtain ⟨_, z, _⟩ := m; rw [e] at z; cases z
    | dlk od ws l => rw [q] at m; obtain ⟨_, z, _⟩ := m; rw [e] at z; cases z
    | dlc od ws l => rw [q] at m; obtain ⟨_, z, _⟩ := m; rw [e] at z; cases z
    | tab P0 q0 => rw [q] at m; obtain ⟨_, _, z, _⟩ := m; rw [e] at z; cases z
    | tpl l => rw [q] at hq; cases hq
  · have := o.hx b z _ e
    cases this
abbrev kT (k : List Key) : D := .tup (k.map dK)
theorem keys_rep {K : PySem.W.Frag} {hd al : List Addr} {H : Hp} {mu : Sto} (o : Okay K hd H mu al) (h : noTpl mu = true) : ∀ {l : List (List Key × D)} {xs : List (List Key × V)} {bs : List Addr}, RepKV K (al ++ hd) H l xs → IsKeys H xs bs → RepL K (al ++ hd) H [] (l.map fun p => kT p.1) (bs.map V.ref)
  | [], [], _, _, .nil => .nil
  | (k, d) :: l, (j, v) :: xs, _, r, .cons h1 t => by
    obtain ⟨rfl, r1, r2⟩ := r
    exact .cons (.tup ⟨tup_out o h h1, h1⟩ (repL_dK _)) (keys_rep o h r2 t)
  | [], _ :: _, _, r, _ => r.elim
  | _ :: _, [], _, r, _ => r.elim
def bListD (m : Nat) : GL := fun ds mu F => match ds with
  | [.ptr n] => ∃ kvs, mu[n]? = some (.dit kvs) ∧ noTpl mu = true ∧ retN m (kvs.map fun p => kT p.1) mu F
  | _ => False
theorem b_listD (m : Nat) (hc : X.calm = true) : CbS X (.type "list") (bListD m) := by
  refine ⟨_, call_list_dT hc, fun H mu al hd ds vs F Q o r hg kv => ?_⟩
  unfold bListD at hg
  split at hg
  · rename_i n
    obtain ⟨v, ys, rfl, r1, r2⟩ := r.cons_
    cases r2.nil_
    obtain ⟨kvs, q, hn, hF⟩ := hg
    cases r1 with
    | ptr e =>
      rename_i p
      obtain ⟨xs, e1, rk⟩ := o.at_ n _ p q e
      exact ⟨p, xs, rfl, .inl e1, fun b bs hb hk => kv.listN o hb (keys_rep o hn rk hk) hF⟩
  · exact hg.elim
def bLenD : GL := fun ds mu F => match ds with
  | [.ptr n] => ∃ kvs, mu[n]? = some (.dit kvs) ∧ F (.int (kvs.length : Nat)) mu
  | _ => False
/-! ### sorted of alike data -/
def rSortD (K : PySem.W.Frag) : List V → Hp → VK → Prop := fun vs H Q => ∃ (a : Addr) (bs : List (D × V)), vs = [V.ref a] ∧ SqL K H a (bs.map (·.2)) ∧ (∀ b ∈ bs, Dp K H b.2 (toPy b.1)) ∧ PySem.W.AllAlike (bs.map fun b => toPy b.1) ∧ PySem.W.Sortable (bs.map fun b => toPy b.1) ∧ (∀ b ∈ bs, (toPy b.1).depth ≤ 60) ∧
  ∀ p : Addr, H p = none → Q (.ref p) (upd H p (.lst ((bs.mergeSort (PySem.W.dataLe false fun b => toPy b.1)).map (·.2))))
theorem each_zip {R : Value → D × V → Prop} : ∀ {us : List Value} {bs : List (D × V)}, Vals (bs.map (·.2)) us → (∀ b ∈ bs, ∀ u, RelV b.2 u → R u b) → PySem.W.EachIs R us bs
  | [], [], _, _ => .nil
  | u :: us, b :: bs, r, h => by
    cases r with
    | cons r1 r2 => exact .cons (h b (List.mem_cons_self ..) u r1) (each_zip r2 fun c hc => h c (List.mem_cons_of_mem _ hc))
  | [], _ :: _, r, _ => by cases r
  | _ :: _, [], r, _ => by cases r
theorem zip_each : ∀ {us : List Value} {bs : List (D × V)}, PySem.W.EachIs (fun u (b : D × V) => RelV b.2 u) us bs → Vals (bs.map (·.2)) us
  | _, _, .nil => .nil
  | _, _, .cons h t => .cons h (zip_each t)
theorem cr_sortD (hc : X.calm = true) (hu : X.A.units + 65 < cLine) : CallR X (.builtin "sorted") (rSortD X.K) := by
  intro pins s σ H vs us Q I r h
  obtain ⟨a, bs, rfl, hs, hd, hal, hso, hde, q⟩ := h
  obtain ⟨its, rv, hl, hz⟩ := I.list hs
  rw [Vals.ref1 r]
  have hz' : bs.length ≤ sizeLine := by
    rw [List.length_map] at hz
    exact hz
  refine PySem.W.sorted_data (R := fun u (b : D × V) => RelV b.2 u) (enc := fun b => toPy b.1) hl.isList (each_zip rv fun b _ u ru => ru) (each_zip rv fun b hb u ru => ?_) hal hso hz' (fun b hb => by have := hde b hb; omega) fun out ho eo => ?_
  · obtain ⟨as, h1⟩ := Dp.readsAll I [toPy b.1] [b.2] [u] (.cons (hd b hb) .nil) (.cons ru .nil)
    cases h1 with
    | cons h1 _ => exact ⟨_, h1⟩
  · obtain ⟨ep, he'⟩ := PyProof.Rows.sortedAll_at s.heap its out.toArray
    have ev := zip_each eo
    have hlen : ((bs.mergeSort (PySem.W.dataLe false fun b => toPy b.1)).map (·.2)).length ≤ sizeLine := by
      rw [List.length_map, List.length_mergeSort]
      exact hz'
    exact ⟨.ref _, _, I.laid (t' := s.toks) (o := .lst ((bs.mergeSort (PySem.W.dataLe false fun b => toPy b.1)).map (·.2))) (fun _ _ => PyProof.Rows.sortedAll_old) (Nat.le_succ _) ⟨hlen, out, ep, ev, he'⟩, rfl, q _ (I.hok.fresh (Nat.le_succ _))⟩
def leD (a b : D) : Bool := PySem.W.dataLe false toPy a b
def sortD (l : List D) : List D := l.mergeSort leD
def bSorted (m : Nat) : GL := fun ds mu F => match ds with
  | [x] => ∃ l, lv mu x = some l ∧ isPyL l = true ∧ PySem.W.AllAlike (l.map toPy) ∧ PySem.W.Sortable (l.map toPy) ∧ (∀ d ∈ l, (toPy d).depth ≤ 60) ∧ retN m (sortD l) mu F
  | _ => False
theorem zip_fst : ∀ {l : List D} {xs : List V}, l.length = xs.length → (l.zip xs).map (·.1) = l := fun h => List.map_fst_zip (by omega)
theorem zip_snd : ∀ {l : List D} {xs : List V}, l.length = xs.length → (l.zip xs).map (·.2) = xs := fun h => List.map_snd_zip (by omega)
theorem repL_of {K : PySem.W.Frag} {al pt : List Addr} {H : Hp} : ∀ {bs : List (D × V)}, (∀ b ∈ bs, Rep K al H pt b.1 b.2) → RepL K al H pt (bs.map (·.1)) (bs.map (·.2))
  | [], _ => .nil
  | b :: bs, h => .cons (h b (List.mem_cons_self ..)) (repL_of fun c hc => h c (List.mem_cons_of_mem _ hc))
theorem rep_zip {K : PySem.W.Frag} {al pt : List Addr} {H : Hp} : ∀ {l : List D} {xs : List V}, RepL K al H pt l xs → ∀ b ∈ l.zip xs, Rep K al H pt b.1 b.2
  | _, _, .nil, b, hb => by simp at hb
  | _, _, .cons r s, b, hb => by
    rcases List.mem_cons.mp hb with rfl | hb
    · exact r
    · exact rep_zip s b hb
theorem b_sortD (m : Nat) (hc : X.calm = true) (hu : X.A.units + 65 < cLine) : CbS X (.builtin "sorted") (bSorted m) := by
  refine ⟨_, cr_sortD hc hu, fun H mu al hd ds vs F Q o r hg kv => ?_⟩
  unfold bSorted at hg
  split at hg
  · rename_i x
    obtain ⟨v, ys, rfl, r1, r2⟩ := r.cons_
    cases r2.nil_
    obtain ⟨l, hl, hp, hal, hso, hde, hF⟩ := hg
    obtain ⟨p, xs, rfl, s, r3⟩ := r1.lv o hl
    have e1 := zip_fst r3.len
    have e2 := zip_snd r3.len
    have e3 : (l.zip xs).map (fun b => toPy b.1) = l.map toPy := by
      have z : (l.zip xs).map (fun b => toPy b.1) = ((l.zip xs).map (·.1)).map toPy := by rw [List.map_map]; rfl
      rw [z, e1]
    have rz := rep_zip r3
    refine ⟨p, l.zip xs, rfl, by rw [e2]; exact .inl s, fun b hb => rep_dp ?_ (rz b hb), by rw [e3]; exact hal, by rw [e3]; exact hso, fun b hb => hde _ ?_, fun b hb => ?_⟩
    · obtain ⟨i, hi, e⟩ := List.mem_iff_getElem.mp (show b.1 ∈ l by rw [← e1]; exact List.mem_map.mpr ⟨b, hb, rfl⟩)
      exact isPyL_at hp (by rw [List.getElem?_eq_getElem hi, e])
    · rw [← e1]
      exact List.mem_map.mpr ⟨b, hb, rfl⟩
    · refine kv.listN (m := m) o hb (l := ((l.zip xs).mergeSort (PySem.W.dataLe false fun b => toPy b.1)).map (·.1)) (repL_of fun c hc => rz c ((List.mergeSort_perm _ _).mem_iff.mp hc)) ?_
      have z : ((l.zip xs).mergeSort (PySem.W.dataLe false fun b => toPy b.1)).map (·.1) = ((l.zip xs).map (·.1)).mergeSort leD := List.map_mergeSort (fun a _ b _ => rfl)
      rw [z, e1]
      exact hF
  · exact hg.elim
end
end DZ

/-! part DZ6 -/
/-! DZ6: dicts with tuple keys: locked while walked, in; lists backwards. -/
namespace DZ
open PySem PySem.Spec PyProof.Rows L2 DL
theorem kv_get {K : PySem.W.Frag} {al : List Addr} {H : Hp} : ∀ {l : List (List Key × D)} {xs : List (List Key × V)} {i : Nat} {k : List Key} {v : V}, RepKV K al H l xs → xs[i]? = some (k, v) → ∃ d, l[i]? = some (k, d)
  | [], [], _, _, _, _, e => by simp at e
  | (k0, d) :: l, (j, w) :: xs, 0, k, v, h, e => by
    simp at e
    exact ⟨d, by simp [h.1, e.1]⟩
  | (k0, d) :: l, (j, w) :: xs, i + 1, k, v, h, e => by
    obtain ⟨d', e'⟩ := kv_get (i := i) h.2.2 (by simpa using e)
    exact ⟨d', by simpa using e'⟩
  | [], _ :: _, _, _, _, h, _ => h.elim
  | _ :: _, [], _, _, _, h, _ => h.elim
section
variable {X : Cx} {W : WX}
theorem at_cell {K : PySem.W.Frag} {hd : List Addr} {H : Hp} {mu : Sto} {al : List Addr} {n : Nat} {mo : MO} (o : Okay K hd H mu al) (h : mu[n]? = some mo) : ∃ p, al[n]? = some p ∧ MAt K hd al H p mo := by
  have hn : n < al.length := by rw [o.len]; exact (List.getElem?_eq_some_iff.mp h).1
  exact ⟨al[n], List.getElem?_eq_getElem hn, o.at_ n mo _ h (List.getElem?_eq_getElem hn)⟩
/-- an expression while the dict at cell n is locked -/
def dLock (de : DE) : DE := fun ga mu P F => ∃ n kvs, mu[n]? = some (.dit kvs) ∧ ∀ od vs, de ga (mu.set n (.dlk od vs kvs)) (fun _ _ => False) fun d mu' => mu'[n]? = some (.dlk od vs kvs) ∧ F d (mu'.set n (.dit kvs))
theorem d_lock {e : Expr} {de : DE} (h : PE X e (liftE X.K W de)) : PE X e (liftE X.K W (dLock de)) := by
  refine pe_wk (pe_lock h) fun sg H Q ⟨ga, mu, al, hd, P, F, a, hw, kv, kx⟩ => ?_
  obtain ⟨n, kvs, hn, hw⟩ := hw
  obtain ⟨p, hp, vs, e1, rk⟩ := at_cell a.ok hn
  refine ⟨p, .dT vs, e1, trivial, fun od => ?_⟩
  have gw := Go.write (hd := hd) (H' := upd H p (.frz od (.dT vs))) a.ok hp fun b hb => upd_ne hb
  refine ⟨ga, _, al, hd, _, _, ⟨a.ok.write (mo := .dlk od vs kvs) hp (fun b hb => upd_ne hb) ⟨(), upd_same, RepKV.go gw rk⟩, a.sl.go gw⟩, hw od vs, ⟨fun d mu' v H' al' hF o' g' r' => ?_⟩, ⟨fun _ _ _ _ _ _ z => z.elim⟩⟩
  have hp' := g'.pre n p hp
  obtain ⟨_, e2, rk2⟩ := o'.at_ n _ p hF.1 hp'
  refine ⟨e2, ?_⟩
  have gw2 := Go.write (hd := hd) (H' := upd H' p (.dT vs)) o' hp' fun b hb => upd_ne hb
  exact kv.go d _ v _ al' hF.2 (o'.write (mo := .dit kvs) hp' (fun b hb => upd_ne hb) ⟨vs, upd_same, RepKV.go gw2 rk2⟩) ((gw.trans g').trans gw2) (r'.go gw2 gw2.pre)
/-- a statement while the dict at cell n is locked -/
def dLockS (ds : DS) : DS := fun E ga mu => ∃ n kvs, mu[n]? = some (.dit kvs) ∧ ∀ od vs, ds { nx := fun ga' mu' => mu'[n]? = some (.dlk od vs kvs) ∧ E.nx ga' (mu'.set n (.dit kvs)), rt := fun d mu' => mu'[n]? = some (.dlk od vs kvs) ∧ E.rt d (mu'.set n (.dit kvs)), ex := fun _ _ => False, bk := fun ga' mu' => mu'[n]? = some (.dlk od vs kvs) ∧ E.bk ga' (mu'.set n (.dit kvs)), ct := fun ga' mu' => mu'[n]? = some (.dlk od vs kvs) ∧ E.ct ga' (mu'.set n (.dit kvs)) } ga (mu.set n (.dlk od vs kvs))
theorem ds_lock {s : Stmt} {ds : DS} (h : PS X s (liftS X.K W ds)) : PS X s (liftS X.K W (dLockS ds)) := by
  refine ps_wk (ps_lock h) fun Q sg H ⟨ga, mu, al, hd, E, a, hw, k⟩ => ?_
  obtain ⟨n, kvs, hn, hw⟩ := hw
  obtain ⟨p, hp, vs, e1, rk⟩ := at_cell a.ok hn
  refine ⟨p, .dT vs, e1, trivial, fun od => ?_⟩
  have gw := Go.write (hd := hd) (H' := upd H p (.frz od (.dT vs))) a.ok hp fun b hb => upd_ne hb
  have key : ∀ (N : Gam → Sto → Prop) (R : L2.St → Hp → Prop), Kn X.K hd H al N R → Kn X.K hd (upd H p (.frz od (.dT vs))) al (fun ga' mu' => mu'[n]? = some (.dlk od vs kvs) ∧ N ga' (mu'.set n (.dit kvs))) (fun sg' H' => H' p = some (.frz od (.dT vs)) ∧ R sg' (upd H' p (.dT vs))) := fun N R kn ga' mu' sg' H' al' hN a' g' => by
    have hp' := g'.pre n p hp
    obtain ⟨_, e2, rk2⟩ := a'.ok.at_ n _ p hN.1 hp'
    have gw2 := Go.write (hd := hd) (H' := upd H' p (.dT vs)) a'.ok hp' fun b hb => upd_ne hb
    exact ⟨e2, kn ga' _ sg' _ al' hN.2 ⟨a'.ok.write (mo := .dit kvs) hp' (fun b hb => upd_ne hb) ⟨vs, upd_same, RepKV.go gw2 rk2⟩, a'.sl.go gw2⟩ ((gw.trans g').trans gw2)⟩
  refine ⟨ga, _, al, hd, _, ⟨a.ok.write (mo := .dlk od vs kvs) hp (fun b hb => upd_ne hb) ⟨(), upd_same, RepKV.go gw rk⟩, a.sl.go gw⟩, hw od vs, ⟨key _ _ k.nx, ⟨fun d mu' v H' al' hF o' g' r' => ?_⟩, fun _ => ⟨fun _ _ _ _ _ _ z => z.elim⟩, key _ _ k.bk, key _ _ k.ct⟩⟩
  have hp' := g'.pre n p hp
  obtain ⟨_, e2, rk2⟩ := o'.at_ n _ p hF.1 hp'
  have gw2 := Go.write (hd := hd) (H' := upd H' p (.dT vs)) o' hp' fun b hb => upd_ne hb
  exact ⟨e2, k.rt.go d _ v _ al' hF.2 (o'.write (mo := .dit kvs) hp' (fun b hb => upd_ne hb) ⟨vs, upd_same, RepKV.go gw2 rk2⟩) ((gw.trans g').trans gw2) (r'.go gw2 gw2.pre)⟩
/-- for k in d, the dict locked -/
def okDk (n : Nat) (od : Obj) (vs : List (List Key × V)) (kvs : List (List Key × D)) : Sto → Prop := fun mu => mu[n]? = some (.dlk od vs kvs) ∧ noTpl mu = true
def iKeysD (de : DE) : DI := fun ga mu P F => de ga mu P fun x mu1 => match x with
  | .ptr n => ∃ od vs kvs, mu1[n]? = some (.dlk od vs kvs) ∧ F (kvs.map fun p => kT p.1) (okDk n od vs kvs) mu1
  | _ => False
theorem wk_keys {K : PySem.W.Frag} {n : Nat} {p : Addr} {od : Obj} {vs : List (List Key × V)} {kvs : List (List Key × D)} {hd0 : List Addr} {H0 : Hp} {al0 : List Addr} (hp : al0[n]? = some p) : WkOk K (Itkt p od vs) (kvs.map fun p => kT p.1) (okDk n od vs kvs) hd0 H0 al0 := by
  refine ⟨fun hd H mu al g pr o h => ?_, fun hd H mu al i g pr o h hi => ?_, fun hd H mu al i v H' g pr o h hi y => ?_⟩
  · obtain ⟨_, e, rk⟩ := o.at_ n _ p h.1 (pr n p hp)
    exact ⟨e, by rw [List.length_map, kv_len rk]; exact Nat.le_refl _⟩
  · obtain ⟨_, e, rk⟩ := o.at_ n _ p h.1 (pr n p hp)
    exact ⟨e, by rw [List.length_map, kv_len rk] at hi; exact hi⟩
  · obtain ⟨_, e, rk⟩ := o.at_ n _ p h.1 (pr n p hp)
    obtain ⟨rfl, k, w, q, e1, rfl, e2⟩ := y
    obtain ⟨d, e3⟩ := kv_get rk e1
    exact ⟨kT k, by rw [List.getElem?_map, e3]; rfl, o, Go.refl _ _, .tup ⟨tup_out o h.2 e2, e2⟩ (repL_dK k)⟩
theorem di_keysD {tg e : Expr} {de : DE} (h : PE X e (liftE X.K W de)) : PI X tg e (liftI X.K W (iKeysD de)) := by
  refine pi_wk (pi_keys h) fun sg H R ⟨ga, mu, al, hd, P, F, a, h, k, kx⟩ => ?_
  refine ⟨ga, mu, al, hd, P, _, a, h, ⟨fun d mu1 v H1 al1 h1 o1 g1 r1 => ?_⟩, kx⟩
  cases d <;> try exact h1.elim
  rename_i n
  obtain ⟨od, vs, kvs, hn, hF⟩ := h1
  cases r1 with
  | ptr ep =>
    rename_i p
    obtain ⟨_, e1, rk⟩ := o1.at_ n _ p hn ep
    exact ⟨p, od, rfl, .inr ⟨vs, e1, k _ _ _ _ _ _ hF o1 g1 (wk_keys ep)⟩⟩
/-- k in d -/
def dAt (mu : Sto) (n : Nat) (kvs : List (List Key × D)) : Prop := mu[n]? = some (.dit kvs) ∨ ∃ od vs, mu[n]? = some (.dlk od vs kvs)
theorem dAt_get {K : PySem.W.Frag} {hd al : List Addr} {H : Hp} {mu : Sto} {n : Nat} {p : Addr} {kvs : List (List Key × D)} (o : Okay K hd H mu al) (h : dAt mu n kvs) (ep : al[n]? = some p) : ∃ vs, Rd H p (.dT vs) ∧ RepKV K (al ++ hd) H kvs vs := by
  rcases h with h | ⟨od, vs, h⟩
  · obtain ⟨vs, e, rk⟩ := o.at_ n _ p h ep
    exact ⟨vs, .inl e, rk⟩
  · obtain ⟨_, e, rk⟩ := o.at_ n _ p h ep
    exact ⟨vs, .inr ⟨od, e⟩, rk⟩
def gDIn : G2 := fun x y mu _ F => match y, x with
  | .ptr n, .tup l => ∃ kvs k, dAt mu n kvs ∧ keyL l = some k ∧ F (.bl (valD kvs k).isSome) mu
  | _, _ => False
def gDNotIn : G2 := fun x y mu _ F => match y, x with
  | .ptr n, .tup l => ∃ kvs k, dAt mu n kvs ∧ keyL l = some k ∧ F (.bl (!(valD kvs k).isSome)) mu
  | _, _ => False
theorem val_some {K : PySem.W.Frag} {al : List Addr} {H : Hp} {kvs : List (List Key × D)} {vs : List (List Key × V)} (rk : RepKV K al H kvs vs) (k : List Key) : (valV vs k).isSome = (valD kvs k).isSome := by
  rcases kv_val k rk with ⟨e1, e2⟩ | ⟨d, v, e1, e2, _⟩
  · rw [e1, e2]; rfl
  · rw [e1, e2]; rfl
theorem o_dIn (hu : X.A.units + 1 < cLine) : OpS X (compareOp .In) (liftR X.K W gDIn) := by
  intro pins s sg H x y v u Q I rx ry ⟨mu, al, hd, d, e, P, F, o, r1, r2, hg, kv, kx⟩
  unfold gDIn at hg
  split at hg
  · rename_i n l
    obtain ⟨kvs, k, hn, hk, hF⟩ := hg
    cases r2 with
    | ptr ep =>
      rename_i p
      obtain ⟨b, xs, rfl, _, eb, sx⟩ := r1.tv (l := l) rfl
      rw [rep_keyL sx hk] at eb
      obtain ⟨vs, ev, rk⟩ := dAt_get o hn ep
      obtain rfl : u = Value.ref p := ry
      have g : DGet H p (.ref b) (valV vs k) := .inr ⟨vs, k, b, ev, rfl, eb, rfl⟩
      rw [← val_some rk k] at hF
      exact d_in hu I g rx fun s' I' => ⟨.bl (valV vs k).isSome, H, I', rfl, kv.now o hF .bl⟩
  · exact hg.elim
theorem o_dNotIn (hu : X.A.units + 1 < cLine) : OpS X (compareOp .NotIn) (liftR X.K W gDNotIn) := by
  intro pins s sg H x y v u Q I rx ry ⟨mu, al, hd, d, e, P, F, o, r1, r2, hg, kv, kx⟩
  unfold gDNotIn at hg
  split at hg
  · rename_i n l
    obtain ⟨kvs, k, hn, hk, hF⟩ := hg
    cases r2 with
    | ptr ep =>
      rename_i p
      obtain ⟨b, xs, rfl, _, eb, sx⟩ := r1.tv (l := l) rfl
      rw [rep_keyL sx hk] at eb
      obtain ⟨vs, ev, rk⟩ := dAt_get o hn ep
      obtain rfl : u = Value.ref p := ry
      have g : DGet H p (.ref b) (valV vs k) := .inr ⟨vs, k, b, ev, rfl, eb, rfl⟩
      rw [← val_some rk k] at hF
      exact d_notIn hu I g rx fun s' I' => ⟨.bl (!(valV vs k).isSome), H, I', rfl, kv.now o hF .bl⟩
  · exact hg.elim
/-- xs[::-1] -/
def dRev (m : Nat) (de : DE) : DE := fun ga mu P F => de ga mu P fun x mu1 => ∃ l, lv mu1 x = some l ∧ retN m l.reverse mu1 F
theorem d_rev (m : Nat) {e : Expr} {de : DE} {k : Nat} {p1 p2 p3 pos : Pos} (he : PE X e (liftE X.K W de)) : PE X (.Subscript e (.Slice none none (some (.UnaryOp .USub (.Constant (.int 1) k p1) p2)) p3) pos) (liftE X.K W (dRev m de)) := by
  refine pe_wk (pe_revL he) fun sg H Q ⟨ga, mu, al, hd, P, F, a, h, kv, kx⟩ => ?_
  refine ⟨ga, mu, al, hd, P, _, a, h, ⟨fun x mu1 xv H1 al1 h1 o1 g1 r1 => ?_⟩, kx⟩
  obtain ⟨l, hl, hF⟩ := h1
  obtain ⟨p, xs, rfl, s, r2⟩ := r1.lv o1 hl
  exact ⟨p, xs, rfl, .inl s, fun b hb => (kv.to g1).listN (m := m) o1 hb r2.reverse hF⟩
/-! ### a, b = x, y with cells among x, y -/
def liftGsP (K : PySem.W.Frag) (W : WX) (g : DGs) : TGs := fun vs sg H Q => ∃ (ds : List D) (ga : Gam) (mu : Sto) (al hd : List Addr) (P : KX) (N : Gam → Sto → Prop), At K hd ga mu al sg H ∧ RepL K (al ++ hd) H al ds vs ∧ g ds ga mu P N ∧ Kn K hd H al N Q ∧ ∀ sg, Kx K hd (fun c d h => W c d sg h) H al P
theorem dgsP_nil : PGs X [] (liftGsP X.K W gsNil) := pgs_wk pgs_nil fun v sg H Q ⟨ds, ga, mu, al, hd, P, N, a, r, h, k, kx⟩ => by
  cases r with
  | nil => exact ⟨rfl, k _ _ _ _ _ h a (Go.refl _ _)⟩
  | cons _ _ => exact h.elim
theorem dgsP_cons {e : Expr} {es : List Expr} {g : DG} {h : DGs} (h1 : PG X e (liftG X.K W g)) (h2 : PGs X es (liftGsP X.K W h)) (hs : (assignEach (e :: es) X.env).map (·.2) = assign e X.env :: (assignEach es X.env).map (·.2) := by rfl) : PGs X (e :: es) (liftGsP X.K W (gsCons g h)) :=
  pgs_wk (pgs_cons h1 h2 hs) fun v sg H Q ⟨ds, ga, mu, al, hd, P, N, a, r, h, k, kx⟩ => by
    cases r with
    | nil => exact h.elim
    | cons r1 r2 =>
      exact ⟨_, _, rfl, _, ga, mu, al, hd, P, _, a, r1, h, fun ga1 mu1 sg1 H1 al1 h1 a1 g1 => ⟨_, ga1, mu1, al1, hd, P, N, a1, r2.go g1 g1.pre, h1, k.to g1, fun sg => (kx sg).to g1⟩, kx⟩
def dAsgP (n : Nat) (da : DA) (g : DGs) : DS := fun E ga mu => da ga mu E.ex fun ds mu1 => (ds.length = n ∧ ds.length ≤ 16777216) ∧ g ds ga mu1 E.ex E.nx
theorem ds_asgP {es elts : List Expr} {k x1 n : Nat} {da : DA} {g : DGs} {p1 p2 pos : Pos} (hc : X.calm = true) (ha : PA X elts (liftA X.K W da)) (hg : PGs X es (liftGsP X.K W g)) (hn : (assignEach es X.env).length = n := by rfl) (hst : (assignEach es X.env).findIdx? (·.1) = none := by rfl)
    (hs : swapsWithSole [.Tuple es k p1] (.Tuple elts x1 p2) pos.line X.env = pure false := by rfl) (hw : swappedStores [.Tuple es k p1] (.Tuple elts x1 p2) X.env = pure none := by rfl) (h1 : (assignEach [.Tuple es k p1] X.env).map (·.2) = [assign (.Tuple es k p1) X.env] := by rfl) :
    PS X (.Assign [.Tuple es k p1] (.Tuple elts x1 p2) pos) (liftS X.K W (dAsgP n da g)) :=
  ps_wk (ps_asg (pe_tup ha) (pg_tup hc hg hn hst) hs hw h1) fun Q sg H ⟨ga, mu, al, hd, E, a, h, k⟩ => ⟨ga, mu, al, hd, E.ex, _, a, h, ⟨fun ds mu1 vs H1 al1 h1 o1 g1 r1 => ⟨by rw [← r1.len, sizeLine_eq]; exact h1.1.2, fun p hp => by
    have gl := Go.lay (hd := hd) (al := al1) (u := .tup vs) o1 hp
    exact ⟨p, vs, rfl, .inl (.inl upd_same), by rw [← r1.len]; exact h1.1.1, ds, ga, mu1, al1, hd, E.ex, E.nx, ⟨o1.lay hp, (a.sl.go g1).go gl⟩, r1.go gl gl.pre, h1.2, k.nx.to (g1.trans gl), fun sg => (k.ex sg).to (g1.trans gl)⟩⟩⟩, k.ex sg⟩
end
end DZ

/-! part DZ7 -/
/-! DZ7: extend, reverse; dicts with numbers or texts as keys. -/
namespace DZ
open PySem PySem.Spec PyProof.Rows L2 DL
section
variable {X : Cx} {W : WX}
/-! ### xs.extend(ys), xs.reverse() -/
def rExtR : V → List V → Hp → VK → Prop := fun x vs H Q => ∃ l b xs zs, x = .ref l ∧ vs = [.ref b] ∧ H l = some (.lst xs) ∧ Rd H b (.lst zs) ∧ xs.length + zs.length ≤ sizeLine ∧ Q .non (upd H l (.lst (xs ++ zs)))
theorem mt_extR : MtR X "list.extend" rExtR := by
  intro pins s σ H x vs v us Q I rx rv h
  obtain ⟨l, b, xs, zs, rfl, rfl, hH, hB, hz, q⟩ := h
  cases rx
  obtain ⟨u, rfl, ru⟩ := rv.one
  cases ru
  obtain ⟨z, its, n, r, hl, e⟩ := I.lstM hH
  obtain ⟨z2, its2, n2, r2, hl2, e2⟩ := Rd.lst I hB
  have hsz : its.toArray.size + its2.toArray.size ≤ sizeLine := by rw [List.size_toArray, List.size_toArray]; omega
  have hlong : ¬ (!its.toArray.isEmpty && Builtin.List.listTooLong (its.toArray.size + its2.toArray.size)) = true := by
    rw [notLongL hsz, Bool.and_false]
    exact Bool.false_ne_true
  refine call_meets PySem.F.slot_list_extend ⟨_, e, rfl⟩ PySem.F.entry_list_extend (PySem.F.args_list_extend_2 _ _)
    (AutoSeq1.list_extend_list_list_0 l its.toArray n b its2.toArray n2 hlong (by rw [List.size_toArray]; omega) (by omega)) ⟨e, e2, ?_⟩
  refine ⟨.non, _, I.lset (its' := its ++ its2) hH e (by simp) (r.append r2) ?_, rfl, q⟩
  rw [List.length_append]
  omega
def gExtend : GM := fun x ds mu F => match x, ds with
  | .ptr n, [d] => ∃ l k, mu[n]? = some (.lst l) ∧ lv mu d = some k ∧ l.length + k.length ≤ 16777216 ∧ F .non (mu.set n (.lst (l ++ k)))
  | _, _ => False
theorem m_extend : MbS X "list.extend" gExtend := by
  refine ⟨_, mt_extR, fun H mu al hd x v ds vs F Q o rx rs h kv => ?_⟩
  unfold gExtend at h
  split at h
  · rename_i n d
    obtain ⟨y, ys, rfl, ry, rn⟩ := rs.cons_
    cases rn.nil_
    obtain ⟨l, k, q, hk, hz, hF⟩ := h
    cases rx with
    | ptr e =>
      obtain ⟨xs, e1, r1⟩ := o.at_ n _ _ q e
      obtain ⟨p, zs, rfl, s, r3⟩ := ry.lv o hk
      exact ⟨_, p, xs, zs, rfl, rfl, e1, s, by rw [← r1.len, ← r3.len, sizeLine_eq]; exact hz, Kv.setL o e kv (r1.append r3) .non hF⟩
  · exact h.elim
def gReverse : GM := fun x ds mu F => match x, ds with
  | .ptr n, [] => ∃ l, mu[n]? = some (.lst l) ∧ F .non (mu.set n (.lst l.reverse))
  | _, _ => False
theorem m_reverse : MbS X "list.reverse" gReverse := by
  refine ⟨_, mt_reverse, fun H mu al hd x v ds vs F Q o rx rs h kv => ?_⟩
  unfold gReverse at h
  split at h
  · rename_i n
    cases rs.nil_
    obtain ⟨l, q, hF⟩ := h
    cases rx with
    | ptr e =>
      obtain ⟨xs, e1, r1⟩ := o.at_ n _ _ q e
      exact ⟨_, xs, rfl, rfl, e1, Kv.setL o e kv r1.reverse .non hF⟩
  · exact h.elim
end
/-! ### tables with single keys -/
def valE (kvs : List (Key × D)) (k : Key) : Option D := (kvs.find? fun kv => decide (kv.1 = k)).map (·.2)
def putE (kvs : List (Key × D)) (k : Key) (d : D) : List (Key × D) :=
  if (kvs.any fun kv => decide (kv.1 = k)) = true then kvs.map (fun kv => if kv.1 = k then (kv.1, d) else kv) else kvs ++ [(k, d)]
section
variable {K : PySem.W.Frag} {al : List Addr} {H : Hp}
theorem ke_len : ∀ {l : List (Key × D)} {xs : List (Key × V)}, RepKV K al H l xs → l.length = xs.length
  | [], [], _ => rfl
  | (k, d) :: l, (j, v) :: xs, h => congrArg Nat.succ (ke_len h.2.2)
  | [], _ :: _, h => h.elim
  | _ :: _, [], h => h.elim
theorem ke_val (k0 : Key) : ∀ {l : List (Key × D)} {xs : List (Key × V)}, RepKV K al H l xs → (valE l k0 = none ∧ valV xs k0 = none) ∨ ∃ d v, valE l k0 = some d ∧ valV xs k0 = some v ∧ Rep K al H [] d v
  | [], [], _ => .inl ⟨rfl, rfl⟩
  | (k, d) :: l, (j, v) :: xs, h => by
    obtain ⟨rfl, h1, h2⟩ := h
    by_cases e : k = k0
    · exact .inr ⟨d, v, by simp [valE, List.find?_cons, e], valV_pos e, h1⟩
    · have ih := ke_val k0 h2
      have e1 : valE ((k, d) :: l) k0 = valE l k0 := by simp [valE, List.find?_cons, e]
      rw [e1, valV_neg (p := (k, v)) e]
      exact ih
  | [], _ :: _, h => h.elim
  | _ :: _, [], h => h.elim
theorem ke_app : ∀ {l l' : List (Key × D)} {xs xs' : List (Key × V)}, RepKV K al H l xs → RepKV K al H l' xs' → RepKV K al H (l ++ l') (xs ++ xs')
  | [], _, [], _, _, h => h
  | (k, d) :: l, _, (j, v) :: xs, _, h, h' => ⟨h.1, h.2.1, ke_app h.2.2 h'⟩
  | [], _, _ :: _, _, h, _ => h.elim
  | _ :: _, _, [], _, h, _ => h.elim
theorem ke_any (k0 : Key) : ∀ {l : List (Key × D)} {xs : List (Key × V)}, RepKV K al H l xs → (l.any fun kv => decide (kv.1 = k0)) = (xs.any fun kv => decide (kv.1 = k0))
  | [], [], _ => rfl
  | (k, d) :: l, (j, v) :: xs, h => by
    obtain ⟨rfl, h1, h2⟩ := h
    rw [List.any_cons, List.any_cons, ke_any k0 h2]
  | [], _ :: _, h => h.elim
  | _ :: _, [], h => h.elim
theorem ke_map (k0 : Key) {d0 : D} {v0 : V} (r : Rep K al H [] d0 v0) : ∀ {l : List (Key × D)} {xs : List (Key × V)}, RepKV K al H l xs → RepKV K al H (l.map (fun kv => if kv.1 = k0 then (kv.1, d0) else kv)) (xs.map (fun kv => if kv.1 = k0 then (kv.1, v0) else kv))
  | [], [], _ => trivial
  | (k, d) :: l, (j, v) :: xs, h => by
    obtain ⟨rfl, h1, h2⟩ := h
    have ih := ke_map k0 r h2
    rw [List.map_cons, List.map_cons]
    by_cases e : k = k0
    · rw [if_pos (by exact e), if_pos (by exact e)]
      exact ⟨rfl, r, ih⟩
    · rw [if_neg (by exact e), if_neg (by exact e)]
      exact ⟨rfl, h1, ih⟩
  | [], _ :: _, h => h.elim
  | _ :: _, [], h => h.elim
theorem ke_put {k : Key} {d : D} {v : V} {l : List (Key × D)} {xs : List (Key × V)} (h : RepKV K al H l xs) (r : Rep K al H [] d v) : RepKV K al H (putE l k d) (putK xs k v) := by
  unfold putE putK
  rw [ke_any k h]
  split
  · exact ke_map k r h
  · exact ke_app h ⟨rfl, r, trivial⟩
end
section
variable {X : Cx} {W : WX}
/-- {}, with numbers or texts as keys -/
def dDicN : DE := fun _ mu _ F => F (.ptr mu.length) (mu ++ [.dic []])
theorem d_dicN {pos : Pos} : PE X (.Dict [] [] pos) (liftE X.K W dDicN) := pe_wk pe_dnewK fun sg H Q ⟨ga, mu, al, hd, P, F, a, h, kv, kx⟩ => fun p hp =>
  kv.cel a.ok hp (upd_keep hp) h fun g => ⟨[], upd_same, trivial⟩
def dKGet (do_ de df : DE) : DE := fun ga mu P F => do_ ga mu P fun x mu1 => (∃ n kvs, x = .ptr n ∧ mu1[n]? = some (.dic kvs)) ∧ de ga mu1 P fun y mu2 => df ga mu2 P fun z mu3 => match x with
  | .ptr n => ∃ kvs k, mu3[n]? = some (.dic kvs) ∧ keyD y = some k ∧ F ((valE kvs k).getD z) mu3
  | _ => False
theorem d_kget {o e f : Expr} {apos cpos : Pos} {do_ de df : DE} (hu : X.A.units + 1 < cLine) (ho : PE X o (liftE X.K W do_)) (he : PE X e (liftE X.K W de)) (hf : PE X f (liftE X.K W df))
    (m : M2 X o "get" apos e f cpos := by exact ⟨rfl, rfl, rfl, rfl⟩) : PE X (.Call (.Attribute o "get" apos) [e, f] [] cpos) (liftE X.K W (dKGet do_ de df)) := by
  refine pe_wk (pe_dget2 hu ho he hf m) fun sg H Q ⟨ga, mu, al, hd, P, F, a, h, kv, kx⟩ => ?_
  refine ⟨ga, mu, al, hd, P, _, a, h, ⟨fun x mu1 xv H1 al1 h1 o1 g1 r1 => ?_⟩, kx⟩
  obtain ⟨⟨n, kvs, rfl, hn⟩, h1⟩ := h1
  cases r1 with
  | ptr ep =>
    rename_i p
    obtain ⟨vs, e1, _⟩ := o1.at_ n _ p hn ep
    refine ⟨p, rfl, .inl ⟨vs, .inl e1⟩, ga, mu1, al1, hd, P, _, a.to o1 g1, h1, ⟨fun y mu2 yv H2 al2 h2 o2 g2 r2 => ⟨ga, mu2, al2, hd, P, _, a.to o2 (g1.trans g2), h2, ⟨fun z mu3 zv H3 al3 h3 o3 g3 r3 => ?_⟩, kx.to (g1.trans g2)⟩⟩, kx.to g1⟩
    obtain ⟨kvs3, k, q3, hk, hF⟩ := h3
    have ey := rep_key r2 hk
    subst ey
    have ep3 := (g2.trans g3).pre n p ep
    obtain ⟨vs3, e3, rk⟩ := o3.at_ n _ p q3 ep3
    refine ⟨_, .inl ⟨vs3, k, .inl e3, rfl, rfl⟩, ?_⟩
    have kv3 := kv.to ((g1.trans g2).trans g3)
    rcases ke_val k rk with ⟨n1, n2⟩ | ⟨d, v, n1, n2, rv⟩
    · rw [n2]
      rw [n1] at hF
      exact kv3.now o3 hF r3
    · rw [n2]
      rw [n1] at hF
      exact kv3.now o3 hF (rv.fz (Fz.refl _ _) (Pre.nil _))
def dKIx (do_ de : DE) : DE := fun ga mu P F => do_ ga mu P fun x mu1 => de ga mu1 P fun y mu2 => match x with
  | .ptr n => ∃ kvs k d, mu2[n]? = some (.dic kvs) ∧ keyD y = some k ∧ valE kvs k = some d ∧ F d mu2
  | _ => False
theorem d_kix {o e : Expr} {pos : Pos} {do_ de : DE} (hu : X.A.units + 1 < cLine) (ho : PE X o (liftE X.K W do_)) (he : PE X e (liftE X.K W de)) (hs : NoSl e := by exact fun _ _ => rfl) : PE X (.Subscript o e pos) (liftE X.K W (dKIx do_ de)) := by
  refine pe_wk (pe_dget hu ho he hs) fun sg H Q ⟨ga, mu, al, hd, P, F, a, h, kv, kx⟩ => ?_
  refine ⟨ga, mu, al, hd, P, _, a, h, ⟨fun x mu1 xv H1 al1 h1 o1 g1 r1 => ⟨ga, mu1, al1, hd, P, _, a.to o1 g1, h1, ⟨fun y mu2 yv H2 al2 h2 o2 g2 r2 => ?_⟩, kx.to g1⟩⟩, kx⟩
  cases x <;> try exact h2.elim
  rename_i n
  obtain ⟨kvs, k, d, q, hk, hv, hF⟩ := h2
  cases r1 with
  | ptr ep =>
    rename_i p
    have ey := rep_key r2 hk
    subst ey
    obtain ⟨vs, e3, rk⟩ := o2.at_ n _ p q (g2.pre n p ep)
    rcases ke_val k rk with ⟨n1, n2⟩ | ⟨d', v, n1, n2, rv⟩
    · rw [hv] at n1
      cases n1
    · rw [hv] at n1
      cases n1
      exact ⟨p, v, rfl, .inl ⟨vs, k, .inl e3, rfl, n2.symm⟩, (kv.to (g1.trans g2)).now o2 hF (rv.fz (Fz.refl _ _) (Pre.nil _))⟩
def dKPut (do_ di de : DE) : DS := fun E ga mu => de ga mu E.ex fun v mu1 => do_ ga mu1 E.ex fun x mu2 => di ga mu2 E.ex fun y mu3 => match x with
  | .ptr n => ∃ kvs k, mu3[n]? = some (.dic kvs) ∧ keyD y = some k ∧ np v ∧ kvs.length < 16777216 ∧ E.nx ga (mu3.set n (.dic (putE kvs k v)))
  | _ => False
theorem ds_kput {o i e : Expr} {do_ di de : DE} {pos pos' : Pos} (hu : X.A.units + 1 < cLine) (ho : PE X o (liftE X.K W do_)) (hi : PE X i (liftE X.K W di)) (he : PE X e (liftE X.K W de))
    (hs : swapsWith e (some (.Subscript o i pos')) pos.line X.env = pure false := by rfl) : PS X (.Assign [.Subscript o i pos'] e pos) (liftS X.K W (dKPut do_ di de)) := by
  refine ps_wk (ps_dput hu ho hi he hs) fun Q sg H ⟨ga, mu, al, hd, E, a, h, k⟩ => ?_
  refine ⟨ga, mu, al, hd, _, _, a, h, ⟨fun v mu1 vv H1 al1 h1 o1 g1 r1 => ⟨ga, mu1, al1, hd, _, _, a.to o1 g1, h1, ⟨fun x mu2 xv H2 al2 h2 o2 g2 r2 => ⟨ga, mu2, al2, hd, _, _, a.to o2 (g1.trans g2), h2, ⟨fun y mu3 yv H3 al3 h3 o3 g3 r3 => ?_⟩, (k.ex sg).to (g1.trans g2)⟩⟩, (k.ex sg).to g1⟩⟩, k.ex sg⟩
  cases x <;> try exact h3.elim
  rename_i n
  obtain ⟨kvs, kk, q, hk, hnp, hz, hN⟩ := h3
  cases r2 with
  | ptr ep =>
    rename_i p
    have ey := rep_key r3 hk
    subst ey
    have ep3 := g3.pre n p ep
    obtain ⟨vs, e3, rk⟩ := o3.at_ n _ p q ep3
    have g123 := (g1.trans g2).trans g3
    have rv := r1.go (g2.trans g3) (g2.trans g3).pre
    have gw := Go.write (hd := hd) (H' := upd H3 p (.dK (putK vs kk vv))) o3 ep3 fun b hb => upd_ne hb
    refine ⟨p, _, rfl, .inl ⟨vs, kk, e3, rfl, by rw [← ke_len rk, sizeLine_eq]; exact hz, rfl⟩, ?_⟩
    exact k.nx _ _ _ _ _ hN ⟨o3.write (mo := .dic (putE kvs kk v)) ep3 (fun b hb => upd_ne hb) ⟨_, upd_same, RepKV.go gw (ke_put rk (rv.np hnp))⟩, a.sl.go (g123.trans gw)⟩ (g123.trans gw)
end
end DZ

/-! part DZ8 -/
/-! DZ8: cells made within a block are let go frozen at its end. -/
namespace DZ
open PySem PySem.Spec PyProof.Rows L2 DL
def frzO (n : Nat) (mu : Sto) : Option D → Option D
  | some d => frz n mu d
  | none => none
def frzG (n : Nat) (mu : Sto) (ga : Gam) : Gam := ga.map (frzO n mu)
section
variable {X : Cx} {W : WX} {K : PySem.W.Frag} {hd al al1 : List Addr} {H H1 : Hp} {mu mu1 : Sto} {ga : Gam} {sg : L2.St}
theorem slots_frz (o : Okay K hd H mu al) (o1 : Okay K hd H1 mu1 al1) (g : Go hd H al H1 al1) (s : Slots K hd al1 H1 ga sg) : Slots K hd al H1 (frzG mu.length mu1 ga) sg := by
  refine ⟨by unfold frzG; rw [List.length_map]; exact s.len, fun i d e => ?_⟩
  unfold frzG at e
  rw [List.getElem?_map] at e
  cases q : ga[i]? with
  | none =>
    rw [q] at e
    cases e
  | some x =>
    rw [q] at e
    cases x with
    | none => cases e
    | some d' =>
      obtain ⟨v, hv, r⟩ := s.at_ i d' q
      exact ⟨v, hv, Rep.frz o o1 g r (Option.some.inj e)⟩
def dTrim1 (t1 u : DS) : DS := fun E ga mu => t1 { E with nx := fun ga1 mu1 => ∃ mu3, Trim mu mu1 mu3 ∧ u E (frzG mu.length mu1 ga1) mu3 } ga mu
def dTrim2 (t1 t2 u : DS) : DS := fun E ga mu => t1 { E with nx := fun ga1 mu1 => t2 { E with nx := fun ga2 mu2 => ∃ mu3, Trim mu mu2 mu3 ∧ u E (frzG mu.length mu2 ga2) mu3 } ga1 mu1 } ga mu
def dTrim3 (t1 t2 t3 u : DS) : DS := fun E ga mu => t1 { E with nx := fun ga1 mu1 => t2 { E with nx := fun ga2 mu2 => t3 { E with nx := fun ga4 mu4 => ∃ mu3, Trim mu mu4 mu3 ∧ u E (frzG mu.length mu4 ga4) mu3 } ga2 mu2 } ga1 mu1 } ga mu
theorem KE.with {E : DEnds} {Q : Ends} {N : Gam → Sto → Prop} {R : L2.St → Hp → Prop} (k : KE K hd W H al E Q) (kn : Kn K hd H al N R) : KE K hd W H al { E with nx := N } { Q with nx := R } := ⟨kn, k.rt, k.ex, k.bk, k.ct⟩
theorem ds_trim1 {s1 : Stmt} {r : List Stmt} {t1 u : DS} (h1 : PS X s1 (liftS X.K W t1)) (h3 : PSs X r (liftS X.K W u)) : PSs X (s1 :: r) (liftS X.K W (dTrim1 t1 u)) := by
  refine pss_wk (pss_cons h1 h3) fun Q sg H ⟨ga, mu, al, hd, E, a, h, k⟩ => ?_
  refine ⟨ga, mu, al, hd, _, a, h, KE.with k fun ga1 mu1 sg1 H1 al1 n1 a1 g1 => ?_⟩
  obtain ⟨mu3, t, n3⟩ := n1
  exact ⟨_, mu3, al, hd, E, ⟨a.ok.trim a1.ok g1 t, slots_frz a.ok a1.ok g1 a1.sl⟩, n3, k.to g1.home⟩
theorem ds_trim2 {s1 s2 : Stmt} {r : List Stmt} {t1 t2 u : DS} (h1 : PS X s1 (liftS X.K W t1)) (h2 : PS X s2 (liftS X.K W t2)) (h3 : PSs X r (liftS X.K W u)) : PSs X (s1 :: s2 :: r) (liftS X.K W (dTrim2 t1 t2 u)) := by
  refine pss_wk (pss_cons h1 (pss_cons h2 h3)) fun Q sg H ⟨ga, mu, al, hd, E, a, h, k⟩ => ?_
  refine ⟨ga, mu, al, hd, _, a, h, KE.with k fun ga1 mu1 sg1 H1 al1 n1 a1 g1 => ?_⟩
  refine ⟨ga1, mu1, al1, hd, _, a1, n1, KE.with (k.to g1) fun ga2 mu2 sg2 H2 al2 n2 a2 g2 => ?_⟩
  obtain ⟨mu3, t, n3⟩ := n2
  have gg := g1.trans g2
  exact ⟨_, mu3, al, hd, E, ⟨a.ok.trim a2.ok gg t, slots_frz a.ok a2.ok gg a2.sl⟩, n3, k.to gg.home⟩
theorem ds_trim3 {s1 s2 s3 : Stmt} {r : List Stmt} {t1 t2 t3 u : DS} (h1 : PS X s1 (liftS X.K W t1)) (h2 : PS X s2 (liftS X.K W t2)) (h3 : PS X s3 (liftS X.K W t3)) (h4 : PSs X r (liftS X.K W u)) : PSs X (s1 :: s2 :: s3 :: r) (liftS X.K W (dTrim3 t1 t2 t3 u)) := by
  refine pss_wk (pss_cons h1 (pss_cons h2 (pss_cons h3 h4))) fun Q sg H ⟨ga, mu, al, hd, E, a, h, k⟩ => ?_
  refine ⟨ga, mu, al, hd, _, a, h, KE.with k fun ga1 mu1 sg1 H1 al1 n1 a1 g1 => ?_⟩
  refine ⟨ga1, mu1, al1, hd, _, a1, n1, KE.with (k.to g1) fun ga2 mu2 sg2 H2 al2 n2 a2 g2 => ?_⟩
  refine ⟨ga2, mu2, al2, hd, _, a2, n2, KE.with (k.to (g1.trans g2)) fun ga4 mu4 sg4 H4 al4 n4 a4 g4 => ?_⟩
  obtain ⟨mu3, t, n3⟩ := n4
  have gg := (g1.trans g2).trans g4
  exact ⟨_, mu3, al, hd, E, ⟨a.ok.trim a4.ok gg t, slots_frz a.ok a4.ok gg a4.sl⟩, n3, k.to gg.home⟩
end
end DZ

/-! part W34 -/
namespace LW
open PySem PySem.Spec PyProof.Rows L2 DL DQ DX DZ
/-! ### what the defs promise -/
def knd : Nat → Str
  | 0 => "memory" | 1 => "store" | 2 => "flush" | 3 => "fence" | 4 => "program" | 6 => "box" | 7 => "parted" | 8 => "fenced" | 9 => "never" | 10 => "is" | 11 => "copy" | 12 => "step" | 13 => "recovery" | 14 => "failed"
  | _ => ""
def spKind (c : Nat) : DSp := fun ds mu _ F => ∃ l, ds = [.obj c l] ∧ F (.str (knd c)) mu
def spFacts (c : Nat) : DSp := fun ds mu _ F => ∃ l, ds = [.obj c l] ∧ objOk (.obj c l) ∧ F (.tup l) mu
def mt_kind : Nat → Option DSp := fun c => if thg c = true then some (spKind c) else none
def mt_facts : Nat → Option DSp := fun c => if thg c = true then some (spFacts c) else none
/-- the fields are set as they come -/
def spInit (c n : Nat) : DSp := fun ds mu _ F => ∃ j args, ds = .ptr j :: args ∧ args.length = n ∧ mu[j]? = some (.ins c []) ∧ F .non (mu.set j (.ins c args))
def gObj (c n : Nat) : DSp := fun ds mu _ F => (ds.length = n ∧ npL ds) ∧ F (.obj c ds) mu
abbrev iL (ns : List Int) : List D := ns.map D.int
def zs (n : Nat) : List Int := List.replicate n 0
def sizesOk (ns : List Int) : Prop := (1 ≤ ns.length ∧ ns.length ≤ 6) ∧ ∀ x ∈ ns, 1 ≤ x ∧ x ≤ 4
def src (a b c : Int) : MO := .lst [.int a, .int b, .int c]
def srcOk (mu : Sto) (n : Nat) : Prop := ∃ a b c, mu[n]? = some (src a b c)
/-! ### commands -/
inductive Cmd where
  | st (a b c : Int) | fl (a : Int) | fe
  deriving DecidableEq
abbrev Me (ns : List Int) : D := .obj 0 [.tup (iL ns)]
def Cmd.d : Cmd → D
  | .st a b c => .obj 1 [.int a, .int b, .int c]
  | .fl a => .obj 2 [.int a]
  | .fe => .obj 3 []
def lnOk (ns : List Int) (a : Int) : Prop := 0 ≤ a ∧ a < ns.length
def wdOk (ns : List Int) (a b : Int) : Prop := lnOk ns a ∧ 0 ≤ b ∧ b < ns.getD a.toNat 0
def Cmd.ok (ns : List Int) : Cmd → Prop
  | .st a b _ => wdOk ns a b
  | .fl a => lnOk ns a
  | .fe => True
abbrev Pr (ns : List Int) (cs : List Cmd) : D := .obj 4 [Me ns, .tup (cs.map Cmd.d)]
def csOk (ns : List Int) (cs : List Cmd) : Prop := cs.length ≤ 200 ∧ ∀ c ∈ cs, c.ok ns
abbrev sp_Thing_facts := spFacts 3
def sp_Thing_kind : DSp := fun ds mu _ F => ∃ x, ds = [x] ∧ F (.str "") mu
def sp_Memory___init__ : DSp := fun ds mu _ F => ∃ j x ns, ds = [.ptr j, x] ∧ mu[j]? = some (.ins 0 []) ∧ sv mu x = some (iL ns) ∧ sizesOk ns ∧ F .non (mu.set j (.ins 0 [.tup (iL ns)]))
def g_Memory : DSp := fun ds mu _ F => ∃ x ns, ds = [x] ∧ sv mu x = some (iL ns) ∧ sizesOk ns ∧ F (Me ns) mu
abbrev sp_Memory_kind := spKind 0
abbrev sp_Memory_facts := spFacts 0
def sp_Memory_zeros : DSp := fun ds mu _ F => ∃ ns, ds = [Me ns] ∧ sizesOk ns ∧ F (.tup (iL (zs ns.length))) mu
def sp_Memory_check_line : DSp := fun ds mu _ F => ∃ ns a, ds = [Me ns, .int a] ∧ lnOk ns a ∧ F .non mu
def sp_Memory_check_word : DSp := fun ds mu _ F => ∃ ns a b, ds = [Me ns, .int a, .int b] ∧ wdOk ns a b ∧ F .non mu
abbrev sp_Store___init__ := spInit 1 3
abbrev g_Store := gObj 1 3
abbrev sp_Store_kind := spKind 1
abbrev sp_Store_facts := spFacts 1
abbrev sp_Flush___init__ := spInit 2 1
abbrev g_Flush := gObj 2 1
abbrev sp_Flush_kind := spKind 2
abbrev sp_Flush_facts := spFacts 2
abbrev sp_Fence_kind := spKind 3
def sp_Command_check : DSp := fun ds mu _ F => ∃ x y, ds = [x, y] ∧ F .non mu
def sp_Store_check : DSp := fun ds mu _ F => ∃ ns a b c, ds = [Cmd.d (.st a b c), Me ns] ∧ wdOk ns a b ∧ F .non mu
def sp_Flush_check : DSp := fun ds mu _ F => ∃ ns a, ds = [Cmd.d (.fl a), Me ns] ∧ lnOk ns a ∧ F .non mu
def sp_check_commands : DSp := fun ds mu _ F => ∃ ns cs, ds = [Me ns, .tup (cs.map Cmd.d)] ∧ csOk ns cs ∧ F .non mu
def sp_Program___init__ : DSp := fun ds mu _ F => ∃ j x ns cs, ds = [.ptr j, Me ns, x] ∧ mu[j]? = some (.ins 4 []) ∧ sv mu x = some (cs.map Cmd.d) ∧ csOk ns cs ∧ F .non (mu.set j (.ins 4 [Me ns, .tup (cs.map Cmd.d)]))
def g_Program : DSp := fun ds mu _ F => ∃ x ns cs, ds = [Me ns, x] ∧ sv mu x = some (cs.map Cmd.d) ∧ csOk ns cs ∧ F (Pr ns cs) mu
abbrev sp_Program_kind := spKind 4
abbrev sp_Program_facts := spFacts 4
/-! ### counting -/
structure Cn where
  md : List Int
  fl : List Int
  su : List Int
def Cn.go (s : Cn) : Cmd → Cn
  | .st a _ _ => { s with md := s.md.set a.toNat (s.md.getD a.toNat 0 + 1) }
  | .fl a => { s with fl := s.fl.set a.toNat (s.md.getD a.toNat 0) }
  | .fe => { s with su := s.fl }
def cn0 (n : Nat) : Cn := ⟨List.replicate n 0, List.replicate n 0, List.replicate n 0⟩
def cnt (n : Nat) (cs : List Cmd) : Cn := cs.foldl Cn.go (cn0 n)
/-- a counter at j, all its cells behind B -/
def CnAt (B mu : Sto) (j : Nat) (s : Cn) : Prop := ∃ ext p q r, mu = B ++ ext ∧ (B.length ≤ j ∧ B.length ≤ p ∧ B.length ≤ q ∧ B.length ≤ r) ∧ (p ≠ q ∧ p ≠ r ∧ q ≠ r) ∧ mu[j]? = some (.ins 5 [.ptr p, .ptr q, .ptr r]) ∧ mu[p]? = some (.lst (iL s.md)) ∧ mu[q]? = some (.lst (iL s.fl)) ∧ mu[r]? = some (.lst (iL s.su))
def CnOk (n : Nat) (s : Cn) : Prop := s.md.length = n ∧ s.fl.length = n ∧ s.su.length = n
def sp_Counter___init__ : DSp := fun ds mu _ F => ∃ j ns, ds = [.ptr j, Me ns] ∧ ns.length ≤ 6 ∧ mu[j]? = some (.ins 5 []) ∧ F .non (mu.set j (.ins 5 [.ptr mu.length, .ptr (mu.length + 1), .ptr (mu.length + 2)]) ++ [.lst (iL (List.replicate ns.length 0)), .lst (iL (List.replicate ns.length 0)), .lst (iL (List.replicate ns.length 0))])
def g_Counter : DSp := fun ds mu _ F => ∃ ns, ds = [Me ns] ∧ ns.length ≤ 6 ∧ ∀ mu' j, CnAt mu mu' j (cn0 ns.length) → F (.ptr j) mu'
def sp_Counter_do_command : DSp := fun ds mu _ F => ∃ B j ns s c, ds = [.ptr j, Cmd.d c] ∧ CnAt B mu j s ∧ (CnOk ns.length s ∧ Cmd.ok ns c) ∧ ∀ mu', CnAt B mu' j (s.go c) → F .non mu'
def isSt : Cmd → Bool
  | .st _ _ _ => true
  | _ => false
def sp_stores : DSp := fun ds mu _ F => ∃ ns cs, ds = [Pr ns cs] ∧ csOk ns cs ∧ F (.lst ((cs.filter isSt).map Cmd.d)) mu
/-! ### boxes -/
abbrev Bx3 := Int × List Int × List Int
abbrev bx (b : Bx3) : D := .obj 6 [.int b.1, .tup (iL b.2.1), .tup (iL b.2.2)]
def spB : Cn → Cmd → Option (List Int × List Int)
  | s, .st a _ _ => some (s.su.set a.toNat (s.md.getD a.toNat 0), s.md)
  | _, _ => none
def bxs : Nat → Cn → List Cmd → List Bx3
  | _, _, [] => []
  | t, s, c :: cs => (match spB (s.go c) c with
    | some p => (((t : Int) + 1, p) : Bx3) :: bxs (t + 1) (s.go c) cs
    | none => bxs (t + 1) (s.go c) cs)
def allB (n : Nat) (cs : List Cmd) : List Bx3 := ((0 : Int), zs n, zs n) :: bxs 0 (cn0 n) cs
def lws (n : Nat) (cs : List Cmd) : List (List Int) := (bxs 0 (cn0 n) cs).map fun b => b.2.1
abbrev tI (l : List Int) : D := .tup (iL l)
abbrev sp_Box_kind := spKind 6
abbrev sp_Box_facts := spFacts 6
def sp_Box___init__ : DSp := fun ds mu _ F => ∃ j t x y lo hi, ds = [.ptr j, .int t, x, y] ∧ mu[j]? = some (.ins 6 []) ∧ sv mu x = some (iL lo) ∧ sv mu y = some (iL hi) ∧ F .non (mu.set j (.ins 6 [.int t, tI lo, tI hi]))
def g_Box : DSp := fun ds mu _ F => ∃ t x y lo hi, ds = [.int t, x, y] ∧ sv mu x = some (iL lo) ∧ sv mu y = some (iL hi) ∧ F (bx (t, lo, hi)) mu
def sp_boxes_of : DSp := fun ds mu _ F => ∃ ns cs, ds = [Me ns, .tup (cs.map Cmd.d)] ∧ (sizesOk ns ∧ csOk ns cs) ∧ F (.lst ((allB ns.length cs).map bx)) mu
def sp_boxes : DSp := fun ds mu _ F => ∃ ns cs, ds = [Pr ns cs] ∧ (sizesOk ns ∧ csOk ns cs) ∧ F (.lst ((allB ns.length cs).map bx)) mu
/-! ### orders -/
abbrev pI2 (p : Int × Int) : D := .tup [.int p.1, .int p.2]
def nb : List Int → List Cmd → List (Int × Int)
  | _, [] => []
  | m, .st a _ _ :: cs => (a, m.getD a.toNat 0 + 1) :: nb (m.set a.toNat (m.getD a.toNat 0 + 1)) cs
  | m, _ :: cs => nb m cs
def sp_numbered : DSp := fun ds mu _ F => ∃ ns cs, ds = [.lst (cs.map Cmd.d)] ∧ csOk ns cs ∧ (∀ c ∈ cs, isSt c = true) ∧ F (.lst ((nb (zs ns.length) cs).map pI2)) mu
def fhB (p : Int × Int) (low : List Int) (line num : Int) : Bool := if line = p.1 then decide (num ≤ p.2) else decide (num ≤ low.getD line.toNat 0)
def sp_first_holds : DSp := fun ds mu _ F => ∃ p b line num, ds = [pI2 p, bx b, .int line, .int num] ∧ (0 ≤ line ∧ line < b.2.1.length) ∧ F (.bl (fhB p b.2.1 line num)) mu
def pairsF (n : Nat) (P : Nat → Nat → Bool) : List (Nat × Nat) := (List.range n).flatMap fun i => ((List.range n).filter (P i)).map fun j => (i, j)
abbrev pD (p : Nat × Nat) : D := .tup [.int (p.1 : Nat), .int (p.2 : Nat)]
def ordP (n : Nat) (cs : List Cmd) (i j : Nat) : Bool := !(i == j) && fhB ((nb (zs n) cs).getD j (0, 0)) ((lws n cs).getD j []) ((nb (zs n) cs).getD i (0, 0)).1 ((nb (zs n) cs).getD i (0, 0)).2
abbrev ordsD (n : Nat) (cs : List Cmd) : List D := (pairsF (nb (zs n) cs).length (ordP n cs)).map pD
def sp_orders : DSp := fun ds mu _ F => ∃ ns cs, ds = [Pr ns cs] ∧ (sizesOk ns ∧ csOk ns cs) ∧ ∀ x, F (.ptr (mu.length + 1)) (mu ++ [.lst x, .lst (ordsD ns.length cs)])
/-! ### the law's own -/
def Cmd.t : Cmd → D
  | .st a b c => .tup [.str "store", .int a, .int b, .int c]
  | .fl a => .tup [.str "flush", .int a]
  | .fe => .tup [.str "fence"]
abbrev tD (cs : List Cmd) : List D := cs.map Cmd.t
def sp__law_cell (x0 : D) (ns0 : List Int) : DSp := fun ds mu _ F => ds = [x0, .int 0] ∧ ∀ z : Int, F (.int z) mu
def sp__law_rng : DSp := fun ds mu _ F => ∃ x : Int, ds = [.int x] ∧ ∀ a b c, F (.ptr mu.length) (mu ++ [src a b c])
def sp__law_draw : DSp := fun ds mu _ F => ∃ (n : Nat) (many : Int), ds = [.ptr n, .int many] ∧ (0 < many ∧ many < 2 ^ 64) ∧ srcOk mu n ∧ ∀ r a b c, 0 ≤ r → r < many → F (.int r) (mu.set n (src a b c))
def sp__law_pick : DSp := fun ds mu _ F => ∃ (n : Nat) (l : List D), ds = [.ptr n, .lst l] ∧ (0 < l.length ∧ l.length < 1000) ∧ srcOk mu n ∧ ∀ d a b c, d ∈ l → F d (mu.set n (src a b c))
def sp__law_random_sizes : DSp := fun ds mu _ F => ∃ (n : Nat) (ml mw : Int), ds = [.ptr n, .int ml, .int mw] ∧ ((0 < ml ∧ ml ≤ 6) ∧ 0 < mw ∧ mw ≤ 4) ∧ srcOk mu n ∧ ∀ (ns : List Int) a b c, sizesOk ns → (ns.length : Int) ≤ ml → F (.lst (iL ns)) (mu.set n (src a b c))
def sp__law_random_command : DSp := fun ds mu _ F => ∃ (n : Nat) (ns : List Int), ds = [.ptr n, .lst (iL ns)] ∧ sizesOk ns ∧ srcOk mu n ∧ ∀ (e : Cmd) a b c, e.ok ns → F e.t (mu.set n (src a b c))
def sp__law_random_commands : DSp := fun ds mu _ F => ∃ (n : Nat) (ns : List Int) (am : Int), ds = [.ptr n, .lst (iL ns), .int am] ∧ (0 ≤ am ∧ am ≤ 200) ∧ sizesOk ns ∧ srcOk mu n ∧ ∀ (cs : List Cmd) a b c, csOk ns cs → (cs.length : Int) ≤ am → F (.lst (tD cs)) (mu.set n (src a b c))
def sp__law_command : DSp := fun ds mu _ F => ∃ c : Cmd, ds = [c.t] ∧ F c.d mu
def sp__law_program : DSp := fun ds mu _ F => ∃ y ns cs, ds = [.lst (iL ns), y] ∧ lv mu y = some (tD cs) ∧ (sizesOk ns ∧ csOk ns cs) ∧ F (Pr ns cs) mu
def bds : Cn → List Cmd → List (List Int × List Int)
  | s, [] => [(s.su, s.md)]
  | s, c :: cs => (s.su, s.md) :: bds (s.go c) cs
abbrev bdL (p : List Int × List Int) : D := .tup [.lst (iL p.1), .lst (iL p.2)]
def okC (ns : List Int) (cs : List Cmd) : Prop := sizesOk ns ∧ csOk ns cs ∧ ns.length ≤ 4 ∧ (cs.filter isSt).length ≤ 12 ∧ cs.length ≤ 24
def sp__law_bounds : DSp := fun ds mu _ F => ∃ ns cs, ds = [.lst (iL ns), .lst (tD cs)] ∧ (sizesOk ns ∧ csOk ns cs) ∧ F (.lst ((bds (cn0 ns.length) cs).map bdL)) mu
/-- all images between the bounds -/
def rngI (a b : Int) : List Int := (List.range (b + 1 - a).toNat).map fun (k : Nat) => a + (k : Int)
def btw : List (List Int) → List Int → List Int → List (List Int)
  | acc, a :: lo, b :: hi => btw (acc.flatMap fun g => (rngI a b).map fun n => g ++ [n]) lo hi
  | acc, _, _ => acc
def smallB (lo hi : List Int) : Prop := lo.length = hi.length ∧ lo.length ≤ 4 ∧ ∀ p ∈ lo.zip hi, 0 ≤ p.1 ∧ p.1 ≤ p.2 ∧ p.2 ≤ 12
def isIm (ns : List Int) (cs : List Cmd) (im : List Int) : Prop := ∃ p ∈ bds (cn0 ns.length) cs, im ∈ btw [[]] p.1 p.2
def sp__law_latest : DSp := fun ds mu _ F => ∃ ns cs im, ds = [.lst (tD cs), tI im] ∧ (sizesOk ns ∧ csOk ns cs) ∧ im.length = ns.length ∧ ∀ k : Int, F (.int k) mu
def sp__law_images : DSp := fun ds mu _ F => ∃ ns cs, ds = [.lst (iL ns), .lst (tD cs)] ∧ (okC ns cs ∧ noTpl mu = true) ∧ ∀ ims : List (List Int), (∀ im, im ∈ ims ↔ isIm ns cs im) → ims.length ≤ 1000000 → F (.lst (ims.map tI)) mu
abbrev pI3 (p : Int × Int × Nat) : D := .tup [.int p.1, .int p.2.1, .int (p.2.2 : Nat)]
def plc : List Int → Nat → List Cmd → List (Int × Int × Nat)
  | _, _, [] => []
  | m, t, .st a _ _ :: cs => (a, m.getD a.toNat 0 + 1, t) :: plc (m.set a.toNat (m.getD a.toNat 0 + 1)) (t + 1) cs
  | m, t, _ :: cs => plc m (t + 1) cs
abbrev plcD (n : Nat) (cs : List Cmd) : D := .lst ((plc (zs n) 0 cs).map pI3)
def sp__law_places : DSp := fun ds mu _ F => ∃ y ns cs, ds = [y] ∧ lv mu y = some (tD cs) ∧ (sizesOk ns ∧ csOk ns cs) ∧ F (plcD ns.length cs) mu
def scn (l : Int) : Bool → List Cmd → Bool
  | _, [] => false
  | fl, c :: cs => let fl' := fl || decide (c = .fl l); if (decide (c = .fe) && fl') = true then true else scn l fl' cs
def rulB (cs : List Cmd) (p q : Int × Int × Nat) : Bool := if p.1 = q.1 then decide (p.2.1 ≤ q.2.1) else scn p.1 false ((cs.take q.2.2).drop p.2.2)
def sp__law_order_holds : DSp := fun ds mu _ F => ∃ y ns cs i j p q, ds = [y, plcD ns.length cs, .int (i : Nat), .int (j : Nat)] ∧ lv mu y = some (tD cs) ∧ (sizesOk ns ∧ csOk ns cs) ∧ ((plc (zs ns.length) 0 cs)[i]? = some p ∧ (plc (zs ns.length) 0 cs)[j]? = some q) ∧ F (.bl (rulB cs p q)) mu
def sp__law_by_rule : DSp := fun ds mu _ F => ∃ y ns cs, ds = [y] ∧ lv mu y = some (tD cs) ∧ (sizesOk ns ∧ csOk ns cs) ∧ F (.lst (ordsD ns.length cs)) mu
def sp__law_by_images : DSp := fun ds mu _ F => ∃ ns cs, ds = [.lst (iL ns), .lst (tD cs)] ∧ (okC ns cs ∧ noTpl mu = true) ∧ F (.lst (ordsD ns.length cs)) mu
def sp__law_again_holds : DSp := fun ds mu _ F => ∃ y ns cs, ds = [.lst (iL ns), y] ∧ lv mu y = some (tD cs) ∧ (sizesOk ns ∧ csOk ns cs) ∧ F (.bl true) mu

def mt_check : Nat → Option DSp
  | 1 => some sp_Store_check
  | 2 => some sp_Flush_check
  | 3 => some sp_Command_check
  | _ => none
def mt_check_line : Nat → Option DSp
  | 0 => some sp_Memory_check_line
  | _ => none
def mt_check_word : Nat → Option DSp
  | 0 => some sp_Memory_check_word
  | _ => none
def mt_do_command : Nat → Option DSp
  | 5 => some sp_Counter_do_command
  | _ => none
def mt_zeros : Nat → Option DSp
  | 0 => some sp_Memory_zeros
  | _ => none
def ix_commands : Nat → Option Nat
  | 4 => some 1
  | 16 => some 1
  | _ => none
theorem ft_commands : FldT "commands" ix_commands := ⟨fun c k h => by
  unfold ix_commands at h
  split at h <;> cases h <;> exact ⟨rfl, by decide +kernel⟩⟩
def ix_flushed : Nat → Option Nat
  | 5 => some 1
  | _ => none
theorem ft_flushed : FldT "flushed" ix_flushed := ⟨fun c k h => by
  unfold ix_flushed at h
  split at h <;> cases h <;> exact ⟨rfl, by decide +kernel⟩⟩
def ix_high : Nat → Option Nat
  | 6 => some 2
  | _ => none
theorem ft_high : FldT "high" ix_high := ⟨fun c k h => by
  unfold ix_high at h
  split at h <;> cases h <;> exact ⟨rfl, by decide +kernel⟩⟩
def ix_line : Nat → Option Nat
  | 1 => some 0
  | 2 => some 0
  | 10 => some 0
  | 11 => some 0
  | _ => none
theorem ft_line : FldT "line" ix_line := ⟨fun c k h => by
  unfold ix_line at h
  split at h <;> cases h <;> exact ⟨rfl, by decide +kernel⟩⟩
def ix_low : Nat → Option Nat
  | 6 => some 1
  | _ => none
theorem ft_low : FldT "low" ix_low := ⟨fun c k h => by
  unfold ix_low at h
  split at h <;> cases h <;> exact ⟨rfl, by decide +kernel⟩⟩
def ix_made : Nat → Option Nat
  | 5 => some 0
  | _ => none
theorem ft_made : FldT "made" ix_made := ⟨fun c k h => by
  unfold ix_made at h
  split at h <;> cases h <;> exact ⟨rfl, by decide +kernel⟩⟩
def ix_memory : Nat → Option Nat
  | 4 => some 0
  | 13 => some 0
  | 16 => some 0
  | _ => none
theorem ft_memory : FldT "memory" ix_memory := ⟨fun c k h => by
  unfold ix_memory at h
  split at h <;> cases h <;> exact ⟨rfl, by decide +kernel⟩⟩
def ix_number : Nat → Option Nat
  | 1 => some 2
  | _ => none
theorem ft_number : FldT "number" ix_number := ⟨fun c k h => by
  unfold ix_number at h
  split at h <;> cases h <;> exact ⟨rfl, by decide +kernel⟩⟩
def ix_sizes : Nat → Option Nat
  | 0 => some 0
  | _ => none
theorem ft_sizes : FldT "sizes" ix_sizes := ⟨fun c k h => by
  unfold ix_sizes at h
  split at h <;> cases h <;> exact ⟨rfl, by decide +kernel⟩⟩
def ix_sure : Nat → Option Nat
  | 5 => some 2
  | _ => none
theorem ft_sure : FldT "sure" ix_sure := ⟨fun c k h => by
  unfold ix_sure at h
  split at h <;> cases h <;> exact ⟨rfl, by decide +kernel⟩⟩
def ix_time : Nat → Option Nat
  | 6 => some 0
  | _ => none
theorem ft_time : FldT "time" ix_time := ⟨fun c k h => by
  unfold ix_time at h
  split at h <;> cases h <;> exact ⟨rfl, by decide +kernel⟩⟩
def ix_word : Nat → Option Nat
  | 1 => some 1
  | 10 => some 1
  | 11 => some 1
  | _ => none
theorem ft_word : FldT "word" ix_word := ⟨fun c k h => by
  unfold ix_word at h
  split at h <;> cases h <;> exact ⟨rfl, by decide +kernel⟩⟩
structure Tx (K : PySem.W.Frag) (mg : Str → Option Value) : Prop where
  g_law : mg "law" = some (.ref (He.ga K "law"))
  g_BadCount : mg "BadCount" = some (.ref (He.ga K "BadCount"))
  g_Box : mg "Box" = some (.ref (He.ga K "Box"))
  g_Counter : mg "Counter" = some (.ref (He.ga K "Counter"))
  g_Fence : mg "Fence" = some (.ref (He.ga K "Fence"))
  g_Flush : mg "Flush" = some (.ref (He.ga K "Flush"))
  i_MOST_COMMANDS : ∃ t, mg "MOST_COMMANDS" = some (.int 200 t)
  i_MOST_LINES : ∃ t, mg "MOST_LINES" = some (.int 6 t)
  i_MOST_WORDS : ∃ t, mg "MOST_WORDS" = some (.int 4 t)
  g_Memory : mg "Memory" = some (.ref (He.ga K "Memory"))
  g_NoLine : mg "NoLine" = some (.ref (He.ga K "NoLine"))
  g_NoWord : mg "NoWord" = some (.ref (He.ga K "NoWord"))
  g_Program : mg "Program" = some (.ref (He.ga K "Program"))
  g_Store : mg "Store" = some (.ref (He.ga K "Store"))
  g_Thing : mg "Thing" = some (.ref (He.ga K "Thing"))
  g__law_again_holds : mg "_law_again_holds" = some (.ref (He.ga K "_law_again_holds"))
  g__law_bounds : mg "_law_bounds" = some (.ref (He.ga K "_law_bounds"))
  g__law_by_images : mg "_law_by_images" = some (.ref (He.ga K "_law_by_images"))
  g__law_by_rule : mg "_law_by_rule" = some (.ref (He.ga K "_law_by_rule"))
  g__law_cell : mg "_law_cell" = some (.ref (He.ga K "_law_cell"))
  g__law_command : mg "_law_command" = some (.ref (He.ga K "_law_command"))
  g__law_draw : mg "_law_draw" = some (.ref (He.ga K "_law_draw"))
  g__law_images : mg "_law_images" = some (.ref (He.ga K "_law_images"))
  g__law_latest : mg "_law_latest" = some (.ref (He.ga K "_law_latest"))
  g__law_order_holds : mg "_law_order_holds" = some (.ref (He.ga K "_law_order_holds"))
  g__law_pick : mg "_law_pick" = some (.ref (He.ga K "_law_pick"))
  g__law_places : mg "_law_places" = some (.ref (He.ga K "_law_places"))
  g__law_program : mg "_law_program" = some (.ref (He.ga K "_law_program"))
  g__law_random_command : mg "_law_random_command" = some (.ref (He.ga K "_law_random_command"))
  g__law_random_commands : mg "_law_random_commands" = some (.ref (He.ga K "_law_random_commands"))
  g__law_random_sizes : mg "_law_random_sizes" = some (.ref (He.ga K "_law_random_sizes"))
  g__law_rng : mg "_law_rng" = some (.ref (He.ga K "_law_rng"))
  f_abs : mg "abs" = none
  g_boxes : mg "boxes" = some (.ref (He.ga K "boxes"))
  g_boxes_of : mg "boxes_of" = some (.ref (He.ga K "boxes_of"))
  g_check_commands : mg "check_commands" = some (.ref (He.ga K "check_commands"))
  f_enumerate : mg "enumerate" = none
  g_first_holds : mg "first_holds" = some (.ref (He.ga K "first_holds"))
  f_isinstance : mg "isinstance" = none
  f_len : mg "len" = none
  f_list : mg "list" = none
  g_numbered : mg "numbered" = some (.ref (He.ga K "numbered"))
  g_orders : mg "orders" = some (.ref (He.ga K "orders"))
  f_range : mg "range" = none
  f_sorted : mg "sorted" = none
  g_stores : mg "stores" = some (.ref (He.ga K "stores"))
  f_tuple : mg "tuple" = none
  f_zip : mg "zip" = none
  mk_Memory : Mk K (He.ga K "Memory") (He.ma K (He.ga K "Memory") "__init__")
  me_Memory_kind : Meth K (He.ga K "Memory") "kind" (He.ma K (He.ga K "Memory") "kind")
  me_Memory_facts : Meth K (He.ga K "Memory") "facts" (He.ma K (He.ga K "Memory") "facts")
  me_Memory_check_line : Meth K (He.ga K "Memory") "check_line" (He.ma K (He.ga K "Memory") "check_line")
  me_Memory_check_word : Meth K (He.ga K "Memory") "check_word" (He.ma K (He.ga K "Memory") "check_word")
  me_Memory_zeros : Meth K (He.ga K "Memory") "zeros" (He.ma K (He.ga K "Memory") "zeros")
  me_Memory___eq__ : Meth K (He.ga K "Memory") "__eq__" (He.ma K (He.ga K "Memory") "__eq__")
  mk_Store : Mk K (He.ga K "Store") (He.ma K (He.ga K "Store") "__init__")
  me_Store_kind : Meth K (He.ga K "Store") "kind" (He.ma K (He.ga K "Store") "kind")
  me_Store_facts : Meth K (He.ga K "Store") "facts" (He.ma K (He.ga K "Store") "facts")
  me_Store_check : Meth K (He.ga K "Store") "check" (He.ma K (He.ga K "Store") "check")
  me_Store___eq__ : Meth K (He.ga K "Store") "__eq__" (He.ma K (He.ga K "Store") "__eq__")
  mk_Flush : Mk K (He.ga K "Flush") (He.ma K (He.ga K "Flush") "__init__")
  me_Flush_kind : Meth K (He.ga K "Flush") "kind" (He.ma K (He.ga K "Flush") "kind")
  me_Flush_facts : Meth K (He.ga K "Flush") "facts" (He.ma K (He.ga K "Flush") "facts")
  me_Flush_check : Meth K (He.ga K "Flush") "check" (He.ma K (He.ga K "Flush") "check")
  me_Flush___eq__ : Meth K (He.ga K "Flush") "__eq__" (He.ma K (He.ga K "Flush") "__eq__")
  me_Fence_kind : Meth K (He.ga K "Fence") "kind" (He.ma K (He.ga K "Fence") "kind")
  me_Fence_check : Meth K (He.ga K "Fence") "check" (He.ma K (He.ga K "Fence") "check")
  me_Fence_facts : Meth K (He.ga K "Fence") "facts" (He.ma K (He.ga K "Fence") "facts")
  me_Fence___eq__ : Meth K (He.ga K "Fence") "__eq__" (He.ma K (He.ga K "Fence") "__eq__")
  mk_Program : Mk K (He.ga K "Program") (He.ma K (He.ga K "Program") "__init__")
  me_Program_kind : Meth K (He.ga K "Program") "kind" (He.ma K (He.ga K "Program") "kind")
  me_Program_facts : Meth K (He.ga K "Program") "facts" (He.ma K (He.ga K "Program") "facts")
  me_Program___eq__ : Meth K (He.ga K "Program") "__eq__" (He.ma K (He.ga K "Program") "__eq__")
  mk_Counter : Mk K (He.ga K "Counter") (He.ma K (He.ga K "Counter") "__init__")
  me_Counter_do_command : Meth K (He.ga K "Counter") "do_command" (He.ma K (He.ga K "Counter") "do_command")
  mk_Box : Mk K (He.ga K "Box") (He.ma K (He.ga K "Box") "__init__")
  me_Box_kind : Meth K (He.ga K "Box") "kind" (He.ma K (He.ga K "Box") "kind")
  me_Box_facts : Meth K (He.ga K "Box") "facts" (He.ma K (He.ga K "Box") "facts")
  me_Box___eq__ : Meth K (He.ga K "Box") "__eq__" (He.ma K (He.ga K "Box") "__eq__")
  txt : txtB K = true
  ck_0 : ClsOk K 0
  ck_1 : ClsOk K 1
  ck_2 : ClsOk K 2
  mk0_3 : Mk0 K 3
  ck_4 : ClsOk K 4
  ck_5 : ClsOk K 5
  ck_6 : ClsOk K 6
  ab_7 : ¬ ClsOk K 7
  ab_8 : ¬ ClsOk K 8
  ab_9 : ¬ ClsOk K 9
  ab_10 : ¬ ClsOk K 10
  ab_11 : ¬ ClsOk K 11
  ab_12 : ¬ ClsOk K 12
  ab_13 : ¬ ClsOk K 13
  ab_14 : ¬ ClsOk K 14
  ab_15 : ¬ ClsOk K 15
  ab_16 : ¬ ClsOk K 16
  ab_17 : ¬ ClsOk K 17
  isi_Flush : IsiT K (.ref (He.ga K "Flush")) noTy (fun c => c == 2)
  isi_Store : IsiT K (.ref (He.ga K "Store")) noTy (fun c => c == 1)
  isi_Thing : IsiT K (.ref (He.ga K "Thing")) noTy thg
  isi_list : IsiT K (.type "list") isLst noCl
theorem Tx.isF {K : PySem.W.Frag} {mg : Str → Option Value} (T : Tx K mg) : IsF K := isF_of T.txt
theorem Tx.eqF {K : PySem.W.Frag} {mg : Str → Option Value} (T : Tx K mg) : EqF K (eqAd K) := eqF_of T.txt
theorem sc_Thing_facts : FnScope ["self"] ["self"] (defScope s_Thing_facts) := ⟨rfl, rfl, rfl, by decide +kernel, rfl, by decide +kernel, by decide +kernel⟩
theorem sc_Thing_kind : FnScope ["self"] ["self"] (defScope s_Thing_kind) := ⟨rfl, rfl, rfl, by decide +kernel, rfl, by decide +kernel, by decide +kernel⟩
theorem sc_Memory_kind : FnScope ["self"] ["self"] (defScope s_Memory_kind) := ⟨rfl, rfl, rfl, by decide +kernel, rfl, by decide +kernel, by decide +kernel⟩
theorem sc_Store_kind : FnScope ["self"] ["self"] (defScope s_Store_kind) := ⟨rfl, rfl, rfl, by decide +kernel, rfl, by decide +kernel, by decide +kernel⟩
theorem sc_Flush_kind : FnScope ["self"] ["self"] (defScope s_Flush_kind) := ⟨rfl, rfl, rfl, by decide +kernel, rfl, by decide +kernel, by decide +kernel⟩
theorem sc_Fence_kind : FnScope ["self"] ["self"] (defScope s_Fence_kind) := ⟨rfl, rfl, rfl, by decide +kernel, rfl, by decide +kernel, by decide +kernel⟩
theorem sc_Program_kind : FnScope ["self"] ["self"] (defScope s_Program_kind) := ⟨rfl, rfl, rfl, by decide +kernel, rfl, by decide +kernel, by decide +kernel⟩
theorem sc_Box_kind : FnScope ["self"] ["self"] (defScope s_Box_kind) := ⟨rfl, rfl, rfl, by decide +kernel, rfl, by decide +kernel, by decide +kernel⟩
theorem sc_Memory_facts : FnScope ["self"] ["self"] (defScope s_Memory_facts) := ⟨rfl, rfl, rfl, by decide +kernel, rfl, by decide +kernel, by decide +kernel⟩
theorem sc_Store_facts : FnScope ["self"] ["self"] (defScope s_Store_facts) := ⟨rfl, rfl, rfl, by decide +kernel, rfl, by decide +kernel, by decide +kernel⟩
theorem sc_Flush_facts : FnScope ["self"] ["self"] (defScope s_Flush_facts) := ⟨rfl, rfl, rfl, by decide +kernel, rfl, by decide +kernel, by decide +kernel⟩
theorem sc_Program_facts : FnScope ["self"] ["self"] (defScope s_Program_facts) := ⟨rfl, rfl, rfl, by decide +kernel, rfl, by decide +kernel, by decide +kernel⟩
theorem sc_Box_facts : FnScope ["self"] ["self"] (defScope s_Box_facts) := ⟨rfl, rfl, rfl, by decide +kernel, rfl, by decide +kernel, by decide +kernel⟩
theorem sc_Thing___eq__ : FnScope ["self", "other"] ["self", "other"] (defScope s_Thing___eq__) := ⟨rfl, rfl, rfl, by decide +kernel, rfl, by decide +kernel, by decide +kernel⟩
theorem sc_Memory___init__ : FnScope ["self", "sizes", "size"] ["self", "sizes"] (defScope s_Memory___init__) := ⟨rfl, rfl, rfl, by decide +kernel, rfl, by decide +kernel, by decide +kernel⟩
theorem sc_Memory_check_line : FnScope ["self", "line"] ["self", "line"] (defScope s_Memory_check_line) := ⟨rfl, rfl, rfl, by decide +kernel, rfl, by decide +kernel, by decide +kernel⟩
theorem sc_Memory_check_word : FnScope ["self", "line", "word"] ["self", "line", "word"] (defScope s_Memory_check_word) := ⟨rfl, rfl, rfl, by decide +kernel, rfl, by decide +kernel, by decide +kernel⟩
theorem sc_Memory_zeros : FnScope ["self"] ["self"] (defScope s_Memory_zeros) := ⟨rfl, rfl, rfl, by decide +kernel, rfl, by decide +kernel, by decide +kernel⟩
theorem sc_Command_check : FnScope ["self", "memory"] ["self", "memory"] (defScope s_Command_check) := ⟨rfl, rfl, rfl, by decide +kernel, rfl, by decide +kernel, by decide +kernel⟩
theorem sc_Store___init__ : FnScope ["self", "line", "word", "number"] ["self", "line", "word", "number"] (defScope s_Store___init__) := ⟨rfl, rfl, rfl, by decide +kernel, rfl, by decide +kernel, by decide +kernel⟩
theorem sc_Store_check : FnScope ["self", "memory"] ["self", "memory"] (defScope s_Store_check) := ⟨rfl, rfl, rfl, by decide +kernel, rfl, by decide +kernel, by decide +kernel⟩
theorem sc_Flush___init__ : FnScope ["self", "line"] ["self", "line"] (defScope s_Flush___init__) := ⟨rfl, rfl, rfl, by decide +kernel, rfl, by decide +kernel, by decide +kernel⟩
theorem sc_Flush_check : FnScope ["self", "memory"] ["self", "memory"] (defScope s_Flush_check) := ⟨rfl, rfl, rfl, by decide +kernel, rfl, by decide +kernel, by decide +kernel⟩
theorem sc_check_commands : FnScope ["memory", "commands", "command"] ["memory", "commands"] (defScope s_check_commands) := ⟨rfl, rfl, rfl, by decide +kernel, rfl, by decide +kernel, by decide +kernel⟩
theorem sc_Program___init__ : FnScope ["self", "memory", "commands"] ["self", "memory", "commands"] (defScope s_Program___init__) := ⟨rfl, rfl, rfl, by decide +kernel, rfl, by decide +kernel, by decide +kernel⟩
theorem sc_stores : FnScope ["program", "command"] ["program"] (defScope s_stores) := ⟨rfl, rfl, rfl, by decide +kernel, rfl, by decide +kernel, by decide +kernel⟩
theorem sc_Counter___init__ : FnScope ["self", "memory"] ["self", "memory"] (defScope s_Counter___init__) := ⟨rfl, rfl, rfl, by decide +kernel, rfl, by decide +kernel, by decide +kernel⟩
theorem sc_Counter_do_command : FnScope ["self", "command"] ["self", "command"] (defScope s_Counter_do_command) := ⟨rfl, rfl, rfl, by decide +kernel, rfl, by decide +kernel, by decide +kernel⟩
theorem sc_Box___init__ : FnScope ["self", "time", "low", "high"] ["self", "time", "low", "high"] (defScope s_Box___init__) := ⟨rfl, rfl, rfl, by decide +kernel, rfl, by decide +kernel, by decide +kernel⟩
theorem sc_boxes_of : FnScope ["memory", "commands", "found", "counter", "index", "command", "low"] ["memory", "commands"] (defScope s_boxes_of) := ⟨rfl, rfl, rfl, by decide +kernel, rfl, by decide +kernel, by decide +kernel⟩
theorem sc_boxes : FnScope ["program"] ["program"] (defScope s_boxes) := ⟨rfl, rfl, rfl, by decide +kernel, rfl, by decide +kernel, by decide +kernel⟩
theorem sc_numbered : FnScope ["some", "store", "found", "counts"] ["some"] (defScope s_numbered) := ⟨rfl, rfl, rfl, by decide +kernel, rfl, by decide +kernel, by decide +kernel⟩
theorem sc_first_holds : FnScope ["place", "box", "line", "number"] ["place", "box", "line", "number"] (defScope s_first_holds) := ⟨rfl, rfl, rfl, by decide +kernel, rfl, by decide +kernel, by decide +kernel⟩
theorem sc_orders : FnScope ["program", "places", "found", "last", "box", "first", "line", "number"] ["program"] (defScope s_orders) := ⟨rfl, rfl, rfl, by decide +kernel, rfl, by decide +kernel, by decide +kernel⟩
theorem sc__law_cell : FnScope ["_law_script", "_law_index"] ["_law_script", "_law_index"] (defScope s__law_cell) := ⟨rfl, rfl, rfl, by decide +kernel, rfl, by decide +kernel, by decide +kernel⟩
theorem sc__law_rng : FnScope ["_law_cell_here"] ["_law_cell_here"] (defScope s__law_rng) := ⟨rfl, rfl, rfl, by decide +kernel, rfl, by decide +kernel, by decide +kernel⟩
theorem sc__law_draw : FnScope ["_law_rng_here", "_law_limit", "_law_mixed", "_law_digit"] ["_law_rng_here", "_law_limit"] (defScope s__law_draw) := ⟨rfl, rfl, rfl, by decide +kernel, rfl, by decide +kernel, by decide +kernel⟩
theorem sc__law_pick : FnScope ["_law_rng_here", "_law_items"] ["_law_rng_here", "_law_items"] (defScope s__law_pick) := ⟨rfl, rfl, rfl, by decide +kernel, rfl, by decide +kernel, by decide +kernel⟩
theorem sc__law_random_sizes : FnScope ["_law_rng_here", "_law_most_lines", "_law_most_words", "_law_line"] ["_law_rng_here", "_law_most_lines", "_law_most_words"] (defScope s__law_random_sizes) := ⟨rfl, rfl, rfl, by decide +kernel, rfl, by decide +kernel, by decide +kernel⟩
theorem sc__law_random_command : FnScope ["_law_rng_here", "_law_sizes", "_law_kind", "_law_line"] ["_law_rng_here", "_law_sizes"] (defScope s__law_random_command) := ⟨rfl, rfl, rfl, by decide +kernel, rfl, by decide +kernel, by decide +kernel⟩
theorem sc__law_random_commands : FnScope ["_law_rng_here", "_law_sizes", "_law_most", "_law_index"] ["_law_rng_here", "_law_sizes", "_law_most"] (defScope s__law_random_commands) := ⟨rfl, rfl, rfl, by decide +kernel, rfl, by decide +kernel, by decide +kernel⟩
theorem sc__law_command : FnScope ["_law_command_here"] ["_law_command_here"] (defScope s__law_command) := ⟨rfl, rfl, rfl, by decide +kernel, rfl, by decide +kernel, by decide +kernel⟩
theorem sc__law_program : FnScope ["_law_sizes", "_law_commands", "_law_command_here"] ["_law_sizes", "_law_commands"] (defScope s__law_program) := ⟨rfl, rfl, rfl, by decide +kernel, rfl, by decide +kernel, by decide +kernel⟩
theorem sc__law_bounds : FnScope ["_law_sizes", "_law_commands", "_law_result", "_law_time", "_law_line", "_law_low", "_law_high", "_law_command_here", "_law_before", "_law_least", "_law_flushed"] ["_law_sizes", "_law_commands"] (defScope s__law_bounds) := ⟨rfl, rfl, rfl, by decide +kernel, rfl, by decide +kernel, by decide +kernel⟩
theorem sc__law_latest : FnScope ["_law_commands", "_law_image", "_law_latest_here", "_law_seen", "_law_index", "_law_command_here"] ["_law_commands", "_law_image"] (defScope s__law_latest) := ⟨rfl, rfl, rfl, by decide +kernel, rfl, by decide +kernel, by decide +kernel⟩
theorem sc__law_images : FnScope ["_law_sizes", "_law_commands", "_law_found", "_law_ranked", "_law_low", "_law_high", "_law_some", "_law_image", "_law_first", "_law_last", "_law_longer", "_law_latest_here", "_law_number"] ["_law_sizes", "_law_commands"] (defScope s__law_images) := ⟨rfl, rfl, rfl, by decide +kernel, rfl, by decide +kernel, by decide +kernel⟩
theorem sc__law_places : FnScope ["_law_commands", "_law_result", "_law_seen", "_law_index", "_law_command_here"] ["_law_commands"] (defScope s__law_places) := ⟨rfl, rfl, rfl, by decide +kernel, rfl, by decide +kernel, by decide +kernel⟩
theorem sc__law_order_holds : FnScope ["_law_commands", "_law_some", "_law_first", "_law_last", "_law_is_flushed", "_law_command_here", "_law_line", "_law_number", "_law_begin", "_law_other", "_law_number_there", "_law_end"] ["_law_commands", "_law_some", "_law_first", "_law_last"] (defScope s__law_order_holds) := ⟨rfl, rfl, rfl, by decide +kernel, rfl, by decide +kernel, by decide +kernel⟩
theorem sc__law_by_rule : FnScope ["_law_commands", "_law_some", "_law_result", "_law_first", "_law_last"] ["_law_commands"] (defScope s__law_by_rule) := ⟨rfl, rfl, rfl, by decide +kernel, rfl, by decide +kernel, by decide +kernel⟩
theorem sc__law_by_images : FnScope ["_law_sizes", "_law_commands", "_law_result", "_law_some", "_law_images_here", "_law_first", "_law_line", "_law_number", "_law_begin", "_law_last", "_law_broken_by", "_law_other", "_law_number_there", "_law_end", "_law_image"] ["_law_sizes", "_law_commands"] (defScope s__law_by_images) := ⟨rfl, rfl, rfl, by decide +kernel, rfl, by decide +kernel, by decide +kernel⟩
theorem sc__law_again_holds : FnScope ["_law_sizes", "_law_commands", "_law_found", "_law_program_here", "_law_expected"] ["_law_sizes", "_law_commands"] (defScope s__law_again_holds) := ⟨rfl, rfl, rfl, by decide +kernel, rfl, by decide +kernel, by decide +kernel⟩
theorem sc_law : FnScope ["_law_script", "_law_cell_here", "_law_rng_here", "_law_sizes", "_law_commands", "_law_index", "_law_found"] ["_law_script"] (defScope s_law) := ⟨rfl, rfl, rfl, by decide +kernel, rfl, by decide +kernel, by decide +kernel⟩
section
variable {P : Program} {w : World} {K : PySem.W.Frag} {mg : Str → Option Value} {base : Heap}
abbrev MTa (P : Program) (w : World) (K : PySem.W.Frag) (mg : Str → Option Value) (base : Heap) (k : Nat) (m : Str) (tab : Nat → Option DSp) : Prop := ∀ X : Cx, X.prog = P → X.w = w → X.K = K → X.mg = mg → X.base = base → Room k X.A → MethT X m tab
def t_Thing_facts : DS := dRet (dTup (dNil))
theorem der_Thing_facts (T : Tx K mg) {f : Addr} (cdv : Value) (A : Around) (outer : List Env) (s : Shared) (H : Hp) (Ex : XK) (hr : Room 1 (A.deeper (envOfC "Thing.facts" (defScope s_Thing_facts) s.heap.objs.size f cdv))) : PSs (cxOf (L2.CX P w) P w K mg base ["self"] "Thing.facts" (defScope s_Thing_facts) f cdv A outer s H Ex) (defBody s_Thing_facts) (liftS K (fun cls d _ H => Ex cls d H) t_Thing_facts) :=
  ds_one (ds_ret (d_tup (da_nil)))
theorem ok_Thing_facts (T : Tx K mg) {f : Addr} (Fd : ∃ fd, FunD K "facts" "Thing.facts" (defArgs s_Thing_facts) (defBody s_Thing_facts) (defScope s_Thing_facts) [] [] f fd) (ar : ∀ ds mu P' F, sp_Thing_facts ds mu P' F → ds.length = 1) (pure : ∀ ds mu P' F, sp_Thing_facts ds mu P' F → t_Thing_facts (endF P' F) (gam0 1 ds) mu) : Prom P w K mg base 2 f 1 sp_Thing_facts := by
  obtain ⟨fd, Fd⟩ := Fd
  exact fn_dl Fd sc_Thing_facts rfl rfl (fun _ _ _ _ _ _ us hl => match us, hl with | [_], _ => rfl) ar (fun cdv A outer s H Ex hr => der_Thing_facts T cdv A outer s H Ex hr) pure
def t_Thing_kind : DS := dRet (dC (.str ""))
theorem der_Thing_kind (T : Tx K mg) {f : Addr} (cdv : Value) (A : Around) (outer : List Env) (s : Shared) (H : Hp) (Ex : XK) (hr : Room 1 (A.deeper (envOfC "Thing.kind" (defScope s_Thing_kind) s.heap.objs.size f cdv))) : PSs (cxOf (L2.CX P w) P w K mg base ["self"] "Thing.kind" (defScope s_Thing_kind) f cdv A outer s H Ex) (defBody s_Thing_kind) (liftS K (fun cls d _ H => Ex cls d H) t_Thing_kind) :=
  ds_one (ds_ret (d_str))
theorem ok_Thing_kind (T : Tx K mg) {f : Addr} (Fd : ∃ fd, FunD K "kind" "Thing.kind" (defArgs s_Thing_kind) (defBody s_Thing_kind) (defScope s_Thing_kind) [] [] f fd) (ar : ∀ ds mu P' F, sp_Thing_kind ds mu P' F → ds.length = 1) (pure : ∀ ds mu P' F, sp_Thing_kind ds mu P' F → t_Thing_kind (endF P' F) (gam0 1 ds) mu) : Prom P w K mg base 2 f 1 sp_Thing_kind := by
  obtain ⟨fd, Fd⟩ := Fd
  exact fn_dl Fd sc_Thing_kind rfl rfl (fun _ _ _ _ _ _ us hl => match us, hl with | [_], _ => rfl) ar (fun cdv A outer s H Ex hr => der_Thing_kind T cdv A outer s H Ex hr) pure
def t_Memory_kind : DS := dRet (dC (.str "memory"))
theorem der_Memory_kind (T : Tx K mg) {f : Addr} (cdv : Value) (A : Around) (outer : List Env) (s : Shared) (H : Hp) (Ex : XK) (hr : Room 1 (A.deeper (envOfC "Memory.kind" (defScope s_Memory_kind) s.heap.objs.size f cdv))) : PSs (cxOf (L2.CX P w) P w K mg base ["self"] "Memory.kind" (defScope s_Memory_kind) f cdv A outer s H Ex) (defBody s_Memory_kind) (liftS K (fun cls d _ H => Ex cls d H) t_Memory_kind) :=
  ds_one (ds_ret (d_str))
theorem ok_Memory_kind (T : Tx K mg) {f : Addr} (Fd : ∃ fd, FunD K "kind" "Memory.kind" (defArgs s_Memory_kind) (defBody s_Memory_kind) (defScope s_Memory_kind) [] [] f fd) (ar : ∀ ds mu P' F, sp_Memory_kind ds mu P' F → ds.length = 1) (pure : ∀ ds mu P' F, sp_Memory_kind ds mu P' F → t_Memory_kind (endF P' F) (gam0 1 ds) mu) : Prom P w K mg base 2 f 1 sp_Memory_kind := by
  obtain ⟨fd, Fd⟩ := Fd
  exact fn_dl Fd sc_Memory_kind rfl rfl (fun _ _ _ _ _ _ us hl => match us, hl with | [_], _ => rfl) ar (fun cdv A outer s H Ex hr => der_Memory_kind T cdv A outer s H Ex hr) pure
def t_Store_kind : DS := dRet (dC (.str "store"))
theorem der_Store_kind (T : Tx K mg) {f : Addr} (cdv : Value) (A : Around) (outer : List Env) (s : Shared) (H : Hp) (Ex : XK) (hr : Room 1 (A.deeper (envOfC "Store.kind" (defScope s_Store_kind) s.heap.objs.size f cdv))) : PSs (cxOf (L2.CX P w) P w K mg base ["self"] "Store.kind" (defScope s_Store_kind) f cdv A outer s H Ex) (defBody s_Store_kind) (liftS K (fun cls d _ H => Ex cls d H) t_Store_kind) :=
  ds_one (ds_ret (d_str))
theorem ok_Store_kind (T : Tx K mg) {f : Addr} (Fd : ∃ fd, FunD K "kind" "Store.kind" (defArgs s_Store_kind) (defBody s_Store_kind) (defScope s_Store_kind) [] [] f fd) (ar : ∀ ds mu P' F, sp_Store_kind ds mu P' F → ds.length = 1) (pure : ∀ ds mu P' F, sp_Store_kind ds mu P' F → t_Store_kind (endF P' F) (gam0 1 ds) mu) : Prom P w K mg base 2 f 1 sp_Store_kind := by
  obtain ⟨fd, Fd⟩ := Fd
  exact fn_dl Fd sc_Store_kind rfl rfl (fun _ _ _ _ _ _ us hl => match us, hl with | [_], _ => rfl) ar (fun cdv A outer s H Ex hr => der_Store_kind T cdv A outer s H Ex hr) pure
def t_Flush_kind : DS := dRet (dC (.str "flush"))
theorem der_Flush_kind (T : Tx K mg) {f : Addr} (cdv : Value) (A : Around) (outer : List Env) (s : Shared) (H : Hp) (Ex : XK) (hr : Room 1 (A.deeper (envOfC "Flush.kind" (defScope s_Flush_kind) s.heap.objs.size f cdv))) : PSs (cxOf (L2.CX P w) P w K mg base ["self"] "Flush.kind" (defScope s_Flush_kind) f cdv A outer s H Ex) (defBody s_Flush_kind) (liftS K (fun cls d _ H => Ex cls d H) t_Flush_kind) :=
  ds_one (ds_ret (d_str))
theorem ok_Flush_kind (T : Tx K mg) {f : Addr} (Fd : ∃ fd, FunD K "kind" "Flush.kind" (defArgs s_Flush_kind) (defBody s_Flush_kind) (defScope s_Flush_kind) [] [] f fd) (ar : ∀ ds mu P' F, sp_Flush_kind ds mu P' F → ds.length = 1) (pure : ∀ ds mu P' F, sp_Flush_kind ds mu P' F → t_Flush_kind (endF P' F) (gam0 1 ds) mu) : Prom P w K mg base 2 f 1 sp_Flush_kind := by
  obtain ⟨fd, Fd⟩ := Fd
  exact fn_dl Fd sc_Flush_kind rfl rfl (fun _ _ _ _ _ _ us hl => match us, hl with | [_], _ => rfl) ar (fun cdv A outer s H Ex hr => der_Flush_kind T cdv A outer s H Ex hr) pure
def t_Fence_kind : DS := dRet (dC (.str "fence"))
theorem der_Fence_kind (T : Tx K mg) {f : Addr} (cdv : Value) (A : Around) (outer : List Env) (s : Shared) (H : Hp) (Ex : XK) (hr : Room 1 (A.deeper (envOfC "Fence.kind" (defScope s_Fence_kind) s.heap.objs.size f cdv))) : PSs (cxOf (L2.CX P w) P w K mg base ["self"] "Fence.kind" (defScope s_Fence_kind) f cdv A outer s H Ex) (defBody s_Fence_kind) (liftS K (fun cls d _ H => Ex cls d H) t_Fence_kind) :=
  ds_one (ds_ret (d_str))
theorem ok_Fence_kind (T : Tx K mg) {f : Addr} (Fd : ∃ fd, FunD K "kind" "Fence.kind" (defArgs s_Fence_kind) (defBody s_Fence_kind) (defScope s_Fence_kind) [] [] f fd) (ar : ∀ ds mu P' F, sp_Fence_kind ds mu P' F → ds.length = 1) (pure : ∀ ds mu P' F, sp_Fence_kind ds mu P' F → t_Fence_kind (endF P' F) (gam0 1 ds) mu) : Prom P w K mg base 2 f 1 sp_Fence_kind := by
  obtain ⟨fd, Fd⟩ := Fd
  exact fn_dl Fd sc_Fence_kind rfl rfl (fun _ _ _ _ _ _ us hl => match us, hl with | [_], _ => rfl) ar (fun cdv A outer s H Ex hr => der_Fence_kind T cdv A outer s H Ex hr) pure
def t_Program_kind : DS := dRet (dC (.str "program"))
theorem der_Program_kind (T : Tx K mg) {f : Addr} (cdv : Value) (A : Around) (outer : List Env) (s : Shared) (H : Hp) (Ex : XK) (hr : Room 1 (A.deeper (envOfC "Program.kind" (defScope s_Program_kind) s.heap.objs.size f cdv))) : PSs (cxOf (L2.CX P w) P w K mg base ["self"] "Program.kind" (defScope s_Program_kind) f cdv A outer s H Ex) (defBody s_Program_kind) (liftS K (fun cls d _ H => Ex cls d H) t_Program_kind) :=
  ds_one (ds_ret (d_str))
theorem ok_Program_kind (T : Tx K mg) {f : Addr} (Fd : ∃ fd, FunD K "kind" "Program.kind" (defArgs s_Program_kind) (defBody s_Program_kind) (defScope s_Program_kind) [] [] f fd) (ar : ∀ ds mu P' F, sp_Program_kind ds mu P' F → ds.length = 1) (pure : ∀ ds mu P' F, sp_Program_kind ds mu P' F → t_Program_kind (endF P' F) (gam0 1 ds) mu) : Prom P w K mg base 2 f 1 sp_Program_kind := by
  obtain ⟨fd, Fd⟩ := Fd
  exact fn_dl Fd sc_Program_kind rfl rfl (fun _ _ _ _ _ _ us hl => match us, hl with | [_], _ => rfl) ar (fun cdv A outer s H Ex hr => der_Program_kind T cdv A outer s H Ex hr) pure
def t_Box_kind : DS := dRet (dC (.str "box"))
theorem der_Box_kind (T : Tx K mg) {f : Addr} (cdv : Value) (A : Around) (outer : List Env) (s : Shared) (H : Hp) (Ex : XK) (hr : Room 1 (A.deeper (envOfC "Box.kind" (defScope s_Box_kind) s.heap.objs.size f cdv))) : PSs (cxOf (L2.CX P w) P w K mg base ["self"] "Box.kind" (defScope s_Box_kind) f cdv A outer s H Ex) (defBody s_Box_kind) (liftS K (fun cls d _ H => Ex cls d H) t_Box_kind) :=
  ds_one (ds_ret (d_str))
theorem ok_Box_kind (T : Tx K mg) {f : Addr} (Fd : ∃ fd, FunD K "kind" "Box.kind" (defArgs s_Box_kind) (defBody s_Box_kind) (defScope s_Box_kind) [] [] f fd) (ar : ∀ ds mu P' F, sp_Box_kind ds mu P' F → ds.length = 1) (pure : ∀ ds mu P' F, sp_Box_kind ds mu P' F → t_Box_kind (endF P' F) (gam0 1 ds) mu) : Prom P w K mg base 2 f 1 sp_Box_kind := by
  obtain ⟨fd, Fd⟩ := Fd
  exact fn_dl Fd sc_Box_kind rfl rfl (fun _ _ _ _ _ _ us hl => match us, hl with | [_], _ => rfl) ar (fun cdv A outer s H Ex hr => der_Box_kind T cdv A outer s H Ex hr) pure
def t_Memory_facts : DS := dRet (dTup (dCons (dFld ix_sizes (dVar 0)) (dNil)))
theorem der_Memory_facts (T : Tx K mg) {f : Addr} (cdv : Value) (A : Around) (outer : List Env) (s : Shared) (H : Hp) (Ex : XK) (hr : Room 1 (A.deeper (envOfC "Memory.facts" (defScope s_Memory_facts) s.heap.objs.size f cdv))) : PSs (cxOf (L2.CX P w) P w K mg base ["self"] "Memory.facts" (defScope s_Memory_facts) f cdv A outer s H Ex) (defBody s_Memory_facts) (liftS K (fun cls d _ H => Ex cls d H) t_Memory_facts) :=
  ds_one (ds_ret (d_tup (da_cons (d_fld ft_sizes (d_var 0)) (da_nil))))
theorem ok_Memory_facts (T : Tx K mg) {f : Addr} (Fd : ∃ fd, FunD K "facts" "Memory.facts" (defArgs s_Memory_facts) (defBody s_Memory_facts) (defScope s_Memory_facts) [] [] f fd) (ar : ∀ ds mu P' F, sp_Memory_facts ds mu P' F → ds.length = 1) (pure : ∀ ds mu P' F, sp_Memory_facts ds mu P' F → t_Memory_facts (endF P' F) (gam0 1 ds) mu) : Prom P w K mg base 2 f 1 sp_Memory_facts := by
  obtain ⟨fd, Fd⟩ := Fd
  exact fn_dl Fd sc_Memory_facts rfl rfl (fun _ _ _ _ _ _ us hl => match us, hl with | [_], _ => rfl) ar (fun cdv A outer s H Ex hr => der_Memory_facts T cdv A outer s H Ex hr) pure
def t_Store_facts : DS := dRet (dTup (dCons (dFld ix_line (dVar 0)) (dCons (dFld ix_word (dVar 0)) (dCons (dFld ix_number (dVar 0)) (dNil)))))
theorem der_Store_facts (T : Tx K mg) {f : Addr} (cdv : Value) (A : Around) (outer : List Env) (s : Shared) (H : Hp) (Ex : XK) (hr : Room 1 (A.deeper (envOfC "Store.facts" (defScope s_Store_facts) s.heap.objs.size f cdv))) : PSs (cxOf (L2.CX P w) P w K mg base ["self"] "Store.facts" (defScope s_Store_facts) f cdv A outer s H Ex) (defBody s_Store_facts) (liftS K (fun cls d _ H => Ex cls d H) t_Store_facts) :=
  ds_one (ds_ret (d_tup (da_cons (d_fld ft_line (d_var 0)) (da_cons (d_fld ft_word (d_var 0)) (da_cons (d_fld ft_number (d_var 0)) (da_nil))))))
theorem ok_Store_facts (T : Tx K mg) {f : Addr} (Fd : ∃ fd, FunD K "facts" "Store.facts" (defArgs s_Store_facts) (defBody s_Store_facts) (defScope s_Store_facts) [] [] f fd) (ar : ∀ ds mu P' F, sp_Store_facts ds mu P' F → ds.length = 1) (pure : ∀ ds mu P' F, sp_Store_facts ds mu P' F → t_Store_facts (endF P' F) (gam0 1 ds) mu) : Prom P w K mg base 2 f 1 sp_Store_facts := by
  obtain ⟨fd, Fd⟩ := Fd
  exact fn_dl Fd sc_Store_facts rfl rfl (fun _ _ _ _ _ _ us hl => match us, hl with | [_], _ => rfl) ar (fun cdv A outer s H Ex hr => der_Store_facts T cdv A outer s H Ex hr) pure
def t_Flush_facts : DS := dRet (dTup (dCons (dFld ix_line (dVar 0)) (dNil)))
theorem der_Flush_facts (T : Tx K mg) {f : Addr} (cdv : Value) (A : Around) (outer : List Env) (s : Shared) (H : Hp) (Ex : XK) (hr : Room 1 (A.deeper (envOfC "Flush.facts" (defScope s_Flush_facts) s.heap.objs.size f cdv))) : PSs (cxOf (L2.CX P w) P w K mg base ["self"] "Flush.facts" (defScope s_Flush_facts) f cdv A outer s H Ex) (defBody s_Flush_facts) (liftS K (fun cls d _ H => Ex cls d H) t_Flush_facts) :=
  ds_one (ds_ret (d_tup (da_cons (d_fld ft_line (d_var 0)) (da_nil))))
theorem ok_Flush_facts (T : Tx K mg) {f : Addr} (Fd : ∃ fd, FunD K "facts" "Flush.facts" (defArgs s_Flush_facts) (defBody s_Flush_facts) (defScope s_Flush_facts) [] [] f fd) (ar : ∀ ds mu P' F, sp_Flush_facts ds mu P' F → ds.length = 1) (pure : ∀ ds mu P' F, sp_Flush_facts ds mu P' F → t_Flush_facts (endF P' F) (gam0 1 ds) mu) : Prom P w K mg base 2 f 1 sp_Flush_facts := by
  obtain ⟨fd, Fd⟩ := Fd
  exact fn_dl Fd sc_Flush_facts rfl rfl (fun _ _ _ _ _ _ us hl => match us, hl with | [_], _ => rfl) ar (fun cdv A outer s H Ex hr => der_Flush_facts T cdv A outer s H Ex hr) pure
def t_Program_facts : DS := dRet (dTup (dCons (dFld ix_memory (dVar 0)) (dCons (dFld ix_commands (dVar 0)) (dNil))))
theorem der_Program_facts (T : Tx K mg) {f : Addr} (cdv : Value) (A : Around) (outer : List Env) (s : Shared) (H : Hp) (Ex : XK) (hr : Room 1 (A.deeper (envOfC "Program.facts" (defScope s_Program_facts) s.heap.objs.size f cdv))) : PSs (cxOf (L2.CX P w) P w K mg base ["self"] "Program.facts" (defScope s_Program_facts) f cdv A outer s H Ex) (defBody s_Program_facts) (liftS K (fun cls d _ H => Ex cls d H) t_Program_facts) :=
  ds_one (ds_ret (d_tup (da_cons (d_fld ft_memory (d_var 0)) (da_cons (d_fld ft_commands (d_var 0)) (da_nil)))))
theorem ok_Program_facts (T : Tx K mg) {f : Addr} (Fd : ∃ fd, FunD K "facts" "Program.facts" (defArgs s_Program_facts) (defBody s_Program_facts) (defScope s_Program_facts) [] [] f fd) (ar : ∀ ds mu P' F, sp_Program_facts ds mu P' F → ds.length = 1) (pure : ∀ ds mu P' F, sp_Program_facts ds mu P' F → t_Program_facts (endF P' F) (gam0 1 ds) mu) : Prom P w K mg base 2 f 1 sp_Program_facts := by
  obtain ⟨fd, Fd⟩ := Fd
  exact fn_dl Fd sc_Program_facts rfl rfl (fun _ _ _ _ _ _ us hl => match us, hl with | [_], _ => rfl) ar (fun cdv A outer s H Ex hr => der_Program_facts T cdv A outer s H Ex hr) pure
def t_Box_facts : DS := dRet (dTup (dCons (dFld ix_time (dVar 0)) (dCons (dFld ix_low (dVar 0)) (dCons (dFld ix_high (dVar 0)) (dNil)))))
theorem der_Box_facts (T : Tx K mg) {f : Addr} (cdv : Value) (A : Around) (outer : List Env) (s : Shared) (H : Hp) (Ex : XK) (hr : Room 1 (A.deeper (envOfC "Box.facts" (defScope s_Box_facts) s.heap.objs.size f cdv))) : PSs (cxOf (L2.CX P w) P w K mg base ["self"] "Box.facts" (defScope s_Box_facts) f cdv A outer s H Ex) (defBody s_Box_facts) (liftS K (fun cls d _ H => Ex cls d H) t_Box_facts) :=
  ds_one (ds_ret (d_tup (da_cons (d_fld ft_time (d_var 0)) (da_cons (d_fld ft_low (d_var 0)) (da_cons (d_fld ft_high (d_var 0)) (da_nil))))))
theorem ok_Box_facts (T : Tx K mg) {f : Addr} (Fd : ∃ fd, FunD K "facts" "Box.facts" (defArgs s_Box_facts) (defBody s_Box_facts) (defScope s_Box_facts) [] [] f fd) (ar : ∀ ds mu P' F, sp_Box_facts ds mu P' F → ds.length = 1) (pure : ∀ ds mu P' F, sp_Box_facts ds mu P' F → t_Box_facts (endF P' F) (gam0 1 ds) mu) : Prom P w K mg base 2 f 1 sp_Box_facts := by
  obtain ⟨fd, Fd⟩ := Fd
  exact fn_dl Fd sc_Box_facts rfl rfl (fun _ _ _ _ _ _ us hl => match us, hl with | [_], _ => rfl) ar (fun cdv A outer s H Ex hr => der_Box_facts T cdv A outer s H Ex hr) pure
def t_Thing___eq__ (n : Nat) : DS := dSeq (dIfS (dOr (dNot (dTru (gIsi noTy thg (dVar 1)))) (dCT (gNe n) (dMeth mt_kind (dVar 0) dNil) (dMeth mt_kind (dVar 1) dNil))) (dRet (dC (.bl false))) (dNext)) (dRet (dBin (gEq n) (dMeth mt_facts (dVar 0) dNil) (dMeth mt_facts (dVar 1) dNil)))
theorem der_Thing___eq__ (T : Tx K mg) (MT_kind : MTa P w K mg base 2 "kind" mt_kind) (MT_facts : MTa P w K mg base 2 "facts" mt_facts) {n : Nat} (E : EqAll P w K mg base n) {f : Addr} (cdv : Value) (A : Around) (outer : List Env) (s : Shared) (H : Hp) (Ex : XK) (hr : Room (kE n) (A.deeper (envOfC "Thing.__eq__" (defScope s_Thing___eq__) s.heap.objs.size f cdv))) : PSs (cxOf (L2.CX P w) P w K mg base ["self", "other"] "Thing.__eq__" (defScope s_Thing___eq__) f cdv A outer s H Ex) (defBody s_Thing___eq__) (liftS K (fun cls d _ H => Ex cls d H) (t_Thing___eq__ n)) :=
  ds_cons (ds_if (PW.pt (d_or (d_not (d_tru (d_isi T.isF T.isi_Thing T.f_isinstance (d_var 1) (pe_glob (v := .ref _) rfl T.g_Thing rfl) (.own _)))) (d_or1 (d_cmpT (o_ne n E (hr.mono (by first | decide | exact Nat.le_refl _))) (d_meth0 (MT_kind _ rfl rfl rfl rfl rfl (hr.mono (by first | decide | (unfold kE; omega)))) (takes_of rfl rfl rfl rfl) (d_var 0)) (d_meth0 (MT_kind _ rfl rfl rfl rfl rfl (hr.mono (by first | decide | (unfold kE; omega)))) (takes_of rfl rfl rfl rfl) (d_var 1)))))) (ds_one (ds_ret (d_bl))) (ds_nil)) (ds_one (ds_ret (d_cmp (o_eq n E (hr.mono (by first | decide | exact Nat.le_refl _))) (d_meth0 (MT_facts _ rfl rfl rfl rfl rfl (hr.mono (by first | decide | (unfold kE; omega)))) (takes_of rfl rfl rfl rfl) (d_var 0)) (d_meth0 (MT_facts _ rfl rfl rfl rfl rfl (hr.mono (by first | decide | (unfold kE; omega)))) (takes_of rfl rfl rfl rfl) (d_var 1)))))
theorem ok_Thing___eq__ (T : Tx K mg) (MT_kind : MTa P w K mg base 2 "kind" mt_kind) (MT_facts : MTa P w K mg base 2 "facts" mt_facts) {n : Nat} (E : EqAll P w K mg base n) {f : Addr} (Fd : ∃ fd, FunD K "__eq__" "Thing.__eq__" (defArgs s_Thing___eq__) (defBody s_Thing___eq__) (defScope s_Thing___eq__) [] [] f fd) (ar : ∀ ds mu P' F, (spEqD (n + 1)) ds mu P' F → ds.length = 2) (pure : ∀ ds mu P' F, (spEqD (n + 1)) ds mu P' F → (t_Thing___eq__ n) (endF P' F) (gam0 2 ds) mu) : Prom P w K mg base (kE n + 1) f 2 (spEqD (n + 1)) := by
  obtain ⟨fd, Fd⟩ := Fd
  exact fn_dl Fd sc_Thing___eq__ rfl rfl (fun _ _ _ _ _ _ us hl => match us, hl with | [_, _], _ => rfl) ar (fun cdv A outer s H Ex hr => der_Thing___eq__ T MT_kind MT_facts E cdv A outer s H Ex hr) pure
def t_Memory___init__ : DS := dSeq (dPut ix_sizes (dVar 0) (dCB bTuple (dCons (dVar 1) (dNil)))) (dSeq (dIfS (dNot (dTest (dChain gLe gLe (dC (.int 1)) (dCB bLen (dCons (dFld ix_sizes (dVar 0)) (dNil))) (dC (.int 6))))) (dNever) (dNext)) (dFor (iSeq (dFld ix_sizes (dVar 0))) (dName 2) (dIfS (dNot (dTest (dChain gLe gLe (dC (.int 1)) (dVar 2) (dC (.int 4))))) (dNever) (dNext))))
theorem der_Memory___init__ (T : Tx K mg) {f : Addr} (cdv : Value) (A : Around) (outer : List Env) (s : Shared) (H : Hp) (Ex : XK) (hr : Room 1 (A.deeper (envOfC "Memory.__init__" (defScope s_Memory___init__) s.heap.objs.size f cdv))) : PSs (cxOf (L2.CX P w) P w K mg base ["self", "sizes", "size"] "Memory.__init__" (defScope s_Memory___init__) f cdv A outer s H Ex) (defBody s_Memory___init__) (liftS K (fun cls d _ H => Ex cls d H) t_Memory___init__) :=
  ds_cons (ds_fld ft_sizes (d_var 0) (d_callT b_tuple T.f_tuple (by decide +kernel) (da_cons (d_var 1) (da_nil)))) (ds_cons (ds_if (d_not (d_chainT o_le o_le (d_int) (d_callB b_len T.f_len (by decide +kernel) (da_cons (d_fld ft_sizes (d_var 0)) (da_nil))) (d_gint T.i_MOST_LINES))) (ds_one (ds_never)) (ds_nil)) (ds_one (ds_for (passes_of rfl) rfl (di_seq (d_fld ft_sizes (d_var 0))) (dg_name 2 (sc_Memory___init__).nd) (ds_one (ds_if (d_not (d_chainT o_le o_le (d_int) (d_var 2) (d_gint T.i_MOST_WORDS))) (ds_one (ds_never)) (ds_nil))))))
theorem ok_Memory___init__ (T : Tx K mg) {f : Addr} (Fd : ∃ fd, FunD K "__init__" "Memory.__init__" (defArgs s_Memory___init__) (defBody s_Memory___init__) (defScope s_Memory___init__) [] [] f fd) (ar : ∀ ds mu P' F, sp_Memory___init__ ds mu P' F → ds.length = 2) (pure : ∀ ds mu P' F, sp_Memory___init__ ds mu P' F → t_Memory___init__ (endF P' F) (gam0 3 ds) mu) : Prom P w K mg base 2 f 2 sp_Memory___init__ := by
  obtain ⟨fd, Fd⟩ := Fd
  exact fn_dl Fd sc_Memory___init__ rfl rfl (fun _ _ _ _ _ _ us hl => match us, hl with | [_, _], _ => rfl) ar (fun cdv A outer s H Ex hr => der_Memory___init__ T cdv A outer s H Ex hr) pure
def t_Memory_check_line : DS := dIfS (dNot (dTest (dChain gLe gLt (dC (.int 0)) (dVar 1) (dCB bLen (dCons (dFld ix_sizes (dVar 0)) (dNil)))))) (dNever) (dNext)
theorem der_Memory_check_line (T : Tx K mg) {f : Addr} (cdv : Value) (A : Around) (outer : List Env) (s : Shared) (H : Hp) (Ex : XK) (hr : Room 1 (A.deeper (envOfC "Memory.check_line" (defScope s_Memory_check_line) s.heap.objs.size f cdv))) : PSs (cxOf (L2.CX P w) P w K mg base ["self", "line"] "Memory.check_line" (defScope s_Memory_check_line) f cdv A outer s H Ex) (defBody s_Memory_check_line) (liftS K (fun cls d _ H => Ex cls d H) t_Memory_check_line) :=
  ds_one (ds_if (d_not (d_chainT o_le o_lt (d_int) (d_var 1) (d_callB b_len T.f_len (by decide +kernel) (da_cons (d_fld ft_sizes (d_var 0)) (da_nil))))) (ds_one (ds_never)) (ds_nil))
theorem ok_Memory_check_line (T : Tx K mg) {f : Addr} (Fd : ∃ fd, FunD K "check_line" "Memory.check_line" (defArgs s_Memory_check_line) (defBody s_Memory_check_line) (defScope s_Memory_check_line) [] [] f fd) (ar : ∀ ds mu P' F, sp_Memory_check_line ds mu P' F → ds.length = 2) (pure : ∀ ds mu P' F, sp_Memory_check_line ds mu P' F → t_Memory_check_line (endF P' F) (gam0 2 ds) mu) : Prom P w K mg base 2 f 2 sp_Memory_check_line := by
  obtain ⟨fd, Fd⟩ := Fd
  exact fn_dl Fd sc_Memory_check_line rfl rfl (fun _ _ _ _ _ _ us hl => match us, hl with | [_, _], _ => rfl) ar (fun cdv A outer s H Ex hr => der_Memory_check_line T cdv A outer s H Ex hr) pure
def t_Memory_check_word : DS := dSeq (dDrop (dMeth mt_check_line (dVar 0) (dCons (dVar 1) (dNil)))) (dIfS (dNot (dTest (dChain gLe gLt (dC (.int 0)) (dVar 2) (dBin gIx (dFld ix_sizes (dVar 0)) (dVar 1))))) (dNever) (dNext))
theorem der_Memory_check_word (T : Tx K mg) (MT_check_line : MTa P w K mg base 2 "check_line" mt_check_line) {f : Addr} (cdv : Value) (A : Around) (outer : List Env) (s : Shared) (H : Hp) (Ex : XK) (hr : Room 2 (A.deeper (envOfC "Memory.check_word" (defScope s_Memory_check_word) s.heap.objs.size f cdv))) : PSs (cxOf (L2.CX P w) P w K mg base ["self", "line", "word"] "Memory.check_word" (defScope s_Memory_check_word) f cdv A outer s H Ex) (defBody s_Memory_check_word) (liftS K (fun cls d _ H => Ex cls d H) t_Memory_check_word) :=
  ds_cons (ds_expr (d_meth (MT_check_line _ rfl rfl rfl rfl rfl (hr.mono (by first | decide | (unfold kE; omega)))) (takes_of rfl rfl rfl rfl) (d_var 0) (da_cons (d_var 1) (da_nil)))) (ds_one (ds_if (d_not (d_chainT o_le o_lt (d_int) (d_var 2) (d_ix (d_fld ft_sizes (d_var 0)) (d_var 1)))) (ds_one (ds_never)) (ds_nil)))
theorem ok_Memory_check_word (T : Tx K mg) (MT_check_line : MTa P w K mg base 2 "check_line" mt_check_line) {f : Addr} (Fd : ∃ fd, FunD K "check_word" "Memory.check_word" (defArgs s_Memory_check_word) (defBody s_Memory_check_word) (defScope s_Memory_check_word) [] [] f fd) (ar : ∀ ds mu P' F, sp_Memory_check_word ds mu P' F → ds.length = 3) (pure : ∀ ds mu P' F, sp_Memory_check_word ds mu P' F → t_Memory_check_word (endF P' F) (gam0 3 ds) mu) : Prom P w K mg base 3 f 3 sp_Memory_check_word := by
  obtain ⟨fd, Fd⟩ := Fd
  exact fn_dl Fd sc_Memory_check_word rfl rfl (fun _ _ _ _ _ _ us hl => match us, hl with | [_, _, _], _ => rfl) ar (fun cdv A outer s H Ex hr => der_Memory_check_word T MT_check_line cdv A outer s H Ex hr) pure
def t_Memory_zeros : DS := dRet (dBin (gMul 0) (dTup (dCons (dC (.int 0)) (dNil))) (dCB bLen (dCons (dFld ix_sizes (dVar 0)) (dNil))))
theorem der_Memory_zeros (T : Tx K mg) {f : Addr} (cdv : Value) (A : Around) (outer : List Env) (s : Shared) (H : Hp) (Ex : XK) (hr : Room 1 (A.deeper (envOfC "Memory.zeros" (defScope s_Memory_zeros) s.heap.objs.size f cdv))) : PSs (cxOf (L2.CX P w) P w K mg base ["self"] "Memory.zeros" (defScope s_Memory_zeros) f cdv A outer s H Ex) (defBody s_Memory_zeros) (liftS K (fun cls d _ H => Ex cls d H) t_Memory_zeros) :=
  ds_one (ds_ret (d_bin (o_mul (m := 0)) (d_tup (da_cons (d_int) (da_nil))) (d_callB b_len T.f_len (by decide +kernel) (da_cons (d_fld ft_sizes (d_var 0)) (da_nil)))))
theorem ok_Memory_zeros (T : Tx K mg) {f : Addr} (Fd : ∃ fd, FunD K "zeros" "Memory.zeros" (defArgs s_Memory_zeros) (defBody s_Memory_zeros) (defScope s_Memory_zeros) [] [] f fd) (ar : ∀ ds mu P' F, sp_Memory_zeros ds mu P' F → ds.length = 1) (pure : ∀ ds mu P' F, sp_Memory_zeros ds mu P' F → t_Memory_zeros (endF P' F) (gam0 1 ds) mu) : Prom P w K mg base 2 f 1 sp_Memory_zeros := by
  obtain ⟨fd, Fd⟩ := Fd
  exact fn_dl Fd sc_Memory_zeros rfl rfl (fun _ _ _ _ _ _ us hl => match us, hl with | [_], _ => rfl) ar (fun cdv A outer s H Ex hr => der_Memory_zeros T cdv A outer s H Ex hr) pure
def t_Command_check : DS := dNext
theorem der_Command_check (T : Tx K mg) {f : Addr} (cdv : Value) (A : Around) (outer : List Env) (s : Shared) (H : Hp) (Ex : XK) (hr : Room 1 (A.deeper (envOfC "Command.check" (defScope s_Command_check) s.heap.objs.size f cdv))) : PSs (cxOf (L2.CX P w) P w K mg base ["self", "memory"] "Command.check" (defScope s_Command_check) f cdv A outer s H Ex) (defBody s_Command_check) (liftS K (fun cls d _ H => Ex cls d H) t_Command_check) :=
  ds_one (ds_pass)
theorem ok_Command_check (T : Tx K mg) {f : Addr} (Fd : ∃ fd, FunD K "check" "Command.check" (defArgs s_Command_check) (defBody s_Command_check) (defScope s_Command_check) [] [] f fd) (ar : ∀ ds mu P' F, sp_Command_check ds mu P' F → ds.length = 2) (pure : ∀ ds mu P' F, sp_Command_check ds mu P' F → t_Command_check (endF P' F) (gam0 2 ds) mu) : Prom P w K mg base 2 f 2 sp_Command_check := by
  obtain ⟨fd, Fd⟩ := Fd
  exact fn_dl Fd sc_Command_check rfl rfl (fun _ _ _ _ _ _ us hl => match us, hl with | [_, _], _ => rfl) ar (fun cdv A outer s H Ex hr => der_Command_check T cdv A outer s H Ex hr) pure
def t_Store___init__ : DS := dSeq (dPut ix_line (dVar 0) (dVar 1)) (dSeq (dPut ix_word (dVar 0) (dVar 2)) (dPut ix_number (dVar 0) (dVar 3)))
theorem der_Store___init__ (T : Tx K mg) {f : Addr} (cdv : Value) (A : Around) (outer : List Env) (s : Shared) (H : Hp) (Ex : XK) (hr : Room 1 (A.deeper (envOfC "Store.__init__" (defScope s_Store___init__) s.heap.objs.size f cdv))) : PSs (cxOf (L2.CX P w) P w K mg base ["self", "line", "word", "number"] "Store.__init__" (defScope s_Store___init__) f cdv A outer s H Ex) (defBody s_Store___init__) (liftS K (fun cls d _ H => Ex cls d H) t_Store___init__) :=
  ds_cons (ds_fld ft_line (d_var 0) (d_var 1)) (ds_cons (ds_fld ft_word (d_var 0) (d_var 2)) (ds_one (ds_fld ft_number (d_var 0) (d_var 3))))
theorem ok_Store___init__ (T : Tx K mg) {f : Addr} (Fd : ∃ fd, FunD K "__init__" "Store.__init__" (defArgs s_Store___init__) (defBody s_Store___init__) (defScope s_Store___init__) [] [] f fd) (ar : ∀ ds mu P' F, sp_Store___init__ ds mu P' F → ds.length = 4) (pure : ∀ ds mu P' F, sp_Store___init__ ds mu P' F → t_Store___init__ (endF P' F) (gam0 4 ds) mu) : Prom P w K mg base 2 f 4 sp_Store___init__ := by
  obtain ⟨fd, Fd⟩ := Fd
  exact fn_dl Fd sc_Store___init__ rfl rfl (fun _ _ _ _ _ _ us hl => match us, hl with | [_, _, _, _], _ => rfl) ar (fun cdv A outer s H Ex hr => der_Store___init__ T cdv A outer s H Ex hr) pure
def t_Store_check : DS := dDrop (dMeth mt_check_word (dVar 1) (dCons (dFld ix_line (dVar 0)) (dCons (dFld ix_word (dVar 0)) (dNil))))
theorem der_Store_check (T : Tx K mg) (MT_check_word : MTa P w K mg base 3 "check_word" mt_check_word) {f : Addr} (cdv : Value) (A : Around) (outer : List Env) (s : Shared) (H : Hp) (Ex : XK) (hr : Room 3 (A.deeper (envOfC "Store.check" (defScope s_Store_check) s.heap.objs.size f cdv))) : PSs (cxOf (L2.CX P w) P w K mg base ["self", "memory"] "Store.check" (defScope s_Store_check) f cdv A outer s H Ex) (defBody s_Store_check) (liftS K (fun cls d _ H => Ex cls d H) t_Store_check) :=
  ds_one (ds_expr (d_meth (MT_check_word _ rfl rfl rfl rfl rfl (hr.mono (by first | decide | (unfold kE; omega)))) (takes_of rfl rfl rfl rfl) (d_var 1) (da_cons (d_fld ft_line (d_var 0)) (da_cons (d_fld ft_word (d_var 0)) (da_nil)))))
theorem ok_Store_check (T : Tx K mg) (MT_check_word : MTa P w K mg base 3 "check_word" mt_check_word) {f : Addr} (Fd : ∃ fd, FunD K "check" "Store.check" (defArgs s_Store_check) (defBody s_Store_check) (defScope s_Store_check) [] [] f fd) (ar : ∀ ds mu P' F, sp_Store_check ds mu P' F → ds.length = 2) (pure : ∀ ds mu P' F, sp_Store_check ds mu P' F → t_Store_check (endF P' F) (gam0 2 ds) mu) : Prom P w K mg base 4 f 2 sp_Store_check := by
  obtain ⟨fd, Fd⟩ := Fd
  exact fn_dl Fd sc_Store_check rfl rfl (fun _ _ _ _ _ _ us hl => match us, hl with | [_, _], _ => rfl) ar (fun cdv A outer s H Ex hr => der_Store_check T MT_check_word cdv A outer s H Ex hr) pure
def t_Flush___init__ : DS := dPut ix_line (dVar 0) (dVar 1)
theorem der_Flush___init__ (T : Tx K mg) {f : Addr} (cdv : Value) (A : Around) (outer : List Env) (s : Shared) (H : Hp) (Ex : XK) (hr : Room 1 (A.deeper (envOfC "Flush.__init__" (defScope s_Flush___init__) s.heap.objs.size f cdv))) : PSs (cxOf (L2.CX P w) P w K mg base ["self", "line"] "Flush.__init__" (defScope s_Flush___init__) f cdv A outer s H Ex) (defBody s_Flush___init__) (liftS K (fun cls d _ H => Ex cls d H) t_Flush___init__) :=
  ds_one (ds_fld ft_line (d_var 0) (d_var 1))
theorem ok_Flush___init__ (T : Tx K mg) {f : Addr} (Fd : ∃ fd, FunD K "__init__" "Flush.__init__" (defArgs s_Flush___init__) (defBody s_Flush___init__) (defScope s_Flush___init__) [] [] f fd) (ar : ∀ ds mu P' F, sp_Flush___init__ ds mu P' F → ds.length = 2) (pure : ∀ ds mu P' F, sp_Flush___init__ ds mu P' F → t_Flush___init__ (endF P' F) (gam0 2 ds) mu) : Prom P w K mg base 2 f 2 sp_Flush___init__ := by
  obtain ⟨fd, Fd⟩ := Fd
  exact fn_dl Fd sc_Flush___init__ rfl rfl (fun _ _ _ _ _ _ us hl => match us, hl with | [_, _], _ => rfl) ar (fun cdv A outer s H Ex hr => der_Flush___init__ T cdv A outer s H Ex hr) pure
def t_Flush_check : DS := dDrop (dMeth mt_check_line (dVar 1) (dCons (dFld ix_line (dVar 0)) (dNil)))
theorem der_Flush_check (T : Tx K mg) (MT_check_line : MTa P w K mg base 2 "check_line" mt_check_line) {f : Addr} (cdv : Value) (A : Around) (outer : List Env) (s : Shared) (H : Hp) (Ex : XK) (hr : Room 2 (A.deeper (envOfC "Flush.check" (defScope s_Flush_check) s.heap.objs.size f cdv))) : PSs (cxOf (L2.CX P w) P w K mg base ["self", "memory"] "Flush.check" (defScope s_Flush_check) f cdv A outer s H Ex) (defBody s_Flush_check) (liftS K (fun cls d _ H => Ex cls d H) t_Flush_check) :=
  ds_one (ds_expr (d_meth (MT_check_line _ rfl rfl rfl rfl rfl (hr.mono (by first | decide | (unfold kE; omega)))) (takes_of rfl rfl rfl rfl) (d_var 1) (da_cons (d_fld ft_line (d_var 0)) (da_nil))))
theorem ok_Flush_check (T : Tx K mg) (MT_check_line : MTa P w K mg base 2 "check_line" mt_check_line) {f : Addr} (Fd : ∃ fd, FunD K "check" "Flush.check" (defArgs s_Flush_check) (defBody s_Flush_check) (defScope s_Flush_check) [] [] f fd) (ar : ∀ ds mu P' F, sp_Flush_check ds mu P' F → ds.length = 2) (pure : ∀ ds mu P' F, sp_Flush_check ds mu P' F → t_Flush_check (endF P' F) (gam0 2 ds) mu) : Prom P w K mg base 3 f 2 sp_Flush_check := by
  obtain ⟨fd, Fd⟩ := Fd
  exact fn_dl Fd sc_Flush_check rfl rfl (fun _ _ _ _ _ _ us hl => match us, hl with | [_, _], _ => rfl) ar (fun cdv A outer s H Ex hr => der_Flush_check T MT_check_line cdv A outer s H Ex hr) pure
def t_check_commands : DS := dFor (iSeq (dVar 1)) (dName 2) (dDrop (dMeth mt_check (dVar 2) (dCons (dVar 0) (dNil))))
theorem der_check_commands (T : Tx K mg) (MT_check : MTa P w K mg base 4 "check" mt_check) {f : Addr} (cdv : Value) (A : Around) (outer : List Env) (s : Shared) (H : Hp) (Ex : XK) (hr : Room 4 (A.deeper (envOfC "check_commands" (defScope s_check_commands) s.heap.objs.size f cdv))) : PSs (cxOf (L2.CX P w) P w K mg base ["memory", "commands", "command"] "check_commands" (defScope s_check_commands) f cdv A outer s H Ex) (defBody s_check_commands) (liftS K (fun cls d _ H => Ex cls d H) t_check_commands) :=
  ds_one (ds_for (passes_of rfl) rfl (di_seq (d_var 1)) (dg_name 2 (sc_check_commands).nd) (ds_one (ds_expr (d_meth (MT_check _ rfl rfl rfl rfl rfl (hr.mono (by first | decide | (unfold kE; omega)))) (takes_of rfl rfl rfl rfl) (d_var 2) (da_cons (d_var 0) (da_nil))))))
theorem ok_check_commands (T : Tx K mg) (MT_check : MTa P w K mg base 4 "check" mt_check) {f : Addr} (Fd : ∃ fd, FunD K "check_commands" "check_commands" (defArgs s_check_commands) (defBody s_check_commands) (defScope s_check_commands) [] [] f fd) (ar : ∀ ds mu P' F, sp_check_commands ds mu P' F → ds.length = 2) (pure : ∀ ds mu P' F, sp_check_commands ds mu P' F → t_check_commands (endF P' F) (gam0 3 ds) mu) : Prom P w K mg base 5 f 2 sp_check_commands := by
  obtain ⟨fd, Fd⟩ := Fd
  exact fn_dl Fd sc_check_commands rfl rfl (fun _ _ _ _ _ _ us hl => match us, hl with | [_, _], _ => rfl) ar (fun cdv A outer s H Ex hr => der_check_commands T MT_check cdv A outer s H Ex hr) pure
def t_Program___init__ : DS := dSeq (dPut ix_memory (dVar 0) (dVar 1)) (dSeq (dPut ix_commands (dVar 0) (dCB bTuple (dCons (dVar 2) (dNil)))) (dSeq (dIfS (dCT gGt (dCB bLen (dCons (dFld ix_commands (dVar 0)) (dNil))) (dC (.int 200))) (dNever) (dNext)) (dDrop (dCall sp_check_commands (dCons (dVar 1) (dCons (dFld ix_commands (dVar 0)) (dNil)))))))
theorem der_Program___init__ (T : Tx K mg) (F_check_commands : Prom P w K mg base 5 (He.ga K "check_commands") 2 sp_check_commands) {f : Addr} (cdv : Value) (A : Around) (outer : List Env) (s : Shared) (H : Hp) (Ex : XK) (hr : Room 5 (A.deeper (envOfC "Program.__init__" (defScope s_Program___init__) s.heap.objs.size f cdv))) : PSs (cxOf (L2.CX P w) P w K mg base ["self", "memory", "commands"] "Program.__init__" (defScope s_Program___init__) f cdv A outer s H Ex) (defBody s_Program___init__) (liftS K (fun cls d _ H => Ex cls d H) t_Program___init__) :=
  ds_cons (ds_fld ft_memory (d_var 0) (d_var 1)) (ds_cons (ds_fld ft_commands (d_var 0) (d_callT b_tuple T.f_tuple (by decide +kernel) (da_cons (d_var 2) (da_nil)))) (ds_cons (ds_if (d_cmpT o_gt (d_callB b_len T.f_len (by decide +kernel) (da_cons (d_fld ft_commands (d_var 0)) (da_nil))) (d_gint T.i_MOST_COMMANDS)) (ds_one (ds_never)) (ds_nil)) (ds_one (ds_expr (d_call F_check_commands (hr.mono (by decide)) T.g_check_commands (takes_of rfl rfl rfl rfl) (da_cons (d_var 1) (da_cons (d_fld ft_commands (d_var 0)) (da_nil))))))))
theorem ok_Program___init__ (T : Tx K mg) (F_check_commands : Prom P w K mg base 5 (He.ga K "check_commands") 2 sp_check_commands) {f : Addr} (Fd : ∃ fd, FunD K "__init__" "Program.__init__" (defArgs s_Program___init__) (defBody s_Program___init__) (defScope s_Program___init__) [] [] f fd) (ar : ∀ ds mu P' F, sp_Program___init__ ds mu P' F → ds.length = 3) (pure : ∀ ds mu P' F, sp_Program___init__ ds mu P' F → t_Program___init__ (endF P' F) (gam0 3 ds) mu) : Prom P w K mg base 6 f 3 sp_Program___init__ := by
  obtain ⟨fd, Fd⟩ := Fd
  exact fn_dl Fd sc_Program___init__ rfl rfl (fun _ _ _ _ _ _ us hl => match us, hl with | [_, _, _], _ => rfl) ar (fun cdv A outer s H Ex hr => der_Program___init__ T F_check_commands cdv A outer s H Ex hr) pure
def t_stores : DS := dRet (dLc 0 (iSeq (dFld ix_commands (dVar 0))) (dName 1) (dTru (gIsi noTy (fun c => c == 1) (dVar 1))) (dVar 1) [1])
theorem der_stores (T : Tx K mg) {f : Addr} (cdv : Value) (A : Around) (outer : List Env) (s : Shared) (H : Hp) (Ex : XK) (hr : Room 1 (A.deeper (envOfC "stores" (defScope s_stores) s.heap.objs.size f cdv))) : PSs (cxOf (L2.CX P w) P w K mg base ["program", "command"] "stores" (defScope s_stores) f cdv A outer s H Ex) (defBody s_stores) (liftS K (fun cls d _ H => Ex cls d H) t_stores) :=
  ds_one (ds_ret (d_lc 0 rfl (sc_stores).nd (di_seq (d_fld ft_commands (d_var 0))) (blkOk_by (own := [("command", 1)]) (by show blkC ["program", "command"] (defScope s_stores) _ [("command", 1)] = true; decide +kernel)) (fun _ _ _ _ _ => dw_name 1 (sc_stores).nd) (fun _ _ _ _ _ => dts_one (d_tru (d_isi T.isF T.isi_Store T.f_isinstance (d_var 1) (pe_glob (v := .ref _) rfl T.g_Store rfl) (.own _)))) (fun _ _ _ _ _ => d_var 1)))
theorem ok_stores (T : Tx K mg) {f : Addr} (Fd : ∃ fd, FunD K "stores" "stores" (defArgs s_stores) (defBody s_stores) (defScope s_stores) [] [] f fd) (ar : ∀ ds mu P' F, sp_stores ds mu P' F → ds.length = 1) (pure : ∀ ds mu P' F, sp_stores ds mu P' F → t_stores (endF P' F) (gam0 2 ds) mu) : Prom P w K mg base 2 f 1 sp_stores := by
  obtain ⟨fd, Fd⟩ := Fd
  exact fn_dl Fd sc_stores rfl rfl (fun _ _ _ _ _ _ us hl => match us, hl with | [_], _ => rfl) ar (fun cdv A outer s H Ex hr => der_stores T cdv A outer s H Ex hr) pure
def t_Counter___init__ : DS := dSeq (dPut ix_made (dVar 0) (dBin (gMul 1) (dLst 0 (dCons (dC (.int 0)) (dNil))) (dCB bLen (dCons (dFld ix_sizes (dVar 1)) (dNil))))) (dSeq (dPut ix_flushed (dVar 0) (dBin (gMul 1) (dLst 0 (dCons (dC (.int 0)) (dNil))) (dCB bLen (dCons (dFld ix_sizes (dVar 1)) (dNil))))) (dPut ix_sure (dVar 0) (dBin (gMul 1) (dLst 0 (dCons (dC (.int 0)) (dNil))) (dCB bLen (dCons (dFld ix_sizes (dVar 1)) (dNil))))))
theorem der_Counter___init__ (T : Tx K mg) {f : Addr} (cdv : Value) (A : Around) (outer : List Env) (s : Shared) (H : Hp) (Ex : XK) (hr : Room 1 (A.deeper (envOfC "Counter.__init__" (defScope s_Counter___init__) s.heap.objs.size f cdv))) : PSs (cxOf (L2.CX P w) P w K mg base ["self", "memory"] "Counter.__init__" (defScope s_Counter___init__) f cdv A outer s H Ex) (defBody s_Counter___init__) (liftS K (fun cls d _ H => Ex cls d H) t_Counter___init__) :=
  ds_cons (ds_fld ft_made (d_var 0) (d_bin (o_mul (m := 1)) (d_lst 0 (da_cons (d_int) (da_nil))) (d_callB b_len T.f_len (by decide +kernel) (da_cons (d_fld ft_sizes (d_var 1)) (da_nil))))) (ds_cons (ds_fld ft_flushed (d_var 0) (d_bin (o_mul (m := 1)) (d_lst 0 (da_cons (d_int) (da_nil))) (d_callB b_len T.f_len (by decide +kernel) (da_cons (d_fld ft_sizes (d_var 1)) (da_nil))))) (ds_one (ds_fld ft_sure (d_var 0) (d_bin (o_mul (m := 1)) (d_lst 0 (da_cons (d_int) (da_nil))) (d_callB b_len T.f_len (by decide +kernel) (da_cons (d_fld ft_sizes (d_var 1)) (da_nil)))))))
theorem ok_Counter___init__ (T : Tx K mg) {f : Addr} (Fd : ∃ fd, FunD K "__init__" "Counter.__init__" (defArgs s_Counter___init__) (defBody s_Counter___init__) (defScope s_Counter___init__) [] [] f fd) (ar : ∀ ds mu P' F, sp_Counter___init__ ds mu P' F → ds.length = 2) (pure : ∀ ds mu P' F, sp_Counter___init__ ds mu P' F → t_Counter___init__ (endF P' F) (gam0 2 ds) mu) : Prom P w K mg base 2 f 2 sp_Counter___init__ := by
  obtain ⟨fd, Fd⟩ := Fd
  exact fn_dl Fd sc_Counter___init__ rfl rfl (fun _ _ _ _ _ _ us hl => match us, hl with | [_, _], _ => rfl) ar (fun cdv A outer s H Ex hr => der_Counter___init__ T cdv A outer s H Ex hr) pure
def t_Counter_do_command : DS := dIfS (dTru (gIsi noTy (fun c => c == 1) (dVar 1))) (dAsg (dBin (gAdd 0) (dBin gIx (dFld ix_made (dVar 0)) (dFld ix_line (dVar 1))) (dC (.int 1))) (dSub (dFld ix_made (dVar 0)) (dFld ix_line (dVar 1)))) (dIfS (dTru (gIsi noTy (fun c => c == 2) (dVar 1))) (dAsg (dBin gIx (dFld ix_made (dVar 0)) (dFld ix_line (dVar 1))) (dSub (dFld ix_flushed (dVar 0)) (dFld ix_line (dVar 1)))) (dPut ix_sure (dVar 0) (dCB (bList 1) (dCons (dFld ix_flushed (dVar 0)) (dNil)))))
theorem der_Counter_do_command (T : Tx K mg) {f : Addr} (cdv : Value) (A : Around) (outer : List Env) (s : Shared) (H : Hp) (Ex : XK) (hr : Room 1 (A.deeper (envOfC "Counter.do_command" (defScope s_Counter_do_command) s.heap.objs.size f cdv))) : PSs (cxOf (L2.CX P w) P w K mg base ["self", "command"] "Counter.do_command" (defScope s_Counter_do_command) f cdv A outer s H Ex) (defBody s_Counter_do_command) (liftS K (fun cls d _ H => Ex cls d H) t_Counter_do_command) :=
  ds_one (ds_if (d_tru (d_isi T.isF T.isi_Store T.f_isinstance (d_var 1) (pe_glob (v := .ref _) rfl T.g_Store rfl) (.own _))) (ds_one (ds_asg (d_bin (o_add (m := 0)) (d_ix (d_fld ft_made (d_var 0)) (d_fld ft_line (d_var 1))) (d_int)) (dg_sub (d_fld ft_made (d_var 0)) (d_fld ft_line (d_var 1))))) (ds_one (ds_if (d_tru (d_isi T.isF T.isi_Flush T.f_isinstance (d_var 1) (pe_glob (v := .ref _) rfl T.g_Flush rfl) (.own _))) (ds_one (ds_asg (d_ix (d_fld ft_made (d_var 0)) (d_fld ft_line (d_var 1))) (dg_sub (d_fld ft_flushed (d_var 0)) (d_fld ft_line (d_var 1))))) (ds_one (ds_fld ft_sure (d_var 0) (d_callT (b_list 1) T.f_list (by decide +kernel) (da_cons (d_fld ft_flushed (d_var 0)) (da_nil))))))))
theorem ok_Counter_do_command (T : Tx K mg) {f : Addr} (Fd : ∃ fd, FunD K "do_command" "Counter.do_command" (defArgs s_Counter_do_command) (defBody s_Counter_do_command) (defScope s_Counter_do_command) [] [] f fd) (ar : ∀ ds mu P' F, sp_Counter_do_command ds mu P' F → ds.length = 2) (pure : ∀ ds mu P' F, sp_Counter_do_command ds mu P' F → t_Counter_do_command (endF P' F) (gam0 2 ds) mu) : Prom P w K mg base 2 f 2 sp_Counter_do_command := by
  obtain ⟨fd, Fd⟩ := Fd
  exact fn_dl Fd sc_Counter_do_command rfl rfl (fun _ _ _ _ _ _ us hl => match us, hl with | [_, _], _ => rfl) ar (fun cdv A outer s H Ex hr => der_Counter_do_command T cdv A outer s H Ex hr) pure
def t_Box___init__ : DS := dSeq (dPut ix_time (dVar 0) (dVar 1)) (dSeq (dPut ix_low (dVar 0) (dCB bTuple (dCons (dVar 2) (dNil)))) (dPut ix_high (dVar 0) (dCB bTuple (dCons (dVar 3) (dNil)))))
theorem der_Box___init__ (T : Tx K mg) {f : Addr} (cdv : Value) (A : Around) (outer : List Env) (s : Shared) (H : Hp) (Ex : XK) (hr : Room 1 (A.deeper (envOfC "Box.__init__" (defScope s_Box___init__) s.heap.objs.size f cdv))) : PSs (cxOf (L2.CX P w) P w K mg base ["self", "time", "low", "high"] "Box.__init__" (defScope s_Box___init__) f cdv A outer s H Ex) (defBody s_Box___init__) (liftS K (fun cls d _ H => Ex cls d H) t_Box___init__) :=
  ds_cons (ds_fld ft_time (d_var 0) (d_var 1)) (ds_cons (ds_fld ft_low (d_var 0) (d_callT b_tuple T.f_tuple (by decide +kernel) (da_cons (d_var 2) (da_nil)))) (ds_one (ds_fld ft_high (d_var 0) (d_callT b_tuple T.f_tuple (by decide +kernel) (da_cons (d_var 3) (da_nil))))))
theorem ok_Box___init__ (T : Tx K mg) {f : Addr} (Fd : ∃ fd, FunD K "__init__" "Box.__init__" (defArgs s_Box___init__) (defBody s_Box___init__) (defScope s_Box___init__) [] [] f fd) (ar : ∀ ds mu P' F, sp_Box___init__ ds mu P' F → ds.length = 4) (pure : ∀ ds mu P' F, sp_Box___init__ ds mu P' F → t_Box___init__ (endF P' F) (gam0 4 ds) mu) : Prom P w K mg base 2 f 4 sp_Box___init__ := by
  obtain ⟨fd, Fd⟩ := Fd
  exact fn_dl Fd sc_Box___init__ rfl rfl (fun _ _ _ _ _ _ us hl => match us, hl with | [_, _, _, _], _ => rfl) ar (fun cdv A outer s H Ex hr => der_Box___init__ T cdv A outer s H Ex hr) pure
def t_boxes_of : DS := dSeq (dSet 2 (dLst 1 (dCons (dCall g_Box (dCons (dC (.int 0)) (dCons (dMeth mt_zeros (dVar 0) dNil) (dCons (dMeth mt_zeros (dVar 0) dNil) (dNil))))) (dNil)))) (dSeq (dSet 3 (dCall g_Counter (dCons (dVar 0) (dNil)))) (dSeq (dFor (iEnA (dCons (dVar 1) (dNil))) (dTupG 2 (gsCons (dName 4) (gsCons (dName 5) (gsNil)))) (dSeq (dDrop (dMeth mt_do_command (dVar 3) (dCons (dVar 5) (dNil)))) (dIfS (dTru (gIsi noTy (fun c => c == 1) (dVar 5))) (dSeq (dSet 6 (dCB (bList 1) (dCons (dFld ix_sure (dVar 3)) (dNil)))) (dSeq (dAsg (dBin gIx (dFld ix_made (dVar 3)) (dFld ix_line (dVar 5))) (dSub (dVar 6) (dFld ix_line (dVar 5)))) (dDrop (dMtd gAppend (dVar 2) (dCons (dCall g_Box (dCons (dBin (gAdd 0) (dVar 4) (dC (.int 1))) (dCons (dVar 6) (dCons (dFld ix_made (dVar 3)) (dNil))))) (dNil)))))) (dNext)))) (dRet (dVar 2))))
theorem der_boxes_of (T : Tx K mg) (M_Box : MkOk P w K mg base 2 6 3 g_Box) (MT_zeros : MTa P w K mg base 2 "zeros" mt_zeros) (M_Counter : MkOk P w K mg base 2 5 1 g_Counter) (MT_do_command : MTa P w K mg base 2 "do_command" mt_do_command) {f : Addr} (cdv : Value) (A : Around) (outer : List Env) (s : Shared) (H : Hp) (Ex : XK) (hr : Room 3 (A.deeper (envOfC "boxes_of" (defScope s_boxes_of) s.heap.objs.size f cdv))) : PSs (cxOf (L2.CX P w) P w K mg base ["memory", "commands", "found", "counter", "index", "command", "low"] "boxes_of" (defScope s_boxes_of) f cdv A outer s H Ex) (defBody s_boxes_of) (liftS K (fun cls d _ H => Ex cls d H) t_boxes_of) :=
  ds_cons (ds_set 2 (sc_boxes_of).nd (d_lst 1 (da_cons (d_make M_Box (hr.mono (by decide)) T.g_Box (takes_of rfl rfl rfl rfl) (da_cons (d_int) (da_cons (d_meth0 (MT_zeros _ rfl rfl rfl rfl rfl (hr.mono (by first | decide | (unfold kE; omega)))) (takes_of rfl rfl rfl rfl) (d_var 0)) (da_cons (d_meth0 (MT_zeros _ rfl rfl rfl rfl rfl (hr.mono (by first | decide | (unfold kE; omega)))) (takes_of rfl rfl rfl rfl) (d_var 0)) (da_nil))))) (da_nil)))) (ds_cons (ds_set 3 (sc_boxes_of).nd (d_make M_Counter (hr.mono (by decide)) T.g_Counter (takes_of rfl rfl rfl rfl) (da_cons (d_var 0) (da_nil)))) (ds_cons (ds_for (passes_of rfl) rfl (di_enumA T.f_enumerate (da_cons (d_var 1) (da_nil))) (dg_tup rfl (dgs_cons (dg_name 4 (sc_boxes_of).nd) (dgs_cons (dg_name 5 (sc_boxes_of).nd) (dgs_nil)))) (ds_cons (ds_expr (d_meth (MT_do_command _ rfl rfl rfl rfl rfl (hr.mono (by first | decide | (unfold kE; omega)))) (takes_of rfl rfl rfl rfl) (d_var 3) (da_cons (d_var 5) (da_nil)))) (ds_one (ds_if (d_tru (d_isi T.isF T.isi_Store T.f_isinstance (d_var 5) (pe_glob (v := .ref _) rfl T.g_Store rfl) (.own _))) (ds_cons (ds_set 6 (sc_boxes_of).nd (d_callT (b_list 1) T.f_list (by decide +kernel) (da_cons (d_fld ft_sure (d_var 3)) (da_nil)))) (ds_cons (ds_asg (d_ix (d_fld ft_made (d_var 3)) (d_fld ft_line (d_var 5))) (dg_sub (d_var 6) (d_fld ft_line (d_var 5)))) (ds_one (ds_expr (d_mtd PySem.F.plainAttrs_list PySem.F.slot_list_append PySem.F.type_list_append m_append (d_var 2) (da_cons (d_make M_Box (hr.mono (by decide)) T.g_Box (takes_of rfl rfl rfl rfl) (da_cons (d_bin (o_add (m := 0)) (d_var 4) (d_int)) (da_cons (d_var 6) (da_cons (d_fld ft_made (d_var 3)) (da_nil))))) (da_nil))))))) (ds_nil))))) (ds_one (ds_ret (d_var 2)))))
theorem ok_boxes_of (T : Tx K mg) (M_Box : MkOk P w K mg base 2 6 3 g_Box) (MT_zeros : MTa P w K mg base 2 "zeros" mt_zeros) (M_Counter : MkOk P w K mg base 2 5 1 g_Counter) (MT_do_command : MTa P w K mg base 2 "do_command" mt_do_command) {f : Addr} (Fd : ∃ fd, FunD K "boxes_of" "boxes_of" (defArgs s_boxes_of) (defBody s_boxes_of) (defScope s_boxes_of) [] [] f fd) (ar : ∀ ds mu P' F, sp_boxes_of ds mu P' F → ds.length = 2) (pure : ∀ ds mu P' F, sp_boxes_of ds mu P' F → t_boxes_of (endT mu P' F) (gam0 7 ds) mu) : Prom P w K mg base 4 f 2 sp_boxes_of := by
  obtain ⟨fd, Fd⟩ := Fd
  exact fn_dlT Fd sc_boxes_of rfl rfl (fun _ _ _ _ _ _ us hl => match us, hl with | [_, _], _ => rfl) ar (fun cdv A outer s H Ex hr => der_boxes_of T M_Box MT_zeros M_Counter MT_do_command cdv A outer s H Ex hr) pure
def t_boxes : DS := dRet (dCall sp_boxes_of (dCons (dFld ix_memory (dVar 0)) (dCons (dFld ix_commands (dVar 0)) (dNil))))
theorem der_boxes (T : Tx K mg) (F_boxes_of : Prom P w K mg base 4 (He.ga K "boxes_of") 2 sp_boxes_of) {f : Addr} (cdv : Value) (A : Around) (outer : List Env) (s : Shared) (H : Hp) (Ex : XK) (hr : Room 4 (A.deeper (envOfC "boxes" (defScope s_boxes) s.heap.objs.size f cdv))) : PSs (cxOf (L2.CX P w) P w K mg base ["program"] "boxes" (defScope s_boxes) f cdv A outer s H Ex) (defBody s_boxes) (liftS K (fun cls d _ H => Ex cls d H) t_boxes) :=
  ds_one (ds_ret (d_call F_boxes_of (hr.mono (by decide)) T.g_boxes_of (takes_of rfl rfl rfl rfl) (da_cons (d_fld ft_memory (d_var 0)) (da_cons (d_fld ft_commands (d_var 0)) (da_nil)))))
theorem ok_boxes (T : Tx K mg) (F_boxes_of : Prom P w K mg base 4 (He.ga K "boxes_of") 2 sp_boxes_of) {f : Addr} (Fd : ∃ fd, FunD K "boxes" "boxes" (defArgs s_boxes) (defBody s_boxes) (defScope s_boxes) [] [] f fd) (ar : ∀ ds mu P' F, sp_boxes ds mu P' F → ds.length = 1) (pure : ∀ ds mu P' F, sp_boxes ds mu P' F → t_boxes (endF P' F) (gam0 1 ds) mu) : Prom P w K mg base 5 f 1 sp_boxes := by
  obtain ⟨fd, Fd⟩ := Fd
  exact fn_dl Fd sc_boxes rfl rfl (fun _ _ _ _ _ _ us hl => match us, hl with | [_], _ => rfl) ar (fun cdv A outer s H Ex hr => der_boxes T F_boxes_of cdv A outer s H Ex hr) pure
def t_numbered : DS := dSeq (dPar2 2 3 (dCons (dLst 1 (dNil)) (dCons (dDicN) (dNil)))) (dSeq (dFor (iSeq (dVar 0)) (dName 1) (dSeq (dKPut (dVar 3) (dFld ix_line (dVar 1)) (dBin (gAdd 0) (dKGet (dVar 3) (dFld ix_line (dVar 1)) (dC (.int 0))) (dC (.int 1)))) (dDrop (dMtd gAppend (dVar 2) (dCons (dTup (dCons (dFld ix_line (dVar 1)) (dCons (dKIx (dVar 3) (dFld ix_line (dVar 1))) (dNil)))) (dNil)))))) (dRet (dVar 2)))
theorem der_numbered (T : Tx K mg) {f : Addr} (cdv : Value) (A : Around) (outer : List Env) (s : Shared) (H : Hp) (Ex : XK) (hr : Room 1 (A.deeper (envOfC "numbered" (defScope s_numbered) s.heap.objs.size f cdv))) : PSs (cxOf (L2.CX P w) P w K mg base ["some", "store", "found", "counts"] "numbered" (defScope s_numbered) f cdv A outer s H Ex) (defBody s_numbered) (liftS K (fun cls d _ H => Ex cls d H) t_numbered) :=
  ds_cons (ds_par2 2 3 rfl (sc_numbered).nd (da_cons (d_lst 1 (da_nil)) (da_cons (d_dicN) (da_nil)))) (ds_cons (ds_for (passes_of rfl) rfl (di_seq (d_var 0)) (dg_name 1 (sc_numbered).nd) (ds_cons (ds_kput (unit_lt (hr.mono (Nat.zero_le _))) (d_var 3) (d_fld ft_line (d_var 1)) (d_bin (o_add (m := 0)) (d_kget (unit_lt (hr.mono (Nat.zero_le _))) (d_var 3) (d_fld ft_line (d_var 1)) (d_int)) (d_int))) (ds_one (ds_expr (d_mtd PySem.F.plainAttrs_list PySem.F.slot_list_append PySem.F.type_list_append m_append (d_var 2) (da_cons (d_tup (da_cons (d_fld ft_line (d_var 1)) (da_cons (d_kix (unit_lt (hr.mono (Nat.zero_le _))) (d_var 3) (d_fld ft_line (d_var 1))) (da_nil)))) (da_nil))))))) (ds_one (ds_ret (d_var 2))))
theorem ok_numbered (T : Tx K mg) {f : Addr} (Fd : ∃ fd, FunD K "numbered" "numbered" (defArgs s_numbered) (defBody s_numbered) (defScope s_numbered) [] [] f fd) (ar : ∀ ds mu P' F, sp_numbered ds mu P' F → ds.length = 1) (pure : ∀ ds mu P' F, sp_numbered ds mu P' F → t_numbered (endT mu P' F) (gam0 4 ds) mu) : Prom P w K mg base 2 f 1 sp_numbered := by
  obtain ⟨fd, Fd⟩ := Fd
  exact fn_dlT Fd sc_numbered rfl rfl (fun _ _ _ _ _ _ us hl => match us, hl with | [_], _ => rfl) ar (fun cdv A outer s H Ex hr => der_numbered T cdv A outer s H Ex hr) pure
def t_first_holds : DS := dSeq (dIfS (dCT (gEq 6) (dVar 2) (dBin gIx (dVar 0) (dC (.int 0)))) (dRet (dBin gLe (dVar 3) (dBin gIx (dVar 0) (dC (.int 1))))) (dNext)) (dRet (dBin gGe (dBin gIx (dFld ix_low (dVar 1)) (dVar 2)) (dVar 3)))
theorem der_first_holds (T : Tx K mg) (E : EqAll P w K mg base 6) {f : Addr} (cdv : Value) (A : Around) (outer : List Env) (s : Shared) (H : Hp) (Ex : XK) (hr : Room 16 (A.deeper (envOfC "first_holds" (defScope s_first_holds) s.heap.objs.size f cdv))) : PSs (cxOf (L2.CX P w) P w K mg base ["place", "box", "line", "number"] "first_holds" (defScope s_first_holds) f cdv A outer s H Ex) (defBody s_first_holds) (liftS K (fun cls d _ H => Ex cls d H) t_first_holds) :=
  ds_cons (ds_if (d_cmpT (o_eq 6 E (hr.mono (by first | decide | exact Nat.le_refl _))) (d_var 2) (d_ix (d_var 0) (d_int))) (ds_one (ds_ret (d_cmp o_le (d_var 3) (d_ix (d_var 0) (d_int))))) (ds_nil)) (ds_one (ds_ret (d_cmp o_ge (d_ix (d_fld ft_low (d_var 1)) (d_var 2)) (d_var 3))))
theorem ok_first_holds (T : Tx K mg) (E : EqAll P w K mg base 6) {f : Addr} (Fd : ∃ fd, FunD K "first_holds" "first_holds" (defArgs s_first_holds) (defBody s_first_holds) (defScope s_first_holds) [] [] f fd) (ar : ∀ ds mu P' F, sp_first_holds ds mu P' F → ds.length = 4) (pure : ∀ ds mu P' F, sp_first_holds ds mu P' F → t_first_holds (endF P' F) (gam0 4 ds) mu) : Prom P w K mg base 17 f 4 sp_first_holds := by
  obtain ⟨fd, Fd⟩ := Fd
  exact fn_dl Fd sc_first_holds rfl rfl (fun _ _ _ _ _ _ us hl => match us, hl with | [_, _, _, _], _ => rfl) ar (fun cdv A outer s H Ex hr => der_first_holds T E cdv A outer s H Ex hr) pure
def t_orders : DS := dSeq (dSet 1 (dCall sp_numbered (dCons (dCall sp_stores (dCons (dVar 0) (dNil))) (dNil)))) (dSeq (dSet 2 (dLst 1 (dNil))) (dSeq (dFor (iEnA (dCons (dSlice 0 (dCall sp_boxes (dCons (dVar 0) (dNil))) (dPart (dC (.int 1))) (dNoPart)) (dNil))) (dTupG 2 (gsCons (dName 3) (gsCons (dName 4) (gsNil)))) (dFor (iEnA (dCons (dVar 1) (dNil))) (dTupG 2 (gsCons (dName 5) (gsCons (dTupG 2 (gsCons (dName 6) (gsCons (dName 7) (gsNil)))) (gsNil)))) (dIfS (dAnd (dCT (gNe 6) (dVar 5) (dVar 3)) (dTru (dCall sp_first_holds (dCons (dBin gIx (dVar 1) (dVar 3)) (dCons (dVar 4) (dCons (dVar 6) (dCons (dVar 7) (dNil)))))))) (dDrop (dMtd gAppend (dVar 2) (dCons (dTup (dCons (dVar 5) (dCons (dVar 3) (dNil)))) (dNil)))) (dNext)))) (dRet (dCB (bSorted 1) (dCons (dVar 2) (dNil))))))
theorem der_orders (T : Tx K mg) (F_numbered : Prom P w K mg base 2 (He.ga K "numbered") 1 sp_numbered) (F_stores : Prom P w K mg base 2 (He.ga K "stores") 1 sp_stores) (F_boxes : Prom P w K mg base 5 (He.ga K "boxes") 1 sp_boxes) (F_first_holds : Prom P w K mg base 17 (He.ga K "first_holds") 4 sp_first_holds) (E : EqAll P w K mg base 6) {f : Addr} (cdv : Value) (A : Around) (outer : List Env) (s : Shared) (H : Hp) (Ex : XK) (hr : Room 17 (A.deeper (envOfC "orders" (defScope s_orders) s.heap.objs.size f cdv))) : PSs (cxOf (L2.CX P w) P w K mg base ["program", "places", "found", "last", "box", "first", "line", "number"] "orders" (defScope s_orders) f cdv A outer s H Ex) (defBody s_orders) (liftS K (fun cls d _ H => Ex cls d H) t_orders) :=
  ds_cons (ds_set 1 (sc_orders).nd (d_call F_numbered (hr.mono (by decide)) T.g_numbered (takes_of rfl rfl rfl rfl) (da_cons (d_call F_stores (hr.mono (by decide)) T.g_stores (takes_of rfl rfl rfl rfl) (da_cons (d_var 0) (da_nil))) (da_nil)))) (ds_cons (ds_set 2 (sc_orders).nd (d_lst 1 (da_nil))) (ds_cons (ds_for (passes_of rfl) rfl (di_enumA T.f_enumerate (da_cons (d_slice 0 (d_call F_boxes (hr.mono (by decide)) T.g_boxes (takes_of rfl rfl rfl rfl) (da_cons (d_var 0) (da_nil))) (do_some (d_int)) (do_none)) (da_nil))) (dg_tup rfl (dgs_cons (dg_name 3 (sc_orders).nd) (dgs_cons (dg_name 4 (sc_orders).nd) (dgs_nil)))) (ds_one (ds_for (passes_of rfl) rfl (di_enumA T.f_enumerate (da_cons (d_var 1) (da_nil))) (dg_tup rfl (dgs_cons (dg_name 5 (sc_orders).nd) (dgs_cons (dg_tup rfl (dgs_cons (dg_name 6 (sc_orders).nd) (dgs_cons (dg_name 7 (sc_orders).nd) (dgs_nil)))) (dgs_nil)))) (ds_one (ds_if (PW.pt (d_and (d_cmpT (o_ne 6 E (hr.mono (by first | decide | exact Nat.le_refl _))) (d_var 5) (d_var 3)) (d_and1 (d_tru (d_call F_first_holds (hr.mono (by decide)) T.g_first_holds (takes_of rfl rfl rfl rfl) (da_cons (d_ix (d_var 1) (d_var 3)) (da_cons (d_var 4) (da_cons (d_var 6) (da_cons (d_var 7) (da_nil)))))))))) (ds_one (ds_expr (d_mtd PySem.F.plainAttrs_list PySem.F.slot_list_append PySem.F.type_list_append m_append (d_var 2) (da_cons (d_tup (da_cons (d_var 5) (da_cons (d_var 3) (da_nil)))) (da_nil))))) (ds_nil)))))) (ds_one (ds_ret (d_callB (b_sortD 1 rfl (unit65 (hr.mono (Nat.zero_le _)))) T.f_sorted (by decide +kernel) (da_cons (d_var 2) (da_nil)))))))
theorem ok_orders (T : Tx K mg) (F_numbered : Prom P w K mg base 2 (He.ga K "numbered") 1 sp_numbered) (F_stores : Prom P w K mg base 2 (He.ga K "stores") 1 sp_stores) (F_boxes : Prom P w K mg base 5 (He.ga K "boxes") 1 sp_boxes) (F_first_holds : Prom P w K mg base 17 (He.ga K "first_holds") 4 sp_first_holds) (E : EqAll P w K mg base 6) {f : Addr} (Fd : ∃ fd, FunD K "orders" "orders" (defArgs s_orders) (defBody s_orders) (defScope s_orders) [] [] f fd) (ar : ∀ ds mu P' F, sp_orders ds mu P' F → ds.length = 1) (pure : ∀ ds mu P' F, sp_orders ds mu P' F → t_orders (endF P' F) (gam0 8 ds) mu) : Prom P w K mg base 18 f 1 sp_orders := by
  obtain ⟨fd, Fd⟩ := Fd
  exact fn_dl Fd sc_orders rfl rfl (fun _ _ _ _ _ _ us hl => match us, hl with | [_], _ => rfl) ar (fun cdv A outer s H Ex hr => der_orders T F_numbered F_stores F_boxes F_first_holds E cdv A outer s H Ex hr) pure
def t__law_cell (x0 : D) (ns0 : List Int) (gl : GL) (gx : G2) (gsl : GS) : DS := dSeq (dIfS (dCT gLt (dVar 1) (dCB gl (dCons (dVar 0) (dNil)))) (dRet (dBin gx (dVar 0) (dVar 1))) (dNext)) (dRet (dC (.int 0)))
theorem der__law_cell (T : Tx K mg) {x0 : D} {ns0 : List Int} {gl : GL} {gx : G2} {gsl : GS} (SR : ScrR K gl gx gsl) {f : Addr} (cdv : Value) (A : Around) (outer : List Env) (s : Shared) (H : Hp) (Ex : XK) (hr : Room 1 (A.deeper (envOfC "_law_cell" (defScope s__law_cell) s.heap.objs.size f cdv))) : PSs (cxOf (L2.CX P w) P w K mg base ["_law_script", "_law_index"] "_law_cell" (defScope s__law_cell) f cdv A outer s H Ex) (defBody s__law_cell) (liftS K (fun cls d _ H => Ex cls d H) (t__law_cell x0 ns0 gl gx gsl)) :=
  ds_cons (ds_if (d_cmpT o_lt (d_var 1) (d_callB (SR.len _ rfl) T.f_len (by decide +kernel) (da_cons (d_var 0) (da_nil)))) (ds_one (ds_ret (SR.ix _ _ rfl _ _ _ _ _ (d_var 0) (d_var 1) (by exact fun _ _ => rfl)))) (ds_nil)) (ds_one (ds_ret (d_int)))
theorem ok__law_cell (T : Tx K mg) {x0 : D} {ns0 : List Int} {gl : GL} {gx : G2} {gsl : GS} (SR : ScrR K gl gx gsl) {f : Addr} (Fd : ∃ fd, FunD K "_law_cell" "_law_cell" (defArgs s__law_cell) (defBody s__law_cell) (defScope s__law_cell) [] [] f fd) (ar : ∀ ds mu P' F, (sp__law_cell x0 ns0) ds mu P' F → ds.length = 2) (pure : ∀ ds mu P' F, (sp__law_cell x0 ns0) ds mu P' F → (t__law_cell x0 ns0 gl gx gsl) (endF P' F) (gam0 2 ds) mu) : Prom P w K mg base 2 f 2 (sp__law_cell x0 ns0) := by
  obtain ⟨fd, Fd⟩ := Fd
  exact fn_dl Fd sc__law_cell rfl rfl (fun _ _ _ _ _ _ us hl => match us, hl with | [_, _], _ => rfl) ar (fun cdv A outer s H Ex hr => der__law_cell T SR cdv A outer s H Ex hr) pure
def t__law_rng : DS := dRet (dLst 1 (dCons (dCB bAbs (dCons (dVar 0) (dNil))) (dCons (dBin gMod (dVar 0) (dC (.int 2147483629))) (dCons (dC (.int 0)) (dNil)))))
theorem der__law_rng (T : Tx K mg) {f : Addr} (cdv : Value) (A : Around) (outer : List Env) (s : Shared) (H : Hp) (Ex : XK) (hr : Room 1 (A.deeper (envOfC "_law_rng" (defScope s__law_rng) s.heap.objs.size f cdv))) : PSs (cxOf (L2.CX P w) P w K mg base ["_law_cell_here"] "_law_rng" (defScope s__law_rng) f cdv A outer s H Ex) (defBody s__law_rng) (liftS K (fun cls d _ H => Ex cls d H) t__law_rng) :=
  ds_one (ds_ret (d_lst 1 (da_cons (d_callB b_abs T.f_abs (by decide +kernel) (da_cons (d_var 0) (da_nil))) (da_cons (d_bin o_mod (d_var 0) (d_int)) (da_cons (d_int) (da_nil))))))
theorem ok__law_rng (T : Tx K mg) {f : Addr} (Fd : ∃ fd, FunD K "_law_rng" "_law_rng" (defArgs s__law_rng) (defBody s__law_rng) (defScope s__law_rng) [] [] f fd) (ar : ∀ ds mu P' F, sp__law_rng ds mu P' F → ds.length = 1) (pure : ∀ ds mu P' F, sp__law_rng ds mu P' F → t__law_rng (endF P' F) (gam0 1 ds) mu) : Prom P w K mg base 2 f 1 sp__law_rng := by
  obtain ⟨fd, Fd⟩ := Fd
  exact fn_dl Fd sc__law_rng rfl rfl (fun _ _ _ _ _ _ us hl => match us, hl with | [_], _ => rfl) ar (fun cdv A outer s H Ex hr => der__law_rng T cdv A outer s H Ex hr) pure
def t__law_draw : DS := dSeq (dIfS (dCT gGe (dBin gIx (dVar 0) (dC (.int 0))) (dBin gPow (dC (.int 10)) (dC (.int 18)))) (dSeq (dSet 3 (dBin gMod (dBin gIx (dVar 0) (dC (.int 0))) (dVar 1))) (dSeq (dAsg (dBin gDiv (dBin gIx (dVar 0) (dC (.int 0))) (dVar 1)) (dSub (dVar 0) (dC (.int 0)))) (dRet (dVar 3)))) (dNext)) (dSeq (dAsg (dBin (gAdd 0) (dBin gIx (dVar 0) (dC (.int 2))) (dC (.int 1))) (dSub (dVar 0) (dC (.int 2)))) (dSeq (dSet 2 (dBin gMod (dBin (gMul 0) (dBin (gAdd 0) (dBin (gAdd 0) (dBin gIx (dVar 0) (dC (.int 1))) (dBin (gMul 0) (dC (.int 7919)) (dBin gIx (dVar 0) (dC (.int 2))))) (dC (.int 1))) (dC (.int 48271))) (dC (.int 2147483647)))) (dSeq (dSet 2 (dBin gMod (dBin (gMul 0) (dVar 2) (dBin (gAdd 0) (dBin gDiv (dVar 2) (dC (.int 1013))) (dC (.int 69621)))) (dC (.int 2147483587)))) (dRet (dBin gMod (dBin gMod (dBin (gAdd 0) (dBin gDiv (dVar 2) (dC (.int 7))) (dBin (gMul 0) (dBin gMod (dVar 2) (dC (.int 7919))) (dC (.int 40692)))) (dC (.int 2147483399))) (dVar 1))))))
theorem der__law_draw (T : Tx K mg) {f : Addr} (cdv : Value) (A : Around) (outer : List Env) (s : Shared) (H : Hp) (Ex : XK) (hr : Room 1 (A.deeper (envOfC "_law_draw" (defScope s__law_draw) s.heap.objs.size f cdv))) : PSs (cxOf (L2.CX P w) P w K mg base ["_law_rng_here", "_law_limit", "_law_mixed", "_law_digit"] "_law_draw" (defScope s__law_draw) f cdv A outer s H Ex) (defBody s__law_draw) (liftS K (fun cls d _ H => Ex cls d H) t__law_draw) :=
  ds_cons (ds_if (d_cmpT o_ge (d_ix (d_var 0) (d_int)) (d_bin o_pow (d_int) (d_int))) (ds_cons (ds_set 3 (sc__law_draw).nd (d_bin o_mod (d_ix (d_var 0) (d_int)) (d_var 1))) (ds_cons (ds_asg (d_bin o_div (d_ix (d_var 0) (d_int)) (d_var 1)) (dg_sub (d_var 0) (d_int))) (ds_one (ds_ret (d_var 3))))) (ds_nil)) (ds_cons (ds_asg (d_bin (o_add (m := 0)) (d_ix (d_var 0) (d_int)) (d_int)) (dg_sub (d_var 0) (d_int))) (ds_cons (ds_set 2 (sc__law_draw).nd (d_bin o_mod (d_bin (o_mul (m := 0)) (d_bin (o_add (m := 0)) (d_bin (o_add (m := 0)) (d_ix (d_var 0) (d_int)) (d_bin (o_mul (m := 0)) (d_int) (d_ix (d_var 0) (d_int)))) (d_int)) (d_int)) (d_int))) (ds_cons (ds_set 2 (sc__law_draw).nd (d_bin o_mod (d_bin (o_mul (m := 0)) (d_var 2) (d_bin (o_add (m := 0)) (d_bin o_div (d_var 2) (d_int)) (d_int))) (d_int))) (ds_one (ds_ret (d_bin o_mod (d_bin o_mod (d_bin (o_add (m := 0)) (d_bin o_div (d_var 2) (d_int)) (d_bin (o_mul (m := 0)) (d_bin o_mod (d_var 2) (d_int)) (d_int))) (d_int)) (d_var 1)))))))
theorem ok__law_draw (T : Tx K mg) {f : Addr} (Fd : ∃ fd, FunD K "_law_draw" "_law_draw" (defArgs s__law_draw) (defBody s__law_draw) (defScope s__law_draw) [] [] f fd) (ar : ∀ ds mu P' F, sp__law_draw ds mu P' F → ds.length = 2) (pure : ∀ ds mu P' F, sp__law_draw ds mu P' F → t__law_draw (endF P' F) (gam0 4 ds) mu) : Prom P w K mg base 2 f 2 sp__law_draw := by
  obtain ⟨fd, Fd⟩ := Fd
  exact fn_dl Fd sc__law_draw rfl rfl (fun _ _ _ _ _ _ us hl => match us, hl with | [_, _], _ => rfl) ar (fun cdv A outer s H Ex hr => der__law_draw T cdv A outer s H Ex hr) pure
def t__law_pick : DS := dRet (dBin gIx (dVar 1) (dCall sp__law_draw (dCons (dVar 0) (dCons (dCB bLen (dCons (dVar 1) (dNil))) (dNil)))))
theorem der__law_pick (T : Tx K mg) (F__law_draw : Prom P w K mg base 2 (He.ga K "_law_draw") 2 sp__law_draw) {f : Addr} (cdv : Value) (A : Around) (outer : List Env) (s : Shared) (H : Hp) (Ex : XK) (hr : Room 2 (A.deeper (envOfC "_law_pick" (defScope s__law_pick) s.heap.objs.size f cdv))) : PSs (cxOf (L2.CX P w) P w K mg base ["_law_rng_here", "_law_items"] "_law_pick" (defScope s__law_pick) f cdv A outer s H Ex) (defBody s__law_pick) (liftS K (fun cls d _ H => Ex cls d H) t__law_pick) :=
  ds_one (ds_ret (d_ix (d_var 1) (d_call F__law_draw (hr.mono (by decide)) T.g__law_draw (takes_of rfl rfl rfl rfl) (da_cons (d_var 0) (da_cons (d_callB b_len T.f_len (by decide +kernel) (da_cons (d_var 1) (da_nil))) (da_nil))))))
theorem ok__law_pick (T : Tx K mg) (F__law_draw : Prom P w K mg base 2 (He.ga K "_law_draw") 2 sp__law_draw) {f : Addr} (Fd : ∃ fd, FunD K "_law_pick" "_law_pick" (defArgs s__law_pick) (defBody s__law_pick) (defScope s__law_pick) [] [] f fd) (ar : ∀ ds mu P' F, sp__law_pick ds mu P' F → ds.length = 2) (pure : ∀ ds mu P' F, sp__law_pick ds mu P' F → t__law_pick (endF P' F) (gam0 2 ds) mu) : Prom P w K mg base 3 f 2 sp__law_pick := by
  obtain ⟨fd, Fd⟩ := Fd
  exact fn_dl Fd sc__law_pick rfl rfl (fun _ _ _ _ _ _ us hl => match us, hl with | [_, _], _ => rfl) ar (fun cdv A outer s H Ex hr => der__law_pick T F__law_draw cdv A outer s H Ex hr) pure
def t__law_random_sizes : DS := dRet (dLc 0 (iR1 (dCons (dBin (gAdd 0) (dC (.int 1)) (dCall sp__law_draw (dCons (dVar 0) (dCons (dVar 1) (dNil))))) (dNil))) (dName 3) (dYes) (dBin (gAdd 0) (dC (.int 1)) (dCall sp__law_draw (dCons (dVar 0) (dCons (dVar 2) (dNil))))) [3])
theorem der__law_random_sizes (T : Tx K mg) (F__law_draw : Prom P w K mg base 2 (He.ga K "_law_draw") 2 sp__law_draw) {f : Addr} (cdv : Value) (A : Around) (outer : List Env) (s : Shared) (H : Hp) (Ex : XK) (hr : Room 2 (A.deeper (envOfC "_law_random_sizes" (defScope s__law_random_sizes) s.heap.objs.size f cdv))) : PSs (cxOf (L2.CX P w) P w K mg base ["_law_rng_here", "_law_most_lines", "_law_most_words", "_law_line"] "_law_random_sizes" (defScope s__law_random_sizes) f cdv A outer s H Ex) (defBody s__law_random_sizes) (liftS K (fun cls d _ H => Ex cls d H) t__law_random_sizes) :=
  ds_one (ds_ret (d_lc 0 rfl (sc__law_random_sizes).nd (di_range1 T.f_range (da_cons (d_bin (o_add (m := 0)) (d_int) (d_call F__law_draw (hr.mono (by decide)) T.g__law_draw (takes_of rfl rfl rfl rfl) (da_cons (d_var 0) (da_cons (d_var 1) (da_nil))))) (da_nil))) (blkOk_by (own := [("_law_line", 3)]) (by show blkC ["_law_rng_here", "_law_most_lines", "_law_most_words", "_law_line"] (defScope s__law_random_sizes) _ [("_law_line", 3)] = true; decide +kernel)) (fun _ _ _ _ _ => dw_name 3 (sc__law_random_sizes).nd) (fun _ _ _ _ _ => dts_nil) (fun _ _ _ _ _ => d_bin (o_add (m := 0)) (d_int) (d_call F__law_draw (hr.mono (by decide)) T.g__law_draw takes_none5 (da_cons (d_var 0) (da_cons (d_var 2) (da_nil)))))))
theorem ok__law_random_sizes (T : Tx K mg) (F__law_draw : Prom P w K mg base 2 (He.ga K "_law_draw") 2 sp__law_draw) {f : Addr} (Fd : ∃ fd, FunD K "_law_random_sizes" "_law_random_sizes" (defArgs s__law_random_sizes) (defBody s__law_random_sizes) (defScope s__law_random_sizes) [] [] f fd) (ar : ∀ ds mu P' F, sp__law_random_sizes ds mu P' F → ds.length = 3) (pure : ∀ ds mu P' F, sp__law_random_sizes ds mu P' F → t__law_random_sizes (endF P' F) (gam0 4 ds) mu) : Prom P w K mg base 3 f 3 sp__law_random_sizes := by
  obtain ⟨fd, Fd⟩ := Fd
  exact fn_dl Fd sc__law_random_sizes rfl rfl (fun _ _ _ _ _ _ us hl => match us, hl with | [_, _, _], _ => rfl) ar (fun cdv A outer s H Ex hr => der__law_random_sizes T F__law_draw cdv A outer s H Ex hr) pure
def t__law_random_command : DS := dSeq (dSet 2 (dCall sp__law_pick (dCons (dVar 0) (dCons (dLst 0 (dCons (dC (.str "store")) (dCons (dC (.str "store")) (dCons (dC (.str "store")) (dCons (dC (.str "flush")) (dCons (dC (.str "flush")) (dCons (dC (.str "fence")) (dNil)))))))) (dNil))))) (dSeq (dSet 3 (dCall sp__law_draw (dCons (dVar 0) (dCons (dCB bLen (dCons (dVar 1) (dNil))) (dNil))))) (dSeq (dIfS (dCT (gEq 6) (dVar 2) (dC (.str "fence"))) (dRet (dTup (dCons (dC (.str "fence")) (dNil)))) (dNext)) (dSeq (dIfS (dCT (gEq 6) (dVar 2) (dC (.str "flush"))) (dRet (dTup (dCons (dC (.str "flush")) (dCons (dVar 3) (dNil))))) (dNext)) (dRet (dTup (dCons (dC (.str "store")) (dCons (dVar 3) (dCons (dCall sp__law_draw (dCons (dVar 0) (dCons (dBin gIx (dVar 1) (dVar 3)) (dNil)))) (dCons (dCall sp__law_pick (dCons (dVar 0) (dCons (dLst 0 (dCons (dC (.int 1)) (dCons (dC (.int 1)) (dCons (dC (.int 2)) (dCons (dC (.int 3)) (dCons (dC (.int 0)) (dCons (dNeg (dC (.int 1))) (dNil)))))))) (dNil)))) (dNil))))))))))
theorem der__law_random_command (T : Tx K mg) (F__law_pick : Prom P w K mg base 3 (He.ga K "_law_pick") 2 sp__law_pick) (F__law_draw : Prom P w K mg base 2 (He.ga K "_law_draw") 2 sp__law_draw) (E : EqAll P w K mg base 6) {f : Addr} (cdv : Value) (A : Around) (outer : List Env) (s : Shared) (H : Hp) (Ex : XK) (hr : Room 16 (A.deeper (envOfC "_law_random_command" (defScope s__law_random_command) s.heap.objs.size f cdv))) : PSs (cxOf (L2.CX P w) P w K mg base ["_law_rng_here", "_law_sizes", "_law_kind", "_law_line"] "_law_random_command" (defScope s__law_random_command) f cdv A outer s H Ex) (defBody s__law_random_command) (liftS K (fun cls d _ H => Ex cls d H) t__law_random_command) :=
  ds_cons (ds_set 2 (sc__law_random_command).nd (d_call F__law_pick (hr.mono (by decide)) T.g__law_pick (takes_of rfl rfl rfl rfl) (da_cons (d_var 0) (da_cons (d_lst 0 (da_cons (d_str) (da_cons (d_str) (da_cons (d_str) (da_cons (d_str) (da_cons (d_str) (da_cons (d_str) (da_nil)))))))) (da_nil))))) (ds_cons (ds_set 3 (sc__law_random_command).nd (d_call F__law_draw (hr.mono (by decide)) T.g__law_draw (takes_of rfl rfl rfl rfl) (da_cons (d_var 0) (da_cons (d_callB b_len T.f_len (by decide +kernel) (da_cons (d_var 1) (da_nil))) (da_nil))))) (ds_cons (ds_if (d_cmpT (o_eq 6 E (hr.mono (by first | decide | exact Nat.le_refl _))) (d_var 2) (d_str)) (ds_one (ds_ret (d_tup (da_cons (d_str) (da_nil))))) (ds_nil)) (ds_cons (ds_if (d_cmpT (o_eq 6 E (hr.mono (by first | decide | exact Nat.le_refl _))) (d_var 2) (d_str)) (ds_one (ds_ret (d_tup (da_cons (d_str) (da_cons (d_var 3) (da_nil)))))) (ds_nil)) (ds_one (ds_ret (d_tup (da_cons (d_str) (da_cons (d_var 3) (da_cons (d_call F__law_draw (hr.mono (by decide)) T.g__law_draw (takes_of rfl rfl rfl rfl) (da_cons (d_var 0) (da_cons (d_ix (d_var 1) (d_var 3)) (da_nil)))) (da_cons (d_call F__law_pick (hr.mono (by decide)) T.g__law_pick (takes_of rfl rfl rfl rfl) (da_cons (d_var 0) (da_cons (d_lst 0 (da_cons (d_int) (da_cons (d_int) (da_cons (d_int) (da_cons (d_int) (da_cons (d_int) (da_cons (d_neg (d_int)) (da_nil)))))))) (da_nil)))) (da_nil)))))))))))
theorem ok__law_random_command (T : Tx K mg) (F__law_pick : Prom P w K mg base 3 (He.ga K "_law_pick") 2 sp__law_pick) (F__law_draw : Prom P w K mg base 2 (He.ga K "_law_draw") 2 sp__law_draw) (E : EqAll P w K mg base 6) {f : Addr} (Fd : ∃ fd, FunD K "_law_random_command" "_law_random_command" (defArgs s__law_random_command) (defBody s__law_random_command) (defScope s__law_random_command) [] [] f fd) (ar : ∀ ds mu P' F, sp__law_random_command ds mu P' F → ds.length = 2) (pure : ∀ ds mu P' F, sp__law_random_command ds mu P' F → t__law_random_command (endF P' F) (gam0 4 ds) mu) : Prom P w K mg base 17 f 2 sp__law_random_command := by
  obtain ⟨fd, Fd⟩ := Fd
  exact fn_dl Fd sc__law_random_command rfl rfl (fun _ _ _ _ _ _ us hl => match us, hl with | [_, _], _ => rfl) ar (fun cdv A outer s H Ex hr => der__law_random_command T F__law_pick F__law_draw E cdv A outer s H Ex hr) pure
def t__law_random_commands : DS := dRet (dLc 0 (iR1 (dCons (dCall sp__law_draw (dCons (dVar 0) (dCons (dBin (gAdd 0) (dVar 2) (dC (.int 1))) (dNil)))) (dNil))) (dName 3) (dYes) (dCall sp__law_random_command (dCons (dVar 0) (dCons (dVar 1) (dNil)))) [3])
theorem der__law_random_commands (T : Tx K mg) (F__law_draw : Prom P w K mg base 2 (He.ga K "_law_draw") 2 sp__law_draw) (F__law_random_command : Prom P w K mg base 17 (He.ga K "_law_random_command") 2 sp__law_random_command) {f : Addr} (cdv : Value) (A : Around) (outer : List Env) (s : Shared) (H : Hp) (Ex : XK) (hr : Room 17 (A.deeper (envOfC "_law_random_commands" (defScope s__law_random_commands) s.heap.objs.size f cdv))) : PSs (cxOf (L2.CX P w) P w K mg base ["_law_rng_here", "_law_sizes", "_law_most", "_law_index"] "_law_random_commands" (defScope s__law_random_commands) f cdv A outer s H Ex) (defBody s__law_random_commands) (liftS K (fun cls d _ H => Ex cls d H) t__law_random_commands) :=
  ds_one (ds_ret (d_lc 0 rfl (sc__law_random_commands).nd (di_range1 T.f_range (da_cons (d_call F__law_draw (hr.mono (by decide)) T.g__law_draw (takes_of rfl rfl rfl rfl) (da_cons (d_var 0) (da_cons (d_bin (o_add (m := 0)) (d_var 2) (d_int)) (da_nil)))) (da_nil))) (blkOk_by (own := [("_law_index", 3)]) (by show blkC ["_law_rng_here", "_law_sizes", "_law_most", "_law_index"] (defScope s__law_random_commands) _ [("_law_index", 3)] = true; decide +kernel)) (fun _ _ _ _ _ => dw_name 3 (sc__law_random_commands).nd) (fun _ _ _ _ _ => dts_nil) (fun _ _ _ _ _ => d_call F__law_random_command (hr.mono (by decide)) T.g__law_random_command takes_none5 (da_cons (d_var 0) (da_cons (d_var 1) (da_nil))))))
theorem ok__law_random_commands (T : Tx K mg) (F__law_draw : Prom P w K mg base 2 (He.ga K "_law_draw") 2 sp__law_draw) (F__law_random_command : Prom P w K mg base 17 (He.ga K "_law_random_command") 2 sp__law_random_command) {f : Addr} (Fd : ∃ fd, FunD K "_law_random_commands" "_law_random_commands" (defArgs s__law_random_commands) (defBody s__law_random_commands) (defScope s__law_random_commands) [] [] f fd) (ar : ∀ ds mu P' F, sp__law_random_commands ds mu P' F → ds.length = 3) (pure : ∀ ds mu P' F, sp__law_random_commands ds mu P' F → t__law_random_commands (endF P' F) (gam0 4 ds) mu) : Prom P w K mg base 18 f 3 sp__law_random_commands := by
  obtain ⟨fd, Fd⟩ := Fd
  exact fn_dl Fd sc__law_random_commands rfl rfl (fun _ _ _ _ _ _ us hl => match us, hl with | [_, _, _], _ => rfl) ar (fun cdv A outer s H Ex hr => der__law_random_commands T F__law_draw F__law_random_command cdv A outer s H Ex hr) pure
def t__law_command : DS := dSeq (dIfS (dCT (gEq 6) (dBin gIx (dVar 0) (dC (.int 0))) (dC (.str "store"))) (dRet (dCall g_Store (dCons (dBin gIx (dVar 0) (dC (.int 1))) (dCons (dBin gIx (dVar 0) (dC (.int 2))) (dCons (dBin gIx (dVar 0) (dC (.int 3))) (dNil)))))) (dNext)) (dRet (dIf (dCT (gEq 6) (dBin gIx (dVar 0) (dC (.int 0))) (dC (.str "flush"))) (dCall g_Flush (dCons (dBin gIx (dVar 0) (dC (.int 1))) (dNil))) (dMk0 3)))
theorem der__law_command (T : Tx K mg) (M_Store : MkOk P w K mg base 2 1 3 g_Store) (M_Flush : MkOk P w K mg base 2 2 1 g_Flush) (E : EqAll P w K mg base 6) {f : Addr} (cdv : Value) (A : Around) (outer : List Env) (s : Shared) (H : Hp) (Ex : XK) (hr : Room 16 (A.deeper (envOfC "_law_command" (defScope s__law_command) s.heap.objs.size f cdv))) : PSs (cxOf (L2.CX P w) P w K mg base ["_law_command_here"] "_law_command" (defScope s__law_command) f cdv A outer s H Ex) (defBody s__law_command) (liftS K (fun cls d _ H => Ex cls d H) t__law_command) :=
  ds_cons (ds_if (d_cmpT (o_eq 6 E (hr.mono (by first | decide | exact Nat.le_refl _))) (d_ix (d_var 0) (d_int)) (d_str)) (ds_one (ds_ret (d_make M_Store (hr.mono (by decide)) T.g_Store (takes_of rfl rfl rfl rfl) (da_cons (d_ix (d_var 0) (d_int)) (da_cons (d_ix (d_var 0) (d_int)) (da_cons (d_ix (d_var 0) (d_int)) (da_nil))))))) (ds_nil)) (ds_one (ds_ret (d_ifExp (d_cmpT (o_eq 6 E (hr.mono (by first | decide | exact Nat.le_refl _))) (d_ix (d_var 0) (d_int)) (d_str)) (d_make M_Flush (hr.mono (by decide)) T.g_Flush (takes_of rfl rfl rfl rfl) (da_cons (d_ix (d_var 0) (d_int)) (da_nil))) (d_make00 T.mk0_3 T.g_Fence))))
theorem ok__law_command (T : Tx K mg) (M_Store : MkOk P w K mg base 2 1 3 g_Store) (M_Flush : MkOk P w K mg base 2 2 1 g_Flush) (E : EqAll P w K mg base 6) {f : Addr} (Fd : ∃ fd, FunD K "_law_command" "_law_command" (defArgs s__law_command) (defBody s__law_command) (defScope s__law_command) [] [] f fd) (ar : ∀ ds mu P' F, sp__law_command ds mu P' F → ds.length = 1) (pure : ∀ ds mu P' F, sp__law_command ds mu P' F → t__law_command (endF P' F) (gam0 1 ds) mu) : Prom P w K mg base 17 f 1 sp__law_command := by
  obtain ⟨fd, Fd⟩ := Fd
  exact fn_dl Fd sc__law_command rfl rfl (fun _ _ _ _ _ _ us hl => match us, hl with | [_], _ => rfl) ar (fun cdv A outer s H Ex hr => der__law_command T M_Store M_Flush E cdv A outer s H Ex hr) pure
def t__law_program : DS := dRet (dCall g_Program (dCons (dCall g_Memory (dCons (dVar 0) (dNil))) (dCons (dLc 0 (iSeq (dVar 1)) (dName 2) (dYes) (dCall sp__law_command (dCons (dVar 2) (dNil))) [2]) (dNil))))
theorem der__law_program (T : Tx K mg) (M_Program : MkOk P w K mg base 6 4 2 g_Program) (F__law_command : Prom P w K mg base 17 (He.ga K "_law_command") 1 sp__law_command) (M_Memory : MkOk P w K mg base 2 0 1 g_Memory) {f : Addr} (cdv : Value) (A : Around) (outer : List Env) (s : Shared) (H : Hp) (Ex : XK) (hr : Room 17 (A.deeper (envOfC "_law_program" (defScope s__law_program) s.heap.objs.size f cdv))) : PSs (cxOf (L2.CX P w) P w K mg base ["_law_sizes", "_law_commands", "_law_command_here"] "_law_program" (defScope s__law_program) f cdv A outer s H Ex) (defBody s__law_program) (liftS K (fun cls d _ H => Ex cls d H) t__law_program) :=
  ds_one (ds_ret (d_make M_Program (hr.mono (by decide)) T.g_Program (takes_of rfl rfl rfl rfl) (da_cons (d_make M_Memory (hr.mono (by decide)) T.g_Memory (takes_of rfl rfl rfl rfl) (da_cons (d_var 0) (da_nil))) (da_cons (d_lc 0 rfl (sc__law_program).nd (di_seq (d_var 1)) (blkOk_by (own := [("_law_command_here", 2)]) (by show blkC ["_law_sizes", "_law_commands", "_law_command_here"] (defScope s__law_program) _ [("_law_command_here", 2)] = true; decide +kernel)) (fun _ _ _ _ _ => dw_name 2 (sc__law_program).nd) (fun _ _ _ _ _ => dts_nil) (fun _ _ _ _ _ => d_call F__law_command (hr.mono (by decide)) T.g__law_command takes_none5 (da_cons (d_var 2) (da_nil)))) (da_nil)))))
theorem ok__law_program (T : Tx K mg) (M_Program : MkOk P w K mg base 6 4 2 g_Program) (F__law_command : Prom P w K mg base 17 (He.ga K "_law_command") 1 sp__law_command) (M_Memory : MkOk P w K mg base 2 0 1 g_Memory) {f : Addr} (Fd : ∃ fd, FunD K "_law_program" "_law_program" (defArgs s__law_program) (defBody s__law_program) (defScope s__law_program) [] [] f fd) (ar : ∀ ds mu P' F, sp__law_program ds mu P' F → ds.length = 2) (pure : ∀ ds mu P' F, sp__law_program ds mu P' F → t__law_program (endF P' F) (gam0 3 ds) mu) : Prom P w K mg base 18 f 2 sp__law_program := by
  obtain ⟨fd, Fd⟩ := Fd
  exact fn_dl Fd sc__law_program rfl rfl (fun _ _ _ _ _ _ us hl => match us, hl with | [_, _], _ => rfl) ar (fun cdv A outer s H Ex hr => der__law_program T M_Program F__law_command M_Memory cdv A outer s H Ex hr) pure
def t__law_bounds : DS := dSeq (dSet 2 (dLst 1 (dNil))) (dSeq (dFor (iR1 (dCons (dBin (gAdd 0) (dCB bLen (dCons (dVar 1) (dNil))) (dC (.int 1))) (dNil))) (dName 3) (dTrim2 (dPar2 5 6 (dCons (dLst 1 (dNil)) (dCons (dLst 1 (dNil)) (dNil)))) (dFor (iR1 (dCons (dCB bLen (dCons (dVar 0) (dNil))) (dNil))) (dName 4) (dSeq (dAsg (dTup (dCons (dC (.int 0)) (dCons (dC (.int 0)) (dCons (dC (.int 0)) (dNil))))) (dTupG 3 (gsCons (dName 8) (gsCons (dName 9) (gsCons (dName 10) (gsNil)))))) (dSeq (dFor (iSeq (dSlice 0 (dVar 1) (dNoPart) (dPart (dVar 3)))) (dName 7) (dIfS (dAnd (dCT (gEq 6) (dBin gIx (dVar 7) (dC (.int 0))) (dC (.str "store"))) (dCT (gEq 6) (dBin gIx (dVar 7) (dC (.int 1))) (dVar 4))) (dSet 8 (dBin (gAdd 0) (dVar 8) (dC (.int 1)))) (dIfS (dCT (gEq 6) (dVar 7) (dTup (dCons (dC (.str "flush")) (dCons (dVar 4) (dNil))))) (dSet 10 (dVar 8)) (dIfS (dCT (gEq 6) (dVar 7) (dTup (dCons (dC (.str "fence")) (dNil)))) (dSet 9 (dVar 10)) (dNext))))) (dSeq (dDrop (dMtd gAppend (dVar 5) (dCons (dVar 9) (dNil)))) (dDrop (dMtd gAppend (dVar 6) (dCons (dVar 8) (dNil)))))))) (dDrop (dMtd gAppend (dVar 2) (dCons (dTup (dCons (dVar 5) (dCons (dVar 6) (dNil)))) (dNil)))))) (dRet (dVar 2)))
theorem der__law_bounds (T : Tx K mg) (E : EqAll P w K mg base 6) {f : Addr} (cdv : Value) (A : Around) (outer : List Env) (s : Shared) (H : Hp) (Ex : XK) (hr : Room 16 (A.deeper (envOfC "_law_bounds" (defScope s__law_bounds) s.heap.objs.size f cdv))) : PSs (cxOf (L2.CX P w) P w K mg base ["_law_sizes", "_law_commands", "_law_result", "_law_time", "_law_line", "_law_low", "_law_high", "_law_command_here", "_law_before", "_law_least", "_law_flushed"] "_law_bounds" (defScope s__law_bounds) f cdv A outer s H Ex) (defBody s__law_bounds) (liftS K (fun cls d _ H => Ex cls d H) t__law_bounds) :=
  ds_cons (ds_set 2 (sc__law_bounds).nd (d_lst 1 (da_nil))) (ds_cons (ds_for (passes_of rfl) rfl (di_range1 T.f_range (da_cons (d_bin (o_add (m := 0)) (d_callB b_len T.f_len (by decide +kernel) (da_cons (d_var 1) (da_nil))) (d_int)) (da_nil))) (dg_name 3 (sc__law_bounds).nd) (ds_trim2 (ds_par2 5 6 rfl (sc__law_bounds).nd (da_cons (d_lst 1 (da_nil)) (da_cons (d_lst 1 (da_nil)) (da_nil)))) (ds_for (passes_of rfl) rfl (di_range1 T.f_range (da_cons (d_callB b_len T.f_len (by decide +kernel) (da_cons (d_var 0) (da_nil))) (da_nil))) (dg_name 4 (sc__law_bounds).nd) (ds_cons (ds_asg (d_tup (da_cons (d_int) (da_cons (d_int) (da_cons (d_int) (da_nil))))) (dg_tup rfl (dgs_cons (dg_name 8 (sc__law_bounds).nd) (dgs_cons (dg_name 9 (sc__law_bounds).nd) (dgs_cons (dg_name 10 (sc__law_bounds).nd) (dgs_nil)))))) (ds_cons (ds_for (passes_of rfl) rfl (di_seq (d_slice 0 (d_var 1) (do_none) (do_some (d_var 3)))) (dg_name 7 (sc__law_bounds).nd) (ds_one (ds_if (PW.pt (d_and (d_cmpT (o_eq 6 E (hr.mono (by first | decide | exact Nat.le_refl _))) (d_ix (d_var 7) (d_int)) (d_str)) (d_and1 (d_cmpT (o_eq 6 E (hr.mono (by first | decide | exact Nat.le_refl _))) (d_ix (d_var 7) (d_int)) (d_var 4))))) (ds_one (ds_set 8 (sc__law_bounds).nd (d_bin (o_add (m := 0)) (d_var 8) (d_int)))) (ds_one (ds_if (d_cmpT (o_eq 6 E (hr.mono (by first | decide | exact Nat.le_refl _))) (d_var 7) (d_tup (da_cons (d_str) (da_cons (d_var 4) (da_nil))))) (ds_one (ds_set 10 (sc__law_bounds).nd (d_var 8))) (ds_one (ds_if (d_cmpT (o_eq 6 E (hr.mono (by first | decide | exact Nat.le_refl _))) (d_var 7) (d_tup (da_cons (d_str) (da_nil)))) (ds_one (ds_set 9 (sc__law_bounds).nd (d_var 10))) (ds_nil)))))))) (ds_cons (ds_expr (d_mtd PySem.F.plainAttrs_list PySem.F.slot_list_append PySem.F.type_list_append m_append (d_var 5) (da_cons (d_var 9) (da_nil)))) (ds_one (ds_expr (d_mtd PySem.F.plainAttrs_list PySem.F.slot_list_append PySem.F.type_list_append m_append (d_var 6) (da_cons (d_var 8) (da_nil))))))))) (ds_one (ds_expr (d_mtd PySem.F.plainAttrs_list PySem.F.slot_list_append PySem.F.type_list_append m_append (d_var 2) (da_cons (d_tup (da_cons (d_var 5) (da_cons (d_var 6) (da_nil)))) (da_nil))))))) (ds_one (ds_ret (d_var 2))))
theorem ok__law_bounds (T : Tx K mg) (E : EqAll P w K mg base 6) {f : Addr} (Fd : ∃ fd, FunD K "_law_bounds" "_law_bounds" (defArgs s__law_bounds) (defBody s__law_bounds) (defScope s__law_bounds) [] [] f fd) (ar : ∀ ds mu P' F, sp__law_bounds ds mu P' F → ds.length = 2) (pure : ∀ ds mu P' F, sp__law_bounds ds mu P' F → t__law_bounds (endT mu P' F) (gam0 11 ds) mu) : Prom P w K mg base 17 f 2 sp__law_bounds := by
  obtain ⟨fd, Fd⟩ := Fd
  exact fn_dlT Fd sc__law_bounds rfl rfl (fun _ _ _ _ _ _ us hl => match us, hl with | [_, _], _ => rfl) ar (fun cdv A outer s H Ex hr => der__law_bounds T E cdv A outer s H Ex hr) pure
def t__law_latest : DS := dSeq (dPar2 2 3 (dCons (dNeg (dC (.int 1))) (dCons (dBin (gMul 1) (dLst 0 (dCons (dC (.int 0)) (dNil))) (dCB bLen (dCons (dVar 1) (dNil)))) (dNil)))) (dSeq (dFor (iEnA (dCons (dVar 0) (dNil))) (dTupG 2 (gsCons (dName 4) (gsCons (dName 5) (gsNil)))) (dIfS (dCT (gEq 6) (dBin gIx (dVar 5) (dC (.int 0))) (dC (.str "store"))) (dSeq (dAsg (dBin (gAdd 0) (dBin gIx (dVar 3) (dBin gIx (dVar 5) (dC (.int 1)))) (dC (.int 1))) (dSub (dVar 3) (dBin gIx (dVar 5) (dC (.int 1))))) (dIfS (dCT gLe (dBin gIx (dVar 3) (dBin gIx (dVar 5) (dC (.int 1)))) (dBin gIx (dVar 1) (dBin gIx (dVar 5) (dC (.int 1))))) (dSet 2 (dVar 4)) (dNext))) (dNext))) (dRet (dVar 2)))
theorem der__law_latest (T : Tx K mg) (E : EqAll P w K mg base 6) {f : Addr} (cdv : Value) (A : Around) (outer : List Env) (s : Shared) (H : Hp) (Ex : XK) (hr : Room 16 (A.deeper (envOfC "_law_latest" (defScope s__law_latest) s.heap.objs.size f cdv))) : PSs (cxOf (L2.CX P w) P w K mg base ["_law_commands", "_law_image", "_law_latest_here", "_law_seen", "_law_index", "_law_command_here"] "_law_latest" (defScope s__law_latest) f cdv A outer s H Ex) (defBody s__law_latest) (liftS K (fun cls d _ H => Ex cls d H) t__law_latest) :=
  ds_cons (ds_par2 2 3 rfl (sc__law_latest).nd (da_cons (d_neg (d_int)) (da_cons (d_bin (o_mul (m := 1)) (d_lst 0 (da_cons (d_int) (da_nil))) (d_callB b_len T.f_len (by decide +kernel) (da_cons (d_var 1) (da_nil)))) (da_nil)))) (ds_cons (ds_for (passes_of rfl) rfl (di_enumA T.f_enumerate (da_cons (d_var 0) (da_nil))) (dg_tup rfl (dgs_cons (dg_name 4 (sc__law_latest).nd) (dgs_cons (dg_name 5 (sc__law_latest).nd) (dgs_nil)))) (ds_one (ds_if (d_cmpT (o_eq 6 E (hr.mono (by first | decide | exact Nat.le_refl _))) (d_ix (d_var 5) (d_int)) (d_str)) (ds_cons (ds_asg (d_bin (o_add (m := 0)) (d_ix (d_var 3) (d_ix (d_var 5) (d_int))) (d_int)) (dg_sub (d_var 3) (d_ix (d_var 5) (d_int)))) (ds_one (ds_if (d_cmpT o_le (d_ix (d_var 3) (d_ix (d_var 5) (d_int))) (d_ix (d_var 1) (d_ix (d_var 5) (d_int)))) (ds_one (ds_set 2 (sc__law_latest).nd (d_var 4))) (ds_nil)))) (ds_nil)))) (ds_one (ds_ret (d_var 2))))
theorem ok__law_latest (T : Tx K mg) (E : EqAll P w K mg base 6) {f : Addr} (Fd : ∃ fd, FunD K "_law_latest" "_law_latest" (defArgs s__law_latest) (defBody s__law_latest) (defScope s__law_latest) [] [] f fd) (ar : ∀ ds mu P' F, sp__law_latest ds mu P' F → ds.length = 2) (pure : ∀ ds mu P' F, sp__law_latest ds mu P' F → t__law_latest (endT mu P' F) (gam0 6 ds) mu) : Prom P w K mg base 17 f 2 sp__law_latest := by
  obtain ⟨fd, Fd⟩ := Fd
  exact fn_dlT Fd sc__law_latest rfl rfl (fun _ _ _ _ _ _ us hl => match us, hl with | [_, _], _ => rfl) ar (fun cdv A outer s H Ex hr => der__law_latest T E cdv A outer s H Ex hr) pure
def t__law_images : DS := dSeq (dSet 2 (dDitN)) (dSeq (dFor (iSeq (dCall sp__law_bounds (dCons (dVar 0) (dCons (dVar 1) (dNil))))) (dTupG 2 (gsCons (dName 4) (gsCons (dName 5) (gsNil)))) (dSeq (dSet 6 (dLst 0 (dCons (dTup (dNil)) (dNil)))) (dSeq (dFor (iZip2 (dCons (dVar 4) (dCons (dVar 5) (dNil)))) (dTupG 2 (gsCons (dName 8) (gsCons (dName 9) (gsNil)))) (dTrim3 (dSet 10 (dLst 1 (dNil))) (dFor (iSeq (dVar 6)) (dName 7) (dDrop (dMtd gExtend (dVar 10) (dCons (dLc 0 (iR2 (dCons (dVar 8) (dCons (dBin (gAdd 0) (dVar 9) (dC (.int 1))) (dNil)))) (dName 12) (dYes) (dBin (gAdd 0) (dVar 7) (dTup (dCons (dVar 12) (dNil)))) [12]) (dNil))))) (dSet 6 (dVar 10)) (dNext))) (dFor (iSeq (dVar 6)) (dName 7) (dDPut (dVar 2) (dVar 7) (dC (.bl true))))))) (dSeq (dSet 3 (dCB (bSorted 0) (dCons (dLock (dLc 0 (iKeysD (dVar 2)) (dName 7) (dYes) (dTup (dCons (dCall sp__law_latest (dCons (dVar 1) (dCons (dVar 7) (dNil)))) (dCons (dVar 7) (dNil)))) [7])) (dNil)))) (dRet (dLc 0 (iSeq (dVar 3)) (dTupG 2 (gsCons (dName 11) (gsCons (dName 7) (gsNil)))) (dYes) (dVar 7) [11, 7]))))
theorem der__law_images (T : Tx K mg) (F__law_bounds : Prom P w K mg base 17 (He.ga K "_law_bounds") 2 sp__law_bounds) (F__law_latest : Prom P w K mg base 17 (He.ga K "_law_latest") 2 sp__law_latest) {f : Addr} (cdv : Value) (A : Around) (outer : List Env) (s : Shared) (H : Hp) (Ex : XK) (hr : Room 17 (A.deeper (envOfC "_law_images" (defScope s__law_images) s.heap.objs.size f cdv))) : PSs (cxOf (L2.CX P w) P w K mg base ["_law_sizes", "_law_commands", "_law_found", "_law_ranked", "_law_low", "_law_high", "_law_some", "_law_image", "_law_first", "_law_last", "_law_longer", "_law_latest_here", "_law_number"] "_law_images" (defScope s__law_images) f cdv A outer s H Ex) (defBody s__law_images) (liftS K (fun cls d _ H => Ex cls d H) t__law_images) :=
  ds_cons (ds_set 2 (sc__law_images).nd (d_ditN)) (ds_cons (ds_for (passes_of rfl) rfl (di_seq (d_call F__law_bounds (hr.mono (by decide)) T.g__law_bounds (takes_of rfl rfl rfl rfl) (da_cons (d_var 0) (da_cons (d_var 1) (da_nil))))) (dg_tup rfl (dgs_cons (dg_name 4 (sc__law_images).nd) (dgs_cons (dg_name 5 (sc__law_images).nd) (dgs_nil)))) (ds_cons (ds_set 6 (sc__law_images).nd (d_lst 0 (da_cons (d_tup (da_nil)) (da_nil)))) (ds_cons (ds_for (passes_of rfl) rfl (di_zip2 T.f_zip (da_cons (d_var 4) (da_cons (d_var 5) (da_nil)))) (dg_tup rfl (dgs_cons (dg_name 8 (sc__law_images).nd) (dgs_cons (dg_name 9 (sc__law_images).nd) (dgs_nil)))) (ds_trim3 (ds_set 10 (sc__law_images).nd (d_lst 1 (da_nil))) (ds_for (passes_of rfl) rfl (di_seq (d_var 6)) (dg_name 7 (sc__law_images).nd) (ds_one (ds_expr (d_mtd PySem.F.plainAttrs_list PySem.F.slot_list_extend PySem.F.type_list_extend m_extend (d_var 10) (da_cons (d_lc 0 rfl (sc__law_images).nd (di_range2 T.f_range (da_cons (d_var 8) (da_cons (d_bin (o_add (m := 0)) (d_var 9) (d_int)) (da_nil)))) (blkOk_by (own := [("_law_number", 12)]) (by show blkC ["_law_sizes", "_law_commands", "_law_found", "_law_ranked", "_law_low", "_law_high", "_law_some", "_law_image", "_law_first", "_law_last", "_law_longer", "_law_latest_here", "_law_number"] (defScope s__law_images) _ [("_law_number", 12)] = true; decide +kernel)) (fun _ _ _ _ _ => dw_name 12 (sc__law_images).nd) (fun _ _ _ _ _ => dts_nil) (fun _ _ _ _ _ => d_bin (o_add (m := 0)) (d_var 7) (d_tup (da_cons (d_var 12) (da_nil))))) (da_nil)))))) (ds_set 6 (sc__law_images).nd (d_var 10)) (ds_nil))) (ds_one (ds_for (passes_of rfl) rfl (di_seq (d_var 6)) (dg_name 7 (sc__law_images).nd) (ds_one (ds_dput (unit_lt (hr.mono (Nat.zero_le _))) (d_var 2) (d_var 7) (d_bl)))))))) (ds_cons (ds_set 3 (sc__law_images).nd (d_callB (b_sortD 0 rfl (unit65 (hr.mono (Nat.zero_le _)))) T.f_sorted (by decide +kernel) (da_cons (d_lock (d_lc 0 rfl (sc__law_images).nd (di_keysD (d_var 2)) (blkOk_by (own := [("_law_image", 7)]) (by show blkC ["_law_sizes", "_law_commands", "_law_found", "_law_ranked", "_law_low", "_law_high", "_law_some", "_law_image", "_law_first", "_law_last", "_law_longer", "_law_latest_here", "_law_number"] (defScope s__law_images) _ [("_law_image", 7)] = true; decide +kernel)) (fun _ _ _ _ _ => dw_name 7 (sc__law_images).nd) (fun _ _ _ _ _ => dts_nil) (fun _ _ _ _ _ => d_tup (da_cons (d_call F__law_latest (hr.mono (by decide)) T.g__law_latest takes_none5 (da_cons (d_var 1) (da_cons (d_var 7) (da_nil)))) (da_cons (d_var 7) (da_nil)))))) (da_nil)))) (ds_one (ds_ret (d_lc 0 rfl (sc__law_images).nd (di_seq (d_var 3)) (blkOk_by (own := [("_law_latest_here", 11), ("_law_image", 7)]) (by show blkC ["_law_sizes", "_law_commands", "_law_found", "_law_ranked", "_law_low", "_law_high", "_law_some", "_law_image", "_law_first", "_law_last", "_law_longer", "_law_latest_here", "_law_number"] (defScope s__law_images) _ [("_law_latest_here", 11), ("_law_image", 7)] = true; decide +kernel)) (fun _ _ _ _ _ => dw_tup rfl (dws_cons (dw_name 11 (sc__law_images).nd) (dws_cons (dw_name 7 (sc__law_images).nd) (dws_nil)))) (fun _ _ _ _ _ => dts_nil) (fun _ _ _ _ _ => d_var 7))))))
theorem ok__law_images (T : Tx K mg) (F__law_bounds : Prom P w K mg base 17 (He.ga K "_law_bounds") 2 sp__law_bounds) (F__law_latest : Prom P w K mg base 17 (He.ga K "_law_latest") 2 sp__law_latest) {f : Addr} (Fd : ∃ fd, FunD K "_law_images" "_law_images" (defArgs s__law_images) (defBody s__law_images) (defScope s__law_images) [] [] f fd) (ar : ∀ ds mu P' F, sp__law_images ds mu P' F → ds.length = 2) (pure : ∀ ds mu P' F, sp__law_images ds mu P' F → t__law_images (endT mu P' F) (gam0 13 ds) mu) : Prom P w K mg base 18 f 2 sp__law_images := by
  obtain ⟨fd, Fd⟩ := Fd
  exact fn_dlT Fd sc__law_images rfl rfl (fun _ _ _ _ _ _ us hl => match us, hl with | [_, _], _ => rfl) ar (fun cdv A outer s H Ex hr => der__law_images T F__law_bounds F__law_latest cdv A outer s H Ex hr) pure
def t__law_places : DS := dSeq (dPar2 1 2 (dCons (dLst 1 (dNil)) (dCons (dDicN) (dNil)))) (dSeq (dFor (iEnA (dCons (dVar 0) (dNil))) (dTupG 2 (gsCons (dName 3) (gsCons (dName 4) (gsNil)))) (dIfS (dCT (gEq 6) (dBin gIx (dVar 4) (dC (.int 0))) (dC (.str "store"))) (dSeq (dKPut (dVar 2) (dBin gIx (dVar 4) (dC (.int 1))) (dBin (gAdd 0) (dKGet (dVar 2) (dBin gIx (dVar 4) (dC (.int 1))) (dC (.int 0))) (dC (.int 1)))) (dDrop (dMtd gAppend (dVar 1) (dCons (dTup (dCons (dBin gIx (dVar 4) (dC (.int 1))) (dCons (dKIx (dVar 2) (dBin gIx (dVar 4) (dC (.int 1)))) (dCons (dVar 3) (dNil))))) (dNil))))) (dNext))) (dRet (dVar 1)))
theorem der__law_places (T : Tx K mg) (E : EqAll P w K mg base 6) {f : Addr} (cdv : Value) (A : Around) (outer : List Env) (s : Shared) (H : Hp) (Ex : XK) (hr : Room 16 (A.deeper (envOfC "_law_places" (defScope s__law_places) s.heap.objs.size f cdv))) : PSs (cxOf (L2.CX P w) P w K mg base ["_law_commands", "_law_result", "_law_seen", "_law_index", "_law_command_here"] "_law_places" (defScope s__law_places) f cdv A outer s H Ex) (defBody s__law_places) (liftS K (fun cls d _ H => Ex cls d H) t__law_places) :=
  ds_cons (ds_par2 1 2 rfl (sc__law_places).nd (da_cons (d_lst 1 (da_nil)) (da_cons (d_dicN) (da_nil)))) (ds_cons (ds_for (passes_of rfl) rfl (di_enumA T.f_enumerate (da_cons (d_var 0) (da_nil))) (dg_tup rfl (dgs_cons (dg_name 3 (sc__law_places).nd) (dgs_cons (dg_name 4 (sc__law_places).nd) (dgs_nil)))) (ds_one (ds_if (d_cmpT (o_eq 6 E (hr.mono (by first | decide | exact Nat.le_refl _))) (d_ix (d_var 4) (d_int)) (d_str)) (ds_cons (ds_kput (unit_lt (hr.mono (Nat.zero_le _))) (d_var 2) (d_ix (d_var 4) (d_int)) (d_bin (o_add (m := 0)) (d_kget (unit_lt (hr.mono (Nat.zero_le _))) (d_var 2) (d_ix (d_var 4) (d_int)) (d_int)) (d_int))) (ds_one (ds_expr (d_mtd PySem.F.plainAttrs_list PySem.F.slot_list_append PySem.F.type_list_append m_append (d_var 1) (da_cons (d_tup (da_cons (d_ix (d_var 4) (d_int)) (da_cons (d_kix (unit_lt (hr.mono (Nat.zero_le _))) (d_var 2) (d_ix (d_var 4) (d_int))) (da_cons (d_var 3) (da_nil))))) (da_nil)))))) (ds_nil)))) (ds_one (ds_ret (d_var 1))))
theorem ok__law_places (T : Tx K mg) (E : EqAll P w K mg base 6) {f : Addr} (Fd : ∃ fd, FunD K "_law_places" "_law_places" (defArgs s__law_places) (defBody s__law_places) (defScope s__law_places) [] [] f fd) (ar : ∀ ds mu P' F, sp__law_places ds mu P' F → ds.length = 1) (pure : ∀ ds mu P' F, sp__law_places ds mu P' F → t__law_places (endT mu P' F) (gam0 5 ds) mu) : Prom P w K mg base 17 f 1 sp__law_places := by
  obtain ⟨fd, Fd⟩ := Fd
  exact fn_dlT Fd sc__law_places rfl rfl (fun _ _ _ _ _ _ us hl => match us, hl with | [_], _ => rfl) ar (fun cdv A outer s H Ex hr => der__law_places T E cdv A outer s H Ex hr) pure
def t__law_order_holds : DS := dSeq (dAsg (dBin gIx (dVar 1) (dVar 2)) (dTupG 3 (gsCons (dName 6) (gsCons (dName 7) (gsCons (dName 8) (gsNil)))))) (dSeq (dAsg (dBin gIx (dVar 1) (dVar 3)) (dTupG 3 (gsCons (dName 9) (gsCons (dName 10) (gsCons (dName 11) (gsNil)))))) (dSeq (dIfS (dCT (gEq 6) (dVar 6) (dVar 9)) (dRet (dBin gLe (dVar 7) (dVar 10))) (dNext)) (dSeq (dSet 4 (dC (.bl false))) (dSeq (dFor (iSeq (dSlice 0 (dVar 0) (dPart (dVar 8)) (dPart (dVar 11)))) (dName 5) (dSeq (dIfS (dCT (gEq 6) (dVar 5) (dTup (dCons (dC (.str "flush")) (dCons (dVar 6) (dNil))))) (dSet 4 (dC (.bl true))) (dNext)) (dIfS (dAnd (dCT (gEq 6) (dVar 5) (dTup (dCons (dC (.str "fence")) (dNil)))) (dTru (dVar 4))) (dRet (dC (.bl true))) (dNext)))) (dRet (dC (.bl false)))))))
theorem der__law_order_holds (T : Tx K mg) (E : EqAll P w K mg base 6) {f : Addr} (cdv : Value) (A : Around) (outer : List Env) (s : Shared) (H : Hp) (Ex : XK) (hr : Room 16 (A.deeper (envOfC "_law_order_holds" (defScope s__law_order_holds) s.heap.objs.size f cdv))) : PSs (cxOf (L2.CX P w) P w K mg base ["_law_commands", "_law_some", "_law_first", "_law_last", "_law_is_flushed", "_law_command_here", "_law_line", "_law_number", "_law_begin", "_law_other", "_law_number_there", "_law_end"] "_law_order_holds" (defScope s__law_order_holds) f cdv A outer s H Ex) (defBody s__law_order_holds) (liftS K (fun cls d _ H => Ex cls d H) t__law_order_holds) :=
  ds_cons (ds_asg (d_ix (d_var 1) (d_var 2)) (dg_tup rfl (dgs_cons (dg_name 6 (sc__law_order_holds).nd) (dgs_cons (dg_name 7 (sc__law_order_holds).nd) (dgs_cons (dg_name 8 (sc__law_order_holds).nd) (dgs_nil)))))) (ds_cons (ds_asg (d_ix (d_var 1) (d_var 3)) (dg_tup rfl (dgs_cons (dg_name 9 (sc__law_order_holds).nd) (dgs_cons (dg_name 10 (sc__law_order_holds).nd) (dgs_cons (dg_name 11 (sc__law_order_holds).nd) (dgs_nil)))))) (ds_cons (ds_if (d_cmpT (o_eq 6 E (hr.mono (by first | decide | exact Nat.le_refl _))) (d_var 6) (d_var 9)) (ds_one (ds_ret (d_cmp o_le (d_var 7) (d_var 10)))) (ds_nil)) (ds_cons (ds_set 4 (sc__law_order_holds).nd (d_bl)) (ds_cons (ds_for (passes_of rfl) rfl (di_seq (d_slice 0 (d_var 0) (do_some (d_var 8)) (do_some (d_var 11)))) (dg_name 5 (sc__law_order_holds).nd) (ds_cons (ds_if (d_cmpT (o_eq 6 E (hr.mono (by first | decide | exact Nat.le_refl _))) (d_var 5) (d_tup (da_cons (d_str) (da_cons (d_var 6) (da_nil))))) (ds_one (ds_set 4 (sc__law_order_holds).nd (d_bl))) (ds_nil)) (ds_one (ds_if (PW.pt (d_and (d_cmpT (o_eq 6 E (hr.mono (by first | decide | exact Nat.le_refl _))) (d_var 5) (d_tup (da_cons (d_str) (da_nil)))) (d_and1 (d_tru (d_var 4))))) (ds_one (ds_ret (d_bl))) (ds_nil))))) (ds_one (ds_ret (d_bl)))))))
theorem ok__law_order_holds (T : Tx K mg) (E : EqAll P w K mg base 6) {f : Addr} (Fd : ∃ fd, FunD K "_law_order_holds" "_law_order_holds" (defArgs s__law_order_holds) (defBody s__law_order_holds) (defScope s__law_order_holds) [] [] f fd) (ar : ∀ ds mu P' F, sp__law_order_holds ds mu P' F → ds.length = 4) (pure : ∀ ds mu P' F, sp__law_order_holds ds mu P' F → t__law_order_holds (endF P' F) (gam0 12 ds) mu) : Prom P w K mg base 17 f 4 sp__law_order_holds := by
  obtain ⟨fd, Fd⟩ := Fd
  exact fn_dl Fd sc__law_order_holds rfl rfl (fun _ _ _ _ _ _ us hl => match us, hl with | [_, _, _, _], _ => rfl) ar (fun cdv A outer s H Ex hr => der__law_order_holds T E cdv A outer s H Ex hr) pure
def t__law_by_rule : DS := dSeq (dSet 1 (dCall sp__law_places (dCons (dVar 0) (dNil)))) (dSeq (dSet 2 (dLst 1 (dNil))) (dSeq (dFor (iR1 (dCons (dCB bLen (dCons (dVar 1) (dNil))) (dNil))) (dName 3) (dFor (iR1 (dCons (dCB bLen (dCons (dVar 1) (dNil))) (dNil))) (dName 4) (dIfS (dAnd (dCT (gNe 6) (dVar 3) (dVar 4)) (dTru (dCall sp__law_order_holds (dCons (dVar 0) (dCons (dVar 1) (dCons (dVar 3) (dCons (dVar 4) (dNil)))))))) (dDrop (dMtd gAppend (dVar 2) (dCons (dTup (dCons (dVar 3) (dCons (dVar 4) (dNil)))) (dNil)))) (dNext)))) (dRet (dVar 2))))
theorem der__law_by_rule (T : Tx K mg) (F__law_places : Prom P w K mg base 17 (He.ga K "_law_places") 1 sp__law_places) (F__law_order_holds : Prom P w K mg base 17 (He.ga K "_law_order_holds") 4 sp__law_order_holds) (E : EqAll P w K mg base 6) {f : Addr} (cdv : Value) (A : Around) (outer : List Env) (s : Shared) (H : Hp) (Ex : XK) (hr : Room 17 (A.deeper (envOfC "_law_by_rule" (defScope s__law_by_rule) s.heap.objs.size f cdv))) : PSs (cxOf (L2.CX P w) P w K mg base ["_law_commands", "_law_some", "_law_result", "_law_first", "_law_last"] "_law_by_rule" (defScope s__law_by_rule) f cdv A outer s H Ex) (defBody s__law_by_rule) (liftS K (fun cls d _ H => Ex cls d H) t__law_by_rule) :=
  ds_cons (ds_set 1 (sc__law_by_rule).nd (d_call F__law_places (hr.mono (by decide)) T.g__law_places (takes_of rfl rfl rfl rfl) (da_cons (d_var 0) (da_nil)))) (ds_cons (ds_set 2 (sc__law_by_rule).nd (d_lst 1 (da_nil))) (ds_cons (ds_for (passes_of rfl) rfl (di_range1 T.f_range (da_cons (d_callB b_len T.f_len (by decide +kernel) (da_cons (d_var 1) (da_nil))) (da_nil))) (dg_name 3 (sc__law_by_rule).nd) (ds_one (ds_for (passes_of rfl) rfl (di_range1 T.f_range (da_cons (d_callB b_len T.f_len (by decide +kernel) (da_cons (d_var 1) (da_nil))) (da_nil))) (dg_name 4 (sc__law_by_rule).nd) (ds_one (ds_if (PW.pt (d_and (d_cmpT (o_ne 6 E (hr.mono (by first | decide | exact Nat.le_refl _))) (d_var 3) (d_var 4)) (d_and1 (d_tru (d_call F__law_order_holds (hr.mono (by decide)) T.g__law_order_holds (takes_of rfl rfl rfl rfl) (da_cons (d_var 0) (da_cons (d_var 1) (da_cons (d_var 3) (da_cons (d_var 4) (da_nil)))))))))) (ds_one (ds_expr (d_mtd PySem.F.plainAttrs_list PySem.F.slot_list_append PySem.F.type_list_append m_append (d_var 2) (da_cons (d_tup (da_cons (d_var 3) (da_cons (d_var 4) (da_nil)))) (da_nil))))) (ds_nil)))))) (ds_one (ds_ret (d_var 2)))))
theorem ok__law_by_rule (T : Tx K mg) (F__law_places : Prom P w K mg base 17 (He.ga K "_law_places") 1 sp__law_places) (F__law_order_holds : Prom P w K mg base 17 (He.ga K "_law_order_holds") 4 sp__law_order_holds) (E : EqAll P w K mg base 6) {f : Addr} (Fd : ∃ fd, FunD K "_law_by_rule" "_law_by_rule" (defArgs s__law_by_rule) (defBody s__law_by_rule) (defScope s__law_by_rule) [] [] f fd) (ar : ∀ ds mu P' F, sp__law_by_rule ds mu P' F → ds.length = 1) (pure : ∀ ds mu P' F, sp__law_by_rule ds mu P' F → t__law_by_rule (endT mu P' F) (gam0 5 ds) mu) : Prom P w K mg base 18 f 1 sp__law_by_rule := by
  obtain ⟨fd, Fd⟩ := Fd
  exact fn_dlT Fd sc__law_by_rule rfl rfl (fun _ _ _ _ _ _ us hl => match us, hl with | [_], _ => rfl) ar (fun cdv A outer s H Ex hr => der__law_by_rule T F__law_places F__law_order_holds E cdv A outer s H Ex hr) pure
def t__law_by_images : DS := dSeq (dPar2 3 4 (dCons (dCall sp__law_places (dCons (dVar 1) (dNil))) (dCons (dCall sp__law_images (dCons (dVar 0) (dCons (dVar 1) (dNil)))) (dNil)))) (dSeq (dSet 2 (dLst 1 (dNil))) (dSeq (dFor (iEnA (dCons (dVar 3) (dNil))) (dTupG 2 (gsCons (dName 5) (gsCons (dTupG 3 (gsCons (dName 6) (gsCons (dName 7) (gsCons (dName 8) (gsNil))))) (gsNil)))) (dFor (iEnA (dCons (dVar 3) (dNil))) (dTupG 2 (gsCons (dName 9) (gsCons (dTupG 3 (gsCons (dName 11) (gsCons (dName 12) (gsCons (dName 13) (gsNil))))) (gsNil)))) (dSeq (dSet 10 (dLc 0 (iSeq (dVar 4)) (dName 14) (dAnd (dCT gGe (dBin gIx (dVar 14) (dVar 11)) (dVar 12)) (dCT gLt (dBin gIx (dVar 14) (dVar 6)) (dVar 7))) (dVar 14) [14])) (dIfS (dAnd (dCT (gNe 6) (dVar 5) (dVar 9)) (dCT (gEq 6) (dVar 10) (dLst 0 (dNil)))) (dDrop (dMtd gAppend (dVar 2) (dCons (dTup (dCons (dVar 5) (dCons (dVar 9) (dNil)))) (dNil)))) (dNext))))) (dRet (dVar 2))))
theorem der__law_by_images (T : Tx K mg) (F__law_images : Prom P w K mg base 18 (He.ga K "_law_images") 2 sp__law_images) (F__law_places : Prom P w K mg base 17 (He.ga K "_law_places") 1 sp__law_places) (E : EqAll P w K mg base 6) {f : Addr} (cdv : Value) (A : Around) (outer : List Env) (s : Shared) (H : Hp) (Ex : XK) (hr : Room 18 (A.deeper (envOfC "_law_by_images" (defScope s__law_by_images) s.heap.objs.size f cdv))) : PSs (cxOf (L2.CX P w) P w K mg base ["_law_sizes", "_law_commands", "_law_result", "_law_some", "_law_images_here", "_law_first", "_law_line", "_law_number", "_law_begin", "_law_last", "_law_broken_by", "_law_other", "_law_number_there", "_law_end", "_law_image"] "_law_by_images" (defScope s__law_by_images) f cdv A outer s H Ex) (defBody s__law_by_images) (liftS K (fun cls d _ H => Ex cls d H) t__law_by_images) :=
  ds_cons (ds_par2 3 4 rfl (sc__law_by_images).nd (da_cons (d_call F__law_places (hr.mono (by decide)) T.g__law_places (takes_of rfl rfl rfl rfl) (da_cons (d_var 1) (da_nil))) (da_cons (d_call F__law_images (hr.mono (by decide)) T.g__law_images (takes_of rfl rfl rfl rfl) (da_cons (d_var 0) (da_cons (d_var 1) (da_nil)))) (da_nil)))) (ds_cons (ds_set 2 (sc__law_by_images).nd (d_lst 1 (da_nil))) (ds_cons (ds_for (passes_of rfl) rfl (di_enumA T.f_enumerate (da_cons (d_var 3) (da_nil))) (dg_tup rfl (dgs_cons (dg_name 5 (sc__law_by_images).nd) (dgs_cons (dg_tup rfl (dgs_cons (dg_name 6 (sc__law_by_images).nd) (dgs_cons (dg_name 7 (sc__law_by_images).nd) (dgs_cons (dg_name 8 (sc__law_by_images).nd) (dgs_nil))))) (dgs_nil)))) (ds_one (ds_for (passes_of rfl) rfl (di_enumA T.f_enumerate (da_cons (d_var 3) (da_nil))) (dg_tup rfl (dgs_cons (dg_name 9 (sc__law_by_images).nd) (dgs_cons (dg_tup rfl (dgs_cons (dg_name 11 (sc__law_by_images).nd) (dgs_cons (dg_name 12 (sc__law_by_images).nd) (dgs_cons (dg_name 13 (sc__law_by_images).nd) (dgs_nil))))) (dgs_nil)))) (ds_cons (ds_setLc 0 10 rfl (sc__law_by_images).nd (di_seq (d_var 4)) (blkOk_by (own := [("_law_image", 14)]) (by show blkC ["_law_sizes", "_law_commands", "_law_result", "_law_some", "_law_images_here", "_law_first", "_law_line", "_law_number", "_law_begin", "_law_last", "_law_broken_by", "_law_other", "_law_number_there", "_law_end", "_law_image"] (defScope s__law_by_images) _ [("_law_image", 14)] = true; decide +kernel)) (fun _ _ _ _ _ => dw_name 14 (sc__law_by_images).nd) (fun _ _ _ _ _ => dts_one (PW.pt (d_and (d_cmpT o_ge (d_ix (d_var 14) (d_var 11)) (d_var 12)) (d_and1 (d_cmpT o_lt (d_ix (d_var 14) (d_var 6)) (d_var 7)))))) (fun _ _ _ _ _ => d_var 14)) (ds_one (ds_if (PW.pt (d_and (d_cmpT (o_ne 6 E (hr.mono (by first | decide | exact Nat.le_refl _))) (d_var 5) (d_var 9)) (d_and1 (d_cmpT (o_eq 6 E (hr.mono (by first | decide | exact Nat.le_refl _))) (d_var 10) (d_lst 0 (da_nil)))))) (ds_one (ds_expr (d_mtd PySem.F.plainAttrs_list PySem.F.slot_list_append PySem.F.type_list_append m_append (d_var 2) (da_cons (d_tup (da_cons (d_var 5) (da_cons (d_var 9) (da_nil)))) (da_nil))))) (ds_nil))))))) (ds_one (ds_ret (d_var 2)))))
theorem ok__law_by_images (T : Tx K mg) (F__law_images : Prom P w K mg base 18 (He.ga K "_law_images") 2 sp__law_images) (F__law_places : Prom P w K mg base 17 (He.ga K "_law_places") 1 sp__law_places) (E : EqAll P w K mg base 6) {f : Addr} (Fd : ∃ fd, FunD K "_law_by_images" "_law_by_images" (defArgs s__law_by_images) (defBody s__law_by_images) (defScope s__law_by_images) [] [] f fd) (ar : ∀ ds mu P' F, sp__law_by_images ds mu P' F → ds.length = 2) (pure : ∀ ds mu P' F, sp__law_by_images ds mu P' F → t__law_by_images (endT mu P' F) (gam0 15 ds) mu) : Prom P w K mg base 19 f 2 sp__law_by_images := by
  obtain ⟨fd, Fd⟩ := Fd
  exact fn_dlT Fd sc__law_by_images rfl rfl (fun _ _ _ _ _ _ us hl => match us, hl with | [_, _], _ => rfl) ar (fun cdv A outer s H Ex hr => der__law_by_images T F__law_images F__law_places E cdv A outer s H Ex hr) pure
def t__law_again_holds : DS := dSeq (dPar2 3 4 (dCons (dCall sp__law_program (dCons (dVar 0) (dCons (dVar 1) (dNil)))) (dCons (dCall sp__law_by_rule (dCons (dVar 1) (dNil))) (dNil)))) (dSeq (dSet 2 (dCall sp_orders (dCons (dVar 3) (dNil)))) (dSeq (dIfS (dCT (gNe 6) (dVar 2) (dVar 4)) (dRet (dC (.bl false))) (dNext)) (dSeq (dDrop (dMtd gReverse (dVar 2) dNil)) (dSeq (dDrop (dMtd gAppend (dVar 2) (dCons (dC .non) (dNil)))) (dRet (dBin (gEq 6) (dCall sp_orders (dCons (dVar 3) (dNil))) (dVar 4)))))))
theorem der__law_again_holds (T : Tx K mg) (F__law_by_rule : Prom P w K mg base 18 (He.ga K "_law_by_rule") 1 sp__law_by_rule) (F__law_program : Prom P w K mg base 18 (He.ga K "_law_program") 2 sp__law_program) (F_orders : Prom P w K mg base 18 (He.ga K "orders") 1 sp_orders) (E : EqAll P w K mg base 6) {f : Addr} (cdv : Value) (A : Around) (outer : List Env) (s : Shared) (H : Hp) (Ex : XK) (hr : Room 18 (A.deeper (envOfC "_law_again_holds" (defScope s__law_again_holds) s.heap.objs.size f cdv))) : PSs (cxOf (L2.CX P w) P w K mg base ["_law_sizes", "_law_commands", "_law_found", "_law_program_here", "_law_expected"] "_law_again_holds" (defScope s__law_again_holds) f cdv A outer s H Ex) (defBody s__law_again_holds) (liftS K (fun cls d _ H => Ex cls d H) t__law_again_holds) :=
  ds_cons (ds_par2 3 4 rfl (sc__law_again_holds).nd (da_cons (d_call F__law_program (hr.mono (by decide)) T.g__law_program (takes_of rfl rfl rfl rfl) (da_cons (d_var 0) (da_cons (d_var 1) (da_nil)))) (da_cons (d_call F__law_by_rule (hr.mono (by decide)) T.g__law_by_rule (takes_of rfl rfl rfl rfl) (da_cons (d_var 1) (da_nil))) (da_nil)))) (ds_cons (ds_set 2 (sc__law_again_holds).nd (d_call F_orders (hr.mono (by decide)) T.g_orders (takes_of rfl rfl rfl rfl) (da_cons (d_var 3) (da_nil)))) (ds_cons (ds_if (d_cmpT (o_ne 6 E (hr.mono (by first | decide | exact Nat.le_refl _))) (d_var 2) (d_var 4)) (ds_one (ds_ret (d_bl))) (ds_nil)) (ds_cons (ds_expr (d_mtd0 PySem.F.plainAttrs_list PySem.F.slot_list_reverse PySem.F.type_list_reverse m_reverse (d_var 2))) (ds_cons (ds_expr (d_mtd PySem.F.plainAttrs_list PySem.F.slot_list_append PySem.F.type_list_append m_append (d_var 2) (da_cons (d_non) (da_nil)))) (ds_one (ds_ret (d_cmp (o_eq 6 E (hr.mono (by first | decide | exact Nat.le_refl _))) (d_call F_orders (hr.mono (by decide)) T.g_orders (takes_of rfl rfl rfl rfl) (da_cons (d_var 3) (da_nil))) (d_var 4))))))))
theorem ok__law_again_holds (T : Tx K mg) (F__law_by_rule : Prom P w K mg base 18 (He.ga K "_law_by_rule") 1 sp__law_by_rule) (F__law_program : Prom P w K mg base 18 (He.ga K "_law_program") 2 sp__law_program) (F_orders : Prom P w K mg base 18 (He.ga K "orders") 1 sp_orders) (E : EqAll P w K mg base 6) {f : Addr} (Fd : ∃ fd, FunD K "_law_again_holds" "_law_again_holds" (defArgs s__law_again_holds) (defBody s__law_again_holds) (defScope s__law_again_holds) [] [] f fd) (ar : ∀ ds mu P' F, sp__law_again_holds ds mu P' F → ds.length = 2) (pure : ∀ ds mu P' F, sp__law_again_holds ds mu P' F → t__law_again_holds (endT mu P' F) (gam0 5 ds) mu) : Prom P w K mg base 19 f 2 sp__law_again_holds := by
  obtain ⟨fd, Fd⟩ := Fd
  exact fn_dlT Fd sc__law_again_holds rfl rfl (fun _ _ _ _ _ _ us hl => match us, hl with | [_, _], _ => rfl) ar (fun cdv A outer s H Ex hr => der__law_again_holds T F__law_by_rule F__law_program F_orders E cdv A outer s H Ex hr) pure
def t_law (x0 : D) (ns0 : List Int) (gl : GL) (gx : G2) (gsl : GS) (gs : G2) : DS := dSeq (dFor (iSeq (dBin (gAdd 0) (dLst 0 (dCons (dCall (sp__law_cell x0 ns0) (dCons (dVar 0) (dCons (dC (.int 0)) (dNil)))) (dNil))) (dSlG gsl (dVar 0) (dPart (dC (.int 1))) (dPart (dC (.int 2)))))) (dName 1) (dSeq (dSet 2 (dCall sp__law_rng (dCons (dVar 1) (dNil)))) (dSeq (dSet 3 (dCall sp__law_random_sizes (dCons (dVar 2) (dCons (dC (.int 3)) (dCons (dC (.int 2)) (dNil)))))) (dSeq (dSet 4 (dCall sp__law_random_commands (dCons (dVar 2) (dCons (dVar 3) (dCons (dC (.int 11)) (dNil)))))) (dSeq (dSet 6 (dCall sp_orders (dCons (dCall sp__law_program (dCons (dVar 3) (dCons (dVar 4) (dNil)))) (dNil)))) (dSeq (dIfS (dOr (dNot (dTru (gIsi isLst noCl (dVar 6)))) (dOr (dCT (gNe 6) (dVar 6) (dCall sp__law_by_images (dCons (dVar 3) (dCons (dVar 4) (dNil))))) (dCT (gNe 6) (dVar 6) (dCall sp__law_by_rule (dCons (dVar 4) (dNil)))))) (dRet (dC (.bl false))) (dNext)) (dSeq (dSet 3 (dCall sp__law_random_sizes (dCons (dVar 2) (dCons (dC (.int 6)) (dCons (dC (.int 4)) (dNil)))))) (dSeq (dSet 4 (dCall sp__law_random_commands (dCons (dVar 2) (dCons (dVar 3) (dCons (dC (.int 60)) (dNil)))))) (dIfS (dNot (dTru (dCall sp__law_again_holds (dCons (dVar 3) (dCons (dVar 4) (dNil)))))) (dRet (dC (.bl false))) (dNext)))))))))) (dSeq (dSet 2 (dCall sp__law_rng (dCons (dBin (gAdd 0) (dCall (sp__law_cell x0 ns0) (dCons (dVar 0) (dCons (dC (.int 0)) (dNil)))) (dC (.int 3))) (dNil)))) (dSeq (dSet 3 (dBin (gMul 0) (dLst 0 (dCons (dC (.int 1)) (dNil))) (dBin (gAdd 0) (dC (.int 1)) (dCall sp__law_draw (dCons (dVar 2) (dCons (dC (.int 6)) (dNil))))))) (dSeq (dSet 4 (dLst 1 (dNil))) (dSeq (dFor (iR1 (dCons (dBin (gAdd 0) (dC (.int 100)) (dCall sp__law_draw (dCons (dVar 2) (dCons (dC (.int 101)) (dNil))))) (dNil))) (dName 5) (dDrop (dMtd gAppend (dVar 4) (dCons (dCall sp__law_random_command (dCons (dVar 2) (dCons (dVar 3) (dNil)))) (dNil))))) (dRet (dCall sp__law_again_holds (dCons (dVar 3) (dCons (dVar 4) (dNil)))))))))
theorem der_law (T : Tx K mg) {x0 : D} {ns0 : List Int} {gl : GL} {gx : G2} {gsl : GS} (SR : ScrR K gl gx gsl) (F__law_cell : Prom P w K mg base 2 (He.ga K "_law_cell") 2 (sp__law_cell x0 ns0)) (F__law_rng : Prom P w K mg base 2 (He.ga K "_law_rng") 1 sp__law_rng) (F__law_random_sizes : Prom P w K mg base 3 (He.ga K "_law_random_sizes") 3 sp__law_random_sizes) (F__law_random_commands : Prom P w K mg base 18 (He.ga K "_law_random_commands") 3 sp__law_random_commands) (F_orders : Prom P w K mg base 18 (He.ga K "orders") 1 sp_orders) (F__law_program : Prom P w K mg base 18 (He.ga K "_law_program") 2 sp__law_program) (F__law_by_rule : Prom P w K mg base 18 (He.ga K "_law_by_rule") 1 sp__law_by_rule) (F__law_by_images : Prom P w K mg base 19 (He.ga K "_law_by_images") 2 sp__law_by_images) (F__law_again_holds : Prom P w K mg base 19 (He.ga K "_law_again_holds") 2 sp__law_again_holds) (F__law_draw : Prom P w K mg base 2 (He.ga K "_law_draw") 2 sp__law_draw) (F__law_random_command : Prom P w K mg base 17 (He.ga K "_law_random_command") 2 sp__law_random_command) {gs : G2} (hos : ∀ (X : Cx) (W : WX), X.K = K → OpS X (binaryOp .Add) (liftR X.K W gs)) (E : EqAll P w K mg base 6) {f : Addr} (cdv : Value) (A : Around) (outer : List Env) (s : Shared) (H : Hp) (Ex : XK) (hr : Room 19 (A.deeper (envOfC "law" (defScope s_law) s.heap.objs.size f cdv))) : PSs (cxOf (L2.CX P w) P w K mg base ["_law_script", "_law_cell_here", "_law_rng_here", "_law_sizes", "_law_commands", "_law_index", "_law_found"] "law" (defScope s_law) f cdv A outer s H Ex) (defBody s_law) (liftS K (fun cls d _ H => Ex cls d H) (t_law x0 ns0 gl gx gsl gs)) :=
  ds_cons (ds_for (passes_of rfl) rfl (di_seq (d_bin (o_add (m := 0)) (d_lst 0 (da_cons (d_call F__law_cell (hr.mono (by decide)) T.g__law_cell (takes_of rfl rfl rfl rfl) (da_cons (d_var 0) (da_cons (d_int) (da_nil)))) (da_nil))) (SR.sl _ _ rfl _ _ _ _ _ _ _ _ (d_var 0) (do_some (d_int)) (do_some (d_int))))) (dg_name 1 (sc_law).nd) (ds_cons (ds_set 2 (sc_law).nd (d_call F__law_rng (hr.mono (by decide)) T.g__law_rng (takes_of rfl rfl rfl rfl) (da_cons (d_var 1) (da_nil)))) (ds_cons (ds_set 3 (sc_law).nd (d_call F__law_random_sizes (hr.mono (by decide)) T.g__law_random_sizes (takes_of rfl rfl rfl rfl) (da_cons (d_var 2) (da_cons (d_int) (da_cons (d_int) (da_nil)))))) (ds_cons (ds_set 4 (sc_law).nd (d_call F__law_random_commands (hr.mono (by decide)) T.g__law_random_commands (takes_of rfl rfl rfl rfl) (da_cons (d_var 2) (da_cons (d_var 3) (da_cons (d_int) (da_nil)))))) (ds_cons (ds_set 6 (sc_law).nd (d_call F_orders (hr.mono (by decide)) T.g_orders (takes_of rfl rfl rfl rfl) (da_cons (d_call F__law_program (hr.mono (by decide)) T.g__law_program (takes_of rfl rfl rfl rfl) (da_cons (d_var 3) (da_cons (d_var 4) (da_nil)))) (da_nil)))) (ds_cons (ds_if (PW.pt (d_or (d_not (d_tru (d_isi T.isF T.isi_list T.f_isinstance (d_var 6) (pe_bltn (v := .ty "list") rfl T.f_list (by decide +kernel) rfl) (.ty "list")))) (d_or (d_cmpT (o_ne 6 E (hr.mono (by first | decide | exact Nat.le_refl _))) (d_var 6) (d_call F__law_by_images (hr.mono (by decide)) T.g__law_by_images (takes_of rfl rfl rfl rfl) (da_cons (d_var 3) (da_cons (d_var 4) (da_nil))))) (d_or1 (d_cmpT (o_ne 6 E (hr.mono (by first | decide | exact Nat.le_refl _))) (d_var 6) (d_call F__law_by_rule (hr.mono (by decide)) T.g__law_by_rule (takes_of rfl rfl rfl rfl) (da_cons (d_var 4) (da_nil)))))))) (ds_one (ds_ret (d_bl))) (ds_nil)) (ds_cons (ds_set 3 (sc_law).nd (d_call F__law_random_sizes (hr.mono (by decide)) T.g__law_random_sizes (takes_of rfl rfl rfl rfl) (da_cons (d_var 2) (da_cons (d_int) (da_cons (d_int) (da_nil)))))) (ds_cons (ds_set 4 (sc_law).nd (d_call F__law_random_commands (hr.mono (by decide)) T.g__law_random_commands (takes_of rfl rfl rfl rfl) (da_cons (d_var 2) (da_cons (d_var 3) (da_cons (d_int) (da_nil)))))) (ds_one (ds_if (d_not (d_tru (d_call F__law_again_holds (hr.mono (by decide)) T.g__law_again_holds (takes_of rfl rfl rfl rfl) (da_cons (d_var 3) (da_cons (d_var 4) (da_nil)))))) (ds_one (ds_ret (d_bl))) (ds_nil))))))))))) (ds_cons (ds_set 2 (sc_law).nd (d_call F__law_rng (hr.mono (by decide)) T.g__law_rng (takes_of rfl rfl rfl rfl) (da_cons (d_bin (o_add (m := 0)) (d_call F__law_cell (hr.mono (by decide)) T.g__law_cell (takes_of rfl rfl rfl rfl) (da_cons (d_var 0) (da_cons (d_int) (da_nil)))) (d_int)) (da_nil)))) (ds_cons (ds_set 3 (sc_law).nd (d_bin (o_mul (m := 0)) (d_lst 0 (da_cons (d_int) (da_nil))) (d_bin (o_add (m := 0)) (d_int) (d_call F__law_draw (hr.mono (by decide)) T.g__law_draw (takes_of rfl rfl rfl rfl) (da_cons (d_var 2) (da_cons (d_int) (da_nil))))))) (ds_cons (ds_set 4 (sc_law).nd (d_lst 1 (da_nil))) (ds_cons (ds_for (passes_of rfl) rfl (di_range1 T.f_range (da_cons (d_bin (o_add (m := 0)) (d_int) (d_call F__law_draw (hr.mono (by decide)) T.g__law_draw (takes_of rfl rfl rfl rfl) (da_cons (d_var 2) (da_cons (d_int) (da_nil))))) (da_nil))) (dg_name 5 (sc_law).nd) (ds_one (ds_expr (d_mtd PySem.F.plainAttrs_list PySem.F.slot_list_append PySem.F.type_list_append m_append (d_var 4) (da_cons (d_call F__law_random_command (hr.mono (by decide)) T.g__law_random_command (takes_of rfl rfl rfl rfl) (da_cons (d_var 2) (da_cons (d_var 3) (da_nil)))) (da_nil)))))) (ds_one (ds_ret (d_call F__law_again_holds (hr.mono (by decide)) T.g__law_again_holds (takes_of rfl rfl rfl rfl) (da_cons (d_var 3) (da_cons (d_var 4) (da_nil))))))))))
end
end LW

/-! part N1 -/
namespace LW
open PySem PySem.Spec PyProof.Rows L2 DL DQ DX DZ
theorem set_self {mu : Sto} {j : Nat} {m m' : MO} (h : mu[j]? = some m) : (mu.set j m')[j]? = some m' := List.getElem?_set_self (List.getElem?_eq_some_iff.mp h).1
theorem set_id {mu : Sto} {n : Nat} {m : MO} (h : mu[n]? = some m) : mu.set n m = mu := by
  apply List.ext_getElem?
  intro i
  by_cases hi : i = n
  · subst hi
    rw [set_self h, h]
  · rw [List.getElem?_set_ne (fun z => hi z.symm)]
theorem seqE {t u : DS} {E : DEnds} {ga : Gam} {mu : Sto} (ga2 : Gam) (mu2 : Sto) (h1 : ∀ N : Gam → Sto → Prop, N ga2 mu2 → t { E with nx := N } ga mu) (h2 : u E ga2 mu2) : dSeq t u E ga mu := h1 _ h2
/-! ### data -/
theorem iL_nil : iL [] = [] := rfl
theorem iL_cons (x : Int) (a : List Int) : iL (x :: a) = .int x :: iL a := rfl
theorem eqL_int : ∀ (a b : List Int), eqL (iL a) (iL b) = some (decide (a = b))
  | [], [] => by rw [iL_nil, eqL] <;> simp
  | [], _ :: _ => by rw [iL_nil, iL_cons, eqL] <;> simp
  | _ :: _, [] => by rw [iL_nil, iL_cons, eqL] <;> simp
  | x :: a, y :: b => by
    rw [iL_cons, iL_cons, eqL, eqD, eqL_int a b]
    by_cases h : x = y
    · subst h
      simp
    · have e : (x == y) = false := by simpa using h
      rw [e]
      simp [h]
theorem dp_int (x : Int) : dp (.int x) = 0 := by simp [dp]
theorem dp_str (x : Str) : dp (.str x) = 0 := by simp [dp]
theorem dpL_int : ∀ a : List Int, dpL (iL a) = 0
  | [] => by rw [iL_nil, dpL]
  | x :: a => by rw [iL_cons, dpL, dp_int, dpL_int a] <;> rfl
theorem npL_int : ∀ a : List Int, npL (iL a)
  | [] => trivial
  | _ :: a => ⟨trivial, npL_int a⟩
theorem cut_to {l : List D} (k : Nat) (h : k ≤ l.length) : DL.cutD l none (some (k : Int)) = l.take k := by
  unfold DL.cutD
  rw [HT.sIx_none, HT.sIx_nat, List.drop_zero, Nat.sub_zero, Nat.min_eq_left h]
theorem cut_from {l : List D} (k : Nat) (h : k ≤ l.length) : DL.cutD l (some (k : Int)) none = l.drop k := by
  unfold DL.cutD
  rw [HT.sIx_none, HT.sIx_nat, Nat.min_eq_left h, List.take_of_length_le (by rw [List.length_drop] <;> exact Nat.le_refl _)]
theorem dp_tup (l : List D) : dp (.tup l) = dpL l + 1 := by rw [dp]
theorem dp_lst (l : List D) : dp (.lst l) = dpL l + 1 := by rw [dp]
theorem dp_obj (c : Nat) (l : List D) : dp (.obj c l) = dpL l + 2 := by rw [dp]
theorem eqD_tup (l r : List D) : eqD (.tup l) (.tup r) = eqL l r := by rw [eqD]
theorem eqD_lst (l r : List D) : eqD (.lst l) (.lst r) = eqL l r := by rw [eqD]
theorem eqL_one (a b : D) : eqL [a] [b] = eqD a b := by
  rw [eqL]
  cases eqD a b with
  | none => rfl
  | some t =>
    cases t with
    | true => rw [eqL]
    | false => rfl
theorem gEqV {d e : D} {mu : Sto} {P : KX} {F : KD} {b : Bool} (hd : np d) (he : np e) (hp : dp d ≤ 6) (h : eqD d e = some b) : gEq 6 d e mu P F = F (.bl b) mu := by
  show (dp (dr mu d) ≤ 6 ∧ _) = _
  simp only [dr_np hd, dr_np he, hp, h, true_and]
theorem gNeV {d e : D} {mu : Sto} {P : KX} {F : KD} {b : Bool} (hd : np d) (he : np e) (hp : dp d ≤ 6) (h : eqD d e = some b) : gNe 6 d e mu P F = F (.bl (!b)) mu := by
  show (dp (dr mu d) ≤ 6 ∧ _) = _
  simp only [dr_np hd, dr_np he, hp, h, true_and]
theorem gEqI (i j : Int) {mu : Sto} {P : KX} {F : KD} : gEq 6 (.int i) (.int j) mu P F = F (.bl (i == j)) mu := gEqV (d := .int i) (e := .int j) trivial trivial (by rw [dp_int]; exact Nat.zero_le _) (by rw [eqD])
theorem gNeI (i j : Int) {mu : Sto} {P : KX} {F : KD} : gNe 6 (.int i) (.int j) mu P F = F (.bl (!(i == j))) mu := gNeV (d := .int i) (e := .int j) trivial trivial (by rw [dp_int]; exact Nat.zero_le _) (by rw [eqD])
theorem atI_nat {l : List D} {j : Nat} (h : j < l.length) : L2.atI l (j : Int) = some l[j] := by
  unfold L2.atI L2.ixN
  rw [if_pos (by omega), if_pos (by omega)]
  simp [h]
theorem atI_int {ns : List Int} {j : Nat} (h : j < ns.length) : L2.atI (iL ns) (j : Int) = some (.int ns[j]) := by
  unfold L2.atI L2.ixN
  rw [if_pos (by omega), if_pos (by rw [List.length_map]; omega)]
  simp [h]
theorem ixN_nat {l : List D} {j : Nat} (h : j < l.length) : L2.ixN l.length (j : Int) = some j := by
  unfold L2.ixN
  rw [if_pos (by omega), if_pos (by omega)] <;> simp
theorem iL_set (ns : List Int) (j : Nat) (v : Int) : (iL ns).set j (.int v) = iL (ns.set j v) := by simp [List.map_set]
theorem iL_app (a : List Int) (x : Int) : iL a ++ [D.int x] = iL (a ++ [x]) := by simp
/-! ### the store -/
theorem app_get {mu : Sto} {n : Nat} {m : MO} (h : mu[n]? = some m) (e : Sto) : (mu ++ e)[n]? = some m := by
  rw [List.getElem?_append_left (List.getElem?_eq_some_iff.mp h).1]
  exact h
theorem last_get (mu : Sto) (x : MO) {k : Nat} (h : k = mu.length) : (mu ++ [x])[k]? = some x := by
  subst h
  rw [List.getElem?_append_right (Nat.le_refl _), Nat.sub_self] <;> rfl
theorem last_set (mu : Sto) (x y : MO) {k : Nat} (h : k = mu.length) : (mu ++ [x]).set k y = mu ++ [y] := by
  subst h
  rw [List.set_append_right _ _ (Nat.le_refl _), Nat.sub_self] <;> rfl
theorem app_set {mu : Sto} {n : Nat} {m : MO} (h : mu[n]? = some m) (e : Sto) (y : MO) : (mu ++ e).set n y = mu.set n y ++ e := by
  rw [List.set_append_left _ _ (List.getElem?_eq_some_iff.mp h).1]
theorem sv_app {mu : Sto} {x : D} {l : List D} (h : sv mu x = some l) (e : Sto) : sv (mu ++ e) x = some l := by
  cases x with
  | ptr n =>
    cases q : mu[n]? with
    | none => simp [sv, q] at h
    | some m =>
      simp only [sv, q] at h
      simp only [sv, app_get q]
      exact h
  | _ => exact h
/-! ### the source -/
theorem src_set (mu : Sto) (n : Nat) (a b c a' b' c' : Int) : (mu.set n (src a b c)).set n (src a' b' c') = mu.set n (src a' b' c') := List.set_set ..
theorem tabs_src {mu : Sto} {n : Nat} (h : srcOk mu n) (a b c : Int) : tabsOf (mu.set n (src a b c)) = tabsOf mu := by
  obtain ⟨x, y, z, e⟩ := h
  exact tabsOf_set rfl e rfl
theorem pure_Thing_facts (ds : List D) (mu : Sto) (P' : KX) (F : KD) (h : spFacts 3 ds mu P' F) : t_Thing_facts (endF P' F) (gam0 1 ds) mu := by
  obtain ⟨l, rfl, hl, h⟩ := h
  have e : l = [] := List.eq_nil_of_length_eq_zero hl.2
  subst e
  exact ⟨⟨by decide, trivial⟩, h⟩
theorem pure_kind {c : Nat} {x : Str} (hx : knd c = x) (ds : List D) (mu : Sto) (P' : KX) (F : KD) (h : spKind c ds mu P' F) : (dRet (dC (.str x))) (endF P' F) (gam0 1 ds) mu := by
  obtain ⟨l, rfl, h⟩ := h
  subst hx
  exact h
theorem ar_kind {c : Nat} (ds : List D) (mu : Sto) (P' : KX) (F : KD) (h : spKind c ds mu P' F) : ds.length = 1 := by
  obtain ⟨l, rfl, _⟩ := h
  rfl
theorem ar_facts {c : Nat} (ds : List D) (mu : Sto) (P' : KX) (F : KD) (h : spFacts c ds mu P' F) : ds.length = 1 := by
  obtain ⟨l, rfl, _⟩ := h
  rfl
theorem ar_init {c n : Nat} (ds : List D) (mu : Sto) (P' : KX) (F : KD) (h : spInit c n ds mu P' F) : ds.length = n + 1 := by
  obtain ⟨j, l, rfl, hl, _⟩ := h
  rw [List.length_cons, hl]
section
variable {P : Program} {w : World} {K : PySem.W.Frag} {mg : Str → Option Value} {base : Heap} {k : Nat}
theorem mk_plain {c n : Nat} {f : Addr} (M : Mk K (He.ga K (cn c)) f) (ck : ClsOk K c) (hn : (fn c).length = n) (PR : Prom P w K mg base k f (n + 1) (spInit c n)) : MkOk P w K mg base k c n (gObj c n) := by
  refine ⟨f, _, true, M, ck, PR, fun ds mu P' F h => ?_⟩
  obtain ⟨⟨hl, hp⟩, h⟩ := h
  refine ⟨mu.length, ds, rfl, hl, last_get mu _ rfl, ?_⟩
  rw [last_set mu _ _ rfl]
  exact ⟨rfl, mu, ds, Trim.same mu _, last_get mu _ rfl, hp, by rw [hl, hn], h⟩
end
theorem pure_Memory_facts (ds : List D) (mu : Sto) (P' : KX) (F : KD) (h : spFacts 0 ds mu P' F) : t_Memory_facts (endF P' F) (gam0 1 ds) mu := by
  obtain ⟨l, rfl, ⟨hn, hl⟩, h⟩ := h
  match l, hl, hn, h with
  | [a], _, hn, h =>
    simp [t_Memory_facts, dRet, dTup, dCons, dNil, dFld, dVar, fldK, ix_sizes, gam0, endF]
    exact ⟨hn, h⟩
theorem pure_Store_facts (ds : List D) (mu : Sto) (P' : KX) (F : KD) (h : spFacts 1 ds mu P' F) : t_Store_facts (endF P' F) (gam0 1 ds) mu := by
  obtain ⟨l, rfl, ⟨hn, hl⟩, h⟩ := h
  match l, hl, hn, h with
  | [a, b, c], _, hn, h =>
    simp [t_Store_facts, dRet, dTup, dCons, dNil, dFld, dVar, fldK, ix_line, ix_word, ix_number, gam0, endF]
    exact ⟨hn, h⟩
theorem pure_Store___init__ (ds : List D) (mu : Sto) (P' : KX) (F : KD) (h : spInit 1 3 ds mu P' F) : t_Store___init__ (endF P' F) (gam0 4 ds) mu := by
  obtain ⟨j, args, rfl, hl, hj, h⟩ := h
  match args, hl, h with
  | [a, b, c], _, h =>
    simp [t_Store___init__, dSeq, dPut, dVar, ix_line, ix_word, ix_number, gam0, endF, hj, set_self hj, set_self (set_self hj)]
    exact h
theorem pure_Flush_facts (ds : List D) (mu : Sto) (P' : KX) (F : KD) (h : spFacts 2 ds mu P' F) : t_Flush_facts (endF P' F) (gam0 1 ds) mu := by
  obtain ⟨l, rfl, ⟨hn, hl⟩, h⟩ := h
  match l, hl, hn, h with
  | [a], _, hn, h =>
    simp [t_Flush_facts, dRet, dTup, dCons, dNil, dFld, dVar, fldK, ix_line, gam0, endF]
    exact ⟨hn, h⟩
theorem pure_Flush___init__ (ds : List D) (mu : Sto) (P' : KX) (F : KD) (h : spInit 2 1 ds mu P' F) : t_Flush___init__ (endF P' F) (gam0 2 ds) mu := by
  obtain ⟨j, args, rfl, hl, hj, h⟩ := h
  match args, hl, h with
  | [a], _, h =>
    simp [t_Flush___init__, dSeq, dPut, dVar, ix_line, gam0, endF, hj]
    exact h
theorem pure_Program_facts (ds : List D) (mu : Sto) (P' : KX) (F : KD) (h : spFacts 4 ds mu P' F) : t_Program_facts (endF P' F) (gam0 1 ds) mu := by
  obtain ⟨l, rfl, ⟨hn, hl⟩, h⟩ := h
  match l, hl, hn, h with
  | [a, b], _, hn, h =>
    simp [t_Program_facts, dRet, dTup, dCons, dNil, dFld, dVar, fldK, ix_memory, ix_commands, gam0, endF]
    exact ⟨hn, h⟩
theorem pure_Box_facts (ds : List D) (mu : Sto) (P' : KX) (F : KD) (h : spFacts 6 ds mu P' F) : t_Box_facts (endF P' F) (gam0 1 ds) mu := by
  obtain ⟨l, rfl, ⟨hn, hl⟩, h⟩ := h
  match l, hl, hn, h with
  | [a, b, c], _, hn, h =>
    simp [t_Box_facts, dRet, dTup, dCons, dNil, dFld, dVar, fldK, ix_time, ix_low, ix_high, gam0, endF]
    exact ⟨hn, h⟩

theorem knd_all : ∀ c : Fin 18, ∀ c' : Fin 18, thg c.1 = true → thg c'.1 = true → knd c.1 = knd c'.1 → c.1 = c'.1 := by decide +kernel
theorem knd_inj {c c' : Nat} (h : thg c = true) (h' : thg c' = true) (e : knd c = knd c') : c = c' := knd_all ⟨c, thg_lt h⟩ ⟨c', thg_lt h'⟩ h h' e
theorem pure_Thing___eq__ (n : Nat) (ds : List D) (mu : Sto) (P' : KX) (F : KD) (h : spEqD (n + 1) ds mu P' F) : t_Thing___eq__ n (endF P' F) (gam0 2 ds) mu := by
  obtain ⟨c, l, e, b, rfl, ⟨oc, oe⟩, th, hn, he, h⟩ := h
  have no : ∀ t, kdD mu e = some (.inl t) → b = false → t_Thing___eq__ n (endF P' F) (gam0 2 [.obj c l, e]) mu := fun t hk hb => by
    subst hb
    simp [t_Thing___eq__, dSeq, dIfS, dOr, dNot, dTru, gIsi, dVar, gam0, truK, hk, noTy, dRet, dC, endF]
    exact h
  cases e with
  | adr a => simp [dr, eqD] at he
  | err a d c l => simp [dr, eqD] at he
  | non =>
    simp [dr, eqD] at he
    exact no _ rfl he.2
  | bl x =>
    simp [dr, eqD] at he
    exact no _ rfl he.2
  | int x =>
    simp [dr, eqD] at he
    exact no _ rfl he.2
  | str x =>
    simp [dr, eqD] at he
    exact no _ rfl he.2
  | tup x =>
    simp [dr, eqD] at he
    exact no _ rfl he.2
  | lst x =>
    simp [dr, eqD] at he
    exact no _ rfl he.2
  | ptr m =>
    cases q : mu[m]? with
    | none =>
      have e1 : dr mu (.ptr m) = .ptr m := by simp only [dr, q]
      rw [e1, eqD] at he
      cases he
    | some mo =>
      cases mo with
      | lst x =>
        have e1 : dr mu (.ptr m) = .lst x := by simp only [dr, q]
        rw [e1] at he
        simp [eqD] at he
        exact no "list" (by simp [kdD, q]) he.2
      | _ =>
        have e1 : dr mu (.ptr m) = .ptr m := by simp only [dr, q]
        rw [e1, eqD] at he
        cases he
  | obj c' r =>
    have he' : eqD (.obj c l) (.obj c' r) = some b := he
    rw [eqD] at he'
    split at he'
    · rename_i t2
      have hc' := thg_lt t2.2
      simp [t_Thing___eq__, dSeq, dIfS, dOr, dNot, dTru, gIsi, dVar, gam0, truK, kdD, hc', t2.2, dRet, dC, endF, dCT, dBin, gNe, gEq, dMeth, clsD, mt_kind, mt_facts, t2.1, dNil, spKind, spFacts, dr, eqD, dp, dNext]
      by_cases hcc : c = c'
      · subst hcc
        rw [if_pos rfl] at he'
        rw [dp] at hn
        simp [he', oc, oe]
        exact ⟨by omega, h⟩
      · rw [if_neg hcc] at he'
        cases he'
        have hk : ¬ knd c = knd c' := fun z => hcc (knd_inj t2.1 t2.2 z)
        simp [hk]
        exact h
    · cases he'
end LW

/-! part N2 -/
namespace LW
open PySem PySem.Spec PyProof.Rows L2 DL DQ DX DZ
theorem sv_setI {mu : Sto} {j c : Nat} {x : D} {l l0 l' : List D} (hj : mu[j]? = some (.ins c l0)) (h : sv mu x = some l) (c' : Nat) : sv (mu.set j (.ins c' l')) x = some l := by
  cases x with
  | ptr n =>
    by_cases e : n = j
    · subst e
      simp [sv, hj] at h
    · have e2 : (mu.set j (MO.ins c' l'))[n]? = mu[n]? := List.getElem?_set_ne (fun z => e z.symm)
      simp only [sv, e2]
      exact h
  | _ => exact h
theorem atI_i {ns : List Int} {a : Int} (h0 : 0 ≤ a) (h1 : a < ns.length) : L2.atI (iL ns) a = some (.int (ns.getD a.toNat 0)) := by
  obtain ⟨k, rfl⟩ := Int.eq_ofNat_of_zero_le h0
  have hk : k < ns.length := by omega
  have e : (ns.getD (Int.toNat (k : Int)) 0) = ns[k] := by simp [hk]
  rw [atI_int hk, e]
theorem ixN_i {l : List D} {a : Int} (h0 : 0 ≤ a) (h1 : a < l.length) : L2.ixN l.length a = some a.toNat := by
  obtain ⟨k, rfl⟩ := Int.eq_ofNat_of_zero_le h0
  rw [ixN_nat (by omega)]
  rfl
section
variable {P : Program} {w : World} {K : PySem.W.Frag} {mg : Str → Option Value} {base : Heap} {k : Nat}
theorem mk_Memory {f : Addr} (M : Mk K (He.ga K (cn 0)) f) (ck : ClsOk K 0) (PR : Prom P w K mg base k f 2 sp_Memory___init__) : MkOk P w K mg base k 0 1 g_Memory := by
  refine ⟨f, _, true, M, ck, PR, fun ds mu P' F h => ?_⟩
  obtain ⟨x, ns, rfl, hx, ok, h⟩ := h
  refine ⟨mu.length, x, ns, rfl, last_get mu _ rfl, sv_app hx _, ok, ?_⟩
  rw [last_set mu _ _ rfl]
  exact ⟨rfl, mu, _, Trim.same mu _, last_get mu _ rfl, ⟨trivial, trivial⟩, rfl, h⟩
theorem mk_Program {f : Addr} (M : Mk K (He.ga K (cn 4)) f) (ck : ClsOk K 4) (PR : Prom P w K mg base k f 3 sp_Program___init__) : MkOk P w K mg base k 4 2 g_Program := by
  refine ⟨f, _, true, M, ck, PR, fun ds mu P' F h => ?_⟩
  obtain ⟨x, ns, cs, rfl, hx, ok, h⟩ := h
  refine ⟨mu.length, x, ns, cs, rfl, last_get mu _ rfl, sv_app hx _, ok, ?_⟩
  rw [last_set mu _ _ rfl]
  exact ⟨rfl, mu, _, Trim.same mu _, last_get mu _ rfl, ⟨trivial, trivial, trivial⟩, rfl, h⟩
theorem mk_Counter {f : Addr} (M : Mk K (He.ga K (cn 5)) f) (ck : ClsOk K 5) (PR : Prom P w K mg base k f 2 sp_Counter___init__) : MkOk P w K mg base k 5 1 g_Counter := by
  refine ⟨f, _, false, M, ck, PR, fun ds mu P' F h => ?_⟩
  obtain ⟨ns, rfl, hl, h⟩ := h
  refine ⟨mu.length, ns, rfl, hl, last_get mu _ rfl, rfl, ?_⟩
  rw [last_set mu _ _ rfl]
  have e : (mu ++ [MO.ins 5 []]).length = mu.length + 1 := by simp
  rw [e]
  refine h _ _ ⟨_, mu.length + 1, mu.length + 1 + 1, mu.length + 1 + 2, by rw [List.append_assoc] <;> rfl, ⟨Nat.le_refl _, by omega, by omega, by omega⟩, ⟨by omega, by omega, by omega⟩, ?_, ?_, ?_, ?_⟩
  · rw [List.append_assoc, List.getElem?_append_right (Nat.le_refl _), Nat.sub_self] <;> rfl
  · rw [List.append_assoc, List.getElem?_append_right (by omega)]
    have : mu.length + 1 - mu.length = 1 := by omega
    rw [this] <;> rfl
  · rw [List.append_assoc, List.getElem?_append_right (by omega)]
    have : mu.length + 1 + 1 - mu.length = 2 := by omega
    rw [this] <;> rfl
  · rw [List.append_assoc, List.getElem?_append_right (by omega)]
    have : mu.length + 1 + 2 - mu.length = 3 := by omega
    rw [this] <;> rfl
end
/-! ### Memory -/
theorem for_sizes {E : DEnds} {mu : Sto} {u v : Option D} {t : List D} (hN : ∀ ga, E.nx ga mu) : ∀ (ns : List Int) (z : Option D), (∀ x ∈ ns, 1 ≤ x ∧ x ≤ 4) →
    forL (dName 2) (dIfS (dNot (dTest (dChain gLe gLe (dC (.int 1)) (dVar 2) (dC (.int 4))))) dNever dNext) E (okS (.tup t) t) (iL ns) [u, v, z] mu
  | [], z, _ => ⟨rfl, hN _⟩
  | x :: ns, z, h => by
    refine ⟨rfl, ?_⟩
    have hx := h x List.mem_cons_self
    have ih := for_sizes (u := u) (v := v) (t := t) hN ns (some (.int x)) fun y hy => h y (List.mem_cons_of_mem _ hy)
    simp only [dName, dIfS, dNot, dTest, dChain, gLe, gCmp, dC, dVar, List.set_cons_zero, List.set_cons_succ, List.getElem?_cons_zero, List.getElem?_cons_succ, decide_eq_true hx.1, decide_eq_true hx.2, if_true, Bool.not_true, Bool.false_eq_true, if_false, dNext]
    exact ih
theorem pure_Memory___init__ (ds : List D) (mu : Sto) (P' : KX) (F : KD) (h : sp_Memory___init__ ds mu P' F) : t_Memory___init__ (endF P' F) (gam0 3 ds) mu := by
  obtain ⟨j, x, ns, rfl, hj, hx, ⟨hl, hs⟩, h⟩ := h
  show t_Memory___init__ _ [some (.ptr j), some x, none] mu
  unfold t_Memory___init__
  have sj := set_self (m' := .ins 0 [D.tup (iL ns)]) hj
  have l1 : decide ((1 : Int) ≤ ((iL ns).length : Nat)) = true := decide_eq_true (by rw [List.length_map]; omega)
  have l2 : decide (((iL ns).length : Int) ≤ 6) = true := decide_eq_true (by rw [List.length_map]; omega)
  simp only [dSeq, dPut, dVar, dCB, bTuple, dCons, dNil, List.getElem?_cons_zero, List.getElem?_cons_succ, hx, hj, ix_sizes, List.length_nil, if_true, List.nil_append, dIfS, dNot, dTest, dChain, gLe, gCmp, dC, bLen, szD, dFld, sj, fldK, l1, l2, Bool.not_true, Bool.false_eq_true, if_false, dNext, dFor, iSeq, pv_]
  exact ⟨_, rfl, for_sizes (fun _ => h) ns none hs⟩
theorem pure_Memory_check_line (ds : List D) (mu : Sto) (P' : KX) (F : KD) (h : sp_Memory_check_line ds mu P' F) : t_Memory_check_line (endF P' F) (gam0 2 ds) mu := by
  obtain ⟨ns, a, rfl, ⟨h0, h1⟩, h⟩ := h
  show t_Memory_check_line _ [some (Me ns), some (.int a)] mu
  unfold t_Memory_check_line
  have l2 : decide (a < ((iL ns).length : Nat)) = true := decide_eq_true (by rw [List.length_map]; exact h1)
  simp only [dIfS, dNot, dTest, dChain, gLe, gLt, gCmp, dC, dVar, dCB, bLen, dCons, dNil, dFld, fldK, ix_sizes, szD, List.getElem?_cons_zero, List.getElem?_cons_succ, decide_eq_true h0, l2, if_true, Bool.not_true, Bool.false_eq_true, if_false, dNext]
  exact h
theorem pure_Memory_check_word (ds : List D) (mu : Sto) (P' : KX) (F : KD) (h : sp_Memory_check_word ds mu P' F) : t_Memory_check_word (endF P' F) (gam0 3 ds) mu := by
  obtain ⟨ns, a, b, rfl, ⟨hl, h0, h1⟩, h⟩ := h
  show t_Memory_check_word _ [some (Me ns), some (.int a), some (.int b)] mu
  unfold t_Memory_check_word
  simp only [dSeq, dDrop, dMeth, dVar, dCons, dNil, clsD, mt_check_line, List.getElem?_cons_zero, List.getElem?_cons_succ]
  refine ⟨ns, a, rfl, hl, ?_⟩
  simp only [dIfS, dNot, dTest, dChain, gLe, gLt, gCmp, dC, dVar, dBin, gIx, pv_, dFld, fldK, ix_sizes, List.getElem?_cons_zero, List.getElem?_cons_succ, atI_i hl.1 hl.2, decide_eq_true h0, decide_eq_true h1, if_true, Bool.not_true, Bool.false_eq_true, if_false, dNext]
  exact h
theorem pure_Command_check (ds : List D) (mu : Sto) (P' : KX) (F : KD) (h : sp_Command_check ds mu P' F) : t_Command_check (endF P' F) (gam0 2 ds) mu := by
  obtain ⟨x, y, rfl, h⟩ := h
  exact h
theorem pure_Store_check (ds : List D) (mu : Sto) (P' : KX) (F : KD) (h : sp_Store_check ds mu P' F) : t_Store_check (endF P' F) (gam0 2 ds) mu := by
  obtain ⟨ns, a, b, c, rfl, hw, h⟩ := h
  show t_Store_check _ [some (Cmd.d (.st a b c)), some (Me ns)] mu
  unfold t_Store_check
  simp only [dDrop, dMeth, dVar, dCons, dNil, clsD, mt_check_word, Cmd.d, dFld, fldK, ix_line, ix_word, List.getElem?_cons_zero, List.getElem?_cons_succ]
  exact ⟨ns, a, b, rfl, hw, h⟩
theorem pure_Flush_check (ds : List D) (mu : Sto) (P' : KX) (F : KD) (h : sp_Flush_check ds mu P' F) : t_Flush_check (endF P' F) (gam0 2 ds) mu := by
  obtain ⟨ns, a, rfl, hw, h⟩ := h
  show t_Flush_check _ [some (Cmd.d (.fl a)), some (Me ns)] mu
  unfold t_Flush_check
  simp only [dDrop, dMeth, dVar, dCons, dNil, clsD, mt_check_line, Cmd.d, dFld, fldK, ix_line, List.getElem?_cons_zero, List.getElem?_cons_succ]
  exact ⟨ns, a, rfl, hw, h⟩
/-! ### Program -/
theorem for_check {E : DEnds} {mu : Sto} {ns : List Int} {t : List D} {u : Option D} (hN : ∀ ga, E.nx ga mu) : ∀ (cs : List Cmd) (z : Option D), (∀ c ∈ cs, c.ok ns) →
    forL (dName 2) (dDrop (dMeth mt_check (dVar 2) (dCons (dVar 0) dNil))) E (okS (.tup t) t) (cs.map Cmd.d) [some (Me ns), u, z] mu
  | [], z, _ => ⟨rfl, hN _⟩
  | c :: cs, z, h => by
    refine ⟨rfl, ?_⟩
    have hx := h c List.mem_cons_self
    have ih := for_check (u := u) (t := t) hN cs (some c.d) fun y hy => h y (List.mem_cons_of_mem _ hy)
    simp only [dName, dDrop, dMeth, dVar, dCons, dNil, List.set_cons_zero, List.set_cons_succ, List.getElem?_cons_zero, List.getElem?_cons_succ]
    cases c with
    | st a b n => exact ⟨ns, a, b, n, rfl, hx, ih⟩
    | fl a => exact ⟨ns, a, rfl, hx, ih⟩
    | fe => exact ⟨_, _, rfl, ih⟩
theorem pure_check_commands (ds : List D) (mu : Sto) (P' : KX) (F : KD) (h : sp_check_commands ds mu P' F) : t_check_commands (endF P' F) (gam0 3 ds) mu := by
  obtain ⟨ns, cs, rfl, hk, h⟩ := h
  show t_check_commands _ [some (Me ns), some (.tup (cs.map Cmd.d)), none] mu
  unfold t_check_commands
  exact ⟨_, rfl, for_check (fun _ => h) cs none hk.2⟩
theorem pure_Program___init__ (ds : List D) (mu : Sto) (P' : KX) (F : KD) (h : sp_Program___init__ ds mu P' F) : t_Program___init__ (endF P' F) (gam0 3 ds) mu := by
  obtain ⟨j, x, ns, cs, rfl, hj, hx, hk, h⟩ := h
  show t_Program___init__ _ [some (.ptr j), some (Me ns), some x] mu
  unfold t_Program___init__
  have s1 := set_self (m' := .ins 4 [Me ns]) hj
  have s2 := set_self (m' := .ins 4 [Me ns, .tup (cs.map Cmd.d)]) hj
  have hx2 := sv_setI (l' := [Me ns]) hj hx 4
  have ln : decide ((200 : Int) < ((cs.map Cmd.d).length : Nat)) = false := decide_eq_false (by rw [List.length_map]; have := hk.1; omega)
  simp only [dSeq, dPut, dVar, dCB, bTuple, dCons, dNil, List.getElem?_cons_zero, List.getElem?_cons_succ, hj, hx2, ix_memory, ix_commands, List.length_nil, List.length_cons, if_true, List.nil_append, s1, List.set_set, List.cons_append, s2, dIfS, dCT, dBin, gGt, gCmp, bLen, szD, dFld, fldK, dC, ln, Bool.false_eq_true, if_false, dNext, dDrop, dCall, Nat.zero_add]
  exact ⟨ns, cs, rfl, hk, h⟩
theorem eqD_Me (ns : List Int) : eqD (Me ns) (Me ns) = some true := by
  rw [eqD, if_pos ⟨rfl, rfl⟩, if_pos rfl, eqL_one, eqD_tup, eqL_int]
  simp
theorem dp_Me (ns : List Int) : dp (Me ns) = 3 := by
  rw [dp_obj, dpL, dp_tup, dpL_int, dpL]
  rfl
/-! ### Counter -/
theorem rep0 (n : Nat) : (List.replicate n [D.int 0]).flatten = iL (List.replicate n 0) := by
  induction n with
  | zero => rfl
  | succ n ih => rw [List.replicate_succ, List.flatten_cons, ih, List.replicate_succ] <;> rfl
theorem pure_Counter___init__ (ds : List D) (mu : Sto) (P' : KX) (F : KD) (h : sp_Counter___init__ ds mu P' F) : t_Counter___init__ (endF P' F) (gam0 2 ds) mu := by
  obtain ⟨j, ns, rfl, hl, hj, h⟩ := h
  show t_Counter___init__ _ [some (.ptr j), some (Me ns)] mu
  unfold t_Counter___init__
  have lv0 : ∀ (mu : Sto) (l : List D), lv mu (.lst l) = some l := fun _ _ => rfl
  have mk : ∀ (mu : Sto) (F : KD), F (.ptr mu.length) (mu ++ [.lst (iL (List.replicate ns.length 0))]) → gMul 1 (.lst [.int 0]) (.int ((iL ns).length : Nat)) mu P' F := fun mu F h => by
    refine ⟨_, rfl, ?_, ?_, ?_, ?_⟩
    · rw [List.length_map]; omega
    · rw [List.length_map]; omega
    · simp; omega
    · rw [List.length_map, Int.toNat_natCast, rep0]
      exact h
  have hjl := (List.getElem?_eq_some_iff.mp hj).1
  have g1 : (mu ++ [MO.lst (iL (List.replicate ns.length 0))])[j]? = some (.ins 5 []) := app_get hj _
  simp only [dSeq, dPut, dBin, dLst, dCons, dNil, dC, dVar, dCB, bLen, szD, dFld, fldK, ix_sizes, ix_made, ix_flushed, ix_sure, retL, npL, np, and_true, true_and, List.length_cons, List.length_nil, Nat.zero_add, List.getElem?_cons_zero, List.getElem?_cons_succ]
  refine ⟨by decide, mk _ _ ?_⟩
  simp only [g1, List.length_nil, if_true, List.nil_append]
  have e1 : (mu ++ [MO.lst (iL (List.replicate ns.length 0))]).set j (.ins 5 [.ptr mu.length]) = mu.set j (.ins 5 [.ptr mu.length]) ++ [.lst (iL (List.replicate ns.length 0))] := app_set hj _ _
  rw [e1]
  have hj1 : (mu.set j (.ins 5 [.ptr mu.length]))[j]? = some (MO.ins 5 [.ptr mu.length]) := set_self hj
  refine ⟨by decide, mk _ _ ?_⟩
  have g2 : ((mu.set j (.ins 5 [.ptr mu.length]) ++ [MO.lst (iL (List.replicate ns.length 0))]) ++ [MO.lst (iL (List.replicate ns.length 0))])[j]? = some (.ins 5 [.ptr mu.length]) := app_get (app_get hj1 _) _
  have l2 : (mu.set j (.ins 5 [D.ptr mu.length]) ++ [MO.lst (iL (List.replicate ns.length 0))]).length = mu.length + 1 := by simp
  simp only [g2, List.length_cons, List.length_nil, Nat.zero_add, if_true, l2, List.cons_append, List.nil_append]
  have e2 : ∀ y, ((mu.set j (.ins 5 [.ptr mu.length]) ++ [MO.lst (iL (List.replicate ns.length 0))]) ++ [MO.lst (iL (List.replicate ns.length 0))]).set j y = (mu.set j y ++ [MO.lst (iL (List.replicate ns.length 0))]) ++ [MO.lst (iL (List.replicate ns.length 0))] := fun y => by
    rw [app_set (app_get hj1 _), app_set hj1, List.set_set]
  rw [e2]
  have hj2 : ∀ y, (mu.set j y)[j]? = some y := fun y => set_self hj
  refine ⟨by decide, mk _ _ ?_⟩
  have g3 : ∀ y, (((mu.set j y ++ [MO.lst (iL (List.replicate ns.length 0))]) ++ [MO.lst (iL (List.replicate ns.length 0))]) ++ [MO.lst (iL (List.replicate ns.length 0))])[j]? = some y := fun y => app_get (app_get (app_get (hj2 y) _) _) _
  have l3 : ∀ y, ((mu.set j y ++ [MO.lst (iL (List.replicate ns.length 0))]) ++ [MO.lst (iL (List.replicate ns.length 0))]).length = mu.length + 2 := fun y => by simp
  simp only [g3, l3, List.length_cons, List.length_nil, Nat.zero_add, Nat.reduceAdd, if_true, List.cons_append, List.nil_append]
  have e3 : ∀ y z, (((mu.set j y ++ [MO.lst (iL (List.replicate ns.length 0))]) ++ [MO.lst (iL (List.replicate ns.length 0))]) ++ [MO.lst (iL (List.replicate ns.length 0))]).set j z = mu.set j z ++ [MO.lst (iL (List.replicate ns.length 0)), .lst (iL (List.replicate ns.length 0)), .lst (iL (List.replicate ns.length 0))] := fun y z => by
    rw [app_set (app_get (app_get (hj2 y) _) _), app_set (app_get (hj2 y) _), app_set (hj2 y), List.set_set]
    simp
  rw [e3]
  exact h

theorem go_len {n : Nat} {s : Cn} (h : CnOk n s) (c : Cmd) : CnOk n (s.go c) := by
  obtain ⟨h1, h2, h3⟩ := h
  cases c with
  | st a b c => exact ⟨by show (s.md.set _ _).length = n; rw [List.length_set]; exact h1, h2, h3⟩
  | fl a => exact ⟨h1, by show (s.fl.set _ _).length = n; rw [List.length_set]; exact h2, h3⟩
  | fe => exact ⟨h1, h2, h2⟩
theorem pure_Counter_do_command (ds : List D) (mu : Sto) (P' : KX) (F : KD) (h : sp_Counter_do_command ds mu P' F) : t_Counter_do_command (endF P' F) (gam0 2 ds) mu := by
  obtain ⟨B, j, ns, s, c, rfl, ⟨ext, p, q, r, rfl, ⟨bj, bp, bq, br⟩, ⟨npq, npr, nqr⟩, hj, hp, hq, hr⟩, ⟨⟨k1, k2, k3⟩, hc⟩, h⟩ := h
  show t_Counter_do_command _ [some (.ptr j), some c.d] _
  have njp : j ≠ p := fun e => by rw [e, hp] at hj; cases hj
  have njq : j ≠ q := fun e => by rw [e, hq] at hj; cases hj
  have njr : j ≠ r := fun e => by rw [e, hr] at hj; cases hj
  generalize hm : B ++ ext = mu at hj hp hq hr
  unfold t_Counter_do_command
  cases c with
  | st a b n =>
    obtain ⟨⟨h0, h1⟩, _⟩ := hc
    have e1 := atI_i (ns := s.md) h0 (by rw [k1]; exact h1)
    have e2 := ixN_i (l := iL s.md) h0 (by rw [List.length_map, k1]; exact h1)
    simp only [dIfS, dTru, gIsi, dVar, Cmd.d, kdD, noTy, truK, List.getElem?_cons_zero, List.getElem?_cons_succ, beq_self_eq_true, if_true, dAsg, dBin, dFld, hj, fldK, ix_made, ix_line, gIx, pv_, hp, e1, gAdd, dC, dSub]
    refine ⟨by decide, trivial, a.toNat, e2, ?_⟩
    rw [iL_set]
    refine h _ ⟨ext.set (p - B.length) (.lst (iL (s.md.set a.toNat (s.md.getD a.toNat 0 + 1)))), p, q, r, ?_, ⟨bj, bp, bq, br⟩, ⟨npq, npr, nqr⟩, ?_, set_self hp, ?_, ?_⟩
    · rw [← hm, List.set_append_right _ _ bp]
    · rw [List.getElem?_set_ne (Ne.symm njp)]; exact hj
    · rw [List.getElem?_set_ne npq]; exact hq
    · rw [List.getElem?_set_ne npr]; exact hr
  | fl a =>
    obtain ⟨h0, h1⟩ := hc
    have e1 := atI_i (ns := s.md) h0 (by rw [k1]; exact h1)
    have e2 := ixN_i (l := iL s.fl) h0 (by rw [List.length_map, k2]; exact h1)
    have n21 : ((2 : Nat) == 1) = false := rfl
    simp only [dIfS, dTru, gIsi, dVar, Cmd.d, kdD, noTy, truK, List.getElem?_cons_zero, List.getElem?_cons_succ, beq_self_eq_true, n21, Bool.false_eq_true, if_false, if_true, dAsg, dBin, dFld, hj, fldK, ix_made, ix_flushed, ix_line, gIx, pv_, hp, hq, e1, dSub]
    refine ⟨by decide, by decide, trivial, a.toNat, e2, ?_⟩
    rw [iL_set]
    refine h _ ⟨ext.set (q - B.length) (.lst (iL (s.fl.set a.toNat (s.md.getD a.toNat 0)))), p, q, r, ?_, ⟨bj, bp, bq, br⟩, ⟨npq, npr, nqr⟩, ?_, ?_, set_self hq, ?_⟩
    · rw [← hm, List.set_append_right _ _ bq]
    · rw [List.getElem?_set_ne (Ne.symm njq)]; exact hj
    · rw [List.getElem?_set_ne (Ne.symm npq)]; exact hp
    · rw [List.getElem?_set_ne nqr]; exact hr
  | fe =>
    have n31 : ((3 : Nat) == 1) = false := rfl
    have n32 : ((3 : Nat) == 2) = false := rfl
    have g1 : (mu ++ [MO.lst (iL s.fl)])[j]? = some (.ins 5 [.ptr p, .ptr q, .ptr r]) := app_get hj _
    simp only [dIfS, dTru, gIsi, dVar, Cmd.d, kdD, noTy, truK, List.getElem?_cons_zero, List.getElem?_cons_succ, n31, n32, Bool.false_eq_true, if_false, if_true, dPut, dCB, bList, dCons, dNil, dFld, hj, fldK, ix_flushed, ix_sure, sv, hq, retN, g1, List.length_cons, List.length_nil, Nat.reduceAdd, Nat.reduceEqDiff]
    refine ⟨by decide, by decide, by decide, ?_⟩
    have lp := (List.getElem?_eq_some_iff.mp hp).1
    have lq := (List.getElem?_eq_some_iff.mp hq).1
    have lj := (List.getElem?_eq_some_iff.mp hj).1
    have hB : B.length ≤ mu.length := by rw [← hm, List.length_append]; omega
    have st : (mu ++ [MO.lst (iL s.fl)]).set j (.ins 5 [.ptr p, .ptr q, .ptr mu.length]) = mu.set j (.ins 5 [.ptr p, .ptr q, .ptr mu.length]) ++ [.lst (iL s.fl)] := app_set hj _ _
    show F .non ((mu ++ [MO.lst (iL s.fl)]).set j (.ins 5 [.ptr p, .ptr q, .ptr mu.length]))
    rw [st]
    refine h _ ⟨ext.set (j - B.length) (.ins 5 [.ptr p, .ptr q, .ptr mu.length]) ++ [.lst (iL s.fl)], p, q, mu.length, ?_, ⟨bj, bp, bq, hB⟩, ⟨npq, by omega, by omega⟩, ?_, ?_, ?_, ?_⟩
    · rw [← List.append_assoc, ← List.set_append_right _ _ bj, hm]
    · exact app_get (set_self hj) _
    · exact app_get (by rw [List.getElem?_set_ne njp]; exact hp) _
    · exact app_get (by rw [List.getElem?_set_ne njq]; exact hq) _
    · exact last_get _ _ List.length_set.symm
theorem cn0_ok (n : Nat) : CnOk n (cn0 n) := ⟨List.length_replicate, List.length_replicate, List.length_replicate⟩

section
variable {P : Program} {w : World} {K : PySem.W.Frag} {mg : Str → Option Value} {base : Heap} {k : Nat}
theorem mk_Box {f : Addr} (M : Mk K (He.ga K (cn 6)) f) (ck : ClsOk K 6) (PR : Prom P w K mg base k f 4 sp_Box___init__) : MkOk P w K mg base k 6 3 g_Box := by
  refine ⟨f, _, true, M, ck, PR, fun ds mu P' F h => ?_⟩
  obtain ⟨t, x, y, lo, hi, rfl, hx, hy, h⟩ := h
  refine ⟨mu.length, t, x, y, lo, hi, rfl, last_get mu _ rfl, sv_app hx _, sv_app hy _, ?_⟩
  rw [last_set mu _ _ rfl]
  exact ⟨rfl, mu, _, Trim.same mu _, last_get mu _ rfl, ⟨trivial, trivial, trivial, trivial⟩, rfl, h⟩

end
theorem repT (n : Nat) : (List.replicate n [D.int 0]).flatten = iL (zs n) := rep0 n
theorem pure_Memory_zeros (ds : List D) (mu : Sto) (P' : KX) (F : KD) (h : sp_Memory_zeros ds mu P' F) : t_Memory_zeros (endF P' F) (gam0 1 ds) mu := by
  obtain ⟨ns, rfl, ⟨hn, _⟩, h⟩ := h
  show t_Memory_zeros _ [some (Me ns)] mu
  unfold t_Memory_zeros
  simp only [dRet, dBin, dTup, dCons, dNil, dC, dVar, dCB, bLen, szD, dFld, fldK, ix_sizes, npL, np, and_true, true_and, List.length_cons, List.length_nil, Nat.zero_add, List.getElem?_cons_zero, List.getElem?_cons_succ, gMul]
  refine ⟨by decide, by simp, by rw [List.length_map]; omega, by rw [List.length_map]; omega, by decide, ?_⟩
  rw [List.length_map, Int.toNat_natCast, repT]
  exact h
theorem sv_set {mu : Sto} {j c : Nat} {x : D} {l l0 l' : List D} (hj : mu[j]? = some (.ins c l0)) (h : sv mu x = some l) : sv (mu.set j (.ins c l')) x = some l := sv_setI hj h c
theorem pure_Box___init__ (ds : List D) (mu : Sto) (P' : KX) (F : KD) (h : sp_Box___init__ ds mu P' F) : t_Box___init__ (endF P' F) (gam0 4 ds) mu := by
  obtain ⟨j, t, x, y, lo, hi, rfl, hj, hx, hy, h⟩ := h
  show t_Box___init__ _ [some (.ptr j), some (.int t), some x, some y] mu
  unfold t_Box___init__
  have s1 : ∀ l, (mu.set j (MO.ins 6 l))[j]? = some (.ins 6 l) := fun l => set_self hj
  have x1 := sv_set (l' := [.int t]) hj hx
  have y1 := sv_set (l' := [.int t, tI lo]) hj hy
  simp only [dSeq, dPut, dVar, dCB, bTuple, dCons, dNil, List.getElem?_cons_zero, List.getElem?_cons_succ, hj, ix_time, ix_low, ix_high, List.length_nil, List.length_cons, if_true, List.nil_append, List.cons_append, s1, x1, y1, List.set_set, Nat.zero_add, Nat.reduceAdd]
  exact h

/-! ### the law's numbers -/








theorem log2_lt {m : Int} (h0 : 0 < m) (h : m < 2 ^ 64) : m.natAbs.log2 < 9000 := by
  have h1 : m.natAbs < 2 ^ 64 := by omega
  have h2 : m.natAbs ≠ 0 := by omega
  have := (Nat.log2_lt h2).mpr h1
  omega
theorem at0 (a b c : D) : L2.atI [a, b, c] 0 = some a := rfl
theorem at1 (a b c : D) : L2.atI [a, b, c] 1 = some b := rfl
theorem at2 (a b c : D) : L2.atI [a, b, c] 2 = some c := rfl
theorem il0 (a b c : D) : L2.ixN [a, b, c].length 0 = some 0 := rfl
theorem il2 (a b c : D) : L2.ixN [a, b, c].length 2 = some 2 := rfl
theorem pure__law_draw (ds : List D) (mu : Sto) (P' : KX) (F : KD) (h : sp__law_draw ds mu P' F) : t__law_draw (endF P' F) (gam0 4 ds) mu := by
  obtain ⟨n, many, rfl, hm, ⟨a, b, c, hs⟩, h⟩ := h
  have hmod : ∀ x : Int, 0 ≤ x % many ∧ x % many < many := fun x => ⟨Int.emod_nonneg _ (by omega), Int.emod_lt_of_pos _ hm.1⟩
  have hl := log2_lt hm.1 hm.2
  have s1 : ∀ l, (mu.set n (MO.lst l))[n]? = some (MO.lst l) := fun l => set_self hs
  unfold src at hs h
  have s2 : ∀ l l', (mu.set n (MO.lst l)).set n (MO.lst l') = mu.set n (.lst l') := fun l l' => List.set_set ..
  have pw : CPow 10 18 := by unfold CPow; decide
  have sm : ∀ i j : Int, (-(2 ^ 64) < j ∧ j < 2 ^ 64) → (((-(2 ^ 64) < i ∧ i < 2 ^ 64) ∨ (-(2 ^ 64) < j ∧ j < 2 ^ 64)) ∨ i.natAbs.log2 + j.natAbs.log2 < 1000000) := fun i j h => .inl (.inr h)
  show t__law_draw _ [some (.ptr n), some (.int many), none, none] mu
  unfold t__law_draw
  simp only [dSeq, dSet, dIfS, dCT, dBin, gIx, dVar, dC, dRet, dAsg, dSub, dNext, gPow, gMod, gDiv, gAdd, gMul, gI, gI0, gGe, gCmp, endF, List.getElem?_cons_zero, List.getElem?_cons_succ, List.set_cons_zero, List.set_cons_succ, np, true_and, pv_, hs, s1, s2, at0, at1, at2, il0, il2, Option.some.injEq, exists_eq_left', pw, hm.1, hl]
  by_cases hd : decide ((10 : Int) ^ Int.toNat 18 ≤ a) = true
  · rw [if_pos hd]
    exact h _ _ _ _ (hmod _).1 (hmod _).2
  · rw [if_neg hd]
    refine ⟨.inl (.inl (by decide)), .inl (.inr (by decide)), by decide, ⟨by decide, by decide +kernel⟩, .inl (.inl ?_), by decide, ⟨by decide, by decide +kernel⟩, by decide, .inl (.inr (by decide)), by decide, h _ _ _ _ (hmod _).1 (hmod _).2⟩
    omega
theorem pure__law_pick (ds : List D) (mu : Sto) (P' : KX) (F : KD) (h : sp__law_pick ds mu P' F) : t__law_pick (endF P' F) (gam0 2 ds) mu := by
  obtain ⟨n, l, rfl, hl, hs, h⟩ := h
  show t__law_pick _ [some (.ptr n), some (.lst l)] mu
  unfold t__law_pick
  simp only [dRet, dBin, dVar, dCall, dCons, dNil, dCB, bLen, szD, endF, List.getElem?_cons_zero, List.getElem?_cons_succ]
  refine ⟨n, _, rfl, ⟨by omega, by omega⟩, hs, fun r a b c h0 h1 => ?_⟩
  obtain ⟨k, rfl⟩ := Int.eq_ofNat_of_zero_le h0
  have hk : k < l.length := by omega
  have e : L2.atI l (k : Int) = some l[k] := by
    unfold L2.atI L2.ixN
    rw [if_pos h0, if_pos (by omega)]
    simp
  simp only [gIx, pv_, e]
  exact h _ _ _ _ (List.getElem_mem hk)
end LW

/-! part N3 -/
namespace LW
open PySem PySem.Spec PyProof.Rows L2 DL DQ DX DZ
/-! ### comprehensions that keep the store -/
theorem lc_filter {α : Type} {f : α → D} {p : α → Bool} {i : Nat} {T : DB} {ok : Sto → Prop} {ga : Gam} {G : List D → Sto → Prop} {mu : Sto} (hok : ok mu) (hi : i < ga.length) (hnp : ∀ x, np (f x)) (hT : ∀ x (F : Bool → Sto → Prop), F (p x) mu → T (ga.set i (some (f x))) mu (fun _ _ => False) F) :
    ∀ (l acc : List α), G ((acc ++ l.filter p).map f) mu → lcL 0 (dName i) T (dVar i) ok ga G (l.map f) (acc.map f) mu
  | [], acc, h => ⟨hok, by simpa using h⟩
  | x :: l, acc, h => by
    refine ⟨hok, ?_⟩
    have gi : (ga.set i (some (f x)))[i]? = some (some (f x)) := List.getElem?_set_self hi
    have ih := lc_filter (G := G) hok hi hnp hT l
    refine hT x _ ?_
    rw [List.filter_cons] at h
    cases q : p x with
    | true =>
      rw [if_pos rfl]
      rw [if_pos q] at h
      simp only [dVar, gi]
      refine ⟨hnp x, ?_⟩
      have e : acc.map f ++ [f x] = (acc ++ [x]).map f := by simp
      rw [e]
      refine ih _ ?_
      rw [List.append_assoc]
      exact h
    | false =>
      rw [if_neg (by decide)]
      rw [if_neg (by rw [q]; decide)] at h
      exact ih _ h
theorem lc_map {α : Type} {f g : α → D} {i : Nat} {e : DE} {ok : Sto → Prop} {ga : Gam} {G : List D → Sto → Prop} {mu : Sto} (hok : ok mu) (hnp : ∀ x, np (g x)) :
    ∀ (l : List α) (acc : List D), (∀ x ∈ l, ∀ F : KD, F (g x) mu → e (ga.set i (some (f x))) mu (fun _ _ => False) F) → G (acc ++ l.map g) mu → lcL 0 (dName i) dYes e ok ga G (l.map f) acc mu
  | [], acc, _, h => ⟨hok, by simpa using h⟩
  | x :: l, acc, he, h => by
    refine ⟨hok, ?_⟩
    have ih := lc_map (f := f) (g := g) (e := e) (G := G) (ga := ga) (i := i) hok hnp l (acc ++ [g x]) (fun y hy => he y (List.mem_cons_of_mem _ hy)) (by rw [List.append_assoc]; exact h)
    simp only [dName, dYes, if_true]
    exact he x List.mem_cons_self _ ⟨hnp x, ih⟩
theorem lv_pv {mu : Sto} {x : D} {l : List D} (h : lv mu x = some l) : pv_ mu x = some l := by
  cases x with
  | lst l' => exact h
  | ptr n =>
    cases q : mu[n]? with
    | none => simp [lv, q] at h
    | some m =>
      cases m with
      | lst l' =>
        simp only [lv, q] at h
        simp only [pv_, q]
        exact h
      | _ => simp [lv, q] at h
  | _ => cases h
theorem lv_sz {mu : Sto} {x : D} {l : List D} (h : lv mu x = some l) : szD mu x = some l.length := by
  cases x with
  | lst l' => cases h; rfl
  | ptr n =>
    cases q : mu[n]? with
    | none => simp [lv, q] at h
    | some m =>
      cases m with
      | lst l' =>
        simp only [lv, q] at h
        cases h
        simp only [szD, q]
      | _ => simp [lv, q] at h
  | _ => cases h
theorem lv_app {mu : Sto} {x : D} {l : List D} (h : lv mu x = some l) (e : Sto) : lv (mu ++ e) x = some l := by
  cases x with
  | lst l' => exact h
  | ptr n =>
    cases q : mu[n]? with
    | none => simp [lv, q] at h
    | some m =>
      simp only [lv, q] at h
      simp only [lv, app_get q]
      exact h
  | _ => cases h
/-- len(x) of a list -/
theorem len_lv {mu : Sto} {x : D} {l : List D} (h : lv mu x = some l) (F : KD) (hF : F (.int (l.length : Nat)) mu) : bLen [x] mu F := by
  have e := lv_sz h
  cases x with
  | lst l' =>
    cases h
    exact hF
  | ptr n =>
    show (match szD mu (.ptr n) with
      | some n => F (.int n) mu
      | none => False)
    rw [e]
    exact hF
  | _ => cases h
/-- x[lo:hi] of a list -/
theorem slice_d {mu : Sto} {ga : Gam} {i : Nat} {x : D} {l : List D} {lo hi : Option Int} {dl dh : DO} {P : KX} {F : KD} (hi' : ga[i]? = some (some x)) (h : lv mu x = some l) (hl : ∀ G : Option Int → Sto → Prop, G lo mu → dl ga mu P G) (hh : ∀ G : Option Int → Sto → Prop, G hi mu → dh ga mu P G) (hF : F (.lst (DL.cutD l lo hi)) mu) : dSlice 0 (dVar i) dl dh ga mu P F := by
  unfold dSlice
  simp only [dVar, hi']
  refine hl _ (hh _ ?_)
  cases x with
  | lst l' => exact ⟨_, h, hF⟩
  | ptr n => exact ⟨_, h, hF⟩
  | _ => cases h
/-! ### sizes -/


end LW

/-! part N4 -/
namespace LW
open PySem PySem.Spec PyProof.Rows L2 DL DQ DX DZ
/-! ### a counter and other cells -/
theorem CnAt.app {B S : Sto} {j : Nat} {s : Cn} (h : CnAt B S j s) (e : Sto) : CnAt B (S ++ e) j s := by
  obtain ⟨ext, p, q, r, rfl, h2, h3, hj, hp, hq, hr⟩ := h
  exact ⟨ext ++ e, p, q, r, by rw [List.append_assoc], h2, h3, app_get hj _, app_get hp _, app_get hq _, app_get hr _⟩
theorem CnAt.cell {mu S : Sto} {x y : MO} {j : Nat} {s : Cn} (h : CnAt (mu ++ [x]) S j s) : S[mu.length]? = some x ∧ CnAt (mu ++ [y]) (S.set mu.length y) j s := by
  obtain ⟨ext, p, q, r, rfl, ⟨b1, b2, b3, b4⟩, h3, hj, hp, hq, hr⟩ := h
  rw [List.length_append, List.length_cons, List.length_nil, Nat.zero_add] at b1 b2 b3 b4
  refine ⟨?_, ext, p, q, r, ?_, ⟨?_, ?_, ?_, ?_⟩, h3, ?_, ?_, ?_, ?_⟩
  · exact app_get (last_get mu x rfl) _
  · rw [app_set (last_get mu x rfl), last_set mu x y rfl]
  · rw [List.length_append, List.length_cons, List.length_nil, Nat.zero_add]; exact b1
  · rw [List.length_append, List.length_cons, List.length_nil, Nat.zero_add]; exact b2
  · rw [List.length_append, List.length_cons, List.length_nil, Nat.zero_add]; exact b3
  · rw [List.length_append, List.length_cons, List.length_nil, Nat.zero_add]; exact b4
  · rw [List.getElem?_set_ne (by omega)]; exact hj
  · rw [List.getElem?_set_ne (by omega)]; exact hp
  · rw [List.getElem?_set_ne (by omega)]; exact hq
  · rw [List.getElem?_set_ne (by omega)]; exact hr
theorem bx_app (l : List Bx3) (b : Bx3) : l.map bx ++ [bx b] = (l ++ [b]).map bx := by simp
def bodyB : DS := dSeq (dDrop (dMeth mt_do_command (dVar 3) (dCons (dVar 5) (dNil)))) (dIfS (dTru (gIsi noTy (fun c => c == 1) (dVar 5))) (dSeq (dSet 6 (dCB (bList 1) (dCons (dFld ix_sure (dVar 3)) (dNil)))) (dSeq (dAsg (dBin gIx (dFld ix_made (dVar 3)) (dFld ix_line (dVar 5))) (dSub (dVar 6) (dFld ix_line (dVar 5)))) (dDrop (dMtd gAppend (dVar 2) (dCons (dCall g_Box (dCons (dBin (gAdd 0) (dVar 4) (dC (.int 1))) (dCons (dVar 6) (dCons (dFld ix_made (dVar 3)) (dNil))))) (dNil)))))) (dNext))
theorem for_boxes {E : DEnds} {mu : Sto} {j : Nat} {ns : List Int} {l : List D} {z0 z1 : Option D} : ∀ (cs : List Cmd) (t : Nat) (s : Cn) (acc : List Bx3) (S : Sto) (z4 z5 z6 : Option D), CnAt (mu ++ [.lst (acc.map bx)]) S j s → CnOk ns.length s → (∀ c ∈ cs, c.ok ns) → acc.length + cs.length ≤ 1000 →
    (∀ S z4 z5 z6 s', CnAt (mu ++ [.lst ((acc ++ bxs t s cs).map bx)]) S j s' → E.nx [z0, z1, some (.ptr mu.length), some (.ptr j), z4, z5, z6] S) →
    forL (dTupG 2 (gsCons (dName 4) (gsCons (dName 5) gsNil))) bodyB E (okS (.tup l) l) (enF t (cs.map Cmd.d)) [z0, z1, some (.ptr mu.length), some (.ptr j), z4, z5, z6] S
  | [], t, s, acc, S, z4, z5, z6, hc, _, _, _, hN => ⟨rfl, hN _ _ _ _ _ (by rw [bxs, List.append_nil]; exact hc)⟩
  | c :: cs, t, s, acc, S, z4, z5, z6, hc, hk, ho, hl, hN => by
    refine ⟨rfl, ?_⟩
    have ih := for_boxes (E := E) (mu := mu) (j := j) (ns := ns) (l := l) (z0 := z0) (z1 := z1) cs (t + 1) (s.go c)
    rw [List.length_cons] at hl
    have hcl := ho c List.mem_cons_self
    have ho' : ∀ d ∈ cs, d.ok ns := fun d hd => ho d (List.mem_cons_of_mem _ hd)
    have hk' := go_len hk c
    obtain ⟨ext, p, q, r, e, h2, h3, hj, h4⟩ := id hc
    have cl : clsD S (.ptr j) = some 5 := by simp only [clsD, hj]
    show (dTupG 2 (gsCons (dName 4) (gsCons (dName 5) gsNil))) (.tup [.int (t : Nat), c.d]) [z0, z1, some (.ptr mu.length), some (.ptr j), z4, z5, z6] S E.ex (fun ga1 mu1 => bodyB { E with nx := forL (dTupG 2 (gsCons (dName 4) (gsCons (dName 5) gsNil))) bodyB E (okS (.tup l) l) (enF (t + 1) (cs.map Cmd.d)), ct := forL (dTupG 2 (gsCons (dName 4) (gsCons (dName 5) gsNil))) bodyB E (okS (.tup l) l) (enF (t + 1) (cs.map Cmd.d)), bk := E.nx } ga1 mu1)
    generalize forL (dTupG 2 (gsCons (dName 4) (gsCons (dName 5) gsNil))) bodyB E (okS (.tup l) l) (enF (t + 1) (cs.map Cmd.d)) = G at ih
    simp only [dTupG, tv, gsCons, gsNil, dName, List.length_cons, List.length_nil, true_and, List.set_cons_zero, List.set_cons_succ]
    unfold bodyB
    simp only [dSeq, dDrop, dMeth, dVar, dCons, dNil, cl, mt_do_command, List.getElem?_cons_zero, List.getElem?_cons_succ]
    refine ⟨_, j, ns, s, c, rfl, hc, ⟨hk, hcl⟩, fun S' hc' => ?_⟩
    clear cl hj h4 e
    clear h2 h3 p q r ext
    cases c with
    | fl a =>
      have n21 : ((2 : Nat) == 1) = false := rfl
      simp only [dIfS, dTru, gIsi, dVar, Cmd.d, kdD, noTy, truK, List.getElem?_cons_zero, List.getElem?_cons_succ, n21, Bool.false_eq_true, if_false, dNext]
      refine ⟨by decide, ih acc S' _ _ _ hc' hk' ho' (by omega) fun S z4 z5 z6 s' h => hN S z4 z5 z6 s' ?_⟩
      rw [bxs]
      exact h
    | fe =>
      have n31 : ((3 : Nat) == 1) = false := rfl
      simp only [dIfS, dTru, gIsi, dVar, Cmd.d, kdD, noTy, truK, List.getElem?_cons_zero, List.getElem?_cons_succ, n31, Bool.false_eq_true, if_false, dNext]
      refine ⟨by decide, ih acc S' _ _ _ hc' hk' ho' (by omega) fun S z4 z5 z6 s' h => hN S z4 z5 z6 s' ?_⟩
      rw [bxs]
      exact h
    | st a b n =>
      obtain ⟨⟨h0, h1⟩, _⟩ := hcl
      obtain ⟨k1, k2, k3⟩ := id hk'
      generalize hg : s.go (.st a b n) = s1 at *
      obtain ⟨ext, p, q, r, e, ⟨bj, bp, bq, br⟩, ⟨npq, npr, nqr⟩, hj, hp, hq, hr⟩ := id hc'
      have hL1 : (mu ++ [MO.lst (acc.map bx)]).length = mu.length + 1 := by simp
      have hL : (mu ++ [MO.lst (acc.map bx)]).length ≤ S'.length := by rw [e, List.length_append (bs := ext)]; exact Nat.le_add_right _ _
      have hL2 : mu.length < S'.length := by omega
      have c1 := hc'.app [.lst (iL s1.su)]
      have e1 := atI_i (ns := s1.md) h0 (by rw [k1]; exact h1)
      have e2 := ixN_i (l := iL s1.su) h0 (by rw [List.length_map, k3]; exact h1)
      have g1 : ∀ x, (S' ++ [x])[j]? = some (MO.ins 5 [.ptr p, .ptr q, .ptr r]) := fun x => app_get hj _
      have g2 : ∀ x, (S' ++ [x])[p]? = some (MO.lst (iL s1.md)) := fun x => app_get hp _
      have g3 : ∀ x : MO, (S' ++ [x])[S'.length]? = some x := fun x => last_get S' x rfl
      have g4 : ∀ x, (S' ++ [x])[mu.length]? = some (MO.lst (acc.map bx)) := fun x => app_get (CnAt.cell (y := x) hc').1 _
      simp only [dIfS, dTru, gIsi, dVar, Cmd.d, kdD, noTy, truK, List.getElem?_cons_zero, List.getElem?_cons_succ, beq_self_eq_true, if_true]
      refine ⟨by decide, ?_⟩
      simp only [dSeq, dSet, dCB, bList, dCons, dNil, dFld, dVar, hj, fldK, ix_sure, ix_made, ix_line, sv, hr, retN, List.getElem?_cons_zero, List.getElem?_cons_succ, List.set_cons_zero, List.set_cons_succ, dAsg, dBin, g1, gIx, pv_, g2, e1, dSub, g3]
      refine ⟨trivial, a.toNat, e2, ?_⟩
      rw [last_set S' _ _ rfl, iL_set]
      simp only [dDrop, dMtd, dVar, dCons, dNil, List.getElem?_cons_zero, List.getElem?_cons_succ, dCall, dBin, gAdd, dC, dFld, g1, fldK, ix_made]
      refine ⟨⟨_, rfl, .inl ⟨_, g4 _⟩⟩, _, _, _, s1.su.set a.toNat (s1.md.getD a.toNat 0), s1.md, rfl, ?_, ?_, ?_⟩
      · simp only [sv, g3]
      · simp only [sv, g2]
      simp only [gAppend, g4]
      refine ⟨⟨trivial, by rw [List.length_map]; omega⟩, ?_⟩
      rw [bx_app]
      have c2 := (CnAt.cell (y := .lst ((acc ++ [(((t : Nat) : Int) + 1, s1.su.set a.toNat (s1.md.getD a.toNat 0), s1.md)]).map bx)) (hc'.app [.lst (iL (s1.su.set a.toNat (s1.md.getD a.toNat 0)))])).2
      refine ih _ _ _ _ _ c2 hk' ho' (by rw [List.length_append, List.length_cons, List.length_nil]; omega) fun S z4 z5 z6 s' h => hN S z4 z5 z6 s' ?_
      rw [bxs, hg]
      rw [List.append_assoc] at h
      exact h
theorem iL_zs (n : Nat) : iL (zs n) = iL (zs n) := rfl
theorem enF_np (cs : List Cmd) : (cs.map Cmd.d).all npD = true := by
  rw [List.all_eq_true]
  intro d hd
  obtain ⟨c, _, rfl⟩ := List.mem_map.mp hd
  cases c <;> rfl
theorem pure_boxes_of (ds : List D) (mu : Sto) (P' : KX) (F : KD) (h : sp_boxes_of ds mu P' F) : t_boxes_of (endT mu P' F) (gam0 7 ds) mu := by
  obtain ⟨ns, cs, rfl, ⟨hn, hk⟩, h⟩ := h
  show t_boxes_of _ [some (Me ns), some (.tup (cs.map Cmd.d)), none, none, none, none, none] mu
  unfold t_boxes_of
  refine seqE [some (Me ns), some (.tup (cs.map Cmd.d)), some (.ptr mu.length), none, none, none, none] (mu ++ [.lst ([((0 : Int), zs ns.length, zs ns.length)].map bx)]) (fun N hN => ?_) ?_
  · simp only [dSet, dLst, dCons, dNil, dCall, dC, dMeth, dVar, clsD, mt_zeros, List.getElem?_cons_zero, List.getElem?_cons_succ, List.set_cons_zero, List.set_cons_succ]
    exact ⟨ns, rfl, hn, ns, rfl, hn, 0, _, _, zs ns.length, zs ns.length, rfl, rfl, rfl, by simp, ⟨trivial, trivial⟩, hN⟩
  simp only [dSeq, dSet, dCall, dCons, dNil, dVar, List.getElem?_cons_zero, List.getElem?_cons_succ, List.set_cons_zero, List.set_cons_succ]
  refine ⟨ns, rfl, hn.1.2, fun S j hc => ?_⟩
  simp only [dFor, iEnA, dCons, dNil, dVar, List.getElem?_cons_zero, List.getElem?_cons_succ]
  refine ⟨_, rfl, enF_np cs, ?_⟩
  refine for_boxes cs 0 _ [((0 : Int), zs ns.length, zs ns.length)] S none none none hc (cn0_ok _) hk.2 (by have := hk.1; rw [List.length_cons, List.length_nil]; omega) fun S z4 z5 z6 s' hc' => ?_
  simp only [dRet, dVar, List.getElem?_cons_zero, List.getElem?_cons_succ, endT]
  obtain ⟨ext, p, q, r, rfl, _⟩ := hc'
  have gl : ((mu ++ [MO.lst (([((0 : Int), zs ns.length, zs ns.length)] ++ bxs 0 (cn0 ns.length) cs).map bx)]) ++ ext)[mu.length]? = some (.lst ((allB ns.length cs).map bx)) := app_get (last_get mu _ rfl) _
  refine ⟨mu, .lst ((allB ns.length cs).map bx), by rw [List.append_assoc]; exact Trim.same mu _, ?_, h⟩
  simp only [frz, Nat.lt_irrefl, if_false, gl]
theorem pure_boxes (ds : List D) (mu : Sto) (P' : KX) (F : KD) (h : sp_boxes ds mu P' F) : t_boxes (endF P' F) (gam0 1 ds) mu := by
  obtain ⟨ns, cs, rfl, hk, h⟩ := h
  show t_boxes _ [some (Pr ns cs)] mu
  unfold t_boxes
  simp only [dRet, dCall, dCons, dNil, dFld, fldK, dVar, ix_memory, ix_commands, List.getElem?_cons_zero, List.getElem?_cons_succ]
  exact ⟨ns, cs, rfl, hk, h⟩
theorem bxs_len : ∀ (cs : List Cmd) (t : Nat) (s : Cn), (bxs t s cs).length ≤ cs.length
  | [], _, _ => Nat.le_refl _
  | c :: cs, t, s => by
    have := bxs_len cs (t + 1) (s.go c)
    rw [bxs]
    split
    · rw [List.length_cons, List.length_cons]; omega
    · rw [List.length_cons]; omega
theorem allB_len {ns : List Int} {cs : List Cmd} (h : csOk ns cs) (n : Nat) : (allB n cs).length ≤ 201 := by
  have := bxs_len cs 0 (cn0 n)
  have := h.1
  unfold allB
  rw [List.length_cons]
  omega

theorem cmd_np (c : Cmd) : np c.d := by cases c <;> trivial
theorem isSt_d (c : Cmd) {mu : Sto} {i : Nat} {ga : Gam} (hi : ga[i]? = some (some c.d)) (P : KX) (F : Bool → Sto → Prop) (hF : F (isSt c) mu) : dTru (gIsi noTy (fun c => c == 1) (dVar i)) ga mu P F := by
  simp only [dTru, gIsi, dVar, hi]
  cases c with
  | st a b n =>
    simp only [Cmd.d, kdD, noTy, truK, beq_self_eq_true]
    exact ⟨by decide, hF⟩
  | fl a =>
    have n21 : ((2 : Nat) == 1) = false := rfl
    simp only [Cmd.d, kdD, noTy, truK, n21]
    exact ⟨by decide, hF⟩
  | fe =>
    have n31 : ((3 : Nat) == 1) = false := rfl
    simp only [Cmd.d, kdD, noTy, truK, n31]
    exact ⟨by decide, hF⟩
theorem pure_stores (ds : List D) (mu : Sto) (P' : KX) (F : KD) (h : sp_stores ds mu P' F) : t_stores (endF P' F) (gam0 2 ds) mu := by
  obtain ⟨ns, cs, rfl, hk, h⟩ := h
  show t_stores _ [some (Pr ns cs), none] mu
  unfold t_stores
  simp only [dRet, dLc, iSeq, dFld, fldK, ix_commands, dVar, List.getElem?_cons_zero, List.getElem?_cons_succ]
  refine ⟨_, rfl, by rw [List.length_map]; have := hk.1; omega, ?_⟩
  refine lc_filter (f := Cmd.d) (p := isSt) (ok := okS (.tup (cs.map Cmd.d)) (cs.map Cmd.d)) rfl (by simp [wip]) cmd_np (fun c F hF => isSt_d c (by rfl) _ _ hF) cs [] ?_
  exact h
end LW

/-! part N5 -/
namespace LW
open PySem PySem.Spec PyProof.Rows L2 DL DQ DX DZ
theorem eqD_cmd (c e : Cmd) : eqD c.d e.d = some (decide (c = e)) := by
  cases c with
  | st a b n =>
    cases e with
    | st a' b' n' =>
      have h := eqL_int [a, b, n] [a', b', n']
      rw [Cmd.d, Cmd.d, eqD, if_pos ⟨rfl, rfl⟩, if_pos rfl]
      refine h.trans (congrArg some (decide_eq_decide.mpr ?_))
      simp
    | fl a' => rw [Cmd.d, Cmd.d, eqD, if_pos ⟨rfl, rfl⟩, if_neg (by decide)]; simp
    | fe => rw [Cmd.d, Cmd.d, eqD, if_pos ⟨rfl, rfl⟩, if_neg (by decide)]; simp
  | fl a =>
    cases e with
    | st a' b' n' => rw [Cmd.d, Cmd.d, eqD, if_pos ⟨rfl, rfl⟩, if_neg (by decide)]; simp
    | fl a' =>
      have h := eqL_int [a] [a']
      rw [Cmd.d, Cmd.d, eqD, if_pos ⟨rfl, rfl⟩, if_pos rfl]
      refine h.trans (congrArg some (decide_eq_decide.mpr ?_))
      simp
    | fe => rw [Cmd.d, Cmd.d, eqD, if_pos ⟨rfl, rfl⟩, if_neg (by decide)]; simp
  | fe =>
    cases e with
    | st a' b' n' => rw [Cmd.d, Cmd.d, eqD, if_pos ⟨rfl, rfl⟩, if_neg (by decide)]; simp
    | fl a' => rw [Cmd.d, Cmd.d, eqD, if_pos ⟨rfl, rfl⟩, if_neg (by decide)]; simp
    | fe =>
      have h := eqL_int [] []
      rw [Cmd.d, eqD, if_pos ⟨rfl, rfl⟩, if_pos rfl]
      exact h
theorem eqL_cmd : ∀ (cs es : List Cmd), eqL (cs.map Cmd.d) (es.map Cmd.d) = some (decide (cs = es))
  | [], [] => by rw [List.map_nil, eqL]; simp
  | [], _ :: _ => by rw [List.map_nil, List.map_cons, eqL] <;> simp
  | _ :: _, [] => by rw [List.map_nil, List.map_cons, eqL] <;> simp
  | c :: cs, e :: es => by
    rw [List.map_cons, List.map_cons, eqL, eqD_cmd, eqL_cmd cs es]
    by_cases h : c = e
    · subst h
      simp
    · simp [h]
theorem eqD_Me2 (a b : List Int) : eqD (Me a) (Me b) = some (decide (a = b)) := by
  rw [eqD, if_pos ⟨rfl, rfl⟩, if_pos rfl, eqL_one, eqD_tup, eqL_int]
theorem eqD_Pr (ns ns' : List Int) (cs cs' : List Cmd) : eqD (Pr ns cs) (Pr ns' cs') = some (decide (ns = ns' ∧ cs = cs')) := by
  rw [eqD, if_pos ⟨rfl, rfl⟩, if_pos rfl, eqL, eqD_Me2]
  by_cases h : ns = ns'
  · subst h
    simp only [decide_true, eqL_one, eqD_tup, eqL_cmd, true_and]
  · simp [h]
theorem dp_cmd (c : Cmd) : dp c.d = 2 := by
  cases c <;> (rw [Cmd.d, dp_obj]; simp [dpL, dp_int])
theorem dpL_cmd : ∀ cs : List Cmd, dpL (cs.map Cmd.d) ≤ 2
  | [] => by rw [List.map_nil, dpL]; decide
  | c :: cs => by
    rw [List.map_cons, dpL, dp_cmd]
    have := dpL_cmd cs
    omega
theorem dp_Pr (ns : List Int) (cs : List Cmd) : dp (Pr ns cs) ≤ 5 := by
  rw [dp_obj, dpL, dpL, dpL, dp_Me, dp_tup]
  have := dpL_cmd cs
  omega
section
variable {mu : Sto} {P : KX} {F : KD}
theorem gEqP (ns ns' : List Int) (cs cs' : List Cmd) : gEq 6 (Pr ns cs) (Pr ns' cs') mu P F = F (.bl (decide (ns = ns' ∧ cs = cs'))) mu := gEqV (d := Pr ns cs) (e := Pr ns' cs') trivial trivial (Nat.le_succ_of_le (dp_Pr ns cs)) (eqD_Pr ns ns' cs cs')
theorem gNeP (ns ns' : List Int) (cs cs' : List Cmd) : gNe 6 (Pr ns cs) (Pr ns' cs') mu P F = F (.bl (!decide (ns = ns' ∧ cs = cs'))) mu := gNeV (d := Pr ns cs) (e := Pr ns' cs') trivial trivial (Nat.le_succ_of_le (dp_Pr ns cs)) (eqD_Pr ns ns' cs cs')
theorem gEqC (c e : Cmd) : gEq 6 c.d e.d mu P F = F (.bl (decide (c = e))) mu := gEqV (cmd_np c) (cmd_np e) (by rw [dp_cmd]; decide) (eqD_cmd c e)
theorem gNeC (c e : Cmd) : gNe 6 c.d e.d mu P F = F (.bl (!decide (c = e))) mu := gNeV (cmd_np c) (cmd_np e) (by rw [dp_cmd]; decide) (eqD_cmd c e)
theorem gNeMe (a b : List Int) : gNe 6 (Me a) (Me b) mu P F = F (.bl (!decide (a = b))) mu := gNeV (d := Me a) (e := Me b) trivial trivial (by rw [dp_Me]; decide) (eqD_Me2 a b)
theorem gEqPM (ns ns' : List Int) (cs : List Cmd) : gEq 6 (Pr ns cs) (Me ns') mu P F = F (.bl false) mu := gEqV (d := Pr ns cs) (e := Me ns') trivial trivial (Nat.le_succ_of_le (dp_Pr ns cs)) (by rw [eqD, if_pos ⟨rfl, rfl⟩, if_neg (by decide)])
theorem gEqPT (ns : List Int) (cs : List Cmd) (l : List D) : gEq 6 (Pr ns cs) (.tup l) mu P F = F (.bl false) mu := gEqV (d := Pr ns cs) (e := .tup l) trivial trivial (Nat.le_succ_of_le (dp_Pr ns cs)) (by simp [eqD, thg])
theorem gNeCT (cs es : List Cmd) : gNe 6 (.tup (cs.map Cmd.d)) (.tup (es.map Cmd.d)) mu P F = F (.bl (!decide (cs = es))) mu := gNeV (d := .tup (cs.map Cmd.d)) (e := .tup (es.map Cmd.d)) trivial trivial (by rw [dp_tup]; have := dpL_cmd cs; omega) (by rw [eqD_tup, eqL_cmd])
theorem gEqB (x y : Bool) : gEq 6 (.bl x) (.bl y) mu P F = F (.bl (x == y)) mu := gEqV (d := .bl x) (e := .bl y) trivial trivial (by simp [dp]) (by rw [eqD])
theorem gNeB (x y : Bool) : gNe 6 (.bl x) (.bl y) mu P F = F (.bl (!(x == y))) mu := gNeV (d := .bl x) (e := .bl y) trivial trivial (by simp [dp]) (by rw [eqD])
theorem gNeS (x y : Str) : gNe 6 (.str x) (.str y) mu P F = F (.bl (!(x == y))) mu := gNeV (d := .str x) (e := .str y) trivial trivial (by rw [dp_str]; exact Nat.zero_le _) (by rw [eqD])
end

theorem gEqS (x y : Str) {mu : Sto} {P : KX} {F : KD} : gEq 6 (.str x) (.str y) mu P F = F (.bl (x == y)) mu := gEqV (d := .str x) (e := .str y) trivial trivial (by rw [dp_str]; exact Nat.zero_le _) (by rw [eqD])
theorem eqL_nil : ∀ l : List D, eqL l [] = some (decide (l = []))
  | [] => by rw [eqL] <;> simp
  | d :: l => by rw [eqL] <;> simp
theorem gEqR {mu : Sto} {k : Nat} {l : List D} {e : D} {b : Bool} {P : KX} {F : KD} (hk : mu[k]? = some (.lst l)) (he : np e) (hp : dpL l ≤ 5) (h : eqD (.lst l) e = some b) : gEq 6 (.ptr k) e mu P F = F (.bl b) mu := by
  show (dp (dr mu (.ptr k)) ≤ 6 ∧ _) = _
  have e1 : dr mu (.ptr k) = .lst l := by simp only [dr, hk]
  have h6 : dp (.lst l) ≤ 6 := by rw [dp_lst]; omega
  simp only [e1, dr_np he, h6, h, true_and]
theorem gNeR {mu : Sto} {k : Nat} {l : List D} {e : D} {b : Bool} {P : KX} {F : KD} (hk : mu[k]? = some (.lst l)) (he : np e) (hp : dpL l ≤ 5) (h : eqD (.lst l) e = some b) : gNe 6 (.ptr k) e mu P F = F (.bl (!b)) mu := by
  show (dp (dr mu (.ptr k)) ≤ 6 ∧ _) = _
  have e1 : dr mu (.ptr k) = .lst l := by simp only [dr, hk]
  have h6 : dp (.lst l) ≤ 6 := by rw [dp_lst]; omega
  simp only [e1, dr_np he, h6, h, true_and]
theorem eqL_tI : ∀ (a b : List (List Int)), eqL (a.map tI) (b.map tI) = some (decide (a = b))
  | [], [] => by rw [List.map_nil, eqL]; simp
  | [], _ :: _ => by rw [List.map_nil, List.map_cons, eqL] <;> simp
  | _ :: _, [] => by rw [List.map_nil, List.map_cons, eqL] <;> simp
  | c :: cs, e :: es => by
    rw [List.map_cons, List.map_cons, eqL, eqD_tup, eqL_int, eqL_tI cs es]
    by_cases h : c = e
    · subst h
      simp
    · simp [h]
theorem dpL_tI : ∀ L : List (List Int), dpL (L.map tI) ≤ 1
  | [] => by rw [List.map_nil, dpL]; decide
  | c :: cs => by
    rw [List.map_cons, dpL, dp_tup, dpL_int]
    have := dpL_tI cs
    omega
theorem gEqT (a b : List (List Int)) {mu : Sto} {P : KX} {F : KD} : gEq 6 (.lst (a.map tI)) (.lst (b.map tI)) mu P F = F (.bl (decide (a = b))) mu := gEqV (d := .lst (a.map tI)) (e := .lst (b.map tI)) trivial trivial (by rw [dp_lst]; have := dpL_tI a; omega) (by rw [eqD_lst, eqL_tI])
theorem gNeLC (a b : List Cmd) {mu : Sto} {P : KX} {F : KD} : gNe 6 (.lst (a.map Cmd.d)) (.lst (b.map Cmd.d)) mu P F = F (.bl (!decide (a = b))) mu := gNeV (d := .lst (a.map Cmd.d)) (e := .lst (b.map Cmd.d)) trivial trivial (by rw [dp_lst]; have := dpL_cmd a; omega) (by rw [eqD_lst, eqL_cmd])
/-! ### comprehensions that keep some items -/
theorem lc_fm {α : Type} {f : α → D} {q : α → Option D} {g : DG} {t : DB} {e : DE} {ok : Sto → Prop} {ga : Gam} {G : List D → Sto → Prop} {mu : Sto} (hok : ok mu) :
    ∀ (l : List α) (acc : List D), (∀ x ∈ l, ∀ (Y : D → Sto → Prop) (N : Sto → Prop), (∀ y, q x = some y → Y y mu) → (q x = none → N mu) → g (f x) ga mu (fun _ _ => False) fun ga1 mu1 => t ga1 mu1 (fun _ _ => False) fun b mu2 => if b = true then e ga1 mu2 (fun _ _ => False) (fun y mu3 => np y ∧ Y y mu3) else N mu2) →
    G (acc ++ l.filterMap q) mu → lcL 0 g t e ok ga G (l.map f) acc mu
  | [], acc, _, h => ⟨hok, by simpa using h⟩
  | x :: l, acc, hs, h => by
    refine ⟨hok, ?_⟩
    have ih := fun acc => lc_fm (f := f) (q := q) (g := g) (t := t) (e := e) (G := G) (ga := ga) hok l acc fun y hy => hs y (List.mem_cons_of_mem _ hy)
    refine hs x List.mem_cons_self _ _ (fun y hy => ?_) (fun hn => ?_)
    · refine ih _ ?_
      rw [List.filterMap_cons, hy] at h
      rw [List.append_assoc]
      exact h
    · refine ih _ ?_
      rw [List.filterMap_cons, hn] at h
      exact h

theorem zip_iL : ∀ a b : List Int, zipD2 (iL a) (iL b) = (a.zip b).map fun p => D.tup [.int p.1, .int p.2]
  | [], _ => by simp [zipD2]
  | _ :: _, [] => by simp [zipD2]
  | x :: a, y :: b => by
    rw [List.zip_cons_cons, List.map_cons, ← zip_iL a b]
    rfl
theorem iL_npD (a : List Int) : (iL a).all npD = true := by
  rw [List.all_eq_true]
  intro d hd
  obtain ⟨c, _, rfl⟩ := List.mem_map.mp hd
  rfl
theorem blsD_map {α : Type} (f : α → Bool) : ∀ l : List α, blsD (l.map fun x => D.bl (f x)) = some (l.map f)
  | [] => rfl
  | x :: l => by
    rw [List.map_cons, List.map_cons, blsD, blsD_map f l]
    rfl
theorem fm_some {α β : Type} (f : α → β) : ∀ l : List α, l.filterMap (fun x => some (f x)) = l.map f
  | [] => rfl
  | x :: l => by rw [List.filterMap_cons, fm_some f l]; rfl
end LW

/-! part N6 -/
namespace LW
open PySem PySem.Spec PyProof.Rows L2 DL DQ DX DZ
section
theorem zip_len_le {α β : Type} (a : List α) (b : List β) : (a.zip b).length ≤ a.length := by rw [List.length_zip]; omega
theorem bxs_low : ∀ (cs : List Cmd) (t n : Nat) (s : Cn), CnOk n s → ∀ b ∈ bxs t s cs, b.2.1.length = n
  | [], _, _, _, _, b, h => by cases h
  | c :: cs, t, n, s, hk, b, h => by
    have ih := bxs_low cs (t + 1) n (s.go c) (go_len hk c)
    rw [bxs] at h
    cases q : spB (s.go c) c with
    | none =>
      simp only [q] at h
      exact ih b h
    | some p =>
      simp only [q] at h
      rcases List.mem_cons.mp h with rfl | h
      · cases c with
        | st a b' d =>
          simp only [spB, Option.some.injEq] at q
          subst q
          show (List.set _ _ _).length = n
          rw [List.length_set]
          exact (go_len hk _).2.2
        | _ => cases q
      · exact ih b h
theorem allB_low {n : Nat} (cs : List Cmd) : ∀ b ∈ allB n cs, b.2.1.length = n := fun b h => by
  rcases List.mem_cons.mp h with rfl | h
  · exact List.length_replicate
  · exact bxs_low cs 0 n _ (cn0_ok n) b h
theorem bx_npD (l : List Bx3) : (l.map bx).all npD = true := by
  rw [List.all_eq_true]
  intro d hd
  obtain ⟨c, _, rfl⟩ := List.mem_map.mp hd
  rfl
theorem isSt_g {de : DE} {ga : Gam} {mu : Sto} {P : KX} {c : Cmd} (hd : ∀ F : KD, F c.d mu → de ga mu P F) (F : Bool → Sto → Prop) (hF : F (isSt c) mu) : dTru (gIsi noTy (fun c => c == 1) de) ga mu P F := by
  simp only [dTru, gIsi]
  refine hd _ ?_
  cases c with
  | st a b n =>
    simp only [Cmd.d, kdD, noTy, truK, beq_self_eq_true]
    exact ⟨by decide, hF⟩
  | fl a =>
    have n21 : ((2 : Nat) == 1) = false := rfl
    simp only [Cmd.d, kdD, noTy, truK, n21]
    exact ⟨by decide, hF⟩
  | fe =>
    have n31 : ((3 : Nat) == 1) = false := rfl
    simp only [Cmd.d, kdD, noTy, truK, n31]
    exact ⟨by decide, hF⟩
theorem atI_map {α : Type} (f : α → D) {l : List α} {i : Nat} {x : α} (h : l[i]? = some x) : L2.atI (l.map f) (i : Int) = some (f x) := by
  have hi := (List.getElem?_eq_some_iff.mp h).1
  have e := (List.getElem?_eq_some_iff.mp h).2
  rw [atI_nat (by rw [List.length_map]; exact hi), List.getElem_map, e]
theorem cutA (l : List Cmd) (f : Cmd → D) (i : Nat) (h : i < l.length) : DL.cutD (l.map f) none (some (i : Int)) ++ DL.cutD (l.map f) (some ((i : Int) + 1)) none = (l.eraseIdx i).map f := by
  have e : ((i : Int) + 1) = ((i + 1 : Nat) : Int) := by omega
  rw [e, cut_to i (by rw [List.length_map]; omega), cut_from (i + 1) (by rw [List.length_map]; omega), List.eraseIdx_eq_take_drop_succ, List.map_append, List.map_take, List.map_drop]
theorem cut_len (l : List D) (i : Nat) (h : i < l.length) : (DL.cutD l none (some (i : Int))).length + (DL.cutD l (some ((i : Int) + 1)) none).length ≤ l.length := by
  have e : ((i : Int) + 1) = ((i + 1 : Nat) : Int) := by omega
  rw [e, cut_to i (by omega), cut_from (i + 1) (by omega), List.length_take, List.length_drop]
  omega
theorem csOk_erase {ns : List Int} {cs : List Cmd} (h : csOk ns cs) (i : Nat) : csOk ns (cs.eraseIdx i) := by
  refine ⟨?_, fun c hc => h.2 c (List.mem_of_mem_eraseIdx hc)⟩
  have := List.length_eraseIdx_le (l := cs) (i := i)
  have := h.1
  omega
theorem fm_filter {α β : Type} (p : α → Bool) (f : α → β) : ∀ l : List α, l.filterMap (fun x => if p x = true then some (f x) else none) = (l.filter p).map f
  | [] => rfl
  | x :: l => by
    rw [List.filterMap_cons, List.filter_cons]
    cases q : p x with
    | true =>
      simp only [if_true, List.map_cons]
      rw [fm_filter p f l]
    | false =>
      simp only [Bool.false_eq_true, if_false]
      exact fm_filter p f l
theorem rngL_map (n : Nat) : rngL 0 n = (List.range n).map fun (i : Nat) => D.int (0 + (i : Int)) := rfl
def nmC : Cmd → Str
  | .st _ _ _ => "store"
  | .fl _ => "flush"
  | .fe => "fence"
def isFl : Cmd → Bool
  | .fl _ => true
  | _ => false
theorem nm_st (c : Cmd) : (nmC c == ("store" : Str)) = isSt c := by
  cases c with
  | st => exact (by decide : (("store" : Str) == ("store" : Str)) = true)
  | fl => exact (by decide : (("flush" : Str) == ("store" : Str)) = false)
  | fe => exact (by decide : (("fence" : Str) == ("store" : Str)) = false)
theorem nm_fl (c : Cmd) : (nmC c == ("flush" : Str)) = isFl c := by
  cases c with
  | st => exact (by decide : (("store" : Str) == ("flush" : Str)) = false)
  | fl => exact (by decide : (("flush" : Str) == ("flush" : Str)) = true)
  | fe => exact (by decide : (("fence" : Str) == ("flush" : Str)) = false)
theorem t_at0 (c : Cmd) {mu : Sto} {P : KX} {F : KD} : gIx c.t (.int 0) mu P F = F (.str (nmC c)) mu := by cases c <;> rfl
theorem cmdT_np (c : Cmd) : np c.t := by cases c <;> trivial
theorem tD_npD (cs : List Cmd) : (tD cs).all npD = true := by
  rw [List.all_eq_true]
  intro d hd
  obtain ⟨c, _, rfl⟩ := List.mem_map.mp hd
  cases c <;> rfl
theorem ne_t {b : Bool} (h : b = false) : ¬ b = true := fun z => by rw [h] at z; cases z
theorem st_st (a b n : Int) : isSt (.st a b n) = true := rfl
theorem st_fl (a : Int) : isSt (.fl a) = false := rfl
theorem fl_fl (a : Int) : isFl (.fl a) = true := rfl
theorem np_src (a b c : Int) : noptr (src a b c) := by
  unfold src noptr
  first | trivial | simp [npL, np]
theorem end_src {mu : Sto} {n : Nat} {l : List D} {a b c : Int} {F : KD} (h : F (.lst l) (mu.set n (src a b c))) : ∃ mu2 d2, Trim mu (mu.set n (src a b c) ++ [.lst l]) mu2 ∧ frz mu.length (mu.set n (src a b c) ++ [.lst l]) (.ptr mu.length) = some d2 ∧ F d2 mu2 := by
  refine ⟨_, .lst l, Trim.set mu _ n _ (np_src a b c), ?_, h⟩
  have lg : (mu.set n (src a b c) ++ [MO.lst l])[mu.length]? = some (.lst l) := last_get _ _ List.length_set.symm
  simp only [frz, Nat.lt_irrefl, if_false, lg]
theorem end_cell {mu : Sto} {l : List D} {F : KD} (h : F (.lst l) mu) : ∃ mu2 d2, Trim mu (mu ++ [.lst l]) mu2 ∧ frz mu.length (mu ++ [.lst l]) (.ptr mu.length) = some d2 ∧ F d2 mu2 := by
  refine ⟨_, .lst l, Trim.same mu _, ?_, h⟩
  have lg : (mu ++ [MO.lst l])[mu.length]? = some (.lst l) := last_get _ _ rfl
  simp only [frz, Nat.lt_irrefl, if_false, lg]
theorem app_last {ga : Gam} {S : Sto} {i k : Nat} {l : List D} {d : D} {da : DA} {E : DEnds} (hi : ga[i]? = some (some (.ptr k))) (hk : k = S.length) (hd : np d) (hl : l.length < 16777216) (ha : ∀ F : List D → Sto → Prop, F [d] (S ++ [.lst l]) → da ga (S ++ [.lst l]) E.ex F) (hN : E.nx ga (S ++ [.lst (l ++ [d])])) :
    dDrop (dMtd gAppend (dVar i) da) E ga (S ++ [.lst l]) := by
  subst hk
  have lg : (S ++ [MO.lst l])[S.length]? = some (.lst l) := last_get _ _ rfl
  simp only [dDrop, dMtd, dVar, hi]
  refine ⟨⟨_, rfl, .inl ⟨_, lg⟩⟩, ha _ ?_⟩
  simp only [gAppend, lg]
  refine ⟨⟨hd, hl⟩, ?_⟩
  rw [last_set S _ _ rfl]
  exact hN
theorem tD_app (cs : List Cmd) (c : Cmd) : tD cs ++ [c.t] = tD (cs ++ [c]) := by simp
theorem at_1 (x y : D) (l : List D) : L2.atI (x :: y :: l) 1 = some y := by
  have := atI_nat (l := x :: y :: l) (j := 1) (by simp)
  exact this
theorem at_2 (x y z : D) (l : List D) : L2.atI (x :: y :: z :: l) 2 = some z := by
  have := atI_nat (l := x :: y :: z :: l) (j := 2) (by simp)
  exact this
theorem at_3 (x y z w : D) (l : List D) : L2.atI (x :: y :: z :: w :: l) 3 = some w := by
  have := atI_nat (l := x :: y :: z :: w :: l) (j := 3) (by simp)
  exact this
theorem gNeL (a b : List Int) {mu : Sto} {P : KX} {F : KD} : gNe 6 (.lst (iL a)) (.lst (iL b)) mu P F = F (.bl (!decide (a = b))) mu := gNeV (d := .lst (iL a)) (e := .lst (iL b)) trivial trivial (by rw [dp_lst, dpL_int]; decide) (by rw [eqD_lst, eqL_int])
theorem eqL_refl : ∀ l : List D, (∀ d ∈ l, eqD d d = some true) → eqL l l = some true
  | [], _ => by rw [eqL]
  | d :: l, h => by
    rw [eqL, h d List.mem_cons_self]
    exact eqL_refl l fun e he => h e (List.mem_cons_of_mem _ he)
theorem eqD_str (x : Str) : eqD (.str x) (.str x) = some true := by rw [eqD, beq_self_eq_true]
theorem eqD_int' (x : Int) : eqD (.int x) (.int x) = some true := by rw [eqD, beq_self_eq_true]
theorem eqD_t (c : Cmd) : eqD c.t c.t = some true := by
  cases c <;> (rw [Cmd.t, eqD_tup]; refine eqL_refl _ fun d hd => ?_; simp only [List.mem_cons, List.not_mem_nil, or_false] at hd)
  · rcases hd with rfl | rfl | rfl | rfl
    · exact eqD_str _
    · exact eqD_int' _
    · exact eqD_int' _
    · exact eqD_int' _
  · rcases hd with rfl | rfl
    · exact eqD_str _
    · exact eqD_int' _
  · rw [hd]
    exact eqD_str _
theorem dp_t (c : Cmd) : dp c.t = 1 := by
  cases c <;> (rw [Cmd.t, dp_tup]; simp [dpL, dp_int, dp_str])
theorem dpL_tD : ∀ cs : List Cmd, dpL (tD cs) ≤ 1
  | [] => by rw [show tD [] = [] from rfl, dpL]; decide
  | c :: cs => by
    rw [show tD (c :: cs) = c.t :: tD cs from rfl, dpL, dp_t]
    have := dpL_tD cs
    omega
theorem gNeTD (cs : List Cmd) {mu : Sto} {P : KX} {F : KD} : gNe 6 (.lst (tD cs)) (.lst (tD cs)) mu P F = F (.bl false) mu := gNeV (d := .lst (tD cs)) (e := .lst (tD cs)) (b := true) trivial trivial (by rw [dp_lst]; have := dpL_tD cs; omega) (by
  rw [eqD_lst]
  refine eqL_refl _ fun d hd => ?_
  obtain ⟨c, _, rfl⟩ := List.mem_map.mp hd
  exact eqD_t c)
theorem cut_any {l : List D} (k : Nat) : DL.cutD l none (some (k : Int)) = l.take k := by
  unfold DL.cutD
  rw [HT.sIx_none, HT.sIx_nat, List.drop_zero, Nat.sub_zero, ← List.take_eq_take_min]
end

end LW

/-! part N7 -/
namespace LW
open PySem PySem.Spec PyProof.Rows L2 DL DQ DX DZ
theorem pure__law_cell {x0 : D} {ns0 : List Int} {gl : GL} {gx : G2} {gsl : GS} (hgl : ∀ mu F, F (.int (ns0.length : Nat)) mu → gl [x0] mu F) (hgx : ∀ mu P F z, ns0[0]? = some z → F (.int z) mu → gx x0 (.int 0) mu P F)
    (ds : List D) (mu : Sto) (P' : KX) (F : KD) (h : sp__law_cell x0 ns0 ds mu P' F) : t__law_cell x0 ns0 gl gx gsl (endF P' F) (gam0 2 ds) mu := by
  obtain ⟨rfl, h⟩ := h
  show t__law_cell x0 ns0 gl gx gsl _ [some x0, some (.int 0)] mu
  unfold t__law_cell
  simp only [dSeq, dIfS, dCT, dBin, dCB, dCons, dNil, dVar, List.getElem?_cons_zero, List.getElem?_cons_succ]
  refine hgl _ _ ?_
  simp only [gLt, gCmp]
  cases q : ns0 with
  | nil =>
    have e : decide ((0 : Int) < ((0 : Nat) : Int)) = false := rfl
    simp only [List.length_nil, e, Bool.false_eq_true, if_false, dNext]
    exact h 0
  | cons z l =>
    have e : decide ((0 : Int) < (((z :: l).length : Nat) : Int)) = true := decide_eq_true (by rw [List.length_cons]; omega)
    simp only [e, if_true, dRet, dBin, dVar, List.getElem?_cons_zero, List.getElem?_cons_succ]
    refine hgx _ _ _ z (by rw [q]; rfl) (h z)
theorem pure__law_rng (ds : List D) (mu : Sto) (P' : KX) (F : KD) (h : sp__law_rng ds mu P' F) : t__law_rng (endF P' F) (gam0 1 ds) mu := by
  obtain ⟨x, rfl, h⟩ := h
  show t__law_rng _ [some (.int x)] mu
  unfold t__law_rng
  simp only [dRet, dLst, dCons, dNil, dCB, bAbs, dBin, dVar, dC, DL.gMod, gI, List.getElem?_cons_zero, endF, retL, npL, np, and_true, true_and, List.length_cons, List.length_nil]
  refine ⟨by decide, by decide, ?_⟩
  exact h _ _ _
theorem step3 {S : Sto} {n : Nat} (h : srcOk S n) (a b c : Int) : srcOk (S.set n (src a b c)) n := by
  obtain ⟨_, _, _, e⟩ := h
  exact ⟨a, b, c, set_self e⟩
/-! ### sizes -/
theorem lc_sizes {mu : Sto} {n : Nat} {a0 b0 c0 : Int} (hs : mu[n]? = some (src a0 b0 c0)) {mw : Int} (hw : 0 < mw ∧ mw ≤ 4) {G : List D → Sto → Prop} {x1 : Option D} : ∀ (ds : List D) (acc : List Int) (a b c : Int), (∀ x ∈ acc, 1 ≤ x ∧ x ≤ 4) →
    (∀ (ns : List Int) a b c, ns.length = acc.length + ds.length → (∀ x ∈ ns, 1 ≤ x ∧ x ≤ 4) → G (iL ns) (mu.set n (src a b c))) →
    lcL 0 (dName 3) dYes (dBin (gAdd 0) (dC (.int 1)) (dCall sp__law_draw (dCons (dVar 0) (dCons (dVar 2) dNil)))) (fun _ => True) [some (.ptr n), x1, some (.int mw), none] G ds (iL acc) (mu.set n (src a b c))
  | [], acc, a, b, c, h1, h2 => ⟨trivial, h2 acc a b c rfl h1⟩
  | d :: ds, acc, a, b, c, h1, h2 => by
    refine ⟨trivial, ?_⟩
    simp only [dName, dYes, dBin, dC, dCall, dCons, dNil, dVar, List.set_cons_zero, List.set_cons_succ, List.getElem?_cons_zero, List.getElem?_cons_succ, if_true]
    refine ⟨n, mw, rfl, ⟨by omega, by omega⟩, ⟨a, b, c, set_self hs⟩, fun r a' b' c' r0 r4 => ?_⟩
    rw [List.set_set]
    refine ⟨trivial, ?_⟩
    rw [iL_app]
    refine lc_sizes hs hw ds (acc ++ [1 + r]) a' b' c' (fun x hx => ?_) fun ns a b c hl hn => ?_
    · rcases List.mem_append.mp hx with hx | hx
      · exact h1 x hx
      · rw [List.mem_singleton.mp hx]
        omega
    · refine h2 ns a b c ?_ hn
      rw [hl, List.length_append, List.length_cons]
      simp
      omega
theorem pure__law_random_sizes (ds : List D) (mu : Sto) (P' : KX) (F : KD) (h : sp__law_random_sizes ds mu P' F) : t__law_random_sizes (endF P' F) (gam0 4 ds) mu := by
  obtain ⟨n, ml, mw, rfl, ⟨h1, h2⟩, ⟨a, b, c, hs⟩, h⟩ := h
  show t__law_random_sizes _ [some (.ptr n), some (.int ml), some (.int mw), none] mu
  unfold t__law_random_sizes
  simp only [dRet, dLc, iR1, dCons, dNil, dBin, dC, dCall, dVar, gAdd, List.getElem?_cons_zero, List.getElem?_cons_succ, endF]
  refine ⟨n, ml, rfl, ⟨by omega, by omega⟩, ⟨a, b, c, hs⟩, fun r a1 b1 c1 r0 r1 => ?_⟩
  refine ⟨⟨by omega, by omega⟩, by rw [rngL_len]; omega, ?_⟩
  refine lc_sizes hs h2 _ [] a1 b1 c1 (fun x hx => by cases hx) fun ns a2 b2 c2 hl hn => ?_
  rw [rngL_len] at hl
  simp at hl
  exact h ns a2 b2 c2 ⟨⟨by omega, by omega⟩, hn⟩ (by omega)
/-! ### commands -/
theorem getD_ge {ns : List Int} (hn : sizesOk ns) {i : Nat} (h : i < ns.length) : 1 ≤ ns.getD i 0 ∧ ns.getD i 0 ≤ 4 := by
  have e : ns.getD i 0 = ns[i] := by simp [h]
  rw [e]
  exact hn.2 _ (List.getElem_mem h)
theorem pure__law_random_command (ds : List D) (mu : Sto) (P' : KX) (F : KD) (h : sp__law_random_command ds mu P' F) : t__law_random_command (endF P' F) (gam0 4 ds) mu := by
  obtain ⟨n, ns, rfl, hn, hs, h⟩ := h
  show t__law_random_command _ [some (.ptr n), some (.lst (iL ns)), none, none] mu
  unfold t__law_random_command
  have l6 := hn.1
  simp only [dSeq, dSet, dCall, dCons, dNil, dVar, dLst, dC, retL, npL, np, and_true, true_and, List.length_cons, List.length_nil, List.getElem?_cons_zero, List.getElem?_cons_succ, List.set_cons_zero, List.set_cons_succ]
  refine ⟨by decide, n, _, rfl, ⟨by decide, by decide⟩, hs, fun d a b c hd => ?_⟩
  have hs1 := step3 hs a b c
  have hk : d = .str "store" ∨ d = .str "flush" ∨ d = .str "fence" := by
    simp only [List.mem_cons, List.not_mem_nil, or_false] at hd
    rcases hd with h | h | h | h | h | h <;> simp [h]
  simp only [dCB, dCons, dNil, dVar, bLen, szD, List.length_map, List.getElem?_cons_zero, List.getElem?_cons_succ]
  refine ⟨n, _, rfl, ⟨by omega, by omega⟩, hs1, fun ln a b c l0 l1 => ?_⟩
  have hs2 := step3 hs a b c
  rw [src_set]
  have fin : ∀ a b c, ∀ (e : Cmd), e.ok ns → F e.t (mu.set n (src a b c)) := fun a b c e he => h e a b c he
  have hln : lnOk ns ln := ⟨l0, l1⟩
  have hb := getD_ge hn (i := ln.toNat) (by omega)
  have ea := atI_i l0 l1
  have eS : ∀ x y : Str, (x == y) = decide (x = y) := fun x y => by
    by_cases h : x = y
    · rw [h, beq_self_eq_true]; simp
    · rw [beq_eq_false_iff_ne.mpr h]; simp [h]
  rcases hk with rfl | rfl | rfl
  · have e1 : (("store" : Str) == ("fence" : Str)) = false := by decide
    have e2 : (("store" : Str) == ("flush" : Str)) = false := by decide
    simp only [dIfS, dCT, dBin, dVar, dC, List.getElem?_cons_zero, List.getElem?_cons_succ, gEqS, e1, e2, Bool.false_eq_true, if_false, dNext, dRet, dTup, dCons, dNil, dCall, gIx, pv_, ea]
    refine ⟨n, _, rfl, ⟨by omega, by omega⟩, hs2, fun w a b c w0 w1 => ?_⟩
    have hs3 := step3 hs a b c
    rw [src_set]
    simp only [dLst, dNeg, dCons, dNil, dC, retL, npL, np, and_true, true_and, List.length_cons, List.length_nil]
    refine ⟨by decide, n, _, rfl, ⟨by decide, by decide⟩, hs3, fun d a b c hd => ?_⟩
    rw [src_set]
    have hi : ∃ v : Int, d = .int v := by
      simp only [List.mem_cons, List.not_mem_nil, or_false] at hd
      rcases hd with h | h | h | h | h | h <;> exact ⟨_, h⟩
    obtain ⟨v, rfl⟩ := hi
    refine ⟨⟨by decide, trivial⟩, ?_⟩
    exact fin a b c (.st ln w v) ⟨hln, w0, w1⟩
  · have e1 : (("flush" : Str) == ("fence" : Str)) = false := by decide
    have e2 : (("flush" : Str) == ("flush" : Str)) = true := by decide
    simp only [dIfS, dCT, dBin, dVar, dC, List.getElem?_cons_zero, List.getElem?_cons_succ, gEqS, e1, e2, Bool.false_eq_true, if_false, if_true, dNext, dRet, dTup, dCons, dNil]
    refine ⟨⟨by simp, trivial, trivial, trivial⟩, ?_⟩
    exact fin a b c (.fl ln) hln
  · have e1 : (("fence" : Str) == ("fence" : Str)) = true := by decide
    simp only [dIfS, dCT, dBin, dVar, dC, List.getElem?_cons_zero, List.getElem?_cons_succ, gEqS, e1, if_true, dRet, dTup, dCons, dNil]
    refine ⟨⟨by decide, trivial, trivial⟩, ?_⟩
    exact fin a b c .fe trivial
theorem lc_cmds {mu : Sto} {n : Nat} {ns : List Int} (hn : sizesOk ns) {a0 b0 c0 : Int} (hs : mu[n]? = some (src a0 b0 c0)) {x2 : Option D} {G : List D → Sto → Prop} : ∀ (ds : List D) (acc : List Cmd) (a b c : Int), (∀ x ∈ acc, x.ok ns) →
    (∀ (cs : List Cmd) a b c, cs.length = acc.length + ds.length → (∀ x ∈ cs, x.ok ns) → G (tD cs) (mu.set n (src a b c))) →
    lcL 0 (dName 3) dYes (dCall sp__law_random_command (dCons (dVar 0) (dCons (dVar 1) dNil))) (fun _ => True) [some (.ptr n), some (.lst (iL ns)), x2, none] G ds (tD acc) (mu.set n (src a b c))
  | [], acc, a, b, c, h1, h2 => ⟨trivial, h2 acc a b c rfl h1⟩
  | d :: ds, acc, a, b, c, h1, h2 => by
    refine ⟨trivial, ?_⟩
    simp only [dName, dYes, dCall, dCons, dNil, dVar, List.set_cons_zero, List.set_cons_succ, List.getElem?_cons_zero, List.getElem?_cons_succ, if_true]
    refine ⟨n, ns, rfl, hn, ⟨a, b, c, set_self hs⟩, fun e a' b' c' he => ?_⟩
    rw [List.set_set]
    refine ⟨cmdT_np e, ?_⟩
    rw [tD_app]
    refine lc_cmds hn hs ds (acc ++ [e]) a' b' c' (fun x hx => ?_) fun cs a b c hl hc => ?_
    · rcases List.mem_append.mp hx with hx | hx
      · exact h1 x hx
      · rw [List.mem_singleton.mp hx]
        exact he
    · refine h2 cs a b c ?_ hc
      rw [hl, List.length_append, List.length_cons]
      simp
      omega
theorem pure__law_random_commands (ds : List D) (mu : Sto) (P' : KX) (F : KD) (h : sp__law_random_commands ds mu P' F) : t__law_random_commands (endF P' F) (gam0 4 ds) mu := by
  obtain ⟨n, ns, am, rfl, h1, hn, ⟨a, b, c, hs⟩, h⟩ := h
  show t__law_random_commands _ [some (.ptr n), some (.lst (iL ns)), some (.int am), none] mu
  unfold t__law_random_commands
  simp only [dRet, dLc, iR1, dCons, dNil, dBin, dC, dCall, dVar, gAdd, List.getElem?_cons_zero, List.getElem?_cons_succ, endF]
  refine ⟨n, _, rfl, ⟨by omega, by omega⟩, ⟨a, b, c, hs⟩, fun r a1 b1 c1 r0 r1 => ?_⟩
  refine ⟨⟨by omega, by omega⟩, by rw [rngL_len]; omega, ?_⟩
  refine lc_cmds hn hs _ [] a1 b1 c1 (fun x hx => by cases hx) fun cs a2 b2 c2 hl hc => ?_
  rw [rngL_len] at hl
  simp at hl
  exact h cs a2 b2 c2 ⟨by omega, hc⟩ (by omega)
theorem pure__law_command (ds : List D) (mu : Sto) (P' : KX) (F : KD) (h : sp__law_command ds mu P' F) : t__law_command (endF P' F) (gam0 1 ds) mu := by
  obtain ⟨c, rfl, h⟩ := h
  show t__law_command _ [some c.t] mu
  unfold t__law_command
  simp only [dSeq, dIfS, dCT, dBin, dVar, dC, List.getElem?_cons_zero, List.getElem?_cons_succ, t_at0, gEqS, nm_st]
  cases c with
  | st a b d =>
    simp only [st_st, if_true, dRet, dCall, dCons, dNil, dBin, dVar, dC, Cmd.t, gIx, pv_, at_1, at_2, at_3, List.getElem?_cons_zero, List.getElem?_cons_succ]
    exact ⟨⟨rfl, trivial, trivial, trivial, trivial⟩, h⟩
  | fl a =>
    simp only [st_fl, Bool.false_eq_true, if_false, dNext, dRet, dIf, dCT, dBin, dVar, dC, List.getElem?_cons_zero, List.getElem?_cons_succ, t_at0, gEqS, nm_fl, fl_fl, if_true]
    simp only [dCall, dCons, dNil, dBin, dVar, dC, Cmd.t, gIx, pv_, at_1, List.getElem?_cons_zero, List.getElem?_cons_succ]
    exact ⟨⟨rfl, trivial, trivial⟩, h⟩
  | fe =>
    have e1 : isSt .fe = false := rfl
    have e2 : isFl .fe = false := rfl
    simp only [e1, Bool.false_eq_true, if_false, dNext, dRet, dIf, dCT, dBin, dVar, dC, List.getElem?_cons_zero, List.getElem?_cons_succ, t_at0, gEqS, nm_fl, e2, dMk0]
    exact h
theorem pure__law_program (ds : List D) (mu : Sto) (P' : KX) (F : KD) (h : sp__law_program ds mu P' F) : t__law_program (endF P' F) (gam0 3 ds) mu := by
  obtain ⟨y, ns, cs, rfl, hy, ⟨hn, hk⟩, h⟩ := h
  show t__law_program _ [some (.lst (iL ns)), some y, none] mu
  unfold t__law_program
  simp only [dRet, dCall, dCons, dNil, dVar, dLc, iSeq, List.getElem?_cons_zero, List.getElem?_cons_succ]
  refine ⟨_, ns, rfl, rfl, hn, _, lv_pv hy, by rw [List.length_map]; have := hk.1; omega, ?_⟩
  refine lc_map (f := Cmd.t) (g := Cmd.d) (ok := okS y (tD cs)) (lv_pv hy) cmd_np cs [] (fun c hc F hF => ?_) ?_
  · simp only [dCall, dCons, dNil, dVar, wip, List.set_cons_zero, List.set_cons_succ, List.getElem?_cons_zero, List.getElem?_cons_succ]
    exact ⟨c, rfl, hF⟩
  · rw [List.nil_append]
    exact ⟨_, ns, cs, rfl, rfl, hk, h⟩

end LW

/-! part N8 -/
namespace LW
open PySem PySem.Spec PyProof.Rows L2 DL DQ DX DZ
/-! ### tables of numbers -/
theorem valE_nil (k : Key) : valE [] k = none := rfl
theorem valE_pos {p : Key × D} {r : List (Key × D)} {k : Key} (e : p.1 = k) : valE (p :: r) k = some p.2 := by simp [valE, List.find?_cons, e]
theorem valE_neg {p : Key × D} {r : List (Key × D)} {k : Key} (e : ¬ p.1 = k) : valE (p :: r) k = valE r k := by simp [valE, List.find?_cons, e]
theorem valE_any (k : Key) : ∀ kvs : List (Key × D), (kvs.any fun kv => decide (kv.1 = k)) = (valE kvs k).isSome
  | [] => rfl
  | p :: r => by
    rw [List.any_cons]
    by_cases e : p.1 = k
    · simp only [valE_pos e, decide_eq_true e, Bool.true_or, Option.isSome_some]
    · rw [valE_neg e, decide_eq_false e, Bool.false_or]; exact valE_any k r
theorem valE_map (k j : Key) (y : D) : ∀ kvs : List (Key × D), valE (kvs.map fun kv => if kv.1 = k then (kv.1, y) else kv) j = (valE kvs j).map fun x => if j = k then y else x
  | [] => rfl
  | p :: r => by
    have ih := valE_map k j y r
    rw [List.map_cons]
    by_cases h : p.1 = k
    · rw [if_pos h]
      by_cases e : p.1 = j
      · rw [valE_pos (p := (p.1, y)) e, valE_pos e, Option.map_some, if_pos (e.symm.trans h)]
      · rw [valE_neg (p := (p.1, y)) e, valE_neg e, ih]
    · rw [if_neg h]
      by_cases e : p.1 = j
      · rw [valE_pos (p := p) e, valE_pos e, Option.map_some, if_neg (fun z => h (e.trans z))]
      · rw [valE_neg (p := p) e, valE_neg e, ih]
theorem valE_snoc (k j : Key) (y : D) : ∀ kvs : List (Key × D), valE kvs k = none → valE (kvs ++ [(k, y)]) j = if j = k then some y else valE kvs j
  | [], _ => by
    by_cases e : k = j
    · rw [if_pos e.symm]; exact valE_pos (p := (k, y)) e
    · rw [if_neg (fun z => e z.symm)]; exact valE_neg (p := (k, y)) e
  | p :: r, hn => by
    rw [List.cons_append]
    have hk : ¬ p.1 = k := fun z => by rw [valE_pos z] at hn; cases hn
    rw [valE_neg hk] at hn
    have ih := valE_snoc k j y r hn
    by_cases e : p.1 = j
    · rw [valE_pos e, valE_pos e, if_neg (fun z => hk (e.trans z))]
    · rw [valE_neg e, valE_neg e, ih]
theorem valE_put (kvs : List (Key × D)) (k j : Key) (y : D) : valE (putE kvs k y) j = if j = k then some y else valE kvs j := by
  unfold putE
  rw [valE_any]
  cases q : valE kvs k with
  | none =>
    rw [if_neg (by simp)]
    exact valE_snoc k j y kvs q
  | some x =>
    rw [if_pos (by simp), valE_map]
    by_cases e : j = k
    · rw [if_pos e, e, q]
      simp
    · rw [if_neg e]
      cases valE kvs j <;> simp [e]
theorem putE_len (kvs : List (Key × D)) (k : Key) (y : D) : (putE kvs k y).length ≤ kvs.length + 1 := by
  unfold putE
  split
  · rw [List.length_map]; omega
  · rw [List.length_append]; simp
/-- the table holds the numbers m -/
def TabM (kvs : List (Key × D)) (m : List Int) : Prop := ∀ a : Int, 0 ≤ a → (valE kvs (.inl a)).getD (.int 0) = .int (m.getD a.toNat 0)
theorem TabM.zero (n : Nat) : TabM [] (zs n) := fun a _ => by
  have : (zs n).getD a.toNat 0 = 0 := by
    unfold zs
    rw [List.getD_eq_getElem?_getD, List.getElem?_replicate]
    split <;> rfl
  rw [this]
  rfl
theorem TabM.put {kvs : List (Key × D)} {m : List Int} (h : TabM kvs m) {a : Int} (h0 : 0 ≤ a) (hl : a.toNat < m.length) (x : Int) : TabM (putE kvs (.inl a) (.int x)) (m.set a.toNat x) := fun b hb => by
  rw [valE_put]
  by_cases e : b = a
  · rw [if_pos (by rw [e]), e]
    rw [List.getD_eq_getElem?_getD, List.getElem?_set_self hl]
    rfl
  · rw [if_neg (fun z => e (Sum.inl.inj z)), h b hb]
    have hne : a.toNat ≠ b.toNat := by omega
    rw [List.getD_eq_getElem?_getD, List.getD_eq_getElem?_getD, List.getElem?_set_ne hne]
theorem two_0 (mu : Sto) (x y : MO) : (mu ++ [x, y])[mu.length]? = some x := by
  rw [List.getElem?_append_right (Nat.le_refl _), Nat.sub_self] <;> rfl
theorem two_1 (mu : Sto) (x y : MO) : (mu ++ [x, y])[mu.length + 1]? = some y := by
  rw [List.getElem?_append_right (Nat.le_add_right _ _), Nat.add_sub_cancel_left] <;> rfl
theorem two_s0 (mu : Sto) (x y w : MO) : (mu ++ [x, y]).set mu.length w = mu ++ [w, y] := by
  rw [List.set_append_right _ _ (Nat.le_refl _), Nat.sub_self] <;> rfl
theorem two_s1 (mu : Sto) (x y w : MO) : (mu ++ [x, y]).set (mu.length + 1) w = mu ++ [x, w] := by
  rw [List.set_append_right _ _ (Nat.le_add_right _ _), Nat.add_sub_cancel_left] <;> rfl
/-! ### numbered -/
def bodyN : DS := dSeq (dKPut (dVar 3) (dFld ix_line (dVar 1)) (dBin (gAdd 0) (dKGet (dVar 3) (dFld ix_line (dVar 1)) (dC (.int 0))) (dC (.int 1)))) (dDrop (dMtd gAppend (dVar 2) (dCons (dTup (dCons (dFld ix_line (dVar 1)) (dCons (dKIx (dVar 3) (dFld ix_line (dVar 1))) (dNil)))) (dNil))))
theorem for_num {E : DEnds} {mu : Sto} {ns : List Int} {z0 : Option D} {ok : Sto → Prop} (hok : ∀ S, ok S) : ∀ (cs : List Cmd) (acc : List (Int × Int)) (kvs : List (Key × D)) (m : List Int) (z1 : Option D), (∀ c ∈ cs, c.ok ns) → (∀ c ∈ cs, isSt c = true) → m.length = ns.length → TabM kvs m → acc.length + cs.length ≤ 1000 → kvs.length + cs.length ≤ 1000 →
    (∀ z1 kvs, E.nx [z0, z1, some (.ptr mu.length), some (.ptr (mu.length + 1))] (mu ++ [.lst ((acc ++ nb m cs).map pI2), .dic kvs])) →
    forL (dName 1) bodyN E ok (cs.map Cmd.d) [z0, z1, some (.ptr mu.length), some (.ptr (mu.length + 1))] (mu ++ [.lst (acc.map pI2), .dic kvs])
  | [], acc, kvs, m, z1, _, _, _, _, _, _, hN => ⟨hok _, by have := hN z1 kvs; rw [nb, List.append_nil] at this; exact this⟩
  | c :: cs, acc, kvs, m, z1, hk, hs, hm, ht, ha, hl, hN => by
    refine ⟨hok _, ?_⟩
    rw [List.length_cons] at ha hl
    have hc := hk c List.mem_cons_self
    have hi := hs c List.mem_cons_self
    cases c with
    | fl a => cases hi
    | fe => cases hi
    | st a x y =>
      have hln := hc.1
      have h0 := hln.1
      have hlt : a.toNat < m.length := by have := hln.2; omega
      have ht2 := ht.put h0 hlt (m.getD a.toNat 0 + 1)
      have ih := for_num (E := E) (mu := mu) (ns := ns) (z0 := z0) hok cs (acc ++ [(a, m.getD a.toNat 0 + 1)]) (putE kvs (.inl a) (.int (m.getD a.toNat 0 + 1))) (m.set a.toNat (m.getD a.toNat 0 + 1)) (some (Cmd.d (.st a x y))) (fun d hd => hk d (List.mem_cons_of_mem _ hd)) (fun d hd => hs d (List.mem_cons_of_mem _ hd)) (by rw [List.length_set]; exact hm) ht2 (by rw [List.length_append]; simp; omega) (by have := putE_len kvs (.inl a) (.int (m.getD a.toNat 0 + 1)); omega) (fun z1 kvs => by
        have := hN z1 kvs
        rw [nb] at this
        rw [List.append_assoc]
        exact this)
      show bodyN { E with nx := forL (dName 1) bodyN E ok (cs.map Cmd.d), ct := forL (dName 1) bodyN E ok (cs.map Cmd.d), bk := E.nx } [z0, some (Cmd.d (.st a x y)), some (.ptr mu.length), some (.ptr (mu.length + 1))] (mu ++ [.lst (acc.map pI2), .dic kvs])
      generalize forL (dName 1) bodyN E ok (cs.map Cmd.d) = G at ih
      unfold bodyN
      have v0 := ht a h0
      simp only [dSeq, dKPut, dBin, dKGet, dFld, fldK, ix_line, Cmd.d, dVar, dC, List.getElem?_cons_zero, List.getElem?_cons_succ]
      refine ⟨⟨_, _, rfl, two_1 _ _ _⟩, _, _, two_1 _ _ _, rfl, ?_⟩
      rw [v0]
      simp only [gAdd]
      refine ⟨_, _, two_1 _ _ _, rfl, trivial, by omega, ?_⟩
      rw [two_s1]
      simp only [dDrop, dMtd, dTup, dCons, dNil, dFld, fldK, ix_line, dKIx, dVar, List.getElem?_cons_zero, List.getElem?_cons_succ]
      refine ⟨⟨_, rfl, .inl ⟨_, two_0 _ _ _⟩⟩, _, _, .int (m.getD a.toNat 0 + 1), two_1 _ _ _, rfl, by rw [valE_put, if_pos rfl], ⟨by simp, trivial, trivial, trivial⟩, ?_⟩
      simp only [gAppend, two_0]
      refine ⟨⟨trivial, by rw [List.length_map]; omega⟩, ?_⟩
      rw [two_s0]
      rw [List.map_append] at ih
      exact ih
theorem pure_numbered (ds : List D) (mu : Sto) (P' : KX) (F : KD) (h : sp_numbered ds mu P' F) : t_numbered (endT mu P' F) (gam0 4 ds) mu := by
  obtain ⟨ns, cs, rfl, hk, hs, h⟩ := h
  show t_numbered _ [some (.lst (cs.map Cmd.d)), none, none, none] mu
  unfold t_numbered
  simp only [dSeq, dPar2, dCons, dNil, dLst, dDicN, retL, npL, true_and, List.length_nil, Nat.zero_le, List.set_cons_zero, List.set_cons_succ]
  have e1 : (mu ++ [MO.lst []]).length = mu.length + 1 := by rw [List.length_append]; rfl
  have e2 : (mu ++ [MO.lst []]) ++ [MO.dic []] = mu ++ [.lst (([] : List (Int × Int)).map pI2), .dic []] := by rw [List.append_assoc]; rfl
  rw [e1, e2]
  simp only [dFor, iSeq, dVar, List.getElem?_cons_zero, List.getElem?_cons_succ]
  refine ⟨_, rfl, ?_⟩
  refine for_num (E := { endT mu P' F with nx := _ }) (fun S => rfl) cs [] [] (zs ns.length) none hk.2 hs (by simp [zs]) (TabM.zero _) (by have := hk.1; simp; omega) (by have := hk.1; simp; omega) fun z1 kvs => ?_
  simp only [dRet, dVar, List.getElem?_cons_zero, List.getElem?_cons_succ, endT]
  refine ⟨mu, _, Trim.same mu _, ?_, h⟩
  simp only [frz, Nat.lt_irrefl, if_false, two_0]
  rfl
theorem gEqII (i j : Int) {mu : Sto} {P : KX} {F : KD} : gEq 6 (.int i) (.int j) mu P F = F (.bl (i == j)) mu := gEqI i j
theorem pure_first_holds (ds : List D) (mu : Sto) (P' : KX) (F : KD) (h : sp_first_holds ds mu P' F) : t_first_holds (endF P' F) (gam0 4 ds) mu := by
  obtain ⟨p, b, line, num, rfl, ⟨h0, h1⟩, h⟩ := h
  show t_first_holds _ [some (pI2 p), some (bx b), some (.int line), some (.int num)] mu
  unfold t_first_holds
  have e0 : L2.atI [D.int p.1, .int p.2] 0 = some (.int p.1) := rfl
  have e1 : L2.atI [D.int p.1, .int p.2] 1 = some (.int p.2) := rfl
  have e2 := atI_i h0 h1
  simp only [dSeq, dIfS, dCT, dBin, dVar, dC, dFld, fldK, ix_low, gIx, pv_, e0, e1, e2, List.getElem?_cons_zero, List.getElem?_cons_succ, gEqI]
  unfold fhB at h
  by_cases q : line = p.1
  · rw [if_pos q] at h
    rw [if_pos (by rw [q]; exact beq_self_eq_true _)]
    simp only [dRet, dBin, dVar, dC, gIx, pv_, e1, gLe, gCmp, List.getElem?_cons_zero, List.getElem?_cons_succ]
    exact h
  · rw [if_neg q] at h
    rw [if_neg (by rw [beq_iff_eq]; exact q)]
    simp only [dNext, dRet, dBin, dVar, dC, dFld, fldK, ix_low, gIx, pv_, e2, gGe, gCmp, List.getElem?_cons_zero, List.getElem?_cons_succ]
    exact h
/-! ### pairs in order -/
def ltP (p q : Nat × Nat) : Prop := p.1 < q.1 ∨ (p.1 = q.1 ∧ p.2 < q.2)
def leP (p q : Nat × Nat) : Bool := decide (((p.1 : Nat) : Int) < ((q.1 : Nat) : Int) ∨ (((p.1 : Nat) : Int) = ((q.1 : Nat) : Int) ∧ ((p.2 : Nat) : Int) ≤ ((q.2 : Nat) : Int)))
theorem toPy_pD (p : Nat × Nat) : toPy (pD p) = .tuple [.int ((p.1 : Nat) : Int), .int ((p.2 : Nat) : Int)] := by
  simp only [toPy, toPyL]
theorem leD_pD (p q : Nat × Nat) : leD (pD p) (pD q) = leP p q := by
  have e := PySem.W.dataLe_ii (fun p : Nat × Nat => ((p.1 : Nat) : Int)) (fun p => ((p.2 : Nat) : Int))
  have e2 := congrFun (congrFun e p) q
  unfold leP
  rw [← e2]
  show (!PySem.W.dataLt (toPy (pD q)) (toPy (pD p))) = _
  rw [toPy_pD, toPy_pD]
  rfl
theorem pairsF_lt (n : Nat) (P : Nat → Nat → Bool) : (pairsF n P).Pairwise ltP := by
  unfold pairsF
  rw [List.pairwise_flatMap]
  refine ⟨fun i _ => ?_, ?_⟩
  · rw [List.pairwise_map]
    exact (List.pairwise_lt_range.filter _).imp fun h => .inr ⟨rfl, h⟩
  · refine List.pairwise_lt_range.imp fun {a b} h x hx y hy => ?_
    obtain ⟨_, _, rfl⟩ := List.mem_map.mp hx
    obtain ⟨_, _, rfl⟩ := List.mem_map.mp hy
    exact .inl h
theorem mem_pairsF {n : Nat} {P : Nat → Nat → Bool} {p : Nat × Nat} : p ∈ pairsF n P ↔ p.1 < n ∧ p.2 < n ∧ P p.1 p.2 = true := by
  unfold pairsF
  rw [List.mem_flatMap]
  constructor
  · rintro ⟨i, hi, h⟩
    obtain ⟨j, hj, rfl⟩ := List.mem_map.mp h
    obtain ⟨h1, h2⟩ := List.mem_filter.mp hj
    exact ⟨List.mem_range.mp hi, List.mem_range.mp h1, h2⟩
  · rintro ⟨h1, h2, h3⟩
    exact ⟨p.1, List.mem_range.mpr h1, List.mem_map.mpr ⟨p.2, List.mem_filter.mpr ⟨List.mem_range.mpr h2, h3⟩, rfl⟩⟩
theorem ltP_ne {p q : Nat × Nat} (h : ltP p q) : p ≠ q := fun e => by
  subst e
  rcases h with h | ⟨_, h⟩ <;> omega
def colsF (n : Nat) (P : Nat → Nat → Bool) : List (Nat × Nat) := (List.range n).flatMap fun j => ((List.range n).filter fun i => P i j).map fun i => (i, j)
theorem cols_swap (n : Nat) (P : Nat → Nat → Bool) : colsF n P = (pairsF n fun j i => P i j).map fun p => (p.2, p.1) := by
  unfold colsF pairsF
  rw [List.map_flatMap]
  congr 1
  funext j
  rw [List.map_map]
  rfl
theorem sort_cols (n : Nat) (P : Nat → Nat → Bool) : sortD ((colsF n P).map pD) = (pairsF n P).map pD := by
  have h1 : sortD ((colsF n P).map pD) = ((colsF n P).mergeSort leP).map pD := (List.map_mergeSort (r := leP) (s := leD) (fun a _ b _ => (leD_pD a b).symm)).symm
  rw [h1]
  congr 1
  have nd1 : (colsF n P).Nodup := by
    rw [cols_swap]
    unfold List.Nodup
    rw [List.pairwise_map]
    exact (pairsF_lt n fun j i => P i j).imp fun {a b} h => (fun e => ltP_ne h (Prod.ext (Prod.mk.inj e).2 (Prod.mk.inj e).1) : (a.2, a.1) ≠ (b.2, b.1))
  have nd2 : (pairsF n P).Nodup := (pairsF_lt n P).imp fun h => ltP_ne h
  have pm : (colsF n P).Perm (pairsF n P) := (List.perm_ext_iff_of_nodup nd1 nd2).mpr fun p => by
    rw [cols_swap, List.mem_map, mem_pairsF]
    constructor
    · rintro ⟨q, hq, rfl⟩
      obtain ⟨a, b, c⟩ := mem_pairsF.mp hq
      exact ⟨b, a, c⟩
    · rintro ⟨a, b, c⟩
      exact ⟨(p.2, p.1), mem_pairsF.mpr ⟨b, a, c⟩, rfl⟩
  have ps : ((colsF n P).mergeSort leP).Pairwise (fun a b => leP a b = true) := List.pairwise_mergeSort (le := leP) (fun a b c h1 h2 => by
    unfold leP at h1 h2 ⊢
    rw [decide_eq_true_eq] at h1 h2 ⊢
    omega) (fun a b => by
    unfold leP
    rw [Bool.or_eq_true, decide_eq_true_eq, decide_eq_true_eq]
    omega) _
  have pp : (pairsF n P).Pairwise (fun a b => leP a b = true) := (pairsF_lt n P).imp fun {a b} h => by
    unfold leP
    rw [decide_eq_true_eq]
    unfold ltP at h
    omega
  refine ((List.mergeSort_perm _ leP).trans pm).eq_of_pairwise (fun a b _ _ h1 h2 => ?_) ps pp
  unfold leP at h1 h2
  rw [decide_eq_true_eq] at h1 h2
  exact Prod.ext (by omega) (by omega)
theorem isPyL_pD : ∀ l : List (Nat × Nat), isPyL (l.map pD) = true
  | [] => by simp [isPyL]
  | p :: l => by
    rw [List.map_cons, isPyL, isPyL_pD l]
    simp [isPy, isPyL]
theorem toPy_map_pD (l : List (Nat × Nat)) : (l.map pD).map toPy = l.map fun p => PyData.tuple [.int ((p.1 : Nat) : Int), .int ((p.2 : Nat) : Int)] := by
  rw [List.map_map]
  apply List.map_congr_left
  intro p _
  exact toPy_pD p
theorem sorted_pD {n : Nat} {P : Nat → Nat → Bool} {mu : Sto} {x : D} {F : KD} (hx : lv mu x = some ((colsF n P).map pD)) (hF : F (.ptr mu.length) (mu ++ [.lst ((pairsF n P).map pD)])) : bSorted 1 [x] mu F := by
  refine ⟨_, hx, isPyL_pD _, ?_, ?_, fun d hd => ?_, ?_⟩
  · rw [toPy_map_pD]
    exact PySem.W.AllAlike.of fun a b => by simp [PySem.W.alike, PySem.W.alikeAll]
  · rw [toPy_map_pD]
    refine .inl fun d hd => ?_
    obtain ⟨a, _, rfl⟩ := List.mem_map.mp hd
    exact ⟨_, _, rfl⟩
  · obtain ⟨a, _, rfl⟩ := List.mem_map.mp hd
    rw [toPy_pD]
    simp [PyData.depth, PyData.depthAll]
  · rw [sort_cols]
    exact hF
end LW

/-! part N9 -/
namespace LW
open PySem PySem.Spec PyProof.Rows L2 DL DQ DX DZ
/-! ### orders -/
theorem nb_filter : ∀ (cs : List Cmd) (m : List Int), nb m (cs.filter isSt) = nb m cs
  | [], _ => rfl
  | .st a x y :: cs, m => by
    rw [List.filter_cons, if_pos (st_st a x y), nb, nb, nb_filter cs]
  | .fl a :: cs, m => by
    rw [List.filter_cons, if_neg (ne_t (st_fl a)), nb_filter cs, nb]
    all_goals simp
  | .fe :: cs, m => by
    rw [List.filter_cons, if_neg (ne_t (show isSt .fe = false from rfl)), nb_filter cs, nb]
    all_goals simp
theorem nb_fl (m : List Int) (a : Int) (cs : List Cmd) : nb m (.fl a :: cs) = nb m cs := by
  rw [nb]
  all_goals simp
theorem nb_fe (m : List Int) (cs : List Cmd) : nb m (.fe :: cs) = nb m cs := by
  rw [nb]
  all_goals simp
theorem nb_bxs : ∀ (cs : List Cmd) (m : List Int) (t : Nat) (s : Cn), (nb m cs).length = (bxs t s cs).length
  | [], _, _, _ => rfl
  | .st a x y :: cs, m, t, s => by
    rw [nb, bxs]
    simp only [spB, List.length_cons]
    rw [nb_bxs cs]
  | .fl a :: cs, m, t, s => by
    rw [nb_fl, bxs]
    simp only [spB]
    exact nb_bxs cs m _ _
  | .fe :: cs, m, t, s => by
    rw [nb_fe, bxs]
    simp only [spB]
    exact nb_bxs cs m _ _
theorem nb_ok {ns : List Int} : ∀ (cs : List Cmd) (m : List Int), (∀ c ∈ cs, c.ok ns) → ∀ p ∈ nb m cs, 0 ≤ p.1 ∧ p.1 < ns.length
  | [], _, _, p, h => by cases h
  | .st a x y :: cs, m, hk, p, h => by
    rw [nb] at h
    rcases List.mem_cons.mp h with rfl | h
    · have : wdOk ns a x := hk _ List.mem_cons_self
      exact this.1
    · exact nb_ok cs _ (fun c hc => hk c (List.mem_cons_of_mem _ hc)) p h
  | .fl a :: cs, m, hk, p, h => by
    rw [nb_fl] at h
    exact nb_ok cs m (fun c hc => hk c (List.mem_cons_of_mem _ hc)) p h
  | .fe :: cs, m, hk, p, h => by
    rw [nb_fe] at h
    exact nb_ok cs m (fun c hc => hk c (List.mem_cons_of_mem _ hc)) p h
theorem nat_beq (i j : Nat) : (((i : Nat) : Int) == ((j : Nat) : Int)) = (i == j) := by
  by_cases h : i = j
  · subst h
    simp
  · rw [beq_eq_false_iff_ne.mpr h, beq_eq_false_iff_ne]
    omega
theorem getD_of {α : Type} {l : List α} {i : Nat} {x d : α} (h : l[i]? = some x) : l.getD i d = x := by
  rw [List.getD_eq_getElem?_getD, h]
  rfl
def tgO : DG := dTupG 2 (gsCons (dName 5) (gsCons (dTupG 2 (gsCons (dName 6) (gsCons (dName 7) (gsNil)))) (gsNil)))
def bodyO : DS := dIfS (dAnd (dCT (gNe 6) (dVar 5) (dVar 3)) (dTru (dCall sp_first_holds (dCons (dBin gIx (dVar 1) (dVar 3)) (dCons (dVar 4) (dCons (dVar 6) (dCons (dVar 7) (dNil)))))))) (dDrop (dMtd gAppend (dVar 2) (dCons (dTup (dCons (dVar 5) (dCons (dVar 3) (dNil)))) (dNil)))) (dNext)
def rowP (pl : List (Int × Int)) (low : List Int) (j i : Nat) : Bool := !(i == j) && fhB (pl.getD j (0, 0)) low (pl.getD i (0, 0)).1 (pl.getD i (0, 0)).2
theorem for_oin {E : DEnds} {mu : Sto} {z0 : Option D} {pl : List (Int × Int)} {j : Nat} {b : Bx3} {pj : Int × Int} (hj : pl[j]? = some pj) (hl : ∀ p ∈ pl, 0 ≤ p.1 ∧ p.1 < b.2.1.length) {ok : Sto → Prop} (hok : ∀ S, ok S) : ∀ (rest : List (Int × Int)) (k : Nat) (acc : List (Nat × Nat)) (z5 z6 z7 : Option D), (∀ (i : Nat) p, rest[i]? = some p → pl[k + i]? = some p) → acc.length + rest.length ≤ 100000 →
    (∀ z5 z6 z7, E.nx [z0, some (.lst (pl.map pI2)), some (.ptr mu.length), some (.int (j : Nat)), some (bx b), z5, z6, z7] (mu ++ [.lst ((acc ++ ((List.range' k rest.length).filter (rowP pl b.2.1 j)).map fun i => (i, j)).map pD)])) →
    forL tgO bodyO E ok (enF k (rest.map pI2)) [z0, some (.lst (pl.map pI2)), some (.ptr mu.length), some (.int (j : Nat)), some (bx b), z5, z6, z7] (mu ++ [.lst (acc.map pD)])
  | [], k, acc, z5, z6, z7, _, _, hN => ⟨hok _, by have := hN z5 z6 z7; simpa using this⟩
  | p :: rest, k, acc, z5, z6, z7, hr, ha, hN => by
    refine ⟨hok _, ?_⟩
    rw [List.length_cons] at ha
    have hp : pl[k]? = some p := hr 0 p rfl
    have hpl := hl p (List.mem_of_getElem? hp)
    have ih := fun acc' z5 z6 z7 h1 h2 => for_oin (E := E) (mu := mu) (z0 := z0) hj hl hok rest (k + 1) acc' z5 z6 z7 (fun i q hq => by
      have := hr (i + 1) q (by simpa using hq)
      have e : k + 1 + i = k + (i + 1) := by omega
      rw [e]
      exact this) h1 h2
    show tgO (.tup [.int (k : Nat), pI2 p]) [z0, some (.lst (pl.map pI2)), some (.ptr mu.length), some (.int (j : Nat)), some (bx b), z5, z6, z7] (mu ++ [.lst (acc.map pD)]) E.ex fun ga1 mu1 => bodyO { E with nx := forL tgO bodyO E ok (enF (k + 1) (rest.map pI2)), ct := forL tgO bodyO E ok (enF (k + 1) (rest.map pI2)), bk := E.nx } ga1 mu1
    generalize forL tgO bodyO E ok (enF (k + 1) (rest.map pI2)) = G at ih
    unfold tgO
    simp only [dTupG, tv, gsCons, gsNil, dName, List.length_cons, List.length_nil, true_and, List.set_cons_zero, List.set_cons_succ]
    unfold bodyO
    have ej := atI_map pI2 hj
    simp only [dIfS, dAnd, dCT, dBin, dVar, List.getElem?_cons_zero, List.getElem?_cons_succ, gNeI, nat_beq]
    have er : rowP pl b.2.1 j k = (!(k == j) && fhB pj b.2.1 p.1 p.2) := by
      unfold rowP
      rw [getD_of hp, getD_of hj]
    have hstep : (List.range' k (rest.length + 1)).filter (rowP pl b.2.1 j) = (if rowP pl b.2.1 j k = true then [k] else []) ++ (List.range' (k + 1) rest.length).filter (rowP pl b.2.1 j) := by
      rw [List.range'_succ, List.filter_cons]
      split <;> rfl
    rw [List.length_cons, hstep, er] at hN
    cases q : (k == j) with
    | true =>
      simp only [Bool.not_true, Bool.false_eq_true, if_false, dNext]
      refine ih acc _ _ _ (by omega) fun z5 z6 z7 => ?_
      have := hN z5 z6 z7
      rw [q] at this
      simpa using this
    | false =>
      simp only [Bool.not_false, if_true, dTru, dCall, dCons, dNil, dBin, dVar, gIx, pv_, ej, List.getElem?_cons_zero, List.getElem?_cons_succ]
      refine ⟨pj, b, p.1, p.2, rfl, hpl, ?_⟩
      simp only [truK]
      cases q2 : fhB pj b.2.1 p.1 p.2 with
      | false =>
        simp only [Bool.false_eq_true, if_false, dNext]
        refine ih acc _ _ _ (by omega) fun z5 z6 z7 => ?_
        have := hN z5 z6 z7
        rw [q, q2] at this
        simpa using this
      | true =>
        simp only [if_true, dDrop, dMtd, dTup, dCons, dNil, dVar, List.getElem?_cons_zero, List.getElem?_cons_succ]
        have lg := last_get mu (MO.lst (acc.map pD)) rfl
        refine ⟨⟨_, rfl, .inl ⟨_, lg⟩⟩, ⟨by simp, trivial, trivial, trivial⟩, ?_⟩
        simp only [gAppend, lg]
        refine ⟨⟨trivial, by rw [List.length_map]; omega⟩, ?_⟩
        rw [last_set mu _ _ rfl]
        have e : acc.map pD ++ [D.tup [.int (k : Nat), .int (j : Nat)]] = (acc ++ [(k, j)]).map pD := by simp
        rw [e]
        refine ih (acc ++ [(k, j)]) _ _ _ (by rw [List.length_append]; simp; omega) fun z5 z6 z7 => ?_
        have := hN z5 z6 z7
        rw [q, q2] at this
        simpa using this
def bodyOO : DS := dFor (iEnA (dCons (dVar 1) (dNil))) tgO bodyO
def tgOO : DG := dTupG 2 (gsCons (dName 3) (gsCons (dName 4) (gsNil)))
theorem pI2_npD (l : List (Int × Int)) : (l.map pI2).all npD = true := by
  rw [List.all_eq_true]
  intro d hd
  obtain ⟨c, _, rfl⟩ := List.mem_map.mp hd
  rfl
theorem for_oout {E : DEnds} {mu : Sto} {z0 : Option D} {pl : List (Int × Int)} {n : Nat} (h200 : pl.length ≤ 200) {ok : Sto → Prop} (hok : ∀ S, ok S) {LL : List (List Int)} : ∀ (bs : List Bx3) (k : Nat) (acc : List (Nat × Nat)) (z3 z4 z5 z6 z7 : Option D), (∀ (i : Nat) b, bs[i]? = some b → LL[k + i]? = some b.2.1) → (∀ b ∈ bs, ∀ p ∈ pl, 0 ≤ p.1 ∧ p.1 < b.2.1.length) → k + bs.length = pl.length → acc.length + 200 * bs.length ≤ 60000 →
    (∀ z3 z4 z5 z6 z7, E.nx [z0, some (.lst (pl.map pI2)), some (.ptr mu.length), z3, z4, z5, z6, z7] (mu ++ [.lst ((acc ++ (List.range' k bs.length).flatMap fun j => ((List.range pl.length).filter (rowP pl (LL.getD j []) j)).map fun i => (i, j)).map pD)])) →
    forL tgOO bodyOO E ok (enF k (bs.map bx)) [z0, some (.lst (pl.map pI2)), some (.ptr mu.length), z3, z4, z5, z6, z7] (mu ++ [.lst (acc.map pD)])
  | [], k, acc, z3, z4, z5, z6, z7, _, _, _, _, hN => ⟨hok _, by have := hN z3 z4 z5 z6 z7; simpa using this⟩
  | b :: bs, k, acc, z3, z4, z5, z6, z7, hb, hp, hk, ha, hN => by
    refine ⟨hok _, ?_⟩
    rw [List.length_cons] at hk ha
    have hLk : LL[k]? = some b.2.1 := hb 0 b rfl
    have hkl : k < pl.length := by omega
    obtain ⟨pj, hj⟩ : ∃ pj, pl[k]? = some pj := ⟨pl[k], List.getElem?_eq_getElem hkl⟩
    have ih := fun acc' z3 z4 z5 z6 z7 h1 h2 => for_oout (E := E) (mu := mu) (z0 := z0) (n := n) h200 hok (LL := LL) bs (k + 1) acc' z3 z4 z5 z6 z7 (fun i q hq => by
      have := hb (i + 1) q (by simpa using hq)
      have e : k + 1 + i = k + (i + 1) := by omega
      rw [e]
      exact this) (fun c hc => hp c (List.mem_cons_of_mem _ hc)) (by omega) h1 h2
    show tgOO (.tup [.int (k : Nat), bx b]) [z0, some (.lst (pl.map pI2)), some (.ptr mu.length), z3, z4, z5, z6, z7] (mu ++ [.lst (acc.map pD)]) E.ex fun ga1 mu1 => bodyOO { E with nx := forL tgOO bodyOO E ok (enF (k + 1) (bs.map bx)), ct := forL tgOO bodyOO E ok (enF (k + 1) (bs.map bx)), bk := E.nx } ga1 mu1
    generalize forL tgOO bodyOO E ok (enF (k + 1) (bs.map bx)) = G at ih
    unfold tgOO
    simp only [dTupG, tv, gsCons, gsNil, dName, List.length_cons, List.length_nil, true_and, List.set_cons_zero, List.set_cons_succ]
    unfold bodyOO
    simp only [dFor, iEnA, dCons, dNil, dVar, List.getElem?_cons_zero, List.getElem?_cons_succ]
    refine ⟨_, rfl, pI2_npD pl, ?_⟩
    refine for_oin (E := { E with nx := _, ct := _, bk := _ }) hj (hp b List.mem_cons_self) (fun S => rfl) pl 0 acc z5 z6 z7 (fun i p h => by rw [Nat.zero_add]; exact h) (by omega) fun z5 z6 z7 => ?_
    have lr : (((List.range' 0 pl.length).filter (rowP pl b.2.1 k)).map fun i => (i, k)).length ≤ 200 := by
      rw [List.length_map]
      exact Nat.le_trans (List.length_filter_le _ _) (by rw [List.length_range']; exact h200)
    refine ih _ _ _ z5 z6 z7 (by rw [List.length_append]; omega) fun z3 z4 z5 z6 z7 => ?_
    have := hN z3 z4 z5 z6 z7
    rw [List.length_cons, List.range'_succ, List.flatMap_cons, ← List.append_assoc, getD_of hLk, List.range_eq_range'] at this
    rw [List.range_eq_range']
    exact this
theorem pure_orders (ds : List D) (mu : Sto) (P' : KX) (F : KD) (h : sp_orders ds mu P' F) : t_orders (endF P' F) (gam0 8 ds) mu := by
  obtain ⟨ns, cs, rfl, ⟨hn, hk⟩, h⟩ := h
  show t_orders _ [some (Pr ns cs), none, none, none, none, none, none, none] mu
  unfold t_orders
  have hks : csOk ns (cs.filter isSt) := ⟨Nat.le_trans (List.length_filter_le _ _) hk.1, fun c hc => hk.2 c (List.mem_filter.mp hc).1⟩
  simp only [dSeq, dSet, dCall, dCons, dNil, dVar, dLst, retL, npL, true_and, List.length_nil, Nat.zero_le, List.getElem?_cons_zero, List.getElem?_cons_succ, List.set_cons_zero, List.set_cons_succ]
  refine ⟨ns, cs, rfl, hk, ns, cs.filter isSt, rfl, hks, fun c hc => (List.mem_filter.mp hc).2, ?_⟩
  rw [nb_filter]
  simp only [dFor, iEnA, dCons, dNil, dSlice, dCall, dPart, dNoPart, dC, dVar, List.getElem?_cons_zero, List.getElem?_cons_succ]
  refine ⟨ns, cs, rfl, ⟨hn, hk⟩, _, rfl, ?_⟩
  have ec : DL.cutD ((allB ns.length cs).map bx) (some 1) none = (bxs 0 (cn0 ns.length) cs).map bx := by
    have := cut_from (l := (allB ns.length cs).map bx) 1 (by unfold allB; simp)
    rw [show ((1 : Nat) : Int) = 1 from rfl] at this
    rw [this]
    rfl
  rw [ec]
  simp only [retN]
  have lnb := nb_bxs cs (zs ns.length) 0 (cn0 ns.length)
  have lbx := bxs_len cs 0 (cn0 ns.length)
  have hl := hk.1
  have hpl := nb_ok cs (zs ns.length) hk.2
  have hlow := bxs_low cs 0 ns.length (cn0 ns.length) (cn0_ok _)
  have eL : lws ns.length cs = (bxs 0 (cn0 ns.length) cs).map fun b => b.2.1 := rfl
  refine ⟨_, rfl, bx_npD _, ?_⟩
  refine for_oout (E := { endF P' F with nx := _ }) (n := ns.length) (LL := lws ns.length cs) (by omega) (fun S => rfl) (bxs 0 (cn0 ns.length) cs) 0 [] none none none none none (fun i b hb => by rw [Nat.zero_add, eL, List.getElem?_map, hb]; rfl) (fun b hb p hp => by rw [hlow b hb]; exact hpl p hp) (by omega) (by simp; omega) fun z3 z4 z5 z6 z7 => ?_
  simp only [dRet, dCB, dCons, dNil, dVar, List.getElem?_cons_zero, List.getElem?_cons_succ]
  rw [List.nil_append]
  have ecol : ((List.range' 0 (bxs 0 (cn0 ns.length) cs).length).flatMap fun j => ((List.range (nb (zs ns.length) cs).length).filter (rowP (nb (zs ns.length) cs) ((lws ns.length cs).getD j []) j)).map fun i => (i, j)) = colsF (nb (zs ns.length) cs).length (ordP ns.length cs) := by
    rw [← lnb, ← List.range_eq_range']
    rfl
  rw [ecol]
  refine sorted_pD (n := (nb (zs ns.length) cs).length) (P := ordP ns.length cs) (by simp only [lv, last_get mu _ rfl]) ?_
  have := h ((colsF (nb (zs ns.length) cs).length (ordP ns.length cs)).map pD)
  rw [List.length_append, List.append_assoc]
  exact this
end LW

/-! part N10 -/
namespace LW
open PySem PySem.Spec PyProof.Rows L2 DL DQ DX DZ
/-! ### equal commands -/
theorem eqD_strs (x y : Str) : eqD (.str x) (.str y) = some (x == y) := by rw [eqD]
theorem eqD_ct (c e : Cmd) : eqD c.t e.t = some (decide (c = e)) := by
  have sf : (("store" : Str) == ("flush" : Str)) = false := by decide
  have se : (("store" : Str) == ("fence" : Str)) = false := by decide
  have fs : (("flush" : Str) == ("store" : Str)) = false := by decide
  have fe : (("flush" : Str) == ("fence" : Str)) = false := by decide
  have es : (("fence" : Str) == ("store" : Str)) = false := by decide
  have ef : (("fence" : Str) == ("flush" : Str)) = false := by decide
  cases c <;> cases e <;> simp only [Cmd.t, eqD_tup] <;> rw [eqL, eqD_strs]
  · rename_i a b d a' b' d'
    rw [beq_self_eq_true]
    have h := eqL_int [a, b, d] [a', b', d']
    show eqL (iL [a, b, d]) (iL [a', b', d']) = _
    rw [h]
    congr 1
    apply decide_eq_decide.mpr
    simp
  · rw [sf]; simp
  · rw [se]; simp
  · rw [fs]; simp
  · rename_i a a'
    rw [beq_self_eq_true]
    have h := eqL_int [a] [a']
    show eqL (iL [a]) (iL [a']) = _
    rw [h]
    congr 1
    apply decide_eq_decide.mpr
    simp
  · rw [fe]; simp
  · rw [es]; simp
  · rw [ef]; simp
  · rw [beq_self_eq_true]
    show eqL [] [] = _
    rw [eqL]
    simp
theorem gEqCt (c e : Cmd) {mu : Sto} {P : KX} {F : KD} : gEq 6 c.t e.t mu P F = F (.bl (decide (c = e))) mu := gEqV (cmdT_np c) (cmdT_np e) (by rw [dp_t]; decide) (eqD_ct c e)
/-! ### bounds -/
def body3 : DS := dIfS (dAnd (dCT (gEq 6) (dBin gIx (dVar 7) (dC (.int 0))) (dC (.str "store"))) (dCT (gEq 6) (dBin gIx (dVar 7) (dC (.int 1))) (dVar 4))) (dSet 8 (dBin (gAdd 0) (dVar 8) (dC (.int 1)))) (dIfS (dCT (gEq 6) (dVar 7) (dTup (dCons (dC (.str "flush")) (dCons (dVar 4) (dNil))))) (dSet 10 (dVar 8)) (dIfS (dCT (gEq 6) (dVar 7) (dTup (dCons (dC (.str "fence")) (dNil)))) (dSet 9 (dVar 10)) (dNext)))
theorem getD_setI {l : List Int} {a b : Nat} {x : Int} (h : a ≠ b) : (l.set a x).getD b 0 = l.getD b 0 := by
  rw [List.getD_eq_getElem?_getD, List.getD_eq_getElem?_getD, List.getElem?_set_ne h]
theorem getD_setS {l : List Int} {a : Nat} {x : Int} (h : a < l.length) : (l.set a x).getD a 0 = x := by
  rw [List.getD_eq_getElem?_getD, List.getElem?_set_self h]
  rfl
theorem for_c3 {E : DEnds} {S : Sto} {ns : List Int} {l : Nat} {z0 z1 z2 z3 z5 z6 : Option D} {ok : Sto → Prop} (hok : ok S) : ∀ (cs : List Cmd) (s : Cn) (z7 : Option D), (∀ c ∈ cs, c.ok ns) → CnOk ns.length s →
    (∀ z7, E.nx [z0, z1, z2, z3, some (.int (l : Nat)), z5, z6, z7, some (.int ((cs.foldl Cn.go s).md.getD l 0)), some (.int ((cs.foldl Cn.go s).su.getD l 0)), some (.int ((cs.foldl Cn.go s).fl.getD l 0))] S) →
    forL (dName 7) body3 E ok (tD cs) [z0, z1, z2, z3, some (.int (l : Nat)), z5, z6, z7, some (.int (s.md.getD l 0)), some (.int (s.su.getD l 0)), some (.int (s.fl.getD l 0))] S
  | [], s, z7, _, _, hN => ⟨hok, hN z7⟩
  | c :: cs, s, z7, hk, hs, hN => by
    refine ⟨hok, ?_⟩
    have hc := hk c List.mem_cons_self
    have ih := for_c3 (E := E) (S := S) (ns := ns) (l := l) (z0 := z0) (z1 := z1) (z2 := z2) (z3 := z3) (z5 := z5) (z6 := z6) hok cs (s.go c) (some c.t) (fun d hd => hk d (List.mem_cons_of_mem _ hd)) (go_len hs c) hN
    show body3 { E with nx := forL (dName 7) body3 E ok (tD cs), ct := forL (dName 7) body3 E ok (tD cs), bk := E.nx } [z0, z1, z2, z3, some (.int (l : Nat)), z5, z6, some c.t, some (.int (s.md.getD l 0)), some (.int (s.su.getD l 0)), some (.int (s.fl.getD l 0))] S
    generalize forL (dName 7) body3 E ok (tD cs) = G at ih
    unfold body3
    have eF : ∀ (P : KX) (F : KD), gEq 6 c.t (.tup [.str "flush", .int (l : Nat)]) S P F = F (.bl (decide (c = .fl (l : Nat)))) S := fun P F => gEqCt c (.fl (l : Nat))
    have eE : ∀ (P : KX) (F : KD), gEq 6 c.t (.tup [.str "fence"]) S P F = F (.bl (decide (c = .fe))) S := fun P F => gEqCt c .fe
    simp only [dIfS, dAnd, dCT, dBin, dVar, dC, List.getElem?_cons_zero, List.getElem?_cons_succ, t_at0, gEqS, nm_st]
    have tl : ∀ (h : isSt c = true → s.go c = s ∨ True), True := fun _ => trivial
    cases c with
    | st a x y =>
      have hln := hc.1
      simp only [st_st, if_true, Cmd.t, gIx, pv_, at_1, gEqI]
      by_cases e : a = (l : Nat)
      · subst e
        have hl : l < s.md.length := by have := hln.2; rw [hs.1]; omega
        simp only [beq_self_eq_true, if_true, dSet, dBin, dVar, dC, gAdd, List.getElem?_cons_zero, List.getElem?_cons_succ, List.set_cons_zero, List.set_cons_succ]
        have e1 : (s.go (.st (l : Nat) x y)).md.getD l 0 = s.md.getD l 0 + 1 := by
          show (s.md.set _ _).getD l 0 = _
          rw [Int.toNat_natCast, getD_setS hl]
        rw [e1] at ih
        exact ih
      · have e2 : (a == ((l : Nat) : Int)) = false := beq_eq_false_iff_ne.mpr e
        have h1 : (s.go (.st a x y)).md.getD l 0 = s.md.getD l 0 := by
          show (s.md.set _ _).getD l 0 = _
          exact getD_setI (by have := hln.1; omega)
        rw [h1] at ih
        have d1 : decide (Cmd.st a x y = .fl (l : Nat)) = false := by simp
        have d2 : decide (Cmd.st a x y = .fe) = false := by simp
        simp only [e2, Bool.false_eq_true, if_false, dCT, dBin, dTup, dCons, dNil, dVar, dC, List.getElem?_cons_zero, List.getElem?_cons_succ]
        refine ⟨⟨by simp, trivial, trivial, trivial⟩, ?_⟩
        have eF' := eF
        have eE' := eE
        simp only [Cmd.t] at eF' eE'
        simp only [eF', d1, Bool.false_eq_true, if_false]
        refine ⟨⟨by simp, trivial, trivial⟩, ?_⟩
        simp only [eE', d2, Bool.false_eq_true, if_false, dNext]
        exact ih
    | fl a =>
      simp only [st_fl, Bool.false_eq_true, if_false, dTup, dCons, dNil, dVar, dC, List.getElem?_cons_zero, List.getElem?_cons_succ]
      refine ⟨⟨by simp, trivial, trivial, trivial⟩, ?_⟩
      simp only [eF]
      by_cases e : a = (l : Nat)
      · subst e
        have hl : l < s.fl.length := by have := hc.2; rw [hs.2.1]; omega
        have d1 : decide (Cmd.fl (l : Nat) = .fl (l : Nat)) = true := by simp
        simp only [d1, if_true, dSet, dVar, List.getElem?_cons_zero, List.getElem?_cons_succ, List.set_cons_zero, List.set_cons_succ]
        have e1 : (s.go (.fl (l : Nat))).fl.getD l 0 = s.md.getD l 0 := by
          show (s.fl.set _ _).getD l 0 = _
          rw [Int.toNat_natCast, getD_setS hl]
        rw [e1] at ih
        exact ih
      · have d1 : decide (Cmd.fl a = .fl (l : Nat)) = false := by simp [e]
        have d2 : decide (Cmd.fl a = .fe) = false := by simp
        have h1 : (s.go (.fl a)).fl.getD l 0 = s.fl.getD l 0 := by
          show (s.fl.set _ _).getD l 0 = _
          exact getD_setI (by have := hc.1; omega)
        rw [h1] at ih
        simp only [d1, Bool.false_eq_true, if_false]
        refine ⟨⟨by simp, trivial, trivial⟩, ?_⟩
        simp only [eE, d2, Bool.false_eq_true, if_false, dNext]
        exact ih
    | fe =>
      have e0 : isSt .fe = false := rfl
      have d1 : decide (Cmd.fe = .fl (l : Nat)) = false := by simp
      have d2 : decide (Cmd.fe = .fe) = true := by simp
      simp only [e0, Bool.false_eq_true, if_false, dTup, dCons, dNil, dVar, dC, List.getElem?_cons_zero, List.getElem?_cons_succ]
      refine ⟨⟨by simp, trivial, trivial, trivial⟩, ?_⟩
      simp only [eF, d1, Bool.false_eq_true, if_false]
      refine ⟨⟨by simp, trivial, trivial⟩, ?_⟩
      simp only [eE, d2, if_true, dSet, dVar, List.getElem?_cons_zero, List.getElem?_cons_succ, List.set_cons_zero, List.set_cons_succ]
      exact ih
def body2 : DS := dSeq (dAsg (dTup (dCons (dC (.int 0)) (dCons (dC (.int 0)) (dCons (dC (.int 0)) (dNil))))) (dTupG 3 (gsCons (dName 8) (gsCons (dName 9) (gsCons (dName 10) (gsNil)))))) (dSeq (dFor (iSeq (dSlice 0 (dVar 1) (dNoPart) (dPart (dVar 3)))) (dName 7) body3) (dSeq (dDrop (dMtd gAppend (dVar 5) (dCons (dVar 9) (dNil)))) (dDrop (dMtd gAppend (dVar 6) (dCons (dVar 8) (dNil))))))
theorem for_c2 {E : DEnds} {T : Sto} {ns : List Int} {cs : List Cmd} (hk : csOk ns cs) (h6 : ns.length ≤ 6) {t : Nat} (ht : t ≤ cs.length) {z0 z2 : Option D} {ok : Sto → Prop} (hok : ∀ S, ok S) : ∀ (m l : Nat) (z4 z7 z8 z9 z10 : Option D), l + m = ns.length →
    (∀ z4 z7 z8 z9 z10, E.nx [z0, some (.lst (tD cs)), z2, some (.int (t : Nat)), z4, some (.ptr T.length), some (.ptr (T.length + 1)), z7, z8, z9, z10] (T ++ [.lst (iL ((List.range ns.length).map fun i => ((cs.take t).foldl Cn.go (cn0 ns.length)).su.getD i 0)), .lst (iL ((List.range ns.length).map fun i => ((cs.take t).foldl Cn.go (cn0 ns.length)).md.getD i 0))])) →
    forL (dName 4) body2 E ok ((List.range' l m).map fun (i : Nat) => D.int (i : Int)) [z0, some (.lst (tD cs)), z2, some (.int (t : Nat)), z4, some (.ptr T.length), some (.ptr (T.length + 1)), z7, z8, z9, z10] (T ++ [.lst (iL ((List.range l).map fun i => ((cs.take t).foldl Cn.go (cn0 ns.length)).su.getD i 0)), .lst (iL ((List.range l).map fun i => ((cs.take t).foldl Cn.go (cn0 ns.length)).md.getD i 0))])
  | 0, l, z4, z7, z8, z9, z10, hl, hN => ⟨hok _, by
    have e : l = ns.length := by omega
    rw [e]
    exact hN z4 z7 z8 z9 z10⟩
  | m + 1, l, z4, z7, z8, z9, z10, hl, hN => by
    rw [List.range'_succ, List.map_cons]
    refine ⟨hok _, ?_⟩
    have ih := fun z7 z8 z9 z10 => for_c2 (E := E) (T := T) hk h6 ht (z0 := z0) (z2 := z2) hok m (l + 1) (some (.int (l : Nat))) z7 z8 z9 z10 (by omega) hN
    show body2 { E with nx := forL (dName 4) body2 E ok ((List.range' (l + 1) m).map fun (i : Nat) => D.int (i : Int)), ct := forL (dName 4) body2 E ok ((List.range' (l + 1) m).map fun (i : Nat) => D.int (i : Int)), bk := E.nx } [z0, some (.lst (tD cs)), z2, some (.int (t : Nat)), some (.int (l : Nat)), some (.ptr T.length), some (.ptr (T.length + 1)), z7, z8, z9, z10] _
    generalize forL (dName 4) body2 E ok ((List.range' (l + 1) m).map fun (i : Nat) => D.int (i : Int)) = G at ih
    unfold body2
    have g0 : ∀ n i : Nat, (List.replicate n (0 : Int)).getD i 0 = 0 := fun n i => by
      rw [List.getD_eq_getElem?_getD, List.getElem?_replicate]
      split <;> rfl
    simp only [dSeq, dAsg, dTup, dCons, dNil, dC, dTupG, tv, gsCons, gsNil, dName, List.length_cons, List.length_nil, true_and, List.set_cons_zero, List.set_cons_succ]
    refine ⟨⟨by decide, trivial, trivial, trivial, trivial⟩, ?_⟩
    simp only [dFor, iSeq]
    refine slice_d (x := .lst (tD cs)) (lo := none) (hi := some (t : Int)) rfl rfl (fun G h => h) (fun G h => h) ?_
    refine ⟨_, rfl, ?_⟩
    rw [cut_to t (by rw [List.length_map]; exact ht), ← List.map_take]
    have hgo := for_c3 (E := { E with nx := fun ga' mu' => dDrop (dMtd gAppend (dVar 5) (dCons (dVar 9) dNil)) { E with nx := fun ga' mu' => dDrop (dMtd gAppend (dVar 6) (dCons (dVar 8) dNil)) { E with nx := G, ct := G, bk := E.nx } ga' mu', ct := G, bk := E.nx } ga' mu', ct := G, bk := E.nx }) (S := T ++ [.lst (iL ((List.range l).map fun i => ((cs.take t).foldl Cn.go (cn0 ns.length)).su.getD i 0)), .lst (iL ((List.range l).map fun i => ((cs.take t).foldl Cn.go (cn0 ns.length)).md.getD i 0))]) (l := l) (z0 := z0) (z1 := some (.lst (tD cs))) (z2 := z2) (z3 := some (.int (t : Nat))) (z5 := some (.ptr T.length)) (z6 := some (.ptr (T.length + 1))) (ok := okS (.lst ((cs.take t).map Cmd.t)) ((cs.take t).map Cmd.t)) rfl (cs.take t) (cn0 ns.length) z7 (fun c hc => hk.2 c (List.mem_of_mem_take hc)) (cn0_ok _) (fun z7 => by
      generalize ((cs.take t).foldl Cn.go (cn0 ns.length)) = s at ih ⊢
      simp only [dDrop, dMtd, dCons, dNil, dVar, List.getElem?_cons_zero, List.getElem?_cons_succ]
      refine ⟨⟨_, rfl, .inl ⟨_, two_0 _ _ _⟩⟩, ?_⟩
      simp only [gAppend, two_0]
      refine ⟨⟨trivial, by rw [List.length_map, List.length_map, List.length_range]; omega⟩, ?_⟩
      rw [two_s0]
      refine ⟨⟨_, rfl, .inl ⟨_, two_1 _ _ _⟩⟩, ?_⟩
      simp only [two_1]
      refine ⟨⟨trivial, by rw [List.length_map, List.length_map, List.length_range]; omega⟩, ?_⟩
      rw [two_s1, iL_app, iL_app]
      have e1 : (List.range l).map (fun i => s.su.getD i 0) ++ [s.su.getD l 0] = (List.range (l + 1)).map fun i => s.su.getD i 0 := by rw [List.range_succ, List.map_append]; rfl
      have e2 : (List.range l).map (fun i => s.md.getD i 0) ++ [s.md.getD l 0] = (List.range (l + 1)).map fun i => s.md.getD i 0 := by rw [List.range_succ, List.map_append]; rfl
      rw [e1, e2]
      exact ih _ _ _ _)
    have e0 : (cn0 ns.length).md.getD l 0 = 0 := g0 _ _
    have e1 : (cn0 ns.length).su.getD l 0 = 0 := g0 _ _
    have e2 : (cn0 ns.length).fl.getD l 0 = 0 := g0 _ _
    rw [e0, e1, e2] at hgo
    exact hgo
theorem range_getD (l : List Int) (n : Nat) (h : l.length = n) : (List.range n).map (fun i => l.getD i 0) = l := by
  subst h
  apply List.ext_getElem (by simp)
  intro i h1 h2
  rw [List.getElem_map, List.getElem_range, List.getD_eq_getElem?_getD, List.getElem?_eq_getElem h2]
  rfl
theorem fold_ok {n : Nat} : ∀ (cs : List Cmd) (s : Cn), CnOk n s → CnOk n (cs.foldl Cn.go s)
  | [], _, h => h
  | c :: cs, s, h => fold_ok cs _ (go_len h c)
theorem bds_get : ∀ (cs : List Cmd) (s : Cn) (t : Nat), t ≤ cs.length → (bds s cs)[t]? = some (((cs.take t).foldl Cn.go s).su, ((cs.take t).foldl Cn.go s).md)
  | [], s, t, h => by
    have e : t = 0 := by simpa using h
    subst e
    rfl
  | c :: cs, s, 0, _ => rfl
  | c :: cs, s, t + 1, h => by
    rw [List.length_cons] at h
    have := bds_get cs (s.go c) t (by omega)
    rw [bds, List.getElem?_cons_succ, this]
    rfl
theorem bds_len : ∀ (cs : List Cmd) (s : Cn), (bds s cs).length = cs.length + 1
  | [], _ => rfl
  | c :: cs, s => by rw [bds, List.length_cons, bds_len cs, List.length_cons]
theorem bds_range (n : Nat) (cs : List Cmd) : (List.range (cs.length + 1)).map (fun t => (((cs.take t).foldl Cn.go (cn0 n)).su, ((cs.take t).foldl Cn.go (cn0 n)).md)) = bds (cn0 n) cs := by
  apply List.ext_getElem?
  intro t
  rcases Nat.lt_or_ge t (cs.length + 1) with h | h
  · rw [List.getElem?_map, List.getElem?_range h, bds_get cs _ t (by omega)]
    rfl
  · rw [List.getElem?_eq_none (by simpa using h), List.getElem?_eq_none (by rw [bds_len]; exact h)]
def body1 : DS := dTrim2 (dPar2 5 6 (dCons (dLst 1 (dNil)) (dCons (dLst 1 (dNil)) (dNil)))) (dFor (iR1 (dCons (dCB bLen (dCons (dVar 0) (dNil))) (dNil))) (dName 4) body2) (dDrop (dMtd gAppend (dVar 2) (dCons (dTup (dCons (dVar 5) (dCons (dVar 6) (dNil)))) (dNil))))
theorem for_c1 {E : DEnds} {mu : Sto} {ns : List Int} {cs : List Cmd} (hk : csOk ns cs) (h6 : ns.length ≤ 6) {ok : Sto → Prop} (hok : ∀ S, ok S) : ∀ (m t : Nat) (z3 z4 z5 z6 z7 z8 z9 z10 : Option D), t + m = cs.length + 1 →
    (∀ z3 z4 z5 z6 z7 z8 z9 z10, E.nx [some (.lst (iL ns)), some (.lst (tD cs)), some (.ptr mu.length), z3, z4, z5, z6, z7, z8, z9, z10] (mu ++ [.lst ((bds (cn0 ns.length) cs).map bdL)])) →
    forL (dName 3) body1 E ok ((List.range' t m).map fun (i : Nat) => D.int (i : Int)) [some (.lst (iL ns)), some (.lst (tD cs)), some (.ptr mu.length), z3, z4, z5, z6, z7, z8, z9, z10] (mu ++ [.lst (((List.range t).map fun t => (((cs.take t).foldl Cn.go (cn0 ns.length)).su, ((cs.take t).foldl Cn.go (cn0 ns.length)).md)).map bdL)])
  | 0, t, z3, z4, z5, z6, z7, z8, z9, z10, ht, hN => ⟨hok _, by
    have e : t = cs.length + 1 := by omega
    rw [e, bds_range]
    exact hN z3 z4 z5 z6 z7 z8 z9 z10⟩
  | m + 1, t, z3, z4, z5, z6, z7, z8, z9, z10, ht, hN => by
    rw [List.range'_succ, List.map_cons]
    refine ⟨hok _, ?_⟩
    have ih := fun z4 z5 z6 z7 z8 z9 z10 => for_c1 (E := E) (mu := mu) hk h6 hok m (t + 1) (some (.int (t : Nat))) z4 z5 z6 z7 z8 z9 z10 (by omega) hN
    show body1 { E with nx := forL (dName 3) body1 E ok ((List.range' (t + 1) m).map fun (i : Nat) => D.int (i : Int)), ct := forL (dName 3) body1 E ok ((List.range' (t + 1) m).map fun (i : Nat) => D.int (i : Int)), bk := E.nx } [some (.lst (iL ns)), some (.lst (tD cs)), some (.ptr mu.length), some (.int (t : Nat)), z4, z5, z6, z7, z8, z9, z10] _
    generalize forL (dName 3) body1 E ok ((List.range' (t + 1) m).map fun (i : Nat) => D.int (i : Int)) = G at ih
    generalize hacc : (List.range t).map (fun t => (((cs.take t).foldl Cn.go (cn0 ns.length)).su, ((cs.take t).foldl Cn.go (cn0 ns.length)).md)) = acc
    have hT : (mu ++ [MO.lst (acc.map bdL)]).length = mu.length + 1 := by rw [List.length_append]; rfl
    have lg := last_get mu (MO.lst (acc.map bdL)) rfl
    have hap : ∀ x, (mu ++ [MO.lst (acc.map bdL)]).set mu.length x = mu ++ [x] := fun x => last_set mu _ _ rfl
    have hlt : mu.length < (mu ++ [MO.lst (acc.map bdL)]).length := by rw [hT]; omega
    have hal : acc.length = t := by rw [← hacc, List.length_map, List.length_range]
    generalize hTT : mu ++ [MO.lst (acc.map bdL)] = T at lg hap hlt hT
    unfold body1
    simp only [dTrim2, dPar2, dCons, dNil, dLst, retL, npL, true_and, List.length_nil, Nat.zero_le, List.set_cons_zero, List.set_cons_succ]
    have e1 : (T ++ [MO.lst []]).length = T.length + 1 := by rw [List.length_append]; rfl
    have e2 : (T ++ [MO.lst []]) ++ [MO.lst []] = T ++ [.lst (iL ((List.range 0).map fun i => ((cs.take t).foldl Cn.go (cn0 ns.length)).su.getD i 0)), .lst (iL ((List.range 0).map fun i => ((cs.take t).foldl Cn.go (cn0 ns.length)).md.getD i 0))] := by rw [List.append_assoc]; rfl
    rw [e1, e2]
    simp only [dFor, iR1, dCB, bLen, dCons, dNil, dVar, szD, List.length_map, List.getElem?_cons_zero, List.getElem?_cons_succ]
    refine ⟨⟨by omega, by omega⟩, ?_⟩
    have er : rngL 0 ((ns.length : Nat) : Int).toNat = (List.range' 0 ns.length).map fun (i : Nat) => D.int (i : Int) := by
      rw [Int.toNat_natCast, ← List.range_eq_range']
      unfold rngL
      apply List.map_congr_left
      intro k _
      rw [Int.zero_add]
    rw [er]
    refine for_c2 (E := { E with nx := _, ct := _, bk := _ }) hk h6 (by omega) (fun S => trivial) ns.length 0 z4 z7 z8 z9 z10 (by omega) fun z4 z7 z8 z9 z10 => ?_
    have hsl := fold_ok (cs.take t) _ (cn0_ok ns.length)
    rw [range_getD _ _ hsl.2.2, range_getD _ _ hsl.1]
    generalize hs : (cs.take t).foldl Cn.go (cn0 ns.length) = s at *
    refine ⟨T, Trim.same T _, ?_⟩
    have f2 : frz T.length (T ++ [MO.lst (iL s.su), .lst (iL s.md)]) (.ptr mu.length) = some (.ptr mu.length) := by
      simp only [DL.frz, if_pos hlt]
    have f5 : frz T.length (T ++ [MO.lst (iL s.su), .lst (iL s.md)]) (.ptr T.length) = some (.lst (iL s.su)) := by
      simp only [DL.frz, Nat.lt_irrefl, if_false, two_0]
    have f6 : frz T.length (T ++ [MO.lst (iL s.su), .lst (iL s.md)]) (.ptr (T.length + 1)) = some (.lst (iL s.md)) := by
      have hn : ¬ T.length + 1 < T.length := by omega
      simp only [DL.frz, hn, if_false, two_1]
    have f0 : ∀ l, frz T.length (T ++ [MO.lst (iL s.su), .lst (iL s.md)]) (.lst l) = some (.lst l) := fun l => rfl
    have f3 : ∀ i, frz T.length (T ++ [MO.lst (iL s.su), .lst (iL s.md)]) (.int i) = some (.int i) := fun l => rfl
    simp only [frzG, List.map_cons, List.map_nil, frzO, f0, f2, f3, f5, f6, dDrop, dMtd, dTup, dCons, dNil, dVar, List.getElem?_cons_zero, List.getElem?_cons_succ]
    refine ⟨⟨_, rfl, .inl ⟨_, lg⟩⟩, ⟨by simp, trivial, trivial, trivial⟩, ?_⟩
    simp only [gAppend, lg]
    refine ⟨⟨trivial, by rw [List.length_map, hal]; have := hk.1; omega⟩, ?_⟩
    rw [hap]
    have e3 : acc.map bdL ++ [D.tup [.lst (iL s.su), .lst (iL s.md)]] = ((List.range (t + 1)).map (fun t => (((cs.take t).foldl Cn.go (cn0 ns.length)).su, ((cs.take t).foldl Cn.go (cn0 ns.length)).md))).map bdL := by
      rw [List.range_succ, List.map_append, List.map_append, hacc]
      simp [hs]
    rw [e3]
    exact ih _ _ _ _ _ _ _
theorem pure__law_bounds (ds : List D) (mu : Sto) (P' : KX) (F : KD) (h : sp__law_bounds ds mu P' F) : t__law_bounds (endT mu P' F) (gam0 11 ds) mu := by
  obtain ⟨ns, cs, rfl, ⟨hn, hk⟩, h⟩ := h
  show t__law_bounds _ [some (.lst (iL ns)), some (.lst (tD cs)), none, none, none, none, none, none, none, none, none] mu
  unfold t__law_bounds
  have hl := hk.1
  simp only [dSeq, dSet, dLst, dNil, retL, npL, true_and, List.length_nil, Nat.zero_le, List.set_cons_zero, List.set_cons_succ]
  simp only [dFor, iR1, dCons, dNil, dBin, dCB, bLen, szD, dVar, dC, gAdd, List.length_map, List.getElem?_cons_zero, List.getElem?_cons_succ]
  refine ⟨⟨by omega, by omega⟩, ?_⟩
  have er : rngL 0 (((cs.length : Nat) : Int) + 1).toNat = (List.range' 0 (cs.length + 1)).map fun (i : Nat) => D.int (i : Int) := by
    have e : (((cs.length : Nat) : Int) + 1).toNat = cs.length + 1 := by omega
    rw [e, ← List.range_eq_range']
    unfold rngL
    apply List.map_congr_left
    intro k _
    rw [Int.zero_add]
  rw [er]
  refine for_c1 (E := { endT mu P' F with nx := _ }) hk hn.1.2 (fun S => trivial) (cs.length + 1) 0 none none none none none none none none (by omega) fun z3 z4 z5 z6 z7 z8 z9 z10 => ?_
  simp only [dRet, dVar, List.getElem?_cons_zero, List.getElem?_cons_succ, endT]
  exact end_cell h
end LW

/-! part N11 -/
namespace LW
open PySem PySem.Spec PyProof.Rows L2 DL DQ DX DZ
theorem rng_map (a : Int) (n : Nat) : rngL a n = ((List.range n).map fun (k : Nat) => a + (k : Int)).map D.int := by
  unfold rngL
  rw [List.map_map]
  rfl
def longer (a b : Int) (gs : List (List Int)) : List (List Int) := gs.flatMap fun g => (rngI a b).map fun n => g ++ [n]
theorem longer_len {a b : Int} (h : (rngI a b).length ≤ 13) : ∀ gs : List (List Int), (longer a b gs).length ≤ 13 * gs.length
  | [] => by simp [longer]
  | g :: gs => by
    have ih := longer_len h gs
    unfold longer at ih ⊢
    rw [List.flatMap_cons, List.length_append, List.length_map, List.length_cons]
    omega
theorem longer_at {a b : Int} {k : Nat} {gs : List (List Int)} (h : ∀ g ∈ gs, g.length ≤ k) : ∀ g ∈ longer a b gs, g.length ≤ k + 1 := fun g hg => by
  obtain ⟨g0, h0, h1⟩ := List.mem_flatMap.mp hg
  obtain ⟨n, _, rfl⟩ := List.mem_map.mp h1
  have := h g0 h0
  simp
  omega
theorem gAddI (i j : Int) {mu : Sto} {P : KX} {F : KD} : gAdd 0 (.int i) (.int j) mu P F = F (.int (i + j)) mu := rfl
def InR (b : Int) (l : List Int) : Prop := ∀ x ∈ l, 0 ≤ x ∧ x ≤ b
def CnI (b : Int) (s : Cn) : Prop := InR b s.md ∧ InR b s.fl ∧ InR b s.su
theorem InR.up {b : Int} {l : List Int} (h : InR b l) : InR (b + 1) l := fun x hx => ⟨(h x hx).1, by have := (h x hx).2; omega⟩
theorem InR.getD {b : Int} {l : List Int} (h : InR b l) (hb : 0 ≤ b) (i : Nat) : 0 ≤ l.getD i 0 ∧ l.getD i 0 ≤ b := by
  rw [List.getD_eq_getElem?_getD]
  cases q : l[i]? with
  | none => exact ⟨Int.le_refl _, hb⟩
  | some x => exact h x (List.mem_of_getElem? q)
theorem InR.set {b : Int} {l : List Int} (h : InR b l) {x : Int} (hx : 0 ≤ x ∧ x ≤ b) (i : Nat) : InR b (l.set i x) := fun y hy => by
  rcases List.mem_or_eq_of_mem_set hy with hy | hy
  · exact h y hy
  · rw [hy]
    exact hx
theorem CnI.go {b : Int} {s : Cn} (h : CnI b s) (hb : 0 ≤ b) (c : Cmd) : CnI (b + 1) (s.go c) := by
  obtain ⟨h1, h2, h3⟩ := h
  cases c with
  | st a x y =>
    refine ⟨h1.up.set ?_ _, h2.up, h3.up⟩
    have := h1.getD hb a.toNat
    omega
  | fl a =>
    refine ⟨h1.up, h2.up.set ?_ _, h3.up⟩
    have := h1.getD hb a.toNat
    omega
  | fe => exact ⟨h1.up, h2.up, h2.up⟩
theorem cn0_I (n : Nat) : CnI 0 (cn0 n) := by
  have : InR 0 (List.replicate n 0) := fun x hx => by
    rw [(List.mem_replicate.mp hx).2]
    omega
  exact ⟨this, this, this⟩
def inB (p : List Int × List Int) (im : List Int) : Bool := decide (im.length = p.1.length) && ((p.1.zip (im.zip p.2)).all fun q => decide (q.1 ≤ q.2.1) && decide (q.2.1 ≤ q.2.2))
theorem all3 (f : Int × Int × Int → Bool) : ∀ (a b c : List Int), a.length = b.length → b.length = c.length → ((a.zip (b.zip c)).all f = true ↔ ∀ i, i < a.length → f (a.getD i 0, b.getD i 0, c.getD i 0) = true)
  | [], [], [], _, _ => by simp
  | [], _ :: _, _, h, _ => by simp at h
  | _ :: _, [], _, h, _ => by simp at h
  | _, [], _ :: _, _, h => by simp at h
  | _, _ :: _, [], _, h => by simp at h
  | x :: a, y :: b, z :: c, h, h' => by
    have ih := all3 f a b c (by simpa using h) (by simpa using h')
    rw [List.zip_cons_cons, List.zip_cons_cons, List.all_cons, Bool.and_eq_true, ih]
    constructor
    · rintro ⟨h0, h1⟩ i hi
      cases i with
      | zero => exact h0
      | succ i => exact h1 i (by simpa using hi)
    · intro h2
      exact ⟨h2 0 (by simp), fun i hi => h2 (i + 1) (by simpa using hi)⟩
def Btw (n : Nat) (lo hi im : List Int) : Prop := im.length = n ∧ ∀ i, i < n → lo.getD i 0 ≤ im.getD i 0 ∧ im.getD i 0 ≤ hi.getD i 0
theorem inB_iff {n : Nat} {p : List Int × List Int} {im : List Int} (h1 : p.1.length = n) (h2 : p.2.length = n) : inB p im = true ↔ Btw n p.1 p.2 im := by
  unfold inB Btw
  rw [Bool.and_eq_true, decide_eq_true_eq, h1]
  constructor
  · rintro ⟨h, h3⟩
    refine ⟨h, fun i hi => ?_⟩
    have := (all3 _ p.1 im p.2 (by omega) (by omega)).mp h3 i (by omega)
    simpa using this
  · rintro ⟨h, h3⟩
    refine ⟨h, (all3 _ p.1 im p.2 (by omega) (by omega)).mpr fun i hi => ?_⟩
    simpa using h3 i (by omega)
theorem getD_set (l : List Int) (j i : Nat) (x : Int) : (l.set j x).getD i 0 = if j = i ∧ i < l.length then x else l.getD i 0 := by
  rw [List.getD_eq_getElem?_getD, List.getD_eq_getElem?_getD, List.getElem?_set]
  by_cases h : j = i
  · subst h
    by_cases h2 : j < l.length
    · simp [h2]
    · simp [h2, List.getElem?_eq_none (Nat.le_of_not_lt h2)]
  · simp [h]
def Le2 (a b : List Int) : Prop := ∀ i, a.getD i 0 ≤ b.getD i 0
theorem Le2.refl (a : List Int) : Le2 a a := fun _ => Int.le_refl _
theorem Le2.trans {a b c : List Int} (h : Le2 a b) (h' : Le2 b c) : Le2 a c := fun i => Int.le_trans (h i) (h' i)
def CnM (s : Cn) : Prop := Le2 s.su s.fl ∧ Le2 s.fl s.md
theorem md_up (s : Cn) (c : Cmd) : Le2 s.md (s.go c).md := fun i => by
  cases c with
  | st a x y =>
    show _ ≤ (s.md.set _ _).getD i 0
    rw [getD_set]
    split
    · rename_i h
      rw [h.1]
      omega
    · exact Int.le_refl _
  | fl a => exact Int.le_refl _
  | fe => exact Int.le_refl _
theorem su_up {s : Cn} (h : CnM s) (c : Cmd) : Le2 s.su (s.go c).su := by
  cases c with
  | st a x y => exact Le2.refl _
  | fl a => exact Le2.refl _
  | fe => exact h.1
theorem CnM.go {s : Cn} (h : CnM s) (c : Cmd) : CnM (s.go c) := by
  obtain ⟨h1, h2⟩ := h
  cases c with
  | st a x y => exact ⟨h1, h2.trans (md_up s (.st a x y))⟩
  | fl a =>
    refine ⟨fun i => ?_, fun i => ?_⟩
    · show _ ≤ (s.fl.set _ _).getD i 0
      rw [getD_set]
      split
      · rename_i h
        rw [h.1]
        exact Int.le_trans (h1 i) (h2 i)
      · exact h1 i
    · show (s.fl.set _ _).getD i 0 ≤ _
      rw [getD_set]
      split
      · rename_i h
        rw [h.1]
        exact Int.le_refl _
      · exact h2 i
  | fe => exact ⟨Le2.refl _, h2⟩
theorem cn0_M (n : Nat) : CnM (cn0 n) := ⟨Le2.refl _, Le2.refl _⟩
theorem step_in {n : Nat} {ns : List Int} (hn : n = ns.length) {s : Cn} {c : Cmd} {im : List Int} (hk : CnOk n s) (hm : CnM s) (hc : c.ok ns) (h0 : ¬ Btw n s.su s.md im) (h1 : Btw n (s.go c).su (s.go c).md im) : ∃ p, spB (s.go c) c = some p ∧ inB p im = true := by
  obtain ⟨k1, k2, k3⟩ := id hk
  cases c with
  | fl a => exact (h0 h1).elim
  | fe => exact (h0 ⟨h1.1, fun i hi => ⟨Int.le_trans (hm.1 i) (h1.2 i hi).1, (h1.2 i hi).2⟩⟩).elim
  | st a x y =>
    refine ⟨_, rfl, ?_⟩
    obtain ⟨g1, g2, g3⟩ := go_len hk (.st a x y)
    rw [inB_iff (n := n) (by show (List.set _ _ _).length = n; rw [List.length_set]; exact g3) g1]
    obtain ⟨hl, h1⟩ := h1
    refine ⟨hl, fun i hi => ⟨?_, (h1 i hi).2⟩⟩
    show (List.set (s.go (.st a x y)).su a.toNat _).getD i 0 ≤ _
    rw [getD_set]
    split
    · rename_i hj
      obtain ⟨rfl, hlt⟩ := hj
      by_cases hh : (im.getD a.toNat 0) ≤ s.md.getD a.toNat 0
      · refine (h0 ⟨hl, fun i hi => ⟨(h1 i hi).1, ?_⟩⟩).elim
        by_cases e : a.toNat = i
        · rw [← e]
          exact hh
        · have := (h1 i hi).2
          have e2 : (s.go (.st a x y)).md.getD i 0 = s.md.getD i 0 := by
            show (s.md.set _ _).getD i 0 = _
            rw [getD_set, if_neg (fun z => e z.1)]
          rw [e2] at this
          exact this
      · have e2 : (s.go (.st a x y)).md.getD a.toNat 0 = s.md.getD a.toNat 0 + 1 := by
          show (s.md.set _ _).getD a.toNat 0 = _
          rw [getD_set, if_pos ⟨rfl, by rw [k1]; exact hi⟩]
        rw [e2]
        omega
    · exact (h1 i hi).1
theorem box_time {n : Nat} {im : List Int} : ∀ (cs : List Cmd) (t : Nat) (s : Cn), CnOk n s → CnM s → (∃ b ∈ bxs t s cs, inB b.2 im = true) → ∃ k, k ≤ cs.length ∧ Btw n ((cs.take k).foldl Cn.go s).su ((cs.take k).foldl Cn.go s).md im
  | [], _, _, _, _, h => by
    obtain ⟨b, hb, _⟩ := h
    cases hb
  | c :: cs, t, s, hk, hm, h => by
    obtain ⟨b, hb, hi⟩ := h
    have ih := box_time (im := im) cs (t + 1) (s.go c) (go_len hk c) (hm.go c)
    have tl : (∃ b ∈ bxs (t + 1) (s.go c) cs, inB b.2 im = true) → ∃ k, k ≤ (c :: cs).length ∧ Btw n (((c :: cs).take k).foldl Cn.go s).su (((c :: cs).take k).foldl Cn.go s).md im := fun h => by
      obtain ⟨k, h1, h2⟩ := ih h
      exact ⟨k + 1, by rw [List.length_cons]; omega, h2⟩
    rw [bxs] at hb
    cases q : spB (s.go c) c with
    | none =>
      simp only [q] at hb
      exact tl ⟨b, hb, hi⟩
    | some p =>
      simp only [q] at hb
      rcases List.mem_cons.mp hb with rfl | hb
      · refine ⟨1, by rw [List.length_cons]; omega, ?_⟩
        show Btw n (s.go c).su (s.go c).md im
        cases c with
        | st a x y =>
          simp only [spB, Option.some.injEq] at q
          subst q
          obtain ⟨g1, g2, g3⟩ := go_len hk (.st a x y)
          have gm := hm.go (.st a x y)
          generalize s.go (.st a x y) = s1 at *
          rw [inB_iff (n := n) (by show (List.set _ _ _).length = n; rw [List.length_set]; exact g3) g1] at hi
          obtain ⟨hl, hi⟩ := hi
          refine ⟨hl, fun i h => ⟨?_, (hi i h).2⟩⟩
          have h1 := (hi i h).1
          have h1' : (s1.su.set a.toNat (s1.md.getD a.toNat 0)).getD i 0 ≤ im.getD i 0 := h1
          rw [getD_set] at h1'
          split at h1'
          · rename_i hj
            obtain ⟨rfl, _⟩ := hj
            exact Int.le_trans (Int.le_trans (gm.1 _) (gm.2 _)) h1'
          · exact h1'
        | _ => cases q
      · exact tl ⟨b, hb, hi⟩
theorem time_box {ns : List Int} {n : Nat} (hn : n = ns.length) {im : List Int} : ∀ (cs : List Cmd) (t : Nat) (s : Cn), CnOk n s → CnM s → (∀ c ∈ cs, c.ok ns) → ¬ Btw n s.su s.md im → (∃ k, k ≤ cs.length ∧ Btw n ((cs.take k).foldl Cn.go s).su ((cs.take k).foldl Cn.go s).md im) → ∃ b ∈ bxs t s cs, inB b.2 im = true
  | [], _, _, _, _, _, h0, h => by
    obtain ⟨k, hk, h1⟩ := h
    exact (h0 (by simpa using h1)).elim
  | c :: cs, t, s, hk, hm, ho, h0, h => by
    obtain ⟨k, hkl, h1⟩ := h
    cases k with
    | zero => exact (h0 (by simpa using h1)).elim
    | succ k =>
      rw [List.length_cons] at hkl
      have h1' : Btw n ((cs.take k).foldl Cn.go (s.go c)).su ((cs.take k).foldl Cn.go (s.go c)).md im := h1
      rw [bxs]
      by_cases hg : Btw n (s.go c).su (s.go c).md im
      · obtain ⟨p, q, hp⟩ := step_in hn hk hm (ho c List.mem_cons_self) h0 hg
        simp only [q]
        exact ⟨_, List.mem_cons_self, hp⟩
      · obtain ⟨b, hb, hi⟩ := time_box hn cs (t + 1) (s.go c) (go_len hk c) (hm.go c) (fun d hd => ho d (List.mem_cons_of_mem _ hd)) hg ⟨k, by omega, h1'⟩
        cases q : spB (s.go c) c with
        | none =>
          simp only []
          exact ⟨b, hb, hi⟩
        | some p =>
          simp only []
          exact ⟨b, List.mem_cons_of_mem _ hb, hi⟩
theorem mem_rng (a b x : Int) : x ∈ rngI a b ↔ a ≤ x ∧ x ≤ b := by
  unfold rngI
  rw [List.mem_map]
  constructor
  · rintro ⟨k, hk, rfl⟩
    have := List.mem_range.mp hk
    omega
  · rintro ⟨h1, h2⟩
    exact ⟨(x - a).toNat, List.mem_range.mpr (by omega), by omega⟩
theorem mem_longer (a b : Int) (gs : List (List Int)) (im : List Int) : im ∈ longer a b gs ↔ ∃ g ∈ gs, ∃ x, (a ≤ x ∧ x ≤ b) ∧ im = g ++ [x] := by
  unfold longer
  rw [List.mem_flatMap]
  constructor
  · rintro ⟨g, h1, h2⟩
    obtain ⟨x, h3, rfl⟩ := List.mem_map.mp h2
    exact ⟨g, h1, x, (mem_rng a b x).mp h3, rfl⟩
  · rintro ⟨g, h1, x, h2, rfl⟩
    exact ⟨g, h1, List.mem_map.mpr ⟨x, (mem_rng a b x).mpr h2, rfl⟩⟩
def Bt : List Int → List Int → List Int → Prop
  | a :: lo, b :: hi, x :: im => (a ≤ x ∧ x ≤ b) ∧ Bt lo hi im
  | [], [], [] => True
  | _, _, _ => False
theorem mem_btw : ∀ (lo hi : List Int) (acc : List (List Int)) (im : List Int), lo.length = hi.length → (im ∈ btw acc lo hi ↔ ∃ g ∈ acc, ∃ r, im = g ++ r ∧ Bt lo hi r)
  | [], [], acc, im, _ => by
    rw [btw]
    · constructor
      · intro h
        exact ⟨im, h, [], by simp, trivial⟩
      · rintro ⟨g, h, r, rfl, hr⟩
        cases r with
        | nil => simpa using h
        | cons => exact hr.elim
    all_goals simp
  | a :: lo, b :: hi, acc, im, hl => by
    show im ∈ btw (longer a b acc) lo hi ↔ _
    rw [mem_btw lo hi (longer a b acc) im (by simpa using hl)]
    constructor
    · rintro ⟨g, hg, r, rfl, hr⟩
      obtain ⟨g0, h0, x, hx, rfl⟩ := (mem_longer a b acc g).mp hg
      exact ⟨g0, h0, x :: r, by simp, hx, hr⟩
    · rintro ⟨g, hg, r, rfl, hr⟩
      cases r with
      | nil => exact hr.elim
      | cons x r => exact ⟨g ++ [x], (mem_longer a b acc _).mpr ⟨g, hg, x, hr.1, rfl⟩, r, by simp, hr.2⟩
  | [], _ :: _, _, _, h => by simp at h
  | _ :: _, [], _, _, h => by simp at h
theorem Bt_iff : ∀ (lo hi im : List Int), lo.length = hi.length → (Bt lo hi im ↔ Btw lo.length lo hi im)
  | [], [], [], _ => ⟨fun _ => ⟨rfl, fun i h => by simp at h⟩, fun _ => trivial⟩
  | [], [], _ :: _, _ => ⟨fun h => h.elim, fun h => by have := h.1; simp at this⟩
  | a :: lo, b :: hi, [], _ => ⟨fun h => h.elim, fun h => by have := h.1; simp at this⟩
  | a :: lo, b :: hi, x :: im, hl => by
    have ih := Bt_iff lo hi im (by simpa using hl)
    show (a ≤ x ∧ x ≤ b) ∧ Bt lo hi im ↔ _
    rw [ih]
    constructor
    · rintro ⟨h0, h1, h2⟩
      refine ⟨by simp [h1], fun i hi => ?_⟩
      cases i with
      | zero => simpa using h0
      | succ i => simpa using h2 i (by simpa using hi)
    · rintro ⟨h1, h2⟩
      refine ⟨by simpa using h2 0 (by simp), by simpa using h1, fun i hi => ?_⟩
      simpa using h2 (i + 1) (by simpa using hi)
  | [], _ :: _, _, h => by simp at h
  | _ :: _, [], _, h => by simp at h
theorem mem_btw0 {lo hi im : List Int} {n : Nat} (h1 : lo.length = n) (h2 : hi.length = n) : im ∈ btw [[]] lo hi ↔ Btw n lo hi im := by
  subst h1
  rw [mem_btw lo hi [[]] im (by omega), ← Bt_iff lo hi im (by omega)]
  constructor
  · rintro ⟨g, hg, r, rfl, hr⟩
    rw [List.mem_singleton.mp hg]
    exact hr
  · intro h
    exact ⟨[], by simp, im, rfl, h⟩
abbrev stA (n : Nat) (cs : List Cmd) (k : Nat) : Cn := (cs.take k).foldl Cn.go (cn0 n)
theorem fold_M : ∀ (cs : List Cmd) (s : Cn), CnM s → CnM (cs.foldl Cn.go s)
  | [], _, h => h
  | c :: cs, s, h => fold_M cs _ (h.go c)
theorem CnI.go0 {b : Int} {s : Cn} (h : CnI b s) (hb : 0 ≤ b) {c : Cmd} (hc : isSt c = false) : CnI b (s.go c) := by
  obtain ⟨h1, h2, h3⟩ := h
  cases c with
  | st a x y => cases hc
  | fl a => exact ⟨h1, h2.set (h1.getD hb a.toNat) _, h3⟩
  | fe => exact ⟨h1, h2, h2⟩
theorem fold_S : ∀ (cs : List Cmd) (s : Cn) (k : Int), 0 ≤ k → CnI k s → CnI (k + (cs.filter isSt).length) (cs.foldl Cn.go s)
  | [], _, _, _, h => by simpa using h
  | c :: cs, s, k, h0, h => by
    cases q : isSt c with
    | true =>
      have := fold_S cs _ (k + 1) (by omega) (h.go h0 c)
      have e : k + 1 + ((cs.filter isSt).length : Int) = k + (((c :: cs).filter isSt).length : Nat) := by rw [List.filter_cons, if_pos q, List.length_cons]; omega
      rw [e] at this
      exact this
    | false =>
      have := fold_S cs _ k h0 (h.go0 h0 q)
      rw [List.filter_cons, if_neg (ne_t q)]
      exact this
theorem mem_bds {n : Nat} {cs : List Cmd} {p : List Int × List Int} : p ∈ bds (cn0 n) cs ↔ ∃ k, k ≤ cs.length ∧ p = ((stA n cs k).su, (stA n cs k).md) := by
  constructor
  · intro h
    obtain ⟨k, hk, e⟩ := List.mem_iff_getElem.mp h
    rw [bds_len] at hk
    have := bds_get cs (cn0 n) k (by omega)
    rw [List.getElem?_eq_getElem (by rw [bds_len]; exact hk), e] at this
    exact ⟨k, by omega, Option.some.inj this⟩
  · rintro ⟨k, hk, rfl⟩
    exact List.mem_of_getElem? (bds_get cs (cn0 n) k hk)
theorem isIm_iff {ns : List Int} {cs : List Cmd} {im : List Int} : isIm ns cs im ↔ ∃ k, k ≤ cs.length ∧ Btw ns.length (stA ns.length cs k).su (stA ns.length cs k).md im := by
  unfold isIm
  constructor
  · rintro ⟨p, hp, hi⟩
    obtain ⟨k, hk, rfl⟩ := mem_bds.mp hp
    have := fold_ok (cs.take k) _ (cn0_ok ns.length)
    exact ⟨k, hk, (mem_btw0 this.2.2 this.1).mp hi⟩
  · rintro ⟨k, hk, hi⟩
    have := fold_ok (cs.take k) _ (cn0_ok ns.length)
    exact ⟨_, mem_bds.mpr ⟨k, hk, rfl⟩, (mem_btw0 this.2.2 this.1).mpr hi⟩
theorem zip_getD {a b : List Int} {p : Int × Int} (h : p ∈ a.zip b) : ∃ i, i < a.length ∧ i < b.length ∧ p = (a.getD i 0, b.getD i 0) := by
  obtain ⟨i, hi, e⟩ := List.mem_iff_getElem.mp h
  rw [List.length_zip] at hi
  refine ⟨i, by omega, by omega, ?_⟩
  rw [List.getElem_zip] at e
  rw [← e, List.getD_eq_getElem?_getD, List.getD_eq_getElem?_getD, List.getElem?_eq_getElem (by omega), List.getElem?_eq_getElem (by omega)]
  rfl
theorem small_bds {ns : List Int} {cs : List Cmd} (h : okC ns cs) : ∀ p ∈ bds (cn0 ns.length) cs, smallB p.1 p.2 := fun p hp => by
  obtain ⟨k, hk, rfl⟩ := mem_bds.mp hp
  have h1 := fold_ok (cs.take k) _ (cn0_ok ns.length)
  have h2 := fold_M (cs.take k) _ (cn0_M ns.length)
  have h3 := fold_S (cs.take k) _ 0 (Int.le_refl _) (cn0_I ns.length)
  obtain ⟨_, _, h4, h12, _⟩ := h
  have hl : (((cs.take k).filter isSt).length : Int) ≤ 12 := by
    have := ((List.take_sublist k cs).filter isSt).length_le
    omega
  refine ⟨by rw [h1.2.2, h1.1], by rw [h1.2.2]; exact h4, fun q hq => ?_⟩
  obtain ⟨i, i1, i2, rfl⟩ := zip_getD hq
  have a1 := (h3.2.2.getD (by omega) i).1
  have a2 := (h3.1.getD (by omega) i).2
  have a3 := h2.1 i
  have a4 := h2.2 i
  exact ⟨a1, Int.le_trans a3 a4, Int.le_trans a2 (by omega)⟩
abbrev Tg := Nat × List Int × List Int
def tgs : Cn → List Cmd → List Tg
  | _, [] => []
  | s, c :: cs => match c with
    | .st a x y => (a.toNat, (s.go (.st a x y)).su.set a.toNat ((s.go (.st a x y)).md.getD a.toNat 0), (s.go (.st a x y)).md) :: tgs (s.go (.st a x y)) cs
    | c => tgs (s.go c) cs
theorem bxs_tg : ∀ (cs : List Cmd) (t : Nat) (s : Cn), (bxs t s cs).map (·.2) = (tgs s cs).map (·.2)
  | [], _, _ => rfl
  | c :: cs, t, s => by
    have ih := bxs_tg cs (t + 1) (s.go c)
    cases c with
    | st a x y =>
      rw [bxs, tgs]
      simp only [spB, List.map_cons]
      rw [ih]
    | fl a =>
      rw [bxs, tgs]
      simp only [spB]
      rw [ih]
      simp
    | fe =>
      rw [bxs, tgs]
      simp only [spB]
      rw [ih]
      simp
def Aft (s : Cn) (b : Tg) : Prop := Le2 s.md b.2.2 ∧ s.md.getD b.1 0 < b.2.2.getD b.1 0
theorem tgs_aft {ns : List Int} : ∀ (cs : List Cmd) (s : Cn), CnOk ns.length s → (∀ c ∈ cs, c.ok ns) → ∀ b ∈ tgs s cs, Aft s b
  | [], _, _, _, b, h => by cases h
  | c :: cs, s, hk, ho, b, h => by
    have ih := tgs_aft cs (s.go c) (go_len hk c) (fun d hd => ho d (List.mem_cons_of_mem _ hd))
    have up : Aft (s.go c) b → Aft s b := fun h => ⟨(md_up s c).trans h.1, Int.lt_of_le_of_lt (md_up s c _) h.2⟩
    cases c with
    | st a x y =>
      rw [tgs] at h
      rcases List.mem_cons.mp h with rfl | h
      · refine ⟨md_up s _, ?_⟩
        show s.md.getD a.toNat 0 < (s.md.set a.toNat (s.md.getD a.toNat 0 + 1)).getD a.toNat 0
        have hl : (wdOk ns a x) := ho _ List.mem_cons_self
        rw [getD_set, if_pos ⟨rfl, by rw [hk.1]; have := hl.1.1; have := hl.1.2; omega⟩]
        omega
      · exact up (ih b h)
    | fl a => exact up (ih b (by rw [tgs] at h; exact h; all_goals simp))
    | fe => exact up (ih b (by rw [tgs] at h; exact h; all_goals simp))
def RTg (b b' : Tg) : Prop := Le2 b.2.2 b'.2.2 ∧ b.2.2.getD b'.1 0 < b'.2.2.getD b'.1 0
theorem tgs_pair {ns : List Int} : ∀ (cs : List Cmd) (s : Cn), CnOk ns.length s → (∀ c ∈ cs, c.ok ns) → (tgs s cs).Pairwise RTg
  | [], _, _, _ => List.Pairwise.nil
  | c :: cs, s, hk, ho => by
    have ho' : ∀ d ∈ cs, d.ok ns := fun d hd => ho d (List.mem_cons_of_mem _ hd)
    have ih := tgs_pair cs (s.go c) (go_len hk c) ho'
    cases c with
    | st a x y =>
      rw [tgs]
      exact List.Pairwise.cons (fun b hb => tgs_aft cs _ (go_len hk _) ho' b hb) ih
    | fl a => rw [tgs]; exact ih; all_goals simp
    | fe => rw [tgs]; exact ih; all_goals simp
def VTg (n : Nat) (b : Tg) : Prop := (b.2.1.length = n ∧ b.2.2.length = n) ∧ b.1 < n ∧ Le2 b.2.1 b.2.2 ∧ b.2.1.getD b.1 0 = b.2.2.getD b.1 0 ∧ 0 < b.2.2.getD b.1 0
theorem tgs_val {ns : List Int} : ∀ (cs : List Cmd) (s : Cn), CnOk ns.length s → CnM s → (∀ i, 0 ≤ s.md.getD i 0) → (∀ c ∈ cs, c.ok ns) → ∀ b ∈ tgs s cs, VTg ns.length b
  | [], _, _, _, _, _, b, h => by cases h
  | c :: cs, s, hk, hm, h0, ho, b, h => by
    have ih := tgs_val cs (s.go c) (go_len hk c) (hm.go c) (fun i => Int.le_trans (h0 i) (md_up s c i)) (fun d hd => ho d (List.mem_cons_of_mem _ hd))
    cases c with
    | st a x y =>
      rw [tgs] at h
      rcases List.mem_cons.mp h with rfl | h
      · have hl : (wdOk ns a x) := ho _ List.mem_cons_self
        obtain ⟨g1, g2, g3⟩ := go_len hk (.st a x y)
        have gm := hm.go (.st a x y)
        have hlt : a.toNat < ns.length := by have := hl.1.1; have := hl.1.2; omega
        have e : (s.go (.st a x y)).md.getD a.toNat 0 = s.md.getD a.toNat 0 + 1 := by
          show (s.md.set _ _).getD a.toNat 0 = _
          rw [getD_set, if_pos ⟨rfl, by rw [hk.1]; exact hlt⟩]
        have h1 := h0 a.toNat
        refine ⟨⟨by show (List.set _ _ _).length = _; rw [List.length_set]; exact g3, g1⟩, hlt, fun i => ?_, ?_, ?_⟩
        · show (List.set _ _ _).getD i 0 ≤ _
          rw [getD_set]
          split
          · rename_i h
            rw [h.1]
            exact Int.le_refl _
          · exact Int.le_trans (gm.1 i) (gm.2 i)
        · show (List.set _ _ _).getD a.toNat 0 = _
          rw [getD_set, if_pos ⟨rfl, by rw [g3]; exact hlt⟩]
        · show 0 < (s.go (.st a x y)).md.getD a.toNat 0
          omega
      · exact ih b h
    | fl a => exact ih b (by rw [tgs] at h; exact h; all_goals simp)
    | fe => exact ih b (by rw [tgs] at h; exact h; all_goals simp)
def his : List Int → List Cmd → List (Nat × List Int)
  | _, [] => []
  | m, .st a _ _ :: cs => (a.toNat, m.set a.toNat (m.getD a.toNat 0 + 1)) :: his (m.set a.toNat (m.getD a.toNat 0 + 1)) cs
  | m, _ :: cs => his m cs
theorem tgs_his : ∀ (cs : List Cmd) (s : Cn), (tgs s cs).map (fun b => (b.1, b.2.2)) = his s.md (cs.filter isSt)
  | [], _ => rfl
  | c :: cs, s => by
    have ih := tgs_his cs (s.go c)
    cases c with
    | st a x y =>
      rw [tgs, List.map_cons, ih, List.filter_cons, if_pos (st_st a x y), his]
      rfl
    | fl a =>
      rw [tgs, ih, List.filter_cons, if_neg (ne_t (st_fl a))]
      rfl
      all_goals simp
    | fe =>
      rw [tgs, ih, List.filter_cons, if_neg (ne_t (show isSt .fe = false from rfl))]
      rfl
      all_goals simp
def InT (n : Nat) (b : Tg) (im : List Int) : Prop := Btw n b.2.1 b.2.2 im
theorem isIm_box {ns : List Int} {cs : List Cmd} (hk : csOk ns cs) {im : List Int} : isIm ns cs im ↔ im = zs ns.length ∨ ∃ b ∈ tgs (cn0 ns.length) cs, InT ns.length b im := by
  have hz : ∀ im : List Int, Btw ns.length (cn0 ns.length).su (cn0 ns.length).md im ↔ im = zs ns.length := fun im => by
    have g0 : ∀ i, (List.replicate ns.length (0 : Int)).getD i 0 = 0 := fun i => by
      rw [List.getD_eq_getElem?_getD, List.getElem?_replicate]
      split <;> rfl
    constructor
    · rintro ⟨h1, h2⟩
      apply List.ext_getElem (by rw [h1]; simp [zs])
      intro i i1 i2
      have := h2 i (by omega)
      simp only [cn0, g0] at this
      have e : im.getD i 0 = im[i] := by rw [List.getD_eq_getElem?_getD, List.getElem?_eq_getElem i1]; rfl
      rw [e] at this
      simp only [zs, List.getElem_replicate]
      omega
    · rintro rfl
      refine ⟨by simp [zs], fun i _ => ?_⟩
      simp only [cn0, zs, g0]
      omega
  have hb : (∃ b ∈ bxs 0 (cn0 ns.length) cs, inB b.2 im = true) ↔ ∃ b ∈ tgs (cn0 ns.length) cs, InT ns.length b im := by
    have e := bxs_tg cs 0 (cn0 ns.length)
    have hv := tgs_val cs _ (cn0_ok ns.length) (cn0_M _) (fun i => by
      show 0 ≤ (List.replicate ns.length (0 : Int)).getD i 0
      rw [List.getD_eq_getElem?_getD, List.getElem?_replicate]
      split <;> exact Int.le_refl _) hk.2
    constructor
    · rintro ⟨b, h1, h2⟩
      have : b.2 ∈ (tgs (cn0 ns.length) cs).map (·.2) := by rw [← e]; exact List.mem_map.mpr ⟨b, h1, rfl⟩
      obtain ⟨b', h3, h4⟩ := List.mem_map.mp this
      refine ⟨b', h3, ?_⟩
      have v := (hv b' h3).1
      unfold InT
      rw [h4] at v ⊢
      exact (inB_iff v.1 v.2).mp h2
    · rintro ⟨b', h1, h2⟩
      have : b'.2 ∈ (bxs 0 (cn0 ns.length) cs).map (·.2) := by rw [e]; exact List.mem_map.mpr ⟨b', h1, rfl⟩
      obtain ⟨b, h3, h4⟩ := List.mem_map.mp this
      refine ⟨b, h3, ?_⟩
      have v := (hv b' h1).1
      unfold InT at h2
      rw [← h4] at v h2
      exact (inB_iff v.1 v.2).mpr h2
  rw [isIm_iff, ← hb]
  constructor
  · intro h
    by_cases h0 : Btw ns.length (cn0 ns.length).su (cn0 ns.length).md im
    · exact .inl ((hz im).mp h0)
    · exact .inr (time_box rfl cs 0 _ (cn0_ok _) (cn0_M _) hk.2 h0 h)
  · rintro (h | h)
    · exact ⟨0, Nat.zero_le _, (hz im).mpr h⟩
    · exact box_time cs 0 _ (cn0_ok _) (cn0_M _) h
theorem self_in {n : Nat} {b : Tg} (v : VTg n b) : InT n b b.2.1 := ⟨v.1.1, fun i _ => ⟨Int.le_refl _, v.2.2.1 i⟩⟩
theorem low_not0 {n : Nat} {b : Tg} (v : VTg n b) : b.2.1 ≠ zs n := fun e => by
  have h1 := v.2.2.2.1
  have h2 := v.2.2.2.2
  rw [e] at h1
  have : (zs n).getD b.1 0 = 0 := by
    unfold zs
    rw [List.getD_eq_getElem?_getD, List.getElem?_replicate]
    split <;> rfl
  omega
theorem lws_tg (n : Nat) (cs : List Cmd) : lws n cs = (tgs (cn0 n) cs).map (·.2.1) := by
  have := congrArg (List.map Prod.fst) (bxs_tg cs 0 (cn0 n))
  rw [List.map_map, List.map_map] at this
  exact this
theorem im_len {ns : List Int} {cs : List Cmd} {im : List Int} (h : isIm ns cs im) : im.length = ns.length := by
  obtain ⟨k, _, hb⟩ := isIm_iff.mp h
  exact hb.1
def bodyX : DS := dDrop (dMtd gExtend (dVar 10) (dCons (dLc 0 (iR2 (dCons (dVar 8) (dCons (dBin (gAdd 0) (dVar 9) (dC (.int 1))) (dNil)))) (dName 12) (dYes) (dBin (gAdd 0) (dVar 7) (dTup (dCons (dVar 12) (dNil)))) [12]) (dNil)))
theorem for_ext {E : DEnds} {S : Sto} {z0 z1 z2 z3 z4 z5 z6 z11 : Option D} {a b : Int} {ok : Sto → Prop} (hok : ∀ S, ok S) (ha : 0 ≤ a ∧ a ≤ b ∧ b ≤ 12) : ∀ (gs L : List (List Int)) (z7 z12 : Option D), L.length + 13 * gs.length ≤ 16777216 → (∀ g ∈ gs, g.length ≤ 100) →
    (∀ z7 z12, E.nx [z0, z1, z2, z3, z4, z5, z6, z7, some (.int a), some (.int b), some (.ptr S.length), z11, z12] (S ++ [.lst ((L ++ longer a b gs).map tI)])) →
    forL (dName 7) bodyX E ok (gs.map tI) [z0, z1, z2, z3, z4, z5, z6, z7, some (.int a), some (.int b), some (.ptr S.length), z11, z12] (S ++ [.lst (L.map tI)])
  | [], L, z7, z12, _, _, hN => ⟨hok _, by have := hN z7 z12; rw [show longer a b [] = [] from rfl, List.append_nil] at this; exact this⟩
  | g :: gs, L, z7, z12, hl, hg, hN => by
    refine ⟨hok _, ?_⟩
    have hr : (rngI a b).length ≤ 13 := by
      unfold rngI
      rw [List.length_map, List.length_range]
      omega
    rw [List.length_cons] at hl
    have ih := for_ext (E := E) (S := S) (z0 := z0) (z1 := z1) (z2 := z2) (z3 := z3) (z4 := z4) (z5 := z5) (z6 := z6) (z11 := z11) hok ha gs (L ++ (rngI a b).map fun n => g ++ [n]) (some (tI g)) z12 (by rw [List.length_append, List.length_map]; omega) (fun g' h' => hg g' (List.mem_cons_of_mem _ h')) (fun z7 z12 => by
      have := hN z7 z12
      rw [show longer a b (g :: gs) = ((rngI a b).map fun n => g ++ [n]) ++ longer a b gs from List.flatMap_cons, ← List.append_assoc] at this
      exact this)
    have hg1 := hg g List.mem_cons_self
    show bodyX { E with nx := forL (dName 7) bodyX E ok (gs.map tI), ct := forL (dName 7) bodyX E ok (gs.map tI), bk := E.nx } [z0, z1, z2, z3, z4, z5, z6, some (tI g), some (.int a), some (.int b), some (.ptr S.length), z11, z12] (S ++ [.lst (L.map tI)])
    generalize forL (dName 7) bodyX E ok (gs.map tI) = G at ih
    unfold bodyX
    have lg := last_get S (MO.lst (L.map tI)) rfl
    simp only [dDrop, dMtd, dCons, dNil, dBin, dVar, dLc, iR2, dC, gAddI, List.getElem?_cons_zero, List.getElem?_cons_succ, List.set_cons_zero, List.set_cons_succ]
    refine ⟨⟨_, rfl, .inl ⟨_, lg⟩⟩, ⟨by omega, by omega, by omega, by omega⟩, by rw [rngL_len]; omega, ?_⟩
    rw [rng_map]
    refine lc_map (f := D.int) (g := fun n => tI (g ++ [n])) (ok := fun _ => True) trivial (fun x => trivial) _ [] (fun n hn F hF => ?_) ?_
    · simp only [wip, List.set_cons_zero, List.set_cons_succ, dBin, dVar, dTup, dCons, dNil, gAdd, List.getElem?_cons_zero, List.getElem?_cons_succ]
      refine ⟨⟨by simp, trivial, trivial⟩, by rw [List.length_map]; simp; omega, ?_⟩
      rw [iL_app]
      exact hF
    · rw [List.nil_append]
      simp only [retN]
      refine ⟨_, _, lg, rfl, by rw [List.length_map, List.length_map, List.length_map, List.length_range]; unfold rngI at hr; rw [List.length_map, List.length_range] at hr; omega, ?_⟩
      rw [last_set S _ _ rfl]
      have e : L.map tI ++ ((List.range (b + 1 - a).toNat).map fun (k : Nat) => a + (k : Int)).map (fun n => tI (g ++ [n])) = (L ++ (rngI a b).map fun n => g ++ [n]).map tI := by
        rw [List.map_append, List.map_map (g := tI)]
        rfl
      rw [e]
      exact ih
def bodyZ : DS := dTrim3 (dSet 10 (dLst 1 (dNil))) (dFor (iSeq (dVar 6)) (dName 7) bodyX) (dSet 6 (dVar 10)) (dNext)
theorem for_zip {E : DEnds} {S : Sto} {p : Nat} (hp : p < S.length) {l0 l1 : List D} {ok : Sto → Prop} (hok : ok S) : ∀ (lo hi : List Int) (acc : List (List Int)) (z3 z4 z5 z7 z8 z9 z10 z11 z12 : Option D), (∀ p ∈ lo.zip hi, 0 ≤ p.1 ∧ p.1 ≤ p.2 ∧ p.2 ≤ 12) → lo.length ≤ 4 → acc.length * 13 ^ lo.length ≤ 28561 → (∀ g ∈ acc, g.length + lo.length ≤ 100) →
    (∀ z3 z4 z5 z7 z8 z9 z10 z11 z12, E.nx [some (.lst l0), some (.lst l1), some (.ptr p), z3, z4, z5, some (.lst ((btw acc lo hi).map tI)), z7, z8, z9, z10, z11, z12] S) →
    forL (dTupG 2 (gsCons (dName 8) (gsCons (dName 9) (gsNil)))) bodyZ E ok (zipD2 (iL lo) (iL hi)) [some (.lst l0), some (.lst l1), some (.ptr p), z3, z4, z5, some (.lst (acc.map tI)), z7, z8, z9, z10, z11, z12] S
  | [], hi, acc, z3, z4, z5, z7, z8, z9, z10, z11, z12, _, _, _, _, hN => by
    rw [iL_nil, zipD2]
    · have := hN z3 z4 z5 z7 z8 z9 z10 z11 z12
      rw [btw] at this
      · exact ⟨hok, this⟩
      all_goals simp
    all_goals simp
  | _ :: _, [], acc, z3, z4, z5, z7, z8, z9, z10, z11, z12, _, _, _, _, hN => by
    rw [iL_nil, zipD2]
    · have := hN z3 z4 z5 z7 z8 z9 z10 z11 z12
      rw [btw] at this
      · exact ⟨hok, this⟩
      all_goals simp
    all_goals simp
  | a :: lo, b :: hi, acc, z3, z4, z5, z7, z8, z9, z10, z11, z12, hq, h4, hs, hg, hN => by
    have ha := hq (a, b) (by simp)
    have hr : (rngI a b).length ≤ 13 := by
      unfold rngI
      rw [List.length_map, List.length_range]
      have := ha.2.2
      have := ha.1
      simp only at *
      omega
    rw [iL_cons, iL_cons, zipD2]
    refine ⟨hok, ?_⟩
    rw [List.length_cons] at h4
    have hs' : acc.length * (13 ^ lo.length * 13) ≤ 28561 := by rw [List.length_cons, Nat.pow_succ] at hs; exact hs
    have hle := longer_len hr acc
    have hs2 : (longer a b acc).length * 13 ^ lo.length ≤ 28561 := by
      refine Nat.le_trans (Nat.mul_le_mul_right _ hle) ?_
      have e : 13 * acc.length * 13 ^ lo.length = acc.length * (13 ^ lo.length * 13) := by
        rw [Nat.mul_comm 13 acc.length, Nat.mul_assoc, Nat.mul_comm 13]
      omega
    have hpos : 1 ≤ 13 ^ lo.length := Nat.one_le_pow _ _ (by decide)
    have hal : 13 * acc.length ≤ 28561 := by
      refine Nat.le_trans ?_ hs'
      rw [Nat.mul_comm]
      exact Nat.mul_le_mul_left _ (by omega)
    have ih := fun z3 z4 z5 z7 z8 z9 z10 z11 z12 => for_zip (E := E) hp (l0 := l0) (l1 := l1) hok lo hi (longer a b acc) z3 z4 z5 z7 z8 z9 z10 z11 z12 (fun p h => hq p (by simp [h])) (by omega) hs2 (fun g h => by
      have := longer_at (a := a) (b := b) (k := 100 - (lo.length + 1)) (gs := acc) (fun g0 h0 => by have := hg g0 h0; rw [List.length_cons] at this; omega) g h
      omega) (fun z3 z4 z5 z7 z8 z9 z10 z11 z12 => hN z3 z4 z5 z7 z8 z9 z10 z11 z12)
    generalize forL (dTupG 2 (gsCons (dName 8) (gsCons (dName 9) (gsNil)))) bodyZ E ok (zipD2 (iL lo) (iL hi)) = G at ih ⊢
    simp only [dTupG, tv, gsCons, gsNil, dName, List.length_cons, List.length_nil, true_and, List.set_cons_zero, List.set_cons_succ]
    unfold bodyZ
    simp only [dTrim3, dSet, dLst, dNil, dFor, iSeq, dVar, retL, npL, true_and, List.length_nil, Nat.zero_le, List.getElem?_cons_zero, List.getElem?_cons_succ, List.set_cons_zero, List.set_cons_succ]
    refine ⟨_, rfl, ?_⟩
    have e0 : S ++ [MO.lst []] = S ++ [.lst (([] : List (List Int)).map tI)] := rfl
    rw [e0]
    refine for_ext (E := { E with nx := _, ct := _, bk := _ }) (fun S => rfl) ha acc [] z7 z12 (by simp; omega) (fun g h => by have := hg g h; omega) fun z7 z12 => ?_
    rw [List.nil_append]
    simp only [List.getElem?_cons_zero, List.getElem?_cons_succ, List.set_cons_zero, List.set_cons_succ]
    refine ⟨S, Trim.same S _, ?_⟩
    have f2 : frz S.length (S ++ [MO.lst ((longer a b acc).map tI)]) (.ptr p) = some (.ptr p) := by
      simp only [DL.frz, if_pos hp]
    have f5 : frz S.length (S ++ [MO.lst ((longer a b acc).map tI)]) (.ptr S.length) = some (.lst ((longer a b acc).map tI)) := by
      simp only [DL.frz, Nat.lt_irrefl, if_false, last_get S (MO.lst ((longer a b acc).map tI)) rfl]
    have f0 : ∀ l, frz S.length (S ++ [MO.lst ((longer a b acc).map tI)]) (.lst l) = some (.lst l) := fun l => rfl
    simp only [frzG, List.map_cons, List.map_nil, frzO, f0, f2, f5]
    exact ih _ _ _ _ _ _ _ _ _
/-! ### the set of images -/
abbrev kvT (l : List (List Int)) : List (List Key × D) := l.map fun im => (im.map Sum.inl, D.bl true)
def addK (l : List (List Int)) (im : List Int) : List (List Int) := if im ∈ l then l else l ++ [im]
theorem inl_inj : ∀ {a b : List Int}, (a.map (Sum.inl : Int → Key) = b.map Sum.inl) ↔ a = b := fun {a b} => by
  constructor
  · intro h
    exact (List.map_inj_right (fun x y e => Sum.inl.inj e)).mp h
  · rintro rfl
    rfl
theorem any_kvT (im : List Int) : ∀ l : List (List Int), ((kvT l).any fun kv => decide (kv.1 = im.map Sum.inl)) = decide (im ∈ l)
  | [] => by simp
  | x :: l => by
    have ih := any_kvT im l
    unfold kvT at ih ⊢
    rw [List.map_cons, List.any_cons, ih]
    have e : decide ((x.map (Sum.inl : Int → Key), D.bl true).1 = im.map Sum.inl) = decide (x = im) := decide_eq_decide.mpr inl_inj
    rw [e, ← Bool.decide_or]
    apply decide_eq_decide.mpr
    rw [List.mem_cons]
    constructor
    · rintro (h | h)
      · exact .inl h.symm
      · exact .inr h
    · rintro (h | h)
      · exact .inl h.symm
      · exact .inr h
theorem put_kvT (im : List Int) (l : List (List Int)) : putD (kvT l) (im.map Sum.inl) (.bl true) = kvT (addK l im) := by
  unfold putD addK
  rw [any_kvT]
  by_cases h : im ∈ l
  · rw [if_pos (decide_eq_true h), if_pos h]
    unfold kvT
    rw [List.map_map]
    apply List.map_congr_left
    intro x _
    show (if x.map (Sum.inl : Int → Key) = im.map Sum.inl then _ else _) = _
    split <;> rfl
  · rw [if_neg (by rw [decide_eq_false h]; decide), if_neg h]
    unfold kvT
    rw [List.map_append]
    rfl
theorem addK_len (l : List (List Int)) (im : List Int) : (addK l im).length ≤ l.length + 1 := by
  unfold addK
  split
  · omega
  · rw [List.length_append]; simp
theorem mem_addK {l : List (List Int)} {im x : List Int} : x ∈ addK l im ↔ x ∈ l ∨ x = im := by
  unfold addK
  split
  · rename_i h
    exact ⟨.inl, fun z => z.elim id fun e => by rw [e]; exact h⟩
  · rw [List.mem_append, List.mem_singleton]
def bodyP : DS := dDPut (dVar 2) (dVar 7) (dC (.bl true))
theorem for_put {E : DEnds} {mu : Sto} {z0 z1 z3 z4 z5 z6 z8 z9 z10 z11 z12 : Option D} {ok : Sto → Prop} (hok : ∀ S, ok S) : ∀ (ims l : List (List Int)) (z7 : Option D), l.length + ims.length ≤ 1000000 →
    (∀ l' z7, l'.length ≤ l.length + ims.length → (∀ x, x ∈ l' ↔ x ∈ l ∨ x ∈ ims) → E.nx [z0, z1, some (.ptr mu.length), z3, z4, z5, z6, z7, z8, z9, z10, z11, z12] (mu ++ [.dit (kvT l')])) →
    forL (dName 7) bodyP E ok (ims.map tI) [z0, z1, some (.ptr mu.length), z3, z4, z5, z6, z7, z8, z9, z10, z11, z12] (mu ++ [.dit (kvT l)])
  | [], l, z7, _, hN => ⟨hok _, hN l z7 (by simp) fun x => by simp⟩
  | im :: ims, l, z7, hl, hN => by
    refine ⟨hok _, ?_⟩
    rw [List.length_cons] at hl
    have hal := addK_len l im
    have ih := for_put (E := E) (mu := mu) (z0 := z0) (z1 := z1) (z3 := z3) (z4 := z4) (z5 := z5) (z6 := z6) (z8 := z8) (z9 := z9) (z10 := z10) (z11 := z11) (z12 := z12) hok ims (addK l im) (some (tI im)) (by omega) (fun l' z7 h1 h2 => hN l' z7 (by rw [List.length_cons]; omega) fun x => by rw [h2, mem_addK, List.mem_cons, or_assoc])
    show bodyP { E with nx := forL (dName 7) bodyP E ok (ims.map tI), ct := forL (dName 7) bodyP E ok (ims.map tI), bk := E.nx } [z0, z1, some (.ptr mu.length), z3, z4, z5, z6, some (tI im), z8, z9, z10, z11, z12] (mu ++ [.dit (kvT l)])
    generalize forL (dName 7) bodyP E ok (ims.map tI) = G at ih
    unfold bodyP
    simp only [dDPut, dVar, dC, List.getElem?_cons_zero, List.getElem?_cons_succ]
    refine ⟨_, _, last_get mu _ rfl, keyL_ints im, trivial, by rw [List.length_map]; omega, ?_⟩
    rw [put_kvT, last_set mu _ _ rfl]
    exact ih
theorem btw_len : ∀ (lo hi : List Int) (acc : List (List Int)), (∀ p ∈ lo.zip hi, 0 ≤ p.1 ∧ p.1 ≤ p.2 ∧ p.2 ≤ 12) → (btw acc lo hi).length ≤ acc.length * 13 ^ lo.length
  | [], hi, acc, _ => by
    rw [btw]
    · simp
    all_goals simp
  | _ :: _, [], acc, _ => by
    rw [btw]
    · exact Nat.le_mul_of_pos_right _ (Nat.pow_pos (by decide))
    all_goals simp
  | a :: lo, b :: hi, acc, hp => by
    have ha := hp (a, b) (by simp)
    have hr : (rngI a b).length ≤ 13 := by
      unfold rngI
      rw [List.length_map, List.length_range]
      have := ha.2.2
      have := ha.1
      simp only at *
      omega
    have ih := btw_len lo hi (longer a b acc) (fun p h => hp p (by simp [h]))
    refine Nat.le_trans ih (Nat.le_trans (Nat.mul_le_mul_right _ (longer_len hr acc)) ?_)
    rw [List.length_cons, Nat.pow_succ, Nat.mul_comm 13 acc.length, Nat.mul_assoc, Nat.mul_comm 13]
    exact Nat.le_refl _
theorem small_len {lo hi : List Int} (h : smallB lo hi) : (btw [[]] lo hi).length ≤ 28561 := by
  refine Nat.le_trans (btw_len lo hi [[]] h.2.2) ?_
  rw [List.length_singleton, Nat.one_mul]
  exact Nat.le_trans (Nat.pow_le_pow_right (by decide) h.2.1) (by decide)
def bodyB2 : DS := dSeq (dSet 6 (dLst 0 (dCons (dTup (dNil)) (dNil)))) (dSeq (dFor (iZip2 (dCons (dVar 4) (dCons (dVar 5) (dNil)))) (dTupG 2 (gsCons (dName 8) (gsCons (dName 9) (gsNil)))) bodyZ) (dFor (iSeq (dVar 6)) (dName 7) bodyP))
def tgB2 : DG := dTupG 2 (gsCons (dName 4) (gsCons (dName 5) (gsNil)))
theorem for_bd2 {E : DEnds} {mu : Sto} {l0 l1 : List D} {ok : Sto → Prop} (hok : ∀ S, ok S) : ∀ (bl : List (List Int × List Int)) (l : List (List Int)) (z3 z4 z5 z6 z7 z8 z9 z10 z11 z12 : Option D), (∀ p ∈ bl, smallB p.1 p.2) → l.length + 28561 * bl.length ≤ 1000000 →
    (∀ l' z3 z4 z5 z6 z7 z8 z9 z10 z11 z12, l'.length ≤ l.length + 28561 * bl.length → (∀ x, x ∈ l' ↔ x ∈ l ∨ ∃ p ∈ bl, x ∈ btw [[]] p.1 p.2) → E.nx [some (.lst l0), some (.lst l1), some (.ptr mu.length), z3, z4, z5, z6, z7, z8, z9, z10, z11, z12] (mu ++ [.dit (kvT l')])) →
    forL tgB2 bodyB2 E ok (bl.map bdL) [some (.lst l0), some (.lst l1), some (.ptr mu.length), z3, z4, z5, z6, z7, z8, z9, z10, z11, z12] (mu ++ [.dit (kvT l)])
  | [], l, z3, z4, z5, z6, z7, z8, z9, z10, z11, z12, _, _, hN => ⟨hok _, hN l z3 z4 z5 z6 z7 z8 z9 z10 z11 z12 (by simp) fun x => by simp⟩
  | p :: bl, l, z3, z4, z5, z6, z7, z8, z9, z10, z11, z12, hb, hl, hN => by
    refine ⟨hok _, ?_⟩
    rw [List.length_cons] at hl
    have hp := hb p List.mem_cons_self
    have hle := small_len hp
    have ih := fun (l' : List (List Int)) z3 z4 z5 z6 z7 z8 z9 z10 z11 z12 (h1 : l'.length ≤ l.length + (btw [[]] p.1 p.2).length) (h2 : ∀ x, x ∈ l' ↔ x ∈ l ∨ x ∈ btw [[]] p.1 p.2) => for_bd2 (E := E) (mu := mu) (l0 := l0) (l1 := l1) hok bl l' z3 z4 z5 z6 z7 z8 z9 z10 z11 z12 (fun q hq => hb q (List.mem_cons_of_mem _ hq)) (by omega) (fun l2 z3 z4 z5 z6 z7 z8 z9 z10 z11 z12 h3 h4 => hN l2 z3 z4 z5 z6 z7 z8 z9 z10 z11 z12 (by rw [List.length_cons]; omega) fun x => by
      rw [h4, h2 x]
      constructor
      · rintro ((h | h) | ⟨q, h5, h6⟩)
        · exact .inl h
        · exact .inr ⟨p, List.mem_cons_self, h⟩
        · exact .inr ⟨q, List.mem_cons_of_mem _ h5, h6⟩
      · rintro (h | ⟨q, h5, h6⟩)
        · exact .inl (.inl h)
        · rcases List.mem_cons.mp h5 with rfl | h5
          · exact .inl (.inr h6)
          · exact .inr ⟨q, h5, h6⟩)
    show tgB2 (bdL p) [some (.lst l0), some (.lst l1), some (.ptr mu.length), z3, z4, z5, z6, z7, z8, z9, z10, z11, z12] (mu ++ [.dit (kvT l)]) E.ex fun ga1 mu1 => bodyB2 { E with nx := forL tgB2 bodyB2 E ok (bl.map bdL), ct := forL tgB2 bodyB2 E ok (bl.map bdL), bk := E.nx } ga1 mu1
    generalize forL tgB2 bodyB2 E ok (bl.map bdL) = G at ih
    unfold tgB2
    simp only [dTupG, tv, gsCons, gsNil, dName, List.length_cons, List.length_nil, true_and, List.set_cons_zero, List.set_cons_succ]
    unfold bodyB2
    simp only [dSeq, dSet, dLst, dTup, dCons, dNil, dFor, iZip2, dVar, retL, npL, np, true_and, and_true, List.length_cons, List.length_nil, List.getElem?_cons_zero, List.getElem?_cons_succ, List.set_cons_zero, List.set_cons_succ]
    refine ⟨by decide, by decide, _, _, rfl, rfl, iL_npD _, iL_npD _, ?_⟩
    have hpl : mu.length < (mu ++ [MO.dit (kvT l)]).length := by rw [List.length_append]; simp
    refine for_zip (E := { E with nx := _, ct := _, bk := _ }) hpl ⟨rfl, rfl⟩ p.1 p.2 [[]] _ _ _ _ _ _ _ _ _ hp.2.2 hp.2.1 ?_ (fun g hg => ?_) fun z3 z4 z5 z7 z8 z9 z10 z11 z12 => ?_
    · rw [List.length_singleton, Nat.one_mul]
      exact Nat.le_trans (Nat.pow_le_pow_right (by decide) hp.2.1) (by decide)
    · rw [List.mem_singleton.mp hg]
      have := hp.2.1
      simp
      omega
    · simp only [iSeq, dVar, List.getElem?_cons_zero, List.getElem?_cons_succ]
      refine ⟨_, rfl, ?_⟩
      exact for_put (E := { E with nx := G, ct := G, bk := E.nx }) (fun S => rfl) _ l z7 (by omega) fun l' z7 h1 h2 => ih l' _ _ _ _ _ _ _ _ _ _ h1 h2
/-! ### latest -/
def bodyL : DS := dIfS (dCT (gEq 6) (dBin gIx (dVar 5) (dC (.int 0))) (dC (.str "store"))) (dSeq (dAsg (dBin (gAdd 0) (dBin gIx (dVar 3) (dBin gIx (dVar 5) (dC (.int 1)))) (dC (.int 1))) (dSub (dVar 3) (dBin gIx (dVar 5) (dC (.int 1))))) (dIfS (dCT gLe (dBin gIx (dVar 3) (dBin gIx (dVar 5) (dC (.int 1)))) (dBin gIx (dVar 1) (dBin gIx (dVar 5) (dC (.int 1))))) (dSet 2 (dVar 4)) (dNext))) (dNext)
def tgL : DG := dTupG 2 (gsCons (dName 4) (gsCons (dName 5) (gsNil)))
theorem for_lat {E : DEnds} {mu : Sto} {ns im : List Int} (him : im.length = ns.length) {z0 : Option D} {ok : Sto → Prop} (hok : ∀ S, ok S) : ∀ (cs : List Cmd) (k : Nat) (m : List Int) (x : Int) (z4 z5 : Option D), (∀ c ∈ cs, c.ok ns) → m.length = ns.length →
    (∀ x m z4 z5, E.nx [z0, some (tI im), some (.int x), some (.ptr mu.length), z4, z5] (mu ++ [.lst (iL m)])) →
    forL tgL bodyL E ok (enF k (tD cs)) [z0, some (tI im), some (.int x), some (.ptr mu.length), z4, z5] (mu ++ [.lst (iL m)])
  | [], k, m, x, z4, z5, _, _, hN => ⟨hok _, hN x m z4 z5⟩
  | c :: cs, k, m, x, z4, z5, hk, hm, hN => by
    refine ⟨hok _, ?_⟩
    have hc := hk c List.mem_cons_self
    have ih := fun m x h => for_lat (E := E) (mu := mu) him (z0 := z0) hok cs (k + 1) m x (some (.int (k : Nat))) (some c.t) (fun d hd => hk d (List.mem_cons_of_mem _ hd)) h hN
    show tgL (.tup [.int (k : Nat), c.t]) [z0, some (tI im), some (.int x), some (.ptr mu.length), z4, z5] (mu ++ [.lst (iL m)]) E.ex fun ga1 mu1 => bodyL { E with nx := forL tgL bodyL E ok (enF (k + 1) (tD cs)), ct := forL tgL bodyL E ok (enF (k + 1) (tD cs)), bk := E.nx } ga1 mu1
    generalize forL tgL bodyL E ok (enF (k + 1) (tD cs)) = G at ih
    unfold tgL
    simp only [dTupG, tv, gsCons, gsNil, dName, List.length_cons, List.length_nil, true_and, List.set_cons_zero, List.set_cons_succ]
    unfold bodyL
    simp only [dIfS, dCT, dBin, dVar, dC, List.getElem?_cons_zero, List.getElem?_cons_succ, t_at0, gEqS, nm_st]
    cases c with
    | fl a =>
      simp only [st_fl, Bool.false_eq_true, if_false, dNext]
      exact ih m x hm
    | fe =>
      have e0 : isSt .fe = false := rfl
      simp only [e0, Bool.false_eq_true, if_false, dNext]
      exact ih m x hm
    | st a y w =>
      have hln := hc.1
      have lg := fun m : List Int => last_get mu (MO.lst (iL m)) rfl
      have ea := atI_i (ns := m) hln.1 (by rw [hm]; exact hln.2)
      have ei := atI_i (ns := im) hln.1 (by rw [him]; exact hln.2)
      have ex := ixN_i (l := iL m) (a := a) hln.1 (by rw [List.length_map, hm]; exact hln.2)
      simp only [st_st, if_true, dSeq, dAsg, dSub, dBin, dVar, dC, Cmd.t, gIx, pv_, at_1, lg, ea, gAddI, ex, Option.some.injEq, exists_eq_left', np, true_and, List.getElem?_cons_zero, List.getElem?_cons_succ]
      rw [last_set mu _ _ rfl, iL_set]
      have hm2 : (m.set a.toNat (m.getD a.toNat 0 + 1)).length = ns.length := by rw [List.length_set]; exact hm
      generalize m.set a.toNat (m.getD a.toNat 0 + 1) = m2 at hm2
      have ea2 := atI_i (ns := m2) hln.1 (by rw [hm2]; exact hln.2)
      simp only [dIfS, dCT, dBin, dVar, dC, gIx, pv_, at_1, lg, ea2, ei, gLe, gCmp, List.getElem?_cons_zero, List.getElem?_cons_succ]
      split
      · simp only [dSet, dVar, List.getElem?_cons_zero, List.getElem?_cons_succ, List.set_cons_zero, List.set_cons_succ]
        exact ih m2 _ hm2
      · exact ih m2 x hm2
theorem pure__law_latest (ds : List D) (mu : Sto) (P' : KX) (F : KD) (h : sp__law_latest ds mu P' F) : t__law_latest (endT mu P' F) (gam0 6 ds) mu := by
  obtain ⟨ns, cs, im, rfl, ⟨hn, hk⟩, him, h⟩ := h
  show t__law_latest _ [some (.lst (tD cs)), some (tI im), none, none, none, none] mu
  unfold t__law_latest
  have l6 := hn.1.2
  simp only [dSeq, dPar2, dCons, dNil, dNeg, dC, dBin, dLst, dCB, bLen, szD, dVar, retL, npL, np, true_and, and_true, List.length_cons, List.length_nil, List.length_map, List.getElem?_cons_zero, List.getElem?_cons_succ, List.set_cons_zero, List.set_cons_succ]
  refine ⟨by decide, _, rfl, by omega, by omega, by simp; omega, ?_⟩
  have e0 : (List.replicate ((im.length : Nat) : Int).toNat [D.int 0]).flatten = iL (zs im.length) := by rw [Int.toNat_natCast]; exact rep0 _
  rw [e0]
  simp only [retN, List.set_cons_zero, List.set_cons_succ]
  simp only [dFor, iEnA, dCons, dNil, dVar, List.getElem?_cons_zero, List.getElem?_cons_succ]
  refine ⟨_, rfl, tD_npD cs, ?_⟩
  refine for_lat (E := { endT mu P' F with nx := _ }) him (fun S => rfl) cs 0 (zs im.length) (-1) none none hk.2 (by simp [zs, him]) fun x m z4 z5 => ?_
  simp only [dRet, dVar, List.getElem?_cons_zero, List.getElem?_cons_succ, endT]
  exact ⟨mu, _, Trim.same mu _, rfl, h x⟩
/-! ### ranked -/
abbrev kI (p : Int × List Int) : D := .tup [.int p.1, tI p.2]
theorem lc_rank {ns : List Int} {cs : List Cmd} (hn : sizesOk ns) (hk : csOk ns cs) {S : Sto} {z0 z2 z3 z4 z5 z6 z8 z9 z10 z11 z12 : Option D} {ok : Sto → Prop} (hok : ok S) {G : List D → Sto → Prop} : ∀ (l : List (List Int)) (acc : List (Int × List Int)), (∀ im ∈ l, im.length = ns.length) →
    (∀ R : List (Int × List Int), R.map (·.2) = acc.map (·.2) ++ l → G (R.map kI) S) →
    lcL 0 (dName 7) dYes (dTup (dCons (dCall sp__law_latest (dCons (dVar 1) (dCons (dVar 7) (dNil)))) (dCons (dVar 7) (dNil)))) ok [z0, some (.lst (tD cs)), z2, z3, z4, z5, z6, none, z8, z9, z10, z11, z12] G (l.map tI) (acc.map kI) S
  | [], acc, _, h => ⟨hok, h acc (by simp)⟩
  | im :: l, acc, hi, h => by
    refine ⟨hok, ?_⟩
    simp only [dName, dYes, if_true, dTup, dCall, dCons, dNil, dVar, List.set_cons_zero, List.set_cons_succ, List.getElem?_cons_zero, List.getElem?_cons_succ]
    refine ⟨ns, cs, im, rfl, ⟨hn, hk⟩, hi im List.mem_cons_self, fun k => ⟨⟨by simp, trivial, trivial, trivial⟩, trivial, ?_⟩⟩
    have e : acc.map kI ++ [D.tup [.int k, tI im]] = (acc ++ [(k, im)]).map kI := by simp
    rw [e]
    refine lc_rank hn hk hok l (acc ++ [(k, im)]) (fun x hx => hi x (List.mem_cons_of_mem _ hx)) fun R hR => h R ?_
    rw [hR]
    simp
theorem lc_snd {S : Sto} {z0 z1 z2 z3 z4 z5 z6 z8 z9 z10 z12 : Option D} {ok : Sto → Prop} (hok : ok S) {G : List D → Sto → Prop} : ∀ (R : List (Int × List Int)) (acc : List (List Int)) , G ((acc ++ R.map (·.2)).map tI) S →
    lcL 0 (dTupG 2 (gsCons (dName 11) (gsCons (dName 7) (gsNil)))) dYes (dVar 7) ok [z0, z1, z2, z3, z4, z5, z6, none, z8, z9, z10, none, z12] G (R.map kI) (acc.map tI) S
  | [], acc, h => ⟨hok, by simpa using h⟩
  | p :: R, acc, h => by
    refine ⟨hok, ?_⟩
    simp only [dTupG, tv, gsCons, gsNil, dName, dYes, if_true, dVar, List.length_cons, List.length_nil, true_and, List.set_cons_zero, List.set_cons_succ, List.getElem?_cons_zero, List.getElem?_cons_succ]
    refine ⟨trivial, ?_⟩
    have e : acc.map tI ++ [tI p.2] = (acc ++ [p.2]).map tI := by simp
    rw [e]
    refine lc_snd hok R (acc ++ [p.2]) ?_
    rw [List.append_assoc]
    exact h
theorem toPyL_ints (a : List Int) : toPyL (iL a) = a.map PyData.int := by
  rw [toPyL_map, List.map_map]
  apply List.map_congr_left
  intro x _
  simp [toPy]
theorem toPy_tI (a : List Int) : toPy (tI a) = .tuple (a.map PyData.int) := by
  show toPy (.tup (iL a)) = _
  rw [toPy, toPyL_ints]
theorem toPy_kI (p : Int × List Int) : toPy (kI p) = .tuple [.int p.1, .tuple (p.2.map PyData.int)] := by
  show toPy (.tup [.int p.1, tI p.2]) = _
  rw [toPy, toPyL, toPyL, toPyL, toPy_tI]
  simp [toPy]
theorem isPy_ints : ∀ a : List Int, isPyL (iL a) = true
  | [] => by rw [iL_nil, isPyL]
  | x :: a => by rw [iL_cons, isPyL, isPy_ints a, isPy]; rfl
theorem isPyL_kI : ∀ l : List (Int × List Int), isPyL (l.map kI) = true
  | [] => by simp [isPyL]
  | p :: l => by
    rw [List.map_cons, isPyL, isPyL_kI l]
    simp [isPy, isPyL, isPy_ints]
theorem toPy_map_kI (l : List (Int × List Int)) : (l.map kI).map toPy = l.map fun p => PyData.tuple [.int p.1, .tuple (p.2.map PyData.int)] := by
  rw [List.map_map]
  apply List.map_congr_left
  intro p _
  exact toPy_kI p
theorem sorted_kI {R : List (Int × List Int)} {mu : Sto} {x : D} {F : KD} (hx : lv mu x = some (R.map kI)) (hF : ∀ R' : List (Int × List Int), R'.Perm R → F (.lst (R'.map kI)) mu) : bSorted 0 [x] mu F := by
  refine ⟨_, hx, isPyL_kI R, ?_, ?_, fun d hd => ?_, ?_⟩
  · rw [toPy_map_kI]
    exact PySem.W.AllAlike.of fun a b => by simp [PySem.W.alike, PySem.W.alikeAll, PySem.W.alike_ints]
  · rw [toPy_map_kI]
    refine .inl fun d hd => ?_
    obtain ⟨a, _, rfl⟩ := List.mem_map.mp hd
    exact ⟨_, _, rfl⟩
  · obtain ⟨a, _, rfl⟩ := List.mem_map.mp hd
    rw [toPy_kI]
    simp [PyData.depth, PyData.depthAll, PySem.W.depth_ints]
  · have e : sortD (R.map kI) = (R.mergeSort fun p q => leD (kI p) (kI q)).map kI := (List.map_mergeSort (r := fun p q => leD (kI p) (kI q)) (s := leD) (fun a _ b _ => rfl)).symm
    rw [e]
    exact hF _ (List.mergeSort_perm _ _)
theorem keys_kvT (l : List (List Int)) : (kvT l).map (fun p => kT p.1) = l.map tI := by
  rw [List.map_map]
  apply List.map_congr_left
  intro im _
  show D.tup ((im.map (Sum.inl : Int → Key)).map dK) = tI im
  rw [List.map_map]
  rfl
theorem noTpl_one {mu : Sto} (h : noTpl mu = true) {m : MO} (hm : noTpl [m] = true) : noTpl (mu ++ [m]) = true := by
  unfold noTpl at h hm ⊢
  rw [List.all_append, h, hm]
  rfl
theorem noTpl_setm {mu : Sto} (h : noTpl mu = true) (n : Nat) {m : MO} (hm : noTpl [m] = true) : noTpl (mu.set n m) = true := by
  unfold noTpl at h hm ⊢
  rw [List.all_eq_true] at h hm ⊢
  intro x hx
  rcases List.mem_or_eq_of_mem_set hx with hx | rfl
  · exact h x hx
  · exact hm _ (by simp)
theorem pure__law_images (ds : List D) (mu : Sto) (P' : KX) (F : KD) (h : sp__law_images ds mu P' F) : t__law_images (endT mu P' F) (gam0 13 ds) mu := by
  obtain ⟨ns, cs, rfl, ⟨hc, hT⟩, h⟩ := h
  obtain ⟨hn, hk, h4, h12, h24⟩ := id hc
  show t__law_images _ [some (.lst (iL ns)), some (.lst (tD cs)), none, none, none, none, none, none, none, none, none, none, none] mu
  unfold t__law_images
  simp only [dSeq, dSet, dDitN, dFor, iSeq, dCall, dCons, dNil, dVar, List.getElem?_cons_zero, List.getElem?_cons_succ, List.set_cons_zero, List.set_cons_succ]
  refine ⟨ns, cs, rfl, ⟨hn, hk⟩, _, rfl, ?_⟩
  have hbl : (bds (cn0 ns.length) cs).length ≤ 25 := by rw [bds_len]; omega
  refine for_bd2 (E := { endT mu P' F with nx := _ }) (fun S => rfl) _ [] none none none none none none none none none none (small_bds hc) (by simp; omega) fun l z3 z4 z5 z6 z7 z8 z9 z10 z11 z12 hl hm => ?_
  have hmem : ∀ im, im ∈ l ↔ isIm ns cs im := fun im => by rw [hm im]; simp [isIm]
  have hlen : l.length ≤ 1000000 := by simp at hl; omega
  have hil : ∀ im ∈ l, im.length = ns.length := fun im him => im_len ((hmem im).mp him)
  simp only [dCB, dCons, dNil, dLock, dVar, List.getElem?_cons_zero, List.getElem?_cons_succ]
  refine ⟨mu.length, kvT l, last_get mu _ rfl, fun od vs => ?_⟩
  rw [last_set mu _ _ rfl]
  simp only [dLc, iKeysD, dVar, List.getElem?_cons_zero, List.getElem?_cons_succ]
  refine ⟨od, vs, kvT l, last_get mu _ rfl, by rw [List.length_map, List.length_map]; omega, ?_⟩
  rw [keys_kvT]
  refine lc_rank hn hk (ok := okDk mu.length od vs (kvT l)) ⟨last_get mu _ rfl, noTpl_one hT rfl⟩ l [] hil fun R hR => ?_
  simp only [retN]
  refine ⟨last_get mu _ rfl, ?_⟩
  rw [last_set mu _ _ rfl]
  refine sorted_kI rfl fun R' hp => ?_
  simp only [List.set_cons_zero, List.set_cons_succ, dRet, dLc, iSeq, dVar, List.getElem?_cons_zero, List.getElem?_cons_succ]
  have hRl : R.length = l.length := by have := congrArg List.length hR; simpa using this
  refine ⟨_, rfl, by rw [List.length_map, hp.length_eq, hRl]; omega, ?_⟩
  refine lc_snd (ok := okS (.lst (R'.map kI)) (R'.map kI)) rfl R' [] ?_
  rw [List.nil_append]
  simp only [retN, endT]
  refine ⟨mu, _, Trim.same mu _, rfl, h _ (fun im => ?_) (by rw [List.length_map, hp.length_eq, hRl]; exact hlen)⟩
  rw [(hp.map (·.2)).mem_iff, hR]
  simp only [List.map_nil, List.nil_append]
  exact hmem im

end LW

/-! part N12 -/
namespace LW
open PySem PySem.Spec PyProof.Rows L2 DL DQ DX DZ
/-! ### places -/
theorem plc_fl (m : List Int) (t : Nat) (a : Int) (cs : List Cmd) : plc m t (.fl a :: cs) = plc m (t + 1) cs := by
  rw [plc]
  all_goals simp
theorem plc_fe (m : List Int) (t : Nat) (cs : List Cmd) : plc m t (.fe :: cs) = plc m (t + 1) cs := by
  rw [plc]
  all_goals simp
theorem plc_nb : ∀ (cs : List Cmd) (m : List Int) (t : Nat), (plc m t cs).map (fun p => (p.1, p.2.1)) = nb m cs
  | [], _, _ => rfl
  | .st a x y :: cs, m, t => by rw [plc, nb, List.map_cons, plc_nb cs]
  | .fl a :: cs, m, t => by rw [plc_fl, nb_fl, plc_nb cs]
  | .fe :: cs, m, t => by rw [plc_fe, nb_fe, plc_nb cs]
def tgP : DG := dTupG 2 (gsCons (dName 3) (gsCons (dName 4) (gsNil)))
def bodyQ : DS := dIfS (dCT (gEq 6) (dBin gIx (dVar 4) (dC (.int 0))) (dC (.str "store"))) (dSeq (dKPut (dVar 2) (dBin gIx (dVar 4) (dC (.int 1))) (dBin (gAdd 0) (dKGet (dVar 2) (dBin gIx (dVar 4) (dC (.int 1))) (dC (.int 0))) (dC (.int 1)))) (dDrop (dMtd gAppend (dVar 1) (dCons (dTup (dCons (dBin gIx (dVar 4) (dC (.int 1))) (dCons (dKIx (dVar 2) (dBin gIx (dVar 4) (dC (.int 1)))) (dCons (dVar 3) (dNil))))) (dNil))))) (dNext)
theorem for_plc {E : DEnds} {mu : Sto} {ns : List Int} {z0 : Option D} {ok : Sto → Prop} (hok : ∀ x y, ok (mu ++ [x, y])) : ∀ (cs : List Cmd) (k : Nat) (acc : List (Int × Int × Nat)) (kvs : List (Key × D)) (m : List Int) (z3 z4 : Option D), (∀ c ∈ cs, c.ok ns) → m.length = ns.length → TabM kvs m → acc.length + cs.length ≤ 1000 → kvs.length + cs.length ≤ 1000 →
    (∀ z3 z4 kvs, E.nx [z0, some (.ptr mu.length), some (.ptr (mu.length + 1)), z3, z4] (mu ++ [.lst ((acc ++ plc m k cs).map pI3), .dic kvs])) →
    forL tgP bodyQ E ok (enF k (tD cs)) [z0, some (.ptr mu.length), some (.ptr (mu.length + 1)), z3, z4] (mu ++ [.lst (acc.map pI3), .dic kvs])
  | [], k, acc, kvs, m, z3, z4, _, _, _, _, _, hN => ⟨hok _ _, by have := hN z3 z4 kvs; rw [plc, List.append_nil] at this; exact this⟩
  | c :: cs, k, acc, kvs, m, z3, z4, hk, hm, ht, ha, hl, hN => by
    refine ⟨hok _ _, ?_⟩
    rw [List.length_cons] at ha hl
    have hc := hk c List.mem_cons_self
    have ih := fun acc kvs m z3 z4 h1 h2 h3 h4 h5 => for_plc (E := E) (mu := mu) (ns := ns) (z0 := z0) hok cs (k + 1) acc kvs m z3 z4 (fun d hd => hk d (List.mem_cons_of_mem _ hd)) h1 h2 h3 h4 h5
    show tgP (.tup [.int (k : Nat), c.t]) [z0, some (.ptr mu.length), some (.ptr (mu.length + 1)), z3, z4] (mu ++ [.lst (acc.map pI3), .dic kvs]) E.ex fun ga1 mu1 => bodyQ { E with nx := forL tgP bodyQ E ok (enF (k + 1) (tD cs)), ct := forL tgP bodyQ E ok (enF (k + 1) (tD cs)), bk := E.nx } ga1 mu1
    generalize forL tgP bodyQ E ok (enF (k + 1) (tD cs)) = G at ih
    unfold tgP
    simp only [dTupG, tv, gsCons, gsNil, dName, List.length_cons, List.length_nil, true_and, List.set_cons_zero, List.set_cons_succ]
    unfold bodyQ
    simp only [dIfS, dCT, dBin, dVar, dC, List.getElem?_cons_zero, List.getElem?_cons_succ, t_at0, gEqS, nm_st]
    cases c with
    | fl a =>
      rw [plc_fl] at hN
      simp only [st_fl, Bool.false_eq_true, if_false, dNext]
      exact ih acc kvs m _ _ hm ht (by omega) (by omega) hN
    | fe =>
      rw [plc_fe] at hN
      have e0 : isSt .fe = false := rfl
      simp only [e0, Bool.false_eq_true, if_false, dNext]
      exact ih acc kvs m _ _ hm ht (by omega) (by omega) hN
    | st a x y =>
      have hln := hc.1
      have h0 := hln.1
      have hlt : a.toNat < m.length := by have := hln.2; omega
      have ht2 := ht.put h0 hlt (m.getD a.toNat 0 + 1)
      have v0 := ht a h0
      simp only [st_st, if_true, dSeq, dKPut, dBin, dKGet, dVar, dC, Cmd.t, gIx, pv_, at_1, List.getElem?_cons_zero, List.getElem?_cons_succ]
      refine ⟨⟨_, _, rfl, two_1 _ _ _⟩, _, _, two_1 _ _ _, rfl, ?_⟩
      rw [v0]
      simp only [gAddI]
      refine ⟨_, _, two_1 _ _ _, rfl, trivial, by omega, ?_⟩
      rw [two_s1]
      simp only [dDrop, dMtd, dTup, dCons, dNil, dBin, dKIx, dVar, dC, gIx, pv_, at_1, List.getElem?_cons_zero, List.getElem?_cons_succ]
      refine ⟨⟨_, rfl, .inl ⟨_, two_0 _ _ _⟩⟩, _, _, .int (m.getD a.toNat 0 + 1), two_1 _ _ _, rfl, by rw [valE_put, if_pos rfl], ⟨by simp, trivial, trivial, trivial, trivial⟩, ?_⟩
      simp only [gAppend, two_0]
      refine ⟨⟨trivial, by rw [List.length_map]; omega⟩, ?_⟩
      rw [two_s0]
      have e : acc.map pI3 ++ [D.tup [.int a, .int (m.getD a.toNat 0 + 1), .int (k : Nat)]] = (acc ++ [(a, m.getD a.toNat 0 + 1, k)]).map pI3 := by simp
      rw [e]
      refine ih _ _ (m.set a.toNat (m.getD a.toNat 0 + 1)) _ _ (by rw [List.length_set]; exact hm) ht2 (by rw [List.length_append]; simp; omega) (by have := putE_len kvs (.inl a) (.int (m.getD a.toNat 0 + 1)); omega) fun z3 z4 kvs => ?_
      have := hN z3 z4 kvs
      rw [plc] at this
      rw [List.append_assoc]
      exact this
theorem pure__law_places (ds : List D) (mu : Sto) (P' : KX) (F : KD) (h : sp__law_places ds mu P' F) : t__law_places (endT mu P' F) (gam0 5 ds) mu := by
  obtain ⟨y, ns, cs, rfl, hy, ⟨hn, hk⟩, h⟩ := h
  show t__law_places _ [some y, none, none, none, none] mu
  unfold t__law_places
  simp only [dSeq, dPar2, dCons, dNil, dLst, dDicN, retL, npL, true_and, List.length_nil, Nat.zero_le, List.set_cons_zero, List.set_cons_succ]
  have e1 : (mu ++ [MO.lst []]).length = mu.length + 1 := by rw [List.length_append]; rfl
  have e2 : (mu ++ [MO.lst []]) ++ [MO.dic []] = mu ++ [.lst (([] : List (Int × Int × Nat)).map pI3), .dic []] := by rw [List.append_assoc]; rfl
  rw [e1, e2]
  simp only [dFor, iEnA, dCons, dNil, dVar, List.getElem?_cons_zero, List.getElem?_cons_succ]
  refine ⟨_, lv_pv (lv_app hy _), tD_npD cs, ?_⟩
  refine for_plc (E := { endT mu P' F with nx := _ }) (fun x z => lv_pv (lv_app hy _)) cs 0 [] [] (zs ns.length) none none hk.2 (by simp [zs]) (TabM.zero _) (by have := hk.1; simp; omega) (by have := hk.1; simp; omega) fun z3 z4 kvs => ?_
  simp only [dRet, dVar, List.getElem?_cons_zero, List.getElem?_cons_succ, endT]
  refine ⟨mu, _, Trim.same mu _, ?_, h⟩
  simp only [frz, Nat.lt_irrefl, if_false, two_0]
  rfl
/-! ### the rule -/
def bodyK : DS := dSeq (dIfS (dCT (gEq 6) (dVar 5) (dTup (dCons (dC (.str "flush")) (dCons (dVar 6) (dNil))))) (dSet 4 (dC (.bl true))) (dNext)) (dIfS (dAnd (dCT (gEq 6) (dVar 5) (dTup (dCons (dC (.str "fence")) (dNil)))) (dTru (dVar 4))) (dRet (dC (.bl true))) (dNext))
theorem for_scn {E : DEnds} {S : Sto} {l : Int} {z0 z1 z2 z3 z7 z8 z9 z10 z11 : Option D} {ok : Sto → Prop} (hok : ok S) : ∀ (cs : List Cmd) (fl : Bool) (z5 : Option D), (scn l fl cs = true → E.rt (.bl true) S) → (scn l fl cs = false → ∀ z4 z5, E.nx [z0, z1, z2, z3, z4, z5, some (.int l), z7, z8, z9, z10, z11] S) →
    forL (dName 5) bodyK E ok (tD cs) [z0, z1, z2, z3, some (.bl fl), z5, some (.int l), z7, z8, z9, z10, z11] S
  | [], fl, z5, _, hF => ⟨hok, hF rfl _ _⟩
  | c :: cs, fl, z5, hT, hF => by
    refine ⟨hok, ?_⟩
    have ih := fun fl z5 => for_scn (E := E) (S := S) (l := l) (z0 := z0) (z1 := z1) (z2 := z2) (z3 := z3) (z7 := z7) (z8 := z8) (z9 := z9) (z10 := z10) (z11 := z11) hok cs fl z5
    show bodyK { E with nx := forL (dName 5) bodyK E ok (tD cs), ct := forL (dName 5) bodyK E ok (tD cs), bk := E.nx } [z0, z1, z2, z3, some (.bl fl), some c.t, some (.int l), z7, z8, z9, z10, z11] S
    generalize forL (dName 5) bodyK E ok (tD cs) = G at ih
    have eF : ∀ (P : KX) (F : KD), gEq 6 c.t (.tup [.str "flush", .int l]) S P F = F (.bl (decide (c = .fl l))) S := fun P F => gEqCt c (.fl l)
    have eE : ∀ (P : KX) (F : KD), gEq 6 c.t (.tup [.str "fence"]) S P F = F (.bl (decide (c = .fe))) S := fun P F => gEqCt c .fe
    rw [scn] at hT hF
    have fin : ∀ fl' : Bool, fl' = (fl || decide (c = .fl l)) → dIfS (dAnd (dCT (gEq 6) (dVar 5) (dTup (dCons (dC (.str "fence")) (dNil)))) (dTru (dVar 4))) (dRet (dC (.bl true))) (dNext) { E with nx := G, ct := G, bk := E.nx } [z0, z1, z2, z3, some (.bl fl'), some c.t, some (.int l), z7, z8, z9, z10, z11] S := fun fl' e => by
      rw [← e] at hT hF
      simp only [dIfS, dAnd, dCT, dTup, dCons, dNil, dVar, dC, dBin, List.getElem?_cons_zero, List.getElem?_cons_succ]
      refine ⟨⟨by simp, trivial, trivial⟩, ?_⟩
      simp only [eE]
      by_cases q : c = .fe
      · rw [if_pos (decide_eq_true q)]
        simp only [dTru, dVar, truK, List.getElem?_cons_zero, List.getElem?_cons_succ]
        cases fl' with
        | true =>
          simp only [if_true, dRet, dC]
          exact hT (by rw [if_pos (by rw [decide_eq_true q]; rfl)])
        | false =>
          simp only [Bool.false_eq_true, if_false, dNext]
          rw [if_neg (by rw [Bool.and_false]; decide)] at hT hF
          exact ih false _ hT hF
      · rw [if_neg (by rw [decide_eq_false q]; decide)]
        simp only [Bool.false_eq_true, if_false, dNext]
        rw [decide_eq_false q, Bool.false_and, if_neg (by decide)] at hT hF
        exact ih fl' _ hT hF
    unfold bodyK
    simp only [dSeq]
    show dIfS (dCT (gEq 6) (dVar 5) (dTup (dCons (dC (.str "flush")) (dCons (dVar 6) (dNil))))) (dSet 4 (dC (.bl true))) (dNext) { E with nx := fun ga' mu' => dIfS (dAnd (dCT (gEq 6) (dVar 5) (dTup (dCons (dC (.str "fence")) (dNil)))) (dTru (dVar 4))) (dRet (dC (.bl true))) (dNext) { E with nx := G, ct := G, bk := E.nx } ga' mu', ct := G, bk := E.nx } _ _
    generalize hK : (fun ga' mu' => dIfS (dAnd (dCT (gEq 6) (dVar 5) (dTup (dCons (dC (.str "fence")) (dNil)))) (dTru (dVar 4))) (dRet (dC (.bl true))) (dNext) { E with nx := G, ct := G, bk := E.nx } ga' mu') = K at *
    have fin2 : ∀ fl' : Bool, fl' = (fl || decide (c = .fl l)) → K [z0, z1, z2, z3, some (.bl fl'), some c.t, some (.int l), z7, z8, z9, z10, z11] S := fun fl' e => by rw [← hK]; exact fin fl' e
    simp only [dIfS, dCT, dTup, dCons, dNil, dVar, dC, dBin, List.getElem?_cons_zero, List.getElem?_cons_succ]
    refine ⟨⟨by simp, trivial, trivial, trivial⟩, ?_⟩
    simp only [eF]
    by_cases q : c = .fl l
    · rw [if_pos (decide_eq_true q)]
      simp only [dSet, dC, List.set_cons_zero, List.set_cons_succ]
      exact fin2 true (by rw [decide_eq_true q, Bool.or_true])
    · rw [if_neg (by rw [decide_eq_false q]; decide)]
      simp only [dNext]
      exact fin2 fl (by rw [decide_eq_false q, Bool.or_false])
theorem cut_be {l : List D} {b e : Nat} (hb : b ≤ l.length) (he : e ≤ l.length) : DL.cutD l (some (b : Int)) (some (e : Int)) = (l.take e).drop b := by
  unfold DL.cutD
  rw [HT.sIx_nat, HT.sIx_nat, Nat.min_eq_left hb, Nat.min_eq_left he, List.drop_take]
theorem plc_lt : ∀ (cs : List Cmd) (m : List Int) (t : Nat), ∀ p ∈ plc m t cs, p.2.2 < t + cs.length
  | [], _, _, p, h => by cases h
  | .st a x y :: cs, m, t, p, h => by
    rw [plc] at h
    rw [List.length_cons]
    rcases List.mem_cons.mp h with rfl | h
    · show t < _
      omega
    · have := plc_lt cs _ (t + 1) p h
      omega
  | .fl a :: cs, m, t, p, h => by
    rw [plc_fl] at h
    rw [List.length_cons]
    have := plc_lt cs _ (t + 1) p h
    omega
  | .fe :: cs, m, t, p, h => by
    rw [plc_fe] at h
    rw [List.length_cons]
    have := plc_lt cs _ (t + 1) p h
    omega
theorem pure__law_order_holds (ds : List D) (mu : Sto) (P' : KX) (F : KD) (h : sp__law_order_holds ds mu P' F) : t__law_order_holds (endF P' F) (gam0 12 ds) mu := by
  obtain ⟨y, ns, cs, i, j, p, q, rfl, hy, ⟨hn, hk⟩, ⟨hp, hq⟩, h⟩ := h
  show t__law_order_holds _ [some y, some (plcD ns.length cs), some (.int (i : Nat)), some (.int (j : Nat)), none, none, none, none, none, none, none, none] mu
  unfold t__law_order_holds
  have ep := atI_map pI3 hp
  have eq := atI_map pI3 hq
  have lp := plc_lt cs _ 0 p (List.mem_of_getElem? hp)
  have lq := plc_lt cs _ 0 q (List.mem_of_getElem? hq)
  simp only [dSeq, dAsg, dBin, dVar, gIx, pv_, ep, eq, dTupG, tv, gsCons, gsNil, dName, List.length_cons, List.length_nil, true_and, List.getElem?_cons_zero, List.getElem?_cons_succ, List.set_cons_zero, List.set_cons_succ]
  simp only [dIfS, dCT, dBin, dVar, List.getElem?_cons_zero, List.getElem?_cons_succ, gEqI]
  unfold rulB at h
  by_cases e : p.1 = q.1
  · rw [if_pos e] at h
    rw [if_pos (by rw [e]; exact beq_self_eq_true _)]
    simp only [dRet, dBin, dVar, gLe, gCmp, List.getElem?_cons_zero, List.getElem?_cons_succ]
    exact h
  · rw [if_neg e] at h
    rw [if_neg (by rw [beq_iff_eq]; exact e)]
    simp only [dNext, dSet, dC, List.set_cons_zero, List.set_cons_succ, dFor, iSeq]
    refine slice_d (x := y) (lo := some ((p.2.2 : Nat) : Int)) (hi := some ((q.2.2 : Nat) : Int)) (by rfl) hy (fun G h => h) (fun G h => h) ?_
    refine ⟨_, rfl, ?_⟩
    rw [cut_be (by rw [List.length_map]; omega) (by rw [List.length_map]; omega), ← List.map_take, ← List.map_drop]
    refine for_scn (E := { endF P' F with nx := _ }) (by rfl) ((cs.take q.2.2).drop p.2.2) false none (fun hT => ?_) (fun hF z4 z5 => ?_)
    · rw [hT] at h
      exact h
    · rw [hF] at h
      exact h
/-! ### pairs, one after the other -/
theorem pairsF_congr {n : Nat} {P P' : Nat → Nat → Bool} (h : ∀ i j, i < n → j < n → P i j = P' i j) : pairsF n P = pairsF n P' := by
  have key : ∀ l : List Nat, (∀ i ∈ l, i < n) → (l.flatMap fun i => ((List.range n).filter (P i)).map fun j => (i, j)) = l.flatMap fun i => ((List.range n).filter (P' i)).map fun j => (i, j) := fun l => by
    induction l with
    | nil => intro _; rfl
    | cons i l ih =>
      intro hl
      rw [List.flatMap_cons, List.flatMap_cons, ih fun k hk => hl k (List.mem_cons_of_mem _ hk)]
      congr 2
      apply List.filter_congr
      intro j hj
      exact h i j (hl i List.mem_cons_self) (List.mem_range.mp hj)
  exact key _ fun i hi => List.mem_range.mp hi
def ruleP (cs : List Cmd) (pl : List (Int × Int × Nat)) (i j : Nat) : Bool := !(i == j) && rulB cs (pl.getD i (0, 0, 0)) (pl.getD j (0, 0, 0))
def bodyR1 : DS := dIfS (dAnd (dCT (gNe 6) (dVar 3) (dVar 4)) (dTru (dCall sp__law_order_holds (dCons (dVar 0) (dCons (dVar 1) (dCons (dVar 3) (dCons (dVar 4) (dNil)))))))) (dDrop (dMtd gAppend (dVar 2) (dCons (dTup (dCons (dVar 3) (dCons (dVar 4) (dNil)))) (dNil)))) (dNext)
theorem for_r1 {E : DEnds} {mu : Sto} {y : D} {ns : List Int} {cs : List Cmd} (hy : lv mu y = some (tD cs)) (hn : sizesOk ns) (hk : csOk ns cs) {i : Nat} {p : Int × Int × Nat} (hp : (plc (zs ns.length) 0 cs)[i]? = some p) {ok : Sto → Prop} (hok : ∀ S, ok S) : ∀ (m k : Nat) (acc : List (Nat × Nat)) (z4 : Option D), k + m = (plc (zs ns.length) 0 cs).length → acc.length + m ≤ 100000 →
    (∀ z4, E.nx [some y, some (plcD ns.length cs), some (.ptr mu.length), some (.int (i : Nat)), z4] (mu ++ [.lst ((acc ++ ((List.range' k m).filter (ruleP cs (plc (zs ns.length) 0 cs) i)).map fun j => (i, j)).map pD)])) →
    forL (dName 4) bodyR1 E ok ((List.range' k m).map fun (j : Nat) => D.int (j : Int)) [some y, some (plcD ns.length cs), some (.ptr mu.length), some (.int (i : Nat)), z4] (mu ++ [.lst (acc.map pD)])
  | 0, k, acc, z4, _, _, hN => ⟨hok _, by have := hN z4; simpa using this⟩
  | m + 1, k, acc, z4, hkm, ha, hN => by
    rw [List.range'_succ, List.map_cons]
    refine ⟨hok _, ?_⟩
    obtain ⟨q, hq⟩ : ∃ q, (plc (zs ns.length) 0 cs)[k]? = some q := ⟨_, List.getElem?_eq_getElem (by omega)⟩
    have ih := fun acc z4 h1 h2 => for_r1 (E := E) hy hn hk hp hok m (k + 1) acc z4 (by omega) h1 h2
    show bodyR1 { E with nx := forL (dName 4) bodyR1 E ok ((List.range' (k + 1) m).map fun (j : Nat) => D.int (j : Int)), ct := forL (dName 4) bodyR1 E ok ((List.range' (k + 1) m).map fun (j : Nat) => D.int (j : Int)), bk := E.nx } [some y, some (plcD ns.length cs), some (.ptr mu.length), some (.int (i : Nat)), some (.int (k : Nat))] (mu ++ [.lst (acc.map pD)])
    generalize forL (dName 4) bodyR1 E ok ((List.range' (k + 1) m).map fun (j : Nat) => D.int (j : Int)) = G at ih
    unfold bodyR1
    simp only [dIfS, dAnd, dCT, dBin, dVar, List.getElem?_cons_zero, List.getElem?_cons_succ, gNeI, nat_beq]
    have er : ruleP cs (plc (zs ns.length) 0 cs) i k = (!(i == k) && rulB cs p q) := by
      unfold ruleP
      rw [getD_of hp, getD_of hq]
    have hstep : (List.range' k (m + 1)).filter (ruleP cs (plc (zs ns.length) 0 cs) i) = (if ruleP cs (plc (zs ns.length) 0 cs) i k = true then [k] else []) ++ (List.range' (k + 1) m).filter (ruleP cs (plc (zs ns.length) 0 cs) i) := by
      rw [List.range'_succ, List.filter_cons]
      split <;> rfl
    rw [hstep, er] at hN
    cases e : (i == k) with
    | true =>
      simp only [Bool.not_true, Bool.false_eq_true, if_false, dNext]
      refine ih acc _ (by omega) fun z4 => ?_
      have := hN z4
      rw [e] at this
      simpa using this
    | false =>
      simp only [Bool.not_false, if_true, dTru, dCall, dCons, dNil, dVar, List.getElem?_cons_zero, List.getElem?_cons_succ]
      refine ⟨y, ns, cs, i, k, p, q, rfl, lv_app hy _, ⟨hn, hk⟩, ⟨hp, hq⟩, ?_⟩
      simp only [truK]
      cases q2 : rulB cs p q with
      | false =>
        simp only [Bool.false_eq_true, if_false, dNext]
        refine ih acc _ (by omega) fun z4 => ?_
        have := hN z4
        rw [e, q2] at this
        simpa using this
      | true =>
        simp only [if_true, dDrop, dMtd, dTup, dCons, dNil, dVar, List.getElem?_cons_zero, List.getElem?_cons_succ]
        have lg := last_get mu (MO.lst (acc.map pD)) rfl
        refine ⟨⟨_, rfl, .inl ⟨_, lg⟩⟩, ⟨by simp, trivial, trivial, trivial⟩, ?_⟩
        simp only [gAppend, lg]
        refine ⟨⟨trivial, by rw [List.length_map]; omega⟩, ?_⟩
        rw [last_set mu _ _ rfl]
        have e2 : acc.map pD ++ [D.tup [.int (i : Nat), .int (k : Nat)]] = (acc ++ [(i, k)]).map pD := by simp
        rw [e2]
        refine ih (acc ++ [(i, k)]) _ (by rw [List.length_append]; simp; omega) fun z4 => ?_
        have := hN z4
        rw [e, q2] at this
        simpa using this
def bodyR0 : DS := dFor (iR1 (dCons (dCB bLen (dCons (dVar 1) (dNil))) (dNil))) (dName 4) bodyR1
theorem rngL_nat (n : Nat) : rngL 0 ((n : Nat) : Int).toNat = (List.range' 0 n).map fun (i : Nat) => D.int (i : Int) := by
  rw [Int.toNat_natCast, ← List.range_eq_range']
  unfold rngL
  apply List.map_congr_left
  intro k _
  rw [Int.zero_add]
theorem for_r0 {E : DEnds} {mu : Sto} {y : D} {ns : List Int} {cs : List Cmd} (hy : lv mu y = some (tD cs)) (hn : sizesOk ns) (hk : csOk ns cs) (h200 : (plc (zs ns.length) 0 cs).length ≤ 200) {ok : Sto → Prop} (hok : ∀ S, ok S) : ∀ (m i : Nat) (acc : List (Nat × Nat)) (z3 z4 : Option D), i + m = (plc (zs ns.length) 0 cs).length → acc.length + 200 * m ≤ 60000 →
    (∀ z3 z4, E.nx [some y, some (plcD ns.length cs), some (.ptr mu.length), z3, z4] (mu ++ [.lst ((acc ++ (List.range' i m).flatMap fun i => ((List.range (plc (zs ns.length) 0 cs).length).filter (ruleP cs (plc (zs ns.length) 0 cs) i)).map fun j => (i, j)).map pD)])) →
    forL (dName 3) bodyR0 E ok ((List.range' i m).map fun (j : Nat) => D.int (j : Int)) [some y, some (plcD ns.length cs), some (.ptr mu.length), z3, z4] (mu ++ [.lst (acc.map pD)])
  | 0, i, acc, z3, z4, _, _, hN => ⟨hok _, by have := hN z3 z4; simpa using this⟩
  | m + 1, i, acc, z3, z4, him, ha, hN => by
    rw [List.range'_succ, List.map_cons]
    refine ⟨hok _, ?_⟩
    obtain ⟨p, hp⟩ : ∃ q, (plc (zs ns.length) 0 cs)[i]? = some q := ⟨_, List.getElem?_eq_getElem (by omega)⟩
    have ih := fun acc z3 z4 h1 h2 => for_r0 (E := E) hy hn hk h200 hok m (i + 1) acc z3 z4 (by omega) h1 h2
    show bodyR0 { E with nx := forL (dName 3) bodyR0 E ok ((List.range' (i + 1) m).map fun (j : Nat) => D.int (j : Int)), ct := forL (dName 3) bodyR0 E ok ((List.range' (i + 1) m).map fun (j : Nat) => D.int (j : Int)), bk := E.nx } [some y, some (plcD ns.length cs), some (.ptr mu.length), some (.int (i : Nat)), z4] (mu ++ [.lst (acc.map pD)])
    generalize forL (dName 3) bodyR0 E ok ((List.range' (i + 1) m).map fun (j : Nat) => D.int (j : Int)) = G at ih
    unfold bodyR0
    simp only [dFor, iR1, dCB, bLen, dCons, dNil, dVar, szD, List.length_map, List.getElem?_cons_zero, List.getElem?_cons_succ]
    refine ⟨⟨by omega, by omega⟩, ?_⟩
    rw [rngL_nat]
    refine for_r1 (E := { E with nx := G, ct := G, bk := E.nx }) hy hn hk hp (fun S => trivial) _ 0 acc z4 (by omega) (by omega) fun z4 => ?_
    have lr : (((List.range' 0 (plc (zs ns.length) 0 cs).length).filter (ruleP cs (plc (zs ns.length) 0 cs) i)).map fun j => (i, j)).length ≤ 200 := by
      rw [List.length_map]
      exact Nat.le_trans (List.length_filter_le _ _) (by rw [List.length_range']; exact h200)
    refine ih _ _ _ (by rw [List.length_append]; omega) fun z3 z4 => ?_
    have := hN z3 z4
    rw [List.range'_succ, List.flatMap_cons, ← List.append_assoc, List.range_eq_range'] at this
    rw [List.range_eq_range']
    exact this
end LW

/-! part N13 -/
namespace LW
open PySem PySem.Spec PyProof.Rows L2 DL DQ DX DZ
/-! ### where a place stands -/
theorem plc_at : ∀ (cs : List Cmd) (s : Cn) (t i : Nat) (p : Int × Int × Nat), (plc s.md t cs)[i]? = some p →
    ∃ k x y, p.2.2 = t + k ∧ cs[k]? = some (.st p.1 x y) ∧ p.2.1 = ((cs.take k).foldl Cn.go s).md.getD p.1.toNat 0 + 1 ∧
      ((bxs t s cs).map fun b => b.2.1)[i]? = some (((cs.take (k + 1)).foldl Cn.go s).su.set p.1.toNat (((cs.take (k + 1)).foldl Cn.go s).md.getD p.1.toNat 0))
  | [], _, _, _, _, h => by simp [plc] at h
  | .st a x y :: cs, s, t, 0, p, h => by
    rw [plc, List.getElem?_cons_zero] at h
    have e := Option.some.inj h
    subst e
    exact ⟨0, x, y, rfl, rfl, rfl, rfl⟩
  | .st a x y :: cs, s, t, i + 1, p, h => by
    rw [plc, List.getElem?_cons_succ] at h
    obtain ⟨k, u, v, h1, h2, h3, h4⟩ := plc_at cs (s.go (.st a x y)) (t + 1) i p h
    exact ⟨k + 1, u, v, by omega, by rw [List.getElem?_cons_succ]; exact h2, h3, h4⟩
  | .fl a :: cs, s, t, i, p, h => by
    rw [plc_fl] at h
    obtain ⟨k, u, v, h1, h2, h3, h4⟩ := plc_at cs (s.go (.fl a)) (t + 1) i p h
    exact ⟨k + 1, u, v, by omega, by rw [List.getElem?_cons_succ]; exact h2, h3, h4⟩
  | .fe :: cs, s, t, i, p, h => by
    rw [plc_fe] at h
    obtain ⟨k, u, v, h1, h2, h3, h4⟩ := plc_at cs (s.go .fe) (t + 1) i p h
    exact ⟨k + 1, u, v, by omega, by rw [List.getElem?_cons_succ]; exact h2, h3, h4⟩
theorem fold_up : ∀ (cs : List Cmd) (s : Cn), CnM s → Le2 s.md (cs.foldl Cn.go s).md ∧ Le2 s.su (cs.foldl Cn.go s).su
  | [], s, _ => ⟨Le2.refl _, Le2.refl _⟩
  | c :: cs, s, h => by
    obtain ⟨h1, h2⟩ := fold_up cs (s.go c) (h.go c)
    exact ⟨(md_up s c).trans h1, (su_up h c).trans h2⟩
theorem st_split (n : Nat) (cs : List Cmd) {k m : Nat} (h : k ≤ m) : stA n cs m = ((cs.take m).drop k).foldl Cn.go (stA n cs k) := by
  unfold stA
  rw [← List.foldl_append]
  congr 1
  have e : cs.take k = (cs.take m).take k := by rw [List.take_take, Nat.min_eq_left h]
  rw [e, List.take_append_drop]
theorem st_up (n : Nat) (cs : List Cmd) {k m : Nat} (h : k ≤ m) : Le2 (stA n cs k).md (stA n cs m).md ∧ Le2 (stA n cs k).su (stA n cs m).su := by
  rw [st_split n cs h]
  exact fold_up _ _ (fold_M _ _ (cn0_M n))
/-- a flush and then a fence make sure -/
theorem scn_iff {ns : List Int} {l : Nat} (hl : l < ns.length) {N : Int} : ∀ (ds : List Cmd) (s : Cn) (fl : Bool), CnOk ns.length s → (∀ c ∈ ds, c.ok ns) → N ≤ s.md.getD l 0 → s.su.getD l 0 < N → (fl = true ↔ N ≤ s.fl.getD l 0) → (scn (l : Nat) fl ds = true ↔ N ≤ (ds.foldl Cn.go s).su.getD l 0)
  | [], s, fl, _, _, _, hs, _ => by
    rw [scn]
    constructor
    · intro h
      cases h
    · intro h
      have h : N ≤ s.su.getD l 0 := h
      omega
  | .st a x y :: ds, s, fl, ho, hk, hm, hs, hf => by
    have e : scn (l : Nat) fl (.st a x y :: ds) = scn (l : Nat) fl ds := by
      rw [scn]
      simp
    rw [e]
    refine scn_iff hl ds (s.go (.st a x y)) fl (go_len ho _) (fun c hc => hk c (List.mem_cons_of_mem _ hc)) ?_ hs hf
    have := md_up s (.st a x y) l
    omega
  | .fl a :: ds, s, fl, ho, hk, hm, hs, hf => by
    have hc : Cmd.ok ns (.fl a) := hk _ List.mem_cons_self
    obtain ⟨h0, h1⟩ : 0 ≤ a ∧ a < ns.length := hc
    have e : scn (l : Nat) fl (.fl a :: ds) = scn (l : Nat) (fl || decide (a = (l : Nat))) ds := by
      rw [scn]
      simp
    rw [e]
    refine scn_iff hl ds (s.go (.fl a)) _ (go_len ho _) (fun c hc => hk c (List.mem_cons_of_mem _ hc)) hm hs ?_
    show _ ↔ N ≤ (s.fl.set a.toNat (s.md.getD a.toNat 0)).getD l 0
    rw [getD_set]
    by_cases q : a = (l : Nat)
    · subst q
      rw [if_pos ⟨rfl, by rw [ho.2.1]; exact hl⟩]
      simp
      simpa using hm
    · rw [if_neg (by omega), decide_eq_false q, Bool.or_false]
      exact hf
  | .fe :: ds, s, fl, ho, hk, hm, hs, hf => by
    have e : scn (l : Nat) fl (.fe :: ds) = if fl = true then true else scn (l : Nat) fl ds := by
      rw [scn]
      simp
    rw [e]
    have hk' : ∀ c ∈ ds, c.ok ns := fun c hc => hk c (List.mem_cons_of_mem _ hc)
    cases fl with
    | true =>
      rw [if_pos rfl]
      refine ⟨fun _ => ?_, fun _ => rfl⟩
      have h1 := hf.mp rfl
      have h2 : N ≤ (s.go .fe).su.getD l 0 := h1
      show N ≤ (ds.foldl Cn.go (s.go .fe)).su.getD l 0
      have key : ∀ (ds : List Cmd) (s : Cn), N ≤ s.su.getD l 0 → N ≤ s.fl.getD l 0 → N ≤ s.md.getD l 0 → (∀ c ∈ ds, c.ok ns) → CnOk ns.length s → N ≤ (ds.foldl Cn.go s).su.getD l 0 := by
        intro ds
        induction ds with
        | nil => intro s h _ _ _ _; exact h
        | cons c ds ih =>
          intro s h h1 h2 hk ho
          have hd : ∀ c ∈ ds, c.ok ns := fun c hc => hk c (List.mem_cons_of_mem _ hc)
          have ho' := go_len ho c
          have hmd : N ≤ (s.go c).md.getD l 0 := by have := md_up s c l; omega
          refine ih (s.go c) ?_ ?_ hmd hd ho'
          · cases c with
            | fe => exact h1
            | _ => exact h
          · cases c with
            | fl a =>
              show N ≤ (s.fl.set a.toNat (s.md.getD a.toNat 0)).getD l 0
              rw [getD_set]
              split
              · rename_i q
                rw [q.1]
                exact h2
              · exact h1
            | _ => exact h1
      exact key ds (s.go .fe) h2 h1 hm hk' (go_len ho _)
    | false =>
      rw [if_neg (by decide)]
      refine scn_iff hl ds (s.go .fe) false (go_len ho _) hk' hm ?_ hf
      show s.fl.getD l 0 < N
      rcases Int.lt_or_le (s.fl.getD l 0) N with h | h
      · exact h
      · exact absurd (hf.mpr h) (by decide)
/-- all that is known of a place -/
structure At_ (ns : List Int) (cs : List Cmd) (i : Nat) (p : Int × Int × Nat) (l k : Nat) (low : List Int) : Prop where
  lt : l < ns.length
  line : p.1 = (l : Nat)
  tm : p.2.2 = k
  kl : k < cs.length
  nb : (nb (zs ns.length) cs)[i]? = some (p.1, p.2.1)
  lw : (lws ns.length cs)[i]? = some low
  md : p.2.1 = (stA ns.length cs k).md.getD l 0 + 1
  md1 : (stA ns.length cs (k + 1)).md.getD l 0 = p.2.1
  su1 : (stA ns.length cs (k + 1)).su = (stA ns.length cs k).su
  fl1 : (stA ns.length cs (k + 1)).fl = (stA ns.length cs k).fl
  low : low = (stA ns.length cs (k + 1)).su.set l ((stA ns.length cs (k + 1)).md.getD l 0)
theorem at_of {ns : List Int} {cs : List Cmd} (hk : csOk ns cs) {i : Nat} {p : Int × Int × Nat} (h : (plc (zs ns.length) 0 cs)[i]? = some p) : ∃ l k low, At_ ns cs i p l k low := by
  obtain ⟨k, x, y, h1, h2, h3, h4⟩ := plc_at cs (cn0 ns.length) 0 i p h
  have hc : Cmd.ok ns (.st p.1 x y) := hk.2 _ (List.mem_of_getElem? h2)
  obtain ⟨⟨h0, hl⟩, _⟩ := hc
  have hl' : p.1.toNat < ns.length := by omega
  have e : stA ns.length cs (k + 1) = (stA ns.length cs k).go (.st p.1 x y) := by
    unfold stA
    rw [List.take_add_one, h2, List.foldl_append]
    rfl
  have ok : CnOk ns.length (stA ns.length cs k) := fold_ok _ _ (by simp [CnOk, cn0])
  refine ⟨p.1.toNat, k, _, hl', by omega, by omega, (List.getElem?_eq_some_iff.mp h2).1, ?_, h4, h3, ?_, ?_, ?_, rfl⟩
  · rw [← plc_nb cs (zs ns.length) 0, List.getElem?_map, h]
    rfl
  · rw [e]
    show ((stA ns.length cs k).md.set p.1.toNat ((stA ns.length cs k).md.getD p.1.toNat 0 + 1)).getD p.1.toNat 0 = _
    rw [getD_set, if_pos ⟨rfl, by rw [ok.1]; exact hl'⟩, h3]
  · rw [e]
    rfl
  · rw [e]
    rfl
theorem stA_ok (n : Nat) (cs : List Cmd) (k : Nat) : CnOk n (stA n cs k) := fold_ok _ _ (by simp [CnOk, cn0])
theorem stA_M (n : Nat) (cs : List Cmd) (k : Nat) : CnM (stA n cs k) := fold_M _ _ (cn0_M n)
theorem low_other {ns : List Int} {cs : List Cmd} {i : Nat} {p : Int × Int × Nat} {l k : Nat} {low : List Int} (a : At_ ns cs i p l k low) {m : Nat} (h : m ≠ l) : low.getD m 0 = (stA ns.length cs k).su.getD m 0 := by
  rw [a.low, getD_set, if_neg (by omega), a.su1]
theorem low_self {ns : List Int} {cs : List Cmd} {i : Nat} {p : Int × Int × Nat} {l k : Nat} {low : List Int} (a : At_ ns cs i p l k low) : low.getD l 0 = p.2.1 := by
  rw [a.low, getD_set, if_pos ⟨rfl, by rw [(stA_ok _ _ _).2.2]; exact a.lt⟩, a.md1]
theorem rule_ord {ns : List Int} {cs : List Cmd} (hk : csOk ns cs) {i j : Nat} {p q : Int × Int × Nat} (hp : (plc (zs ns.length) 0 cs)[i]? = some p) (hq : (plc (zs ns.length) 0 cs)[j]? = some q) : ruleP cs (plc (zs ns.length) 0 cs) i j = ordP ns.length cs i j := by
  obtain ⟨l, k, low, a⟩ := at_of hk hp
  obtain ⟨l', k', low', a'⟩ := at_of hk hq
  unfold ruleP ordP
  rw [getD_of hp, getD_of hq, getD_of a.nb, getD_of a'.nb, getD_of a'.lw]
  congr 1
  unfold rulB fhB
  by_cases e : p.1 = q.1
  · rw [if_pos e, if_pos e]
  · rw [if_neg e, if_neg e]
    have hne : l ≠ l' := fun z => e (by rw [a.line, a'.line, z])
    have eL : p.1.toNat = l := by rw [a.line]; rfl
    rw [eL, low_other a' hne, a.tm, a'.tm]
    rw [Bool.eq_iff_iff, decide_eq_true_iff]
    have hsm : ∀ x, (stA ns.length cs x).su.getD l 0 ≤ (stA ns.length cs x).md.getD l 0 := fun x => (stA_M ns.length cs x).1.trans (stA_M ns.length cs x).2 l
    rcases Nat.lt_or_ge k k' with h | h
    · have hkc : ∀ c ∈ (cs.take k').drop (k + 1), c.ok ns := fun c hc => hk.2 c (List.mem_of_mem_take (List.mem_of_mem_drop hc))
      have hfm : (stA ns.length cs k).fl.getD l 0 ≤ (stA ns.length cs k).md.getD l 0 := (stA_M ns.length cs k).2 l
      have key := scn_iff a.lt (N := p.2.1) ((cs.take k').drop (k + 1)) (stA ns.length cs (k + 1)) false (stA_ok _ _ _) hkc (by rw [a.md1]; exact Int.le_refl _) (by rw [a.su1, a.md]; have := hsm k; omega) (by
        rw [a.fl1, a.md]
        constructor
        · intro z
          cases z
        · intro z
          omega)
      rw [← st_split ns.length cs (by omega : k + 1 ≤ k')] at key
      rw [← key, a.line]
      have hd : (cs.take k').drop k = (cs.take k')[k]'(by rw [List.length_take]; have := a'.kl; omega) :: (cs.take k').drop (k + 1) := (List.getElem_cons_drop (by rw [List.length_take]; have := a'.kl; omega)).symm
      obtain ⟨kk, x, y, h1, h2, _, _⟩ := plc_at cs (cn0 ns.length) 0 i p hp
      have ek : kk = k := by have := a.tm; omega
      subst ek
      have ec : (cs.take k')[kk]'(by rw [List.length_take]; have := a'.kl; omega) = .st p.1 x y := by
        rw [List.getElem_take]
        exact (List.getElem?_eq_some_iff.mp h2).2
      rw [hd, ec]
      have e2 : scn (l : Nat) false (.st p.1 x y :: (cs.take k').drop (kk + 1)) = scn (l : Nat) false ((cs.take k').drop (kk + 1)) := by
        rw [scn]
        simp
      rw [e2]
    · have e0 : (cs.take k').drop k = [] := by
        apply List.drop_eq_nil_of_le
        rw [List.length_take]
        omega
      rw [e0, scn]
      constructor
      · intro z
        cases z
      · intro z
        have h1 := (st_up ns.length cs h).1 l
        have h2 := hsm k'
        have h3 := a.md
        omega
theorem nb_plc_len (n : Nat) (cs : List Cmd) : (nb (zs n) cs).length = (plc (zs n) 0 cs).length := by
  rw [← plc_nb cs (zs n) 0, List.length_map]
theorem rule_pairs {ns : List Int} {cs : List Cmd} (hk : csOk ns cs) : pairsF (plc (zs ns.length) 0 cs).length (ruleP cs (plc (zs ns.length) 0 cs)) = pairsF (nb (zs ns.length) cs).length (ordP ns.length cs) := by
  rw [nb_plc_len]
  exact pairsF_congr fun i j hi hj => rule_ord hk (List.getElem?_eq_getElem hi) (List.getElem?_eq_getElem hj)
theorem plc_le : ∀ (cs : List Cmd) (m : List Int) (t : Nat), (plc m t cs).length ≤ cs.length
  | [], _, _ => Nat.le_refl _
  | .st a x y :: cs, m, t => by rw [plc, List.length_cons, List.length_cons]; exact Nat.succ_le_succ (plc_le cs _ _)
  | .fl a :: cs, m, t => by rw [plc_fl, List.length_cons]; exact Nat.le_succ_of_le (plc_le cs _ _)
  | .fe :: cs, m, t => by rw [plc_fe, List.length_cons]; exact Nat.le_succ_of_le (plc_le cs _ _)
theorem pure__law_by_rule (ds : List D) (mu : Sto) (P' : KX) (F : KD) (h : sp__law_by_rule ds mu P' F) : t__law_by_rule (endT mu P' F) (gam0 5 ds) mu := by
  obtain ⟨y, ns, cs, rfl, hy, ⟨hn, hk⟩, h⟩ := h
  show t__law_by_rule _ [some y, none, none, none, none] mu
  unfold t__law_by_rule
  have h200 : (plc (zs ns.length) 0 cs).length ≤ 200 := Nat.le_trans (plc_le cs _ _) hk.1
  simp only [dSeq, dSet, dCall, dCons, dNil, dVar, dLst, retL, npL, true_and, List.getElem?_cons_zero, List.getElem?_cons_succ, List.set_cons_zero, List.set_cons_succ, List.length_nil, Nat.zero_le]
  refine ⟨y, ns, cs, rfl, hy, ⟨hn, hk⟩, ?_⟩
  simp only [dFor, iR1, dCB, bLen, dCons, dNil, dVar, szD, List.length_map, List.getElem?_cons_zero, List.getElem?_cons_succ]
  refine ⟨⟨by omega, by omega⟩, ?_⟩
  rw [rngL_nat]
  refine for_r0 (E := { endT mu P' F with nx := _ }) hy hn hk h200 (fun S => trivial) _ 0 [] none none (by omega) (by simp; omega) fun z3 z4 => ?_
  simp only [dRet, dVar, List.getElem?_cons_zero, List.getElem?_cons_succ, endT]
  refine ⟨mu, _, Trim.same mu _, ?_, h⟩
  simp only [frz, Nat.lt_irrefl, if_false, last_get mu _ rfl, List.nil_append]
  unfold ordsD
  rw [← rule_pairs hk]
  unfold pairsF
  rw [List.range_eq_range']
end LW

/-! part N14 -/
namespace LW
open PySem PySem.Spec PyProof.Rows L2 DL DQ DX DZ
def brk (p q : Int × Int × Nat) (im : List Int) : Bool := decide (q.2.1 ≤ im.getD q.1.toNat 0) && decide (im.getD p.1.toNat 0 < p.2.1)
def imgP (ims : List (List Int)) (pl : List (Int × Int × Nat)) (i j : Nat) : Bool := !(i == j) && (ims.filter (brk (pl.getD i (0, 0, 0)) (pl.getD j (0, 0, 0)))).isEmpty
theorem low_im {ns : List Int} {cs : List Cmd} {i : Nat} {p : Int × Int × Nat} {l k : Nat} {low : List Int} (a : At_ ns cs i p l k low) : isIm ns cs low := by
  rw [isIm_iff]
  have ok := stA_ok ns.length cs (k + 1)
  have m := stA_M ns.length cs (k + 1)
  refine ⟨k + 1, a.kl, by rw [a.low, List.length_set]; exact ok.2.2, fun x hx => ?_⟩
  rw [a.low, getD_set]
  split
  · rename_i q
    rw [q.1]
    exact ⟨m.1.trans m.2 x, Int.le_refl _⟩
  · exact ⟨Int.le_refl _, m.1.trans m.2 x⟩
theorem img_ord {ns : List Int} {cs : List Cmd} (hk : csOk ns cs) {ims : List (List Int)} (hm : ∀ im, im ∈ ims ↔ isIm ns cs im) {i j : Nat} {p q : Int × Int × Nat} (hp : (plc (zs ns.length) 0 cs)[i]? = some p) (hq : (plc (zs ns.length) 0 cs)[j]? = some q) : imgP ims (plc (zs ns.length) 0 cs) i j = ordP ns.length cs i j := by
  obtain ⟨l, k, low, a⟩ := at_of hk hp
  obtain ⟨l', k', low', a'⟩ := at_of hk hq
  unfold imgP ordP
  rw [getD_of hp, getD_of hq, getD_of a.nb, getD_of a'.nb, getD_of a'.lw]
  congr 1
  have eL : p.1.toNat = l := by rw [a.line]; rfl
  have eL' : q.1.toNat = l' := by rw [a'.line]; rfl
  rw [Bool.eq_iff_iff, List.isEmpty_iff, List.filter_eq_nil_iff]
  have hb : ∀ im, (brk p q im = true ↔ q.2.1 ≤ im.getD l' 0 ∧ im.getD l 0 < p.2.1) := fun im => by
    unfold brk
    rw [Bool.and_eq_true, decide_eq_true_iff, decide_eq_true_iff, eL, eL']
  have hlow := low_im a'
  have hself := low_self a'
  unfold fhB
  rw [eL]
  constructor
  · intro h
    have h0 := h low' ((hm _).mpr hlow)
    rw [hb] at h0
    by_cases e : p.1 = q.1
    · rw [if_pos e, decide_eq_true_iff]
      have el : l = l' := by have h1 := a.line; have h2 := a'.line; omega
      subst el
      rw [hself] at h0
      omega
    · rw [if_neg e, decide_eq_true_iff]
      rw [hself] at h0
      show p.2.1 ≤ low'.getD l 0
      omega
  · intro h im him hbr
    rw [hb] at hbr
    rw [hm, isIm_iff] at him
    obtain ⟨t, ht, hlen, hw⟩ := him
    by_cases e : p.1 = q.1
    · rw [if_pos e, decide_eq_true_iff] at h
      have h : p.2.1 ≤ q.2.1 := h
      have el : l = l' := by have h1 := a.line; have h2 := a'.line; omega
      subst el
      omega
    · rw [if_neg e, decide_eq_true_iff] at h
      have h : p.2.1 ≤ low'.getD l 0 := h
      have hne : l ≠ l' := fun z => e (by rw [a.line, a'.line, z])
      rw [low_other a' hne] at h
      have h1 := (hw l' a'.lt).2
      have h2 := (hw l a.lt).1
      rcases Nat.lt_or_ge t (k' + 1) with g | g
      · have h3 := (st_up ns.length cs (by omega : t ≤ k')).1 l'
        have h4 := a'.md
        omega
      · have h3 := (st_up ns.length cs (by omega : k' ≤ t)).2 l
        omega
theorem img_pairs {ns : List Int} {cs : List Cmd} (hk : csOk ns cs) {ims : List (List Int)} (hm : ∀ im, im ∈ ims ↔ isIm ns cs im) : pairsF (plc (zs ns.length) 0 cs).length (imgP ims (plc (zs ns.length) 0 cs)) = pairsF (nb (zs ns.length) cs).length (ordP ns.length cs) := by
  rw [nb_plc_len]
  exact pairsF_congr fun i j hi hj => img_ord hk hm (List.getElem?_eq_getElem hi) (List.getElem?_eq_getElem hj)
/-! ### the walk -/
def tB : DB := dAnd (dCT gGe (dBin gIx (dVar 14) (dVar 11)) (dVar 12)) (dCT gLt (dBin gIx (dVar 14) (dVar 6)) (dVar 7))
theorem tI_at {im : List Int} {a : Int} (h0 : 0 ≤ a) (h : a.toNat < im.length) : L2.atI (iL im) a = some (.int (im.getD a.toNat 0)) := by
  have e : a = ((a.toNat : Nat) : Int) := by omega
  rw [e, atI_int h]
  simp only [Int.toNat_natCast]
  rw [getD_of (List.getElem?_eq_getElem h)]
theorem lc_brk {n : Nat} {S : Sto} {p q : Int × Int × Nat} (hp : 0 ≤ p.1 ∧ p.1 < (n : Nat)) (hq : 0 ≤ q.1 ∧ q.1 < (n : Nat)) {z0 z1 z2 z3 z4 z5 z8 z9 z10 z13 : Option D} {ok : Sto → Prop} (hok : ok S) {G : List D → Sto → Prop} : ∀ (l acc : List (List Int)), (∀ im ∈ l, im.length = n) → G ((acc ++ l.filter (brk p q)).map tI) S →
    lcL 0 (dName 14) tB (dVar 14) ok [z0, z1, z2, z3, z4, z5, some (.int p.1), some (.int p.2.1), z8, z9, z10, some (.int q.1), some (.int q.2.1), z13, none] G (l.map tI) (acc.map tI) S
  | [], acc, _, h => ⟨hok, by simpa using h⟩
  | im :: l, acc, hi, h => by
    refine ⟨hok, ?_⟩
    have hl := hi im List.mem_cons_self
    have e1 := tI_at (im := im) hq.1 (by omega)
    have e2 := tI_at (im := im) hp.1 (by omega)
    have ih := fun acc => lc_brk (z0 := z0) (z1 := z1) (z2 := z2) (z3 := z3) (z4 := z4) (z5 := z5) (z8 := z8) (z9 := z9) (z10 := z10) (z13 := z13) hp hq hok (G := G) l acc (fun x hx => hi x (List.mem_cons_of_mem _ hx))
    rw [List.filter_cons] at h
    unfold brk at h ih
    simp only [tB, dName, dAnd, dCT, dBin, dVar, gIx, pv_, e1, e2, gGe, gLt, gCmp, List.set_cons_zero, List.set_cons_succ, List.getElem?_cons_zero, List.getElem?_cons_succ]
    by_cases c1 : q.2.1 ≤ im.getD q.1.toNat 0
    · rw [decide_eq_true c1, Bool.true_and] at h
      rw [if_pos (decide_eq_true c1)]
      by_cases c2 : im.getD p.1.toNat 0 < p.2.1
      · rw [decide_eq_true c2] at h
        rw [if_pos (decide_eq_true c2)]
        refine ⟨trivial, ?_⟩
        have e : acc.map tI ++ [tI im] = (acc ++ [im]).map tI := by simp
        rw [e]
        exact ih (acc ++ [im]) (by simpa using h)
      · rw [decide_eq_false c2] at h
        rw [if_neg (by rw [decide_eq_false c2]; decide)]
        exact ih acc (by simpa using h)
    · rw [decide_eq_false c1, Bool.false_and] at h
      rw [if_neg (by rw [decide_eq_false c1]; decide), if_neg (by decide)]
      exact ih acc (by simpa using h)
theorem gEqNil (l : List (List Int)) {S : Sto} {P : KX} {F : KD} : gEq 6 (.lst (l.map tI)) (.lst []) S P F = F (.bl l.isEmpty) S := by
  refine gEqV (d := .lst _) (e := .lst []) trivial trivial (by rw [dp_lst]; have := dpL_tI l; omega) ?_
  rw [eqD_lst]
  cases l with
  | nil => rw [List.map_nil, eqL]; rfl
  | cons a l => rw [List.map_cons, eqL]; rfl
theorem pI3_npD (l : List (Int × Int × Nat)) : (l.map pI3).all npD = true := by
  rw [List.all_eq_true]
  intro d hd
  obtain ⟨c, _, rfl⟩ := List.mem_map.mp hd
  rfl
def tgI2 : DG := dTupG 2 (gsCons (dName 9) (gsCons (dTupG 3 (gsCons (dName 11) (gsCons (dName 12) (gsCons (dName 13) (gsNil))))) (gsNil)))
def bodyI2 : DS := dSeq (dSet 10 (dLc 0 (iSeq (dVar 4)) (dName 14) tB (dVar 14) [14])) (dIfS (dAnd (dCT (gNe 6) (dVar 5) (dVar 9)) (dCT (gEq 6) (dVar 10) (dLst 0 (dNil)))) (dDrop (dMtd gAppend (dVar 2) (dCons (dTup (dCons (dVar 5) (dCons (dVar 9) (dNil)))) (dNil)))) (dNext))
theorem for_i2 {E : DEnds} {mu : Sto} {n : Nat} {ims : List (List Int)} (hl : ∀ im ∈ ims, im.length = n) (hM : ims.length ≤ 1000000) {z0 z1 z14 : Option D} {pl : List (Int × Int × Nat)} (hpl : ∀ p ∈ pl, 0 ≤ p.1 ∧ p.1 < (n : Nat)) {i : Nat} {p : Int × Int × Nat} (hi : pl[i]? = some p) {ok : Sto → Prop} (hok : ∀ S, ok S) : ∀ (rest : List (Int × Int × Nat)) (k : Nat) (acc : List (Nat × Nat)) (z9 z10 z11 z12 z13 : Option D), (∀ (i : Nat) p, rest[i]? = some p → pl[k + i]? = some p) → acc.length + rest.length ≤ 100000 →
    (∀ z9 z10 z11 z12 z13, E.nx [z0, z1, some (.ptr mu.length), some (.lst (pl.map pI3)), some (.lst (ims.map tI)), some (.int (i : Nat)), some (.int p.1), some (.int p.2.1), some (.int (p.2.2 : Nat)), z9, z10, z11, z12, z13, z14] (mu ++ [.lst ((acc ++ ((List.range' k rest.length).filter (imgP ims pl i)).map fun j => (i, j)).map pD)])) →
    forL tgI2 bodyI2 E ok (enF k (rest.map pI3)) [z0, z1, some (.ptr mu.length), some (.lst (pl.map pI3)), some (.lst (ims.map tI)), some (.int (i : Nat)), some (.int p.1), some (.int p.2.1), some (.int (p.2.2 : Nat)), z9, z10, z11, z12, z13, z14] (mu ++ [.lst (acc.map pD)])
  | [], k, acc, z9, z10, z11, z12, z13, _, _, hN => ⟨hok _, by have := hN z9 z10 z11 z12 z13; simpa using this⟩
  | q :: rest, k, acc, z9, z10, z11, z12, z13, hr, ha, hN => by
    refine ⟨hok _, ?_⟩
    rw [List.length_cons] at ha
    have hk : pl[k]? = some q := hr 0 q rfl
    have hq := hpl q (List.mem_of_getElem? hk)
    have hp := hpl p (List.mem_of_getElem? hi)
    have ih := fun acc' z9 z10 z11 z12 z13 h1 h2 => for_i2 (E := E) (mu := mu) hl hM (z0 := z0) (z1 := z1) (z14 := z14) hpl hi hok rest (k + 1) acc' z9 z10 z11 z12 z13 (fun i q hq => by
      have := hr (i + 1) q (by simpa using hq)
      have e : k + 1 + i = k + (i + 1) := by omega
      rw [e]
      exact this) h1 h2
    show tgI2 (.tup [.int (k : Nat), pI3 q]) [z0, z1, some (.ptr mu.length), some (.lst (pl.map pI3)), some (.lst (ims.map tI)), some (.int (i : Nat)), some (.int p.1), some (.int p.2.1), some (.int (p.2.2 : Nat)), z9, z10, z11, z12, z13, z14] (mu ++ [.lst (acc.map pD)]) E.ex fun ga1 mu1 => bodyI2 { E with nx := forL tgI2 bodyI2 E ok (enF (k + 1) (rest.map pI3)), ct := forL tgI2 bodyI2 E ok (enF (k + 1) (rest.map pI3)), bk := E.nx } ga1 mu1
    generalize forL tgI2 bodyI2 E ok (enF (k + 1) (rest.map pI3)) = G at ih
    unfold tgI2
    simp only [dTupG, tv, gsCons, gsNil, dName, List.length_cons, List.length_nil, true_and, List.set_cons_zero, List.set_cons_succ]
    unfold bodyI2
    simp only [dSeq, dSet, dLc, iSeq, dVar, wip, List.getElem?_cons_zero, List.getElem?_cons_succ, List.set_cons_zero, List.set_cons_succ]
    refine ⟨_, rfl, by rw [List.length_map]; omega, ?_⟩
    refine lc_brk (p := p) (q := q) hp hq (ok := okS (.lst (ims.map tI)) (ims.map tI)) rfl ims [] hl ?_
    rw [List.nil_append]
    simp only [retN, List.set_cons_zero, List.set_cons_succ]
    simp only [dIfS, dAnd, dCT, dBin, dVar, dLst, dNil, retL, npL, true_and, List.length_nil, Nat.zero_le, List.getElem?_cons_zero, List.getElem?_cons_succ, gNeI, nat_beq, gEqNil]
    have er : imgP ims pl i k = (!(i == k) && (ims.filter (brk p q)).isEmpty) := by
      unfold imgP
      rw [getD_of hi, getD_of hk]
    have hstep : (List.range' k (rest.length + 1)).filter (imgP ims pl i) = (if imgP ims pl i k = true then [k] else []) ++ (List.range' (k + 1) rest.length).filter (imgP ims pl i) := by
      rw [List.range'_succ, List.filter_cons]
      split <;> rfl
    rw [List.length_cons, hstep, er] at hN
    cases e : (i == k) with
    | true =>
      simp only [Bool.not_true, Bool.false_eq_true, if_false, dNext]
      refine ih acc _ _ _ _ _ (by omega) fun z9 z10 z11 z12 z13 => ?_
      have := hN z9 z10 z11 z12 z13
      rw [e] at this
      simpa using this
    | false =>
      simp only [Bool.not_false, if_true]
      cases q2 : (ims.filter (brk p q)).isEmpty with
      | false =>
        simp only [Bool.false_eq_true, if_false, dNext]
        refine ih acc _ _ _ _ _ (by omega) fun z9 z10 z11 z12 z13 => ?_
        have := hN z9 z10 z11 z12 z13
        rw [e, q2] at this
        simpa using this
      | true =>
        simp only [if_true, dDrop, dMtd, dTup, dCons, dNil, dVar, List.getElem?_cons_zero, List.getElem?_cons_succ]
        have lg := last_get mu (MO.lst (acc.map pD)) rfl
        refine ⟨⟨_, rfl, .inl ⟨_, lg⟩⟩, ⟨by simp, trivial, trivial, trivial⟩, ?_⟩
        simp only [gAppend, lg]
        refine ⟨⟨trivial, by rw [List.length_map]; omega⟩, ?_⟩
        rw [last_set mu _ _ rfl]
        have e2 : acc.map pD ++ [D.tup [.int (i : Nat), .int (k : Nat)]] = (acc ++ [(i, k)]).map pD := by simp
        rw [e2]
        refine ih (acc ++ [(i, k)]) _ _ _ _ _ (by rw [List.length_append]; simp; omega) fun z9 z10 z11 z12 z13 => ?_
        have := hN z9 z10 z11 z12 z13
        rw [e, q2] at this
        simpa using this
def tgI1 : DG := dTupG 2 (gsCons (dName 5) (gsCons (dTupG 3 (gsCons (dName 6) (gsCons (dName 7) (gsCons (dName 8) (gsNil))))) (gsNil)))
def bodyI1 : DS := dFor (iEnA (dCons (dVar 3) (dNil))) tgI2 bodyI2
theorem for_i1 {E : DEnds} {mu : Sto} {n : Nat} {ims : List (List Int)} (hl : ∀ im ∈ ims, im.length = n) (hM : ims.length ≤ 1000000) {z0 z1 z14 : Option D} {pl : List (Int × Int × Nat)} (hpl : ∀ p ∈ pl, 0 ≤ p.1 ∧ p.1 < (n : Nat)) (h200 : pl.length ≤ 200) {ok : Sto → Prop} (hok : ∀ S, ok S) : ∀ (rest : List (Int × Int × Nat)) (k : Nat) (acc : List (Nat × Nat)) (z5 z6 z7 z8 z9 z10 z11 z12 z13 : Option D), (∀ (i : Nat) p, rest[i]? = some p → pl[k + i]? = some p) → acc.length + 200 * rest.length ≤ 60000 →
    (∀ z5 z6 z7 z8 z9 z10 z11 z12 z13, E.nx [z0, z1, some (.ptr mu.length), some (.lst (pl.map pI3)), some (.lst (ims.map tI)), z5, z6, z7, z8, z9, z10, z11, z12, z13, z14] (mu ++ [.lst ((acc ++ (List.range' k rest.length).flatMap fun i => ((List.range pl.length).filter (imgP ims pl i)).map fun j => (i, j)).map pD)])) →
    forL tgI1 bodyI1 E ok (enF k (rest.map pI3)) [z0, z1, some (.ptr mu.length), some (.lst (pl.map pI3)), some (.lst (ims.map tI)), z5, z6, z7, z8, z9, z10, z11, z12, z13, z14] (mu ++ [.lst (acc.map pD)])
  | [], k, acc, z5, z6, z7, z8, z9, z10, z11, z12, z13, _, _, hN => ⟨hok _, by have := hN z5 z6 z7 z8 z9 z10 z11 z12 z13; simpa using this⟩
  | p :: rest, k, acc, z5, z6, z7, z8, z9, z10, z11, z12, z13, hr, ha, hN => by
    refine ⟨hok _, ?_⟩
    rw [List.length_cons] at ha
    have hk : pl[k]? = some p := hr 0 p rfl
    have ih := fun acc' z5 z6 z7 z8 z9 z10 z11 z12 z13 h1 h2 => for_i1 (E := E) (mu := mu) hl hM (z0 := z0) (z1 := z1) (z14 := z14) hpl h200 hok rest (k + 1) acc' z5 z6 z7 z8 z9 z10 z11 z12 z13 (fun i q hq => by
      have := hr (i + 1) q (by simpa using hq)
      have e : k + 1 + i = k + (i + 1) := by omega
      rw [e]
      exact this) h1 h2
    show tgI1 (.tup [.int (k : Nat), pI3 p]) [z0, z1, some (.ptr mu.length), some (.lst (pl.map pI3)), some (.lst (ims.map tI)), z5, z6, z7, z8, z9, z10, z11, z12, z13, z14] (mu ++ [.lst (acc.map pD)]) E.ex fun ga1 mu1 => bodyI1 { E with nx := forL tgI1 bodyI1 E ok (enF (k + 1) (rest.map pI3)), ct := forL tgI1 bodyI1 E ok (enF (k + 1) (rest.map pI3)), bk := E.nx } ga1 mu1
    generalize forL tgI1 bodyI1 E ok (enF (k + 1) (rest.map pI3)) = G at ih
    unfold tgI1
    simp only [dTupG, tv, gsCons, gsNil, dName, List.length_cons, List.length_nil, true_and, List.set_cons_zero, List.set_cons_succ]
    unfold bodyI1
    simp only [dFor, iEnA, dCons, dNil, dVar, List.getElem?_cons_zero, List.getElem?_cons_succ]
    refine ⟨_, rfl, pI3_npD pl, ?_⟩
    refine for_i2 (E := { E with nx := G, ct := G, bk := E.nx }) hl hM hpl hk (fun S => rfl) pl 0 acc z9 z10 z11 z12 z13 (fun i p h => by rw [Nat.zero_add]; exact h) (by omega) fun z9 z10 z11 z12 z13 => ?_
    have lr : (((List.range' 0 pl.length).filter (imgP ims pl k)).map fun j => (k, j)).length ≤ 200 := by
      rw [List.length_map]
      exact Nat.le_trans (List.length_filter_le _ _) (by rw [List.length_range']; exact h200)
    refine ih _ _ _ _ _ _ _ _ _ _ (by rw [List.length_append]; omega) fun z5 z6 z7 z8 z9 z10 z11 z12 z13 => ?_
    have := hN z5 z6 z7 z8 z9 z10 z11 z12 z13
    rw [List.length_cons, List.range'_succ, List.flatMap_cons, ← List.append_assoc, List.range_eq_range'] at this
    rw [List.range_eq_range']
    exact this
theorem plc_ok {ns : List Int} {cs : List Cmd} (hk : csOk ns cs) : ∀ p ∈ plc (zs ns.length) 0 cs, 0 ≤ p.1 ∧ p.1 < (ns.length : Nat) := fun p hp => by
  have := nb_ok cs (zs ns.length) hk.2 (p.1, p.2.1) (by
    rw [← plc_nb cs (zs ns.length) 0]
    exact List.mem_map.mpr ⟨p, hp, rfl⟩)
  exact this
theorem pure__law_by_images (ds : List D) (mu : Sto) (P' : KX) (F : KD) (h : sp__law_by_images ds mu P' F) : t__law_by_images (endT mu P' F) (gam0 15 ds) mu := by
  obtain ⟨ns, cs, rfl, ⟨hc, hT⟩, h⟩ := h
  obtain ⟨hn, hk, h4, h12, h24⟩ := id hc
  show t__law_by_images _ [some (.lst (iL ns)), some (.lst (tD cs)), none, none, none, none, none, none, none, none, none, none, none, none, none] mu
  unfold t__law_by_images
  have h200 : (plc (zs ns.length) 0 cs).length ≤ 200 := Nat.le_trans (plc_le cs _ _) hk.1
  simp only [dSeq, dPar2, dSet, dCall, dCons, dNil, dVar, dLst, retL, npL, true_and, List.length_nil, Nat.zero_le, List.getElem?_cons_zero, List.getElem?_cons_succ, List.set_cons_zero, List.set_cons_succ]
  refine ⟨_, ns, cs, rfl, rfl, ⟨hn, hk⟩, ns, cs, rfl, ⟨hc, hT⟩, fun ims hm hM => ?_⟩
  simp only [dFor, iEnA, dCons, dNil, dVar, List.getElem?_cons_zero, List.getElem?_cons_succ]
  refine ⟨_, rfl, pI3_npD _, ?_⟩
  refine for_i1 (E := { endT mu P' F with nx := _ }) (n := ns.length) (fun im him => im_len ((hm im).mp him)) hM (plc_ok hk) h200 (fun S => rfl) (plc (zs ns.length) 0 cs) 0 [] none none none none none none none none none (fun i p h => by rw [Nat.zero_add]; exact h) (by simp; omega) fun z5 z6 z7 z8 z9 z10 z11 z12 z13 => ?_
  simp only [dRet, dVar, List.getElem?_cons_zero, List.getElem?_cons_succ, endT]
  refine ⟨mu, _, Trim.same mu _, ?_, h⟩
  simp only [frz, Nat.lt_irrefl, if_false, last_get mu _ rfl, List.nil_append]
  unfold ordsD
  rw [← img_pairs hk hm]
  unfold pairsF
  rw [List.range_eq_range']
end LW

/-! part N15 -/
namespace LW
open PySem PySem.Spec PyProof.Rows L2 DL DQ DX DZ
theorem gNeZ {d e d' e' : D} {mu : Sto} {P : KX} {F : KD} {b : Bool} (hd : dr mu d = d') (he : dr mu e = e') (hp : dp d' ≤ 6) (h : eqD d' e' = some b) : gNe 6 d e mu P F = F (.bl (!b)) mu := by
  show (dp (dr mu d) ≤ 6 ∧ _) = _
  simp only [hd, he, hp, h, true_and]
theorem gEqZ {d e d' e' : D} {mu : Sto} {P : KX} {F : KD} {b : Bool} (hd : dr mu d = d') (he : dr mu e = e') (hp : dp d' ≤ 6) (h : eqD d' e' = some b) : gEq 6 d e mu P F = F (.bl b) mu := by
  show (dp (dr mu d) ≤ 6 ∧ _) = _
  simp only [hd, he, hp, h, true_and]
theorem eqD_pD (L : List (Nat × Nat)) : eqD (.lst (L.map pD)) (.lst (L.map pD)) = some true := by
  rw [eqD_lst]
  refine eqL_refl _ fun d hd => ?_
  obtain ⟨p, _, rfl⟩ := List.mem_map.mp hd
  rw [eqD_tup]
  refine eqL_refl _ fun d hd => ?_
  simp only [List.mem_cons, List.not_mem_nil, or_false] at hd
  rcases hd with rfl | rfl <;> exact eqD_int' _
theorem dpL_pD : ∀ L : List (Nat × Nat), dpL (L.map pD) ≤ 1
  | [] => by simp [dpL]
  | p :: L => by
    rw [List.map_cons, dpL, dp_tup]
    have := dpL_pD L
    simp [dpL, dp_int]
    omega
theorem dp_pD (L : List (Nat × Nat)) : dp (.lst (L.map pD)) ≤ 6 := by
  rw [dp_lst]
  have := dpL_pD L
  omega
theorem dr_of {S : Sto} {n : Nat} {l : List D} (h : S[n]? = some (.lst l)) : dr S (.ptr n) = .lst l := by
  simp only [dr, h]
theorem pure__law_again_holds (ds : List D) (mu : Sto) (P' : KX) (F : KD) (h : sp__law_again_holds ds mu P' F) : t__law_again_holds (endT mu P' F) (gam0 5 ds) mu := by
  obtain ⟨y, ns, cs, rfl, hy, ⟨hn, hk⟩, h⟩ := h
  show t__law_again_holds _ [some (.lst (iL ns)), some y, none, none, none] mu
  unfold t__law_again_holds
  refine seqE [some (.lst (iL ns)), some y, none, some (Pr ns cs), some (.lst (ordsD ns.length cs))] mu (fun N hN => ?_) ?_
  · simp only [dPar2, dCall, dCons, dNil, dVar, List.getElem?_cons_zero, List.getElem?_cons_succ, List.set_cons_zero, List.set_cons_succ]
    exact ⟨y, ns, cs, rfl, hy, ⟨hn, hk⟩, y, ns, cs, rfl, hy, ⟨hn, hk⟩, hN⟩
  simp only [dSeq, dSet, dCall, dCons, dNil, dVar, List.getElem?_cons_zero, List.getElem?_cons_succ, List.set_cons_zero, List.set_cons_succ]
  refine ⟨ns, cs, rfl, ⟨hn, hk⟩, fun x => ?_⟩
  have lg : (mu ++ [MO.lst x, .lst (ordsD ns.length cs)])[mu.length + 1]? = some (.lst (ordsD ns.length cs)) := two_1 _ _ _
  simp only [dIfS, dCT, dBin, dVar, List.getElem?_cons_zero, List.getElem?_cons_succ]
  rw [gNeZ (dr_of lg) (rfl : dr _ (.lst (ordsD ns.length cs)) = _) (dp_pD _) (eqD_pD _)]
  simp only [Bool.not_true, Bool.false_eq_true, if_false, dNext, dDrop, dMtd, dVar, dNil, gReverse, List.getElem?_cons_zero, List.getElem?_cons_succ]
  refine ⟨⟨_, rfl, .inl ⟨_, lg⟩⟩, _, lg, ?_⟩
  rw [two_s1]
  have lg2 : (mu ++ [MO.lst x, .lst (ordsD ns.length cs).reverse])[mu.length + 1]? = some (.lst (ordsD ns.length cs).reverse) := two_1 _ _ _
  simp only [dC, dCons]
  refine ⟨⟨_, rfl, .inl ⟨_, lg2⟩⟩, ?_⟩
  simp only [dNil, gAppend, lg2]
  refine ⟨⟨trivial, ?_⟩, ?_⟩
  · have hl : ∀ n P, (pairsF n P).length ≤ n * n := fun n P => by
      unfold pairsF
      have key : ∀ l : List Nat, (l.flatMap fun i => ((List.range n).filter (P i)).map fun j => (i, j)).length ≤ l.length * n := fun l => by
        induction l with
        | nil => simp
        | cons a l ih =>
          rw [List.flatMap_cons, List.length_append, List.length_map, List.length_cons, Nat.succ_mul]
          have := List.length_filter_le (P a) (List.range n)
          rw [List.length_range] at this
          omega
      have := key (List.range n)
      rw [List.length_range] at this
      exact this
    have h2 := hl (nb (zs ns.length) cs).length (ordP ns.length cs)
    have h3 := plc_le cs (zs ns.length) 0
    have h4 := nb_plc_len ns.length cs
    have h5 := hk.1
    rw [List.length_reverse, List.length_map]
    have h6 : (nb (zs ns.length) cs).length * (nb (zs ns.length) cs).length ≤ 200 * 200 := Nat.mul_le_mul (by omega) (by omega)
    omega
  rw [two_s1]
  simp only [dRet, dBin, dCall, dCons, dNil, dVar, List.getElem?_cons_zero, List.getElem?_cons_succ]
  refine ⟨ns, cs, rfl, ⟨hn, hk⟩, fun x' => ?_⟩
  have lg3 := two_1 (mu ++ [MO.lst x, .lst ((ordsD ns.length cs).reverse ++ [.non])]) (.lst x') (.lst (ordsD ns.length cs))
  dsimp only
  rw [gEqZ (dr_of lg3) (rfl : dr _ (.lst (ordsD ns.length cs)) = _) (dp_pD _) (eqD_pD _)]
  refine ⟨mu, _, ?_, rfl, h⟩
  rw [List.append_assoc]
  exact Trim.same mu _
/-! ### the law -/
theorem atI_get {l : List D} {j : Nat} {d : D} (h : l[j]? = some d) : L2.atI l (j : Int) = some d := by
  obtain ⟨hj, e⟩ := List.getElem?_eq_some_iff.mp h
  rw [atI_nat hj, e]
theorem bl_iL {ns : List Int} {S : Sto} {F : KD} : bLen [.lst (iL ns)] S F = F (.int (ns.length : Nat)) S := by
  show F (.int (((iL ns).length : Nat) : Int)) S = _
  rw [List.length_map]
def bodyT : DS := dDrop (dMtd gAppend (dVar 4) (dCons (dCall sp__law_random_command (dCons (dVar 2) (dCons (dVar 3) (dNil)))) (dNil)))
theorem for_tl {E : DEnds} {ns : List Int} (hn : sizesOk ns) {p q : Nat} (hpq : p ≠ q) {z0 z1 z6 : Option D} {ok : Sto → Prop} (hok : ∀ S, ok S) : ∀ (ds : List D) (acc : List Cmd) (S : Sto) (z5 : Option D), S[p]? = some (.lst (tD acc)) → srcOk S q → (∀ c ∈ acc, c.ok ns) → acc.length + ds.length ≤ 200 →
    (∀ S acc z5, S[p]? = some (.lst (tD acc)) → csOk ns acc → E.nx [z0, z1, some (.ptr q), some (.lst (iL ns)), some (.ptr p), z5, z6] S) →
    forL (dName 5) bodyT E ok ds [z0, z1, some (.ptr q), some (.lst (iL ns)), some (.ptr p), z5, z6] S
  | [], acc, S, z5, hp, hs, ha, hl, hN => ⟨hok _, hN S acc z5 hp ⟨by simpa using hl, ha⟩⟩
  | d :: ds, acc, S, z5, hp, hs, ha, hl, hN => by
    refine ⟨hok _, ?_⟩
    rw [List.length_cons] at hl
    have ih := fun acc S z5 h1 h2 h3 h4 => for_tl (E := E) hn hpq (z0 := z0) (z1 := z1) (z6 := z6) hok ds acc S z5 h1 h2 h3 h4 hN
    show bodyT { E with nx := forL (dName 5) bodyT E ok ds, ct := forL (dName 5) bodyT E ok ds, bk := E.nx } [z0, z1, some (.ptr q), some (.lst (iL ns)), some (.ptr p), some d, z6] S
    generalize forL (dName 5) bodyT E ok ds = G at ih
    unfold bodyT
    simp only [dDrop, dMtd, dCall, dCons, dNil, dVar, List.getElem?_cons_zero, List.getElem?_cons_succ]
    refine ⟨⟨p, rfl, .inl ⟨_, hp⟩⟩, q, ns, rfl, hn, hs, fun e a b c he => ?_⟩
    have hp2 : (S.set q (src a b c))[p]? = some (.lst (tD acc)) := by rw [List.getElem?_set_ne (fun z => hpq z.symm)]; exact hp
    have hs2 : srcOk (S.set q (src a b c)) q := by
      obtain ⟨x, y, w, h⟩ := hs
      exact ⟨a, b, c, set_self h⟩
    simp only [gAppend, hp2]
    refine ⟨⟨by cases e <;> trivial, by rw [List.length_map]; omega⟩, ?_⟩
    have e2 : tD acc ++ [e.t] = tD (acc ++ [e]) := by simp
    rw [e2]
    refine ih (acc ++ [e]) _ _ (set_self hp2) ?_ (fun c hc => ?_) (by rw [List.length_append]; simp; omega)
    · obtain ⟨x, y, w, h⟩ := hs2
      exact ⟨x, y, w, by rw [List.getElem?_set_ne hpq]; exact h⟩
    · rcases List.mem_append.mp hc with hc | hc
      · exact ha c hc
      · rw [List.mem_singleton.mp hc]
        exact he
def lA : DS := dSet 6 (dCall sp_orders (dCons (dCall sp__law_program (dCons (dVar 3) (dCons (dVar 4) (dNil)))) (dNil)))
def lB : DS := dIfS (dOr (dNot (dTru (gIsi isLst noCl (dVar 6)))) (dOr (dCT (gNe 6) (dVar 6) (dCall sp__law_by_images (dCons (dVar 3) (dCons (dVar 4) (dNil))))) (dCT (gNe 6) (dVar 6) (dCall sp__law_by_rule (dCons (dVar 4) (dNil)))))) (dRet (dC (.bl false))) (dNext)
def lC_ : DS := dSeq (dSet 3 (dCall sp__law_random_sizes (dCons (dVar 2) (dCons (dC (.int 6)) (dCons (dC (.int 4)) (dNil)))))) (dSeq (dSet 4 (dCall sp__law_random_commands (dCons (dVar 2) (dCons (dVar 3) (dCons (dC (.int 60)) (dNil)))))) (dIfS (dNot (dTru (dCall sp__law_again_holds (dCons (dVar 3) (dCons (dVar 4) (dNil)))))) (dRet (dC (.bl false))) (dNext)))
def bodyM : DS := dSeq (dSet 2 (dCall sp__law_rng (dCons (dVar 1) (dNil)))) (dSeq (dSet 3 (dCall sp__law_random_sizes (dCons (dVar 2) (dCons (dC (.int 3)) (dCons (dC (.int 2)) (dNil)))))) (dSeq (dSet 4 (dCall sp__law_random_commands (dCons (dVar 2) (dCons (dVar 3) (dCons (dC (.int 11)) (dNil)))))) (dSeq lA (dSeq lB lC_))))
def tailL (x0 : D) (ns0 : List Int) : DS := dSeq (dSet 2 (dCall sp__law_rng (dCons (dBin (gAdd 0) (dCall (sp__law_cell x0 ns0) (dCons (dVar 0) (dCons (dC (.int 0)) (dNil)))) (dC (.int 3))) (dNil)))) (dSeq (dSet 3 (dBin (gMul 0) (dLst 0 (dCons (dC (.int 1)) (dNil))) (dBin (gAdd 0) (dC (.int 1)) (dCall sp__law_draw (dCons (dVar 2) (dCons (dC (.int 6)) (dNil))))))) (dSeq (dSet 4 (dLst 1 (dNil))) (dSeq (dFor (iR1 (dCons (dBin (gAdd 0) (dC (.int 100)) (dCall sp__law_draw (dCons (dVar 2) (dCons (dC (.int 101)) (dNil))))) (dNil))) (dName 5) bodyT) (dRet (dCall sp__law_again_holds (dCons (dVar 3) (dCons (dVar 4) (dNil))))))))
theorem t_law_eq (x0 : D) (ns0 : List Int) (gl : GL) (gx : G2) (gsl : GS) (gs : G2) : t_law x0 ns0 gl gx gsl gs = dSeq (dFor (iSeq (dBin (gAdd 0) (dLst 0 (dCons (dCall (sp__law_cell x0 ns0) (dCons (dVar 0) (dCons (dC (.int 0)) (dNil)))) (dNil))) (dSlG gsl (dVar 0) (dPart (dC (.int 1))) (dPart (dC (.int 2)))))) (dName 1) bodyM) (tailL x0 ns0) := rfl
theorem ok_lB {E : DEnds} {S : Sto} {j : Nat} {ns : List Int} {cs : List Cmd} (hc : okC ns cs) (hT : noTpl S = true) (hj : S[j]? = some (.lst (ordsD ns.length cs))) {z0 z1 z2 z5 : Option D} (hN : E.nx [z0, z1, z2, some (.lst (iL ns)), some (.lst (tD cs)), z5, some (.ptr j)] S) : lB E [z0, z1, z2, some (.lst (iL ns)), some (.lst (tD cs)), z5, some (.ptr j)] S := by
  obtain ⟨hn, hk, _⟩ := id hc
  unfold lB
  have eb : isLst "list" = true := by decide
  simp only [dIfS, dOr, dNot, dTru, gIsi, dVar, List.getElem?_cons_zero, List.getElem?_cons_succ, kdD, hj, truK, eb, Bool.not_true, Bool.false_eq_true, if_false, dCT, dBin, dCall, dCons, dNil]
  refine ⟨ns, cs, rfl, ⟨hc, hT⟩, ?_⟩
  dsimp only
  rw [gNeZ (dr_of hj) (rfl : dr _ (.lst (ordsD ns.length cs)) = _) (dp_pD _) (eqD_pD _)]
  simp only [Bool.not_true, Bool.false_eq_true, if_false]
  refine ⟨_, ns, cs, rfl, rfl, ⟨hn, hk⟩, ?_⟩
  dsimp only
  rw [gNeZ (dr_of hj) (rfl : dr _ (.lst (ordsD ns.length cs)) = _) (dp_pD _) (eqD_pD _)]
  simp only [Bool.not_true, Bool.false_eq_true, if_false, dNext]
  exact hN
theorem body_ok {E : DEnds} {S : Sto} (hT : noTpl S = true) {v : Int} {z0 z2 z3 z4 z5 z6 : Option D} (hN : ∀ S z2 z3 z4 z5 z6, noTpl S = true → E.nx [z0, some (.int v), z2, z3, z4, z5, z6] S) : bodyM E [z0, some (.int v), z2, z3, z4, z5, z6] S := by
  unfold bodyM
  simp only [dSeq, dSet, dCall, dCons, dNil, dVar, dC, List.getElem?_cons_zero, List.getElem?_cons_succ, List.set_cons_zero, List.set_cons_succ]
  refine ⟨v, rfl, fun a b c => ?_⟩
  have so : ∀ a b c, srcOk (S ++ [src a b c]) S.length := fun a b c => ⟨a, b, c, last_get S _ rfl⟩
  refine ⟨S.length, 3, 2, rfl, by decide, so _ _ _, fun ns a b c hn h3 => ?_⟩
  rw [last_set S _ _ rfl]
  refine ⟨S.length, ns, 11, rfl, by decide, hn, so _ _ _, fun cs a b c hk h11 => ?_⟩
  rw [last_set S _ _ rfl]
  have hT1 : noTpl (S ++ [src a b c]) = true := noTpl_one hT rfl
  have s1 := so a b c
  generalize S.length = n at s1
  generalize S ++ [src a b c] = S1 at hT1 s1
  have hc : okC ns cs := by
    have := List.length_filter_le isSt cs
    exact ⟨hn, hk, by omega, by omega, by omega⟩
  show lA { E with nx := fun ga mu => lB { E with nx := fun ga mu => lC_ E ga mu } ga mu } [z0, some (.int v), some (.ptr n), some (.lst (iL ns)), some (.lst (tD cs)), z5, z6] S1
  unfold lA
  simp only [dSet, dCall, dCons, dNil, dVar, List.getElem?_cons_zero, List.getElem?_cons_succ, List.set_cons_zero, List.set_cons_succ]
  refine ⟨_, ns, cs, rfl, rfl, ⟨hn, hk⟩, ns, cs, rfl, ⟨hn, hk⟩, fun x => ?_⟩
  have e2 : S1 ++ [MO.lst x, .lst (ordsD ns.length cs)] = (S1 ++ [.lst x]) ++ [.lst (ordsD ns.length cs)] := by rw [List.append_assoc]; rfl
  have hT2 : noTpl (S1 ++ [MO.lst x, .lst (ordsD ns.length cs)]) = true := by
    rw [e2]
    exact noTpl_one (noTpl_one hT1 rfl) rfl
  refine ok_lB hc hT2 (two_1 _ _ _) ?_
  have s2 : srcOk (S1 ++ [MO.lst x, .lst (ordsD ns.length cs)]) n := by
    obtain ⟨x', y, w, h⟩ := s1
    exact ⟨x', y, w, app_get h _⟩
  generalize S1 ++ [MO.lst x, .lst (ordsD ns.length cs)] = S2 at hT2 s2
  dsimp only
  unfold lC_
  simp only [dSeq, dSet, dCall, dCons, dNil, dVar, dC, List.getElem?_cons_zero, List.getElem?_cons_succ, List.set_cons_zero, List.set_cons_succ]
  refine ⟨n, 6, 4, rfl, by decide, s2, fun ns a b c hn _ => ?_⟩
  have s3 := step3 s2 a b c
  have hT3 : noTpl (S2.set n (src a b c)) = true := noTpl_setm hT2 n rfl
  generalize S2.set n (src a b c) = S3 at s3 hT3
  refine ⟨n, ns, 60, rfl, by decide, hn, s3, fun cs a b c hk _ => ?_⟩
  have hT4 : noTpl (S3.set n (src a b c)) = true := noTpl_setm hT3 n rfl
  generalize S3.set n (src a b c) = S4 at hT4
  simp only [dIfS, dNot, dTru, dCall, dCons, dNil, dVar, List.getElem?_cons_zero, List.getElem?_cons_succ]
  refine ⟨_, ns, cs, rfl, rfl, ⟨hn, hk⟩, ?_⟩
  simp only [truK, Bool.not_true, Bool.false_eq_true, if_false, dNext]
  exact hN _ _ _ _ _ _ hT4
theorem for_law {E : DEnds} {ok : Sto → Prop} (hok : ∀ S, ok S) {z0 : Option D} (hN : ∀ S z1 z2 z3 z4 z5 z6, E.nx [z0, z1, z2, z3, z4, z5, z6] S) : ∀ (vs : List Int) (S : Sto) (z1 z2 z3 z4 z5 z6 : Option D), noTpl S = true →
    forL (dName 1) bodyM E ok (iL vs) [z0, z1, z2, z3, z4, z5, z6] S
  | [], S, _, _, _, _, _, _, _ => ⟨hok _, hN _ _ _ _ _ _ _⟩
  | v :: vs, S, z1, z2, z3, z4, z5, z6, hT => by
    refine ⟨hok _, ?_⟩
    have ih := for_law (E := E) hok hN vs
    show bodyM { E with nx := forL (dName 1) bodyM E ok (iL vs), ct := forL (dName 1) bodyM E ok (iL vs), bk := E.nx } [z0, some (.int v), z2, z3, z4, z5, z6] S
    generalize forL (dName 1) bodyM E ok (iL vs) = G at ih
    exact body_ok hT fun S z2 z3 z4 z5 z6 h => ih S _ _ _ _ _ _ h
theorem ones_ok {k : Nat} (h1 : 1 ≤ k) (h6 : k ≤ 6) : sizesOk (List.replicate k 1) := by
  refine ⟨by rw [List.length_replicate]; exact ⟨h1, h6⟩, fun x hx => ?_⟩
  rw [(List.mem_replicate.mp hx).2]
  decide
theorem ones_D (k : Nat) : (List.replicate k [D.int 1]).flatten = iL (List.replicate k 1) := by
  induction k with
  | zero => rfl
  | succ k ih =>
    rw [List.replicate_succ, List.flatten_cons, ih, List.replicate_succ]
    rfl
theorem ok_tail {x0 : D} {ns0 : List Int} {S : Sto} {z1 z2 z3 z4 z5 z6 : Option D} : tailL x0 ns0 (endF (fun _ _ => False) fun d _ => d = .bl true) [some x0, z1, z2, z3, z4, z5, z6] S := by
  unfold tailL
  simp only [dSeq, dSet, dCall, dCons, dNil, dBin, dVar, dC, List.getElem?_cons_zero, List.getElem?_cons_succ, List.set_cons_zero, List.set_cons_succ]
  refine ⟨rfl, fun z => ?_⟩
  simp only [gAddI]
  refine ⟨z + 3, rfl, fun a b c => ?_⟩
  have so : ∀ a b c, srcOk (S ++ [src a b c]) S.length := fun a b c => ⟨a, b, c, last_get S _ rfl⟩
  simp only [dLst, dCons, dNil, dC, retL, npL, np]
  refine ⟨by decide, ⟨trivial, trivial⟩, S.length, 6, rfl, by decide, so _ _ _, fun r a b c h0 h6 => ?_⟩
  rw [last_set S _ _ rfl]
  simp only [gAddI, gMul]
  refine ⟨_, rfl, by omega, by omega, by simp; omega, ?_⟩
  rw [ones_D]
  simp only [retN]
  have hn : sizesOk (List.replicate (1 + r).toNat 1) := ones_ok (by omega) (by omega)
  generalize List.replicate (1 + r).toNat (1 : Int) = ns at hn
  refine ⟨by simp, trivial, ?_⟩
  have hp : ((S ++ [src a b c]) ++ [MO.lst []])[(S ++ [src a b c]).length]? = some (.lst []) := last_get _ _ rfl
  have hs : srcOk ((S ++ [src a b c]) ++ [MO.lst []]) S.length := by
    obtain ⟨x, y, w, h⟩ := so a b c
    exact ⟨x, y, w, app_get h _⟩
  have hpq : (S ++ [src a b c]).length ≠ S.length := by rw [List.length_append]; simp
  generalize ((S ++ [src a b c]) ++ [MO.lst []]) = S1 at hp hs
  generalize (S ++ [src a b c]).length = p at hp hpq
  generalize S.length = qq at hs hpq
  simp only [dFor, iR1, dCons, dNil, dBin, dC, dCall, dVar, List.getElem?_cons_zero, List.getElem?_cons_succ]
  refine ⟨qq, 101, rfl, by decide, hs, fun r a b c h0 h1 => ?_⟩
  dsimp only
  rw [gAddI]
  refine ⟨by omega, ?_⟩
  have hp2 : (S1.set qq (src a b c))[p]? = some (.lst []) := by rw [List.getElem?_set_ne (fun z => hpq z.symm)]; exact hp
  have hs2 := step3 hs a b c
  generalize S1.set qq (src a b c) = S2 at hp2 hs2
  refine for_tl hn hpq (fun S => trivial) _ [] S2 _ hp2 hs2 (fun c hc => by cases hc) (by unfold rngL; rw [List.length_map, List.length_range]; simp; omega) fun S acc z5 h1 h2 => ?_
  simp only [dRet, dCall, dCons, dNil, dVar, List.getElem?_cons_zero, List.getElem?_cons_succ]
  exact ⟨_, ns, acc, rfl, by simp only [lv, h1], ⟨hn, h2⟩, rfl⟩
theorem pure_law {x0 : D} {ns0 : List Int} {gl : GL} {gx : G2} {gsl : GS} {gs : G2} (hl : ns0.length ≤ 63) (hgs : ∀ mu F, F (.lst (DL.cutD (iL ns0) (some 1) (some 2))) mu → gsl x0 (some 1) (some 2) mu F) : t_law x0 ns0 gl gx gsl gs (endF (fun _ _ => False) fun d _ => d = .bl true) (gam0 7 [x0]) [] := by
  show t_law x0 ns0 gl gx gsl gs _ [some x0, none, none, none, none, none, none] []
  rw [t_law_eq]
  obtain ⟨ms, hm⟩ : ∃ ms, DL.cutD (iL ns0) (some 1) (some 2) = iL ms := ⟨_, by unfold DL.cutD; rw [← List.map_drop, ← List.map_take]⟩
  have hml : ms.length ≤ 63 := by
    have h1 : (iL ms).length ≤ (iL ns0).length := by
      rw [← hm]
      unfold DL.cutD
      rw [List.length_take, List.length_drop]
      omega
    rw [List.length_map, List.length_map] at h1
    omega
  show dFor _ _ _ _ _ _
  simp only [dFor, iSeq, dBin, dLst, dCall, dCons, dNil, dC, dVar, dSlG, dPart, retL, List.getElem?_cons_zero]
  refine ⟨rfl, fun z => ?_⟩
  refine ⟨by simp, ⟨trivial, trivial⟩, ?_⟩
  refine hgs _ _ ?_
  rw [hm]
  simp only [gAdd, retN]
  refine ⟨_, _, rfl, rfl, by rw [List.length_map]; simp; omega, _, rfl, ?_⟩
  have e0 : [D.int z] ++ iL ms = iL (z :: ms) := rfl
  rw [e0]
  exact for_law (fun S => rfl) (fun S z1 z2 z3 z4 z5 z6 => ok_tail (ns0 := ns0)) (z :: ms) [] none none none none none none rfl
/-! ### law -/
def spLaw (K : PySem.W.Frag) : Sp := fun vs H Q _ => ∃ (a : Addr) (ns : List Int), vs = [.ref a] ∧ SqL K H a (ns.map V.int) ∧ ns.length ≤ 63 ∧ ∀ H', Q (.bl true) H'
section
variable {P : Program} {w : World} {K : PySem.W.Frag} {mg : Str → Option Value} {base : Heap}
theorem law_start {H : Hp} {x : D} {a : Addr} (r : Rep K ([] ++ []) H [] x (.ref a)) : At K [] (gam0 7 [x]) [] [] (L2.start ["_law_script", "_law_cell_here", "_law_rng_here", "_law_sizes", "_law_commands", "_law_index", "_law_found"] [.ref a]) H :=
  ⟨⟨rfl, List.nodup_nil, fun a h => (List.not_mem_nil h).elim, fun a h => (List.not_mem_nil h).elim, fun n mo a h => by simp at h⟩, slots0 (N := ["_law_script", "_law_cell_here", "_law_rng_here", "_law_sizes", "_law_commands", "_law_index", "_law_found"]) (ds := [x]) (.cons r .nil)⟩
theorem ok_law (T : Tx K mg) (FC__law_cell : ∃ fd, FunD K "_law_cell" "_law_cell" (defArgs s__law_cell) (defBody s__law_cell) (defScope s__law_cell) [] [] (He.ga K "_law_cell") fd) (F__law_rng : Prom P w K mg base 2 (He.ga K "_law_rng") 1 sp__law_rng) (F__law_random_sizes : Prom P w K mg base 3 (He.ga K "_law_random_sizes") 3 sp__law_random_sizes) (F__law_random_commands : Prom P w K mg base 18 (He.ga K "_law_random_commands") 3 sp__law_random_commands) (F_orders : Prom P w K mg base 18 (He.ga K "orders") 1 sp_orders) (F__law_program : Prom P w K mg base 18 (He.ga K "_law_program") 2 sp__law_program) (F__law_by_rule : Prom P w K mg base 18 (He.ga K "_law_by_rule") 1 sp__law_by_rule) (F__law_by_images : Prom P w K mg base 19 (He.ga K "_law_by_images") 2 sp__law_by_images) (F__law_again_holds : Prom P w K mg base 19 (He.ga K "_law_again_holds") 2 sp__law_again_holds) (F__law_draw : Prom P w K mg base 2 (He.ga K "_law_draw") 2 sp__law_draw) (F__law_random_command : Prom P w K mg base 17 (He.ga K "_law_random_command") 2 sp__law_random_command) (E : EqAll P w K mg base 6) {f : Addr} {fd : FuncData} (Fd : FunD K "law" "law" (defArgs s_law) (defBody s_law) (defScope s_law) [] [] f fd) :
    FnOk P w K mg base (L2.CX P w) 20 f fd ["_law_script"] (spLaw K) := by
  refine Fd.ok sc_law (fun vs H Q E h => ?_) (fun cdv A outer s H vs Q E_ hr h => ?_)
  · obtain ⟨a, ns, rfl, _⟩ := h
    rfl
  · obtain ⟨a, ns, rfl, hS, hl, hQ⟩ := h
    have fin : ∀ (x : D) (gl : GL) (gx : G2) (gsl : GS), Rep K ([] ++ []) H [] x (.ref a) → ScrR K gl gx gsl → (∀ mu F, F (.int (ns.length : Nat)) mu → gl [x] mu F) → (∀ mu P F z, ns[0]? = some z → F (.int z) mu → gx x (.int 0) mu P F) → (∀ mu F, F (.lst (DL.cutD (iL ns) (some 1) (some 2))) mu → gsl x (some 1) (some 2) mu F) →
        ∃ t, PSs (cxOf (L2.CX P w) P w K mg base ["_law_script", "_law_cell_here", "_law_rng_here", "_law_sizes", "_law_commands", "_law_index", "_law_found"] "law" (defScope s_law) f cdv A outer s H E_) (defBody s_law) t ∧ t { nx := fun _ H' => Q .non H', rt := Q } (L2.start ["_law_script", "_law_cell_here", "_law_rng_here", "_law_sizes", "_law_commands", "_law_index", "_law_found"] [.ref a]) H := fun x gl gx gsl r SR hgl hgx hgs => by
      have FC0__law_cell := ok__law_cell (P := P) (w := w) (base := base) (x0 := x) (ns0 := ns) T SR FC__law_cell (fun ds mu P' F h => by obtain ⟨rfl, _⟩ := h; rfl) (pure__law_cell hgl hgx)
      refine ⟨_, der_law T SR FC0__law_cell F__law_rng F__law_random_sizes F__law_random_commands F_orders F__law_program F__law_by_rule F__law_by_images F__law_again_holds F__law_draw F__law_random_command (gs := gAdd 0) (fun X W _ => o_add) E cdv A outer s H E_ hr, _, _, _, [], endF (fun _ _ => False) (fun d _ => d = .bl true), law_start r, pure_law hl hgs, ⟨fun ga mu sg H' al' h _ _ => ?_, ⟨fun d mu v H' al' h o g r => ?_⟩, fun sg => ⟨fun _ _ _ _ _ _ h => h.elim⟩, fun _ _ _ _ _ h => h.elim, fun _ _ _ _ _ h => h.elim⟩⟩
      · cases h
      · subst h
        rw [r.bl_]
        exact hQ H'
    rcases hS with h | ⟨o, its, m, h1, h2, h3, h4, h5, h6⟩
    · refine fin (.lst (iL ns)) _ _ _ (.lst ⟨by simp, h⟩ (RepL.ofInts ns)) (scrF K) (fun mu F h => ?_) (fun mu P F z hz h => ?_) (fun mu F h => ⟨_, rfl, h⟩)
      · rw [bl_iL]
        exact h
      · have ea : L2.atI (iL ns) (0 : Int) = some (.int z) := by
          have z2 := atI_get (l := iL ns) (j := 0) (d := .int z) (by rw [List.getElem?_map, hz]; rfl)
          exact z2
        simp only [gIx, pv_, ea]
        exact h
    · refine fin (.adr a) _ _ _ .adr (scrS (a := a) (ns := ns) fun H => .inr ⟨o, its, m, h1, h2, h3, h4, h5, h6⟩) (fun mu F h => ⟨rfl, h⟩) (fun mu P F z hz h => ⟨rfl, 0, z, rfl, ?_, h⟩) (fun mu F h => ⟨rfl, h⟩)
      unfold L2.atI L2.ixN
      have hp : 0 < ns.length := (List.getElem?_eq_some_iff.mp hz).1
      rw [if_pos (Int.le_refl 0), if_pos (by omega), Option.bind_some]
      exact hz
end
end LW

/-! part A34 -/
namespace LW
open PySem PySem.Spec PyProof.Rows L2 DL DQ DX DZ

theorem tx_of {w : World} {K : PySem.W.Frag} {h : Heap} {mg : Str → Option Value} (X : K.In h) (G : h.Ns mainGlobals mg) (c : He.SaysX faL fnL [] tfL exL w h K) : Tx K mg := by
  have e : (txtB K && (ckB K 0 && (ckB K 1 && (ckB K 2 && (mk0B K 3 && (ckB K 4 && (ckB K 5 && (ckB K 6 && (absB K 7 && (absB K 8 && (absB K 9 && (absB K 10 && (absB K 11 && (absB K 12 && (absB K 13 && (absB K 14 && (absB K 15 && (absB K 16 && (absB K 17 && (isiB K (.ref (He.ga K "Flush")) noTy (fun c => c == 2) && (isiB K (.ref (He.ga K "Store")) noTy (fun c => c == 1) && (isiB K (.ref (He.ga K "Thing")) noTy thg && isiB K (.type "list") isLst noCl)))))))))))))))))))))) = true := c.more
  obtain ⟨e0, e⟩ := ba2 e
  obtain ⟨e1, e⟩ := ba2 e
  obtain ⟨e2, e⟩ := ba2 e
  obtain ⟨e3, e⟩ := ba2 e
  obtain ⟨e4, e⟩ := ba2 e
  obtain ⟨e5, e⟩ := ba2 e
  obtain ⟨e6, e⟩ := ba2 e
  obtain ⟨e7, e⟩ := ba2 e
  obtain ⟨e8, e⟩ := ba2 e
  obtain ⟨e9, e⟩ := ba2 e
  obtain ⟨e10, e⟩ := ba2 e
  obtain ⟨e11, e⟩ := ba2 e
  obtain ⟨e12, e⟩ := ba2 e
  obtain ⟨e13, e⟩ := ba2 e
  obtain ⟨e14, e⟩ := ba2 e
  obtain ⟨e15, e⟩ := ba2 e
  obtain ⟨e16, e⟩ := ba2 e
  obtain ⟨e17, e⟩ := ba2 e
  obtain ⟨e18, e⟩ := ba2 e
  obtain ⟨e19, e⟩ := ba2 e
  obtain ⟨e20, e⟩ := ba2 e
  obtain ⟨e21, e⟩ := ba2 e
  exact { g_law := He.glo_ok X G (c.t.d.fact 0 rfl), g_BadCount := He.glo_ok X G (c.t.d.fact 1 rfl), g_Box := He.glo_ok X G (c.t.d.fact 2 rfl), g_Counter := He.glo_ok X G (c.t.d.fact 3 rfl), g_Fence := He.glo_ok X G (c.t.d.fact 4 rfl), g_Flush := He.glo_ok X G (c.t.d.fact 5 rfl), i_MOST_COMMANDS := He.int_ok X G (c.t.d.fact 6 rfl), i_MOST_LINES := He.int_ok X G (c.t.d.fact 7 rfl), i_MOST_WORDS := He.int_ok X G (c.t.d.fact 8 rfl), g_Memory := He.glo_ok X G (c.t.d.fact 9 rfl), g_NoLine := He.glo_ok X G (c.t.d.fact 10 rfl), g_NoWord := He.glo_ok X G (c.t.d.fact 11 rfl), g_Program := He.glo_ok X G (c.t.d.fact 12 rfl), g_Store := He.glo_ok X G (c.t.d.fact 13 rfl), g_Thing := He.glo_ok X G (c.t.d.fact 14 rfl), g__law_again_holds := He.glo_ok X G (c.t.d.fact 15 rfl), g__law_bounds := He.glo_ok X G (c.t.d.fact 16 rfl), g__law_by_images := He.glo_ok X G (c.t.d.fact 17 rfl), g__law_by_rule := He.glo_ok X G (c.t.d.fact 18 rfl), g__law_cell := He.glo_ok X G (c.t.d.fact 19 rfl), g__law_command := He.glo_ok X G (c.t.d.fact 20 rfl), g__law_draw := He.glo_ok X G (c.t.d.fact 21 rfl), g__law_images := He.glo_ok X G (c.t.d.fact 22 rfl), g__law_latest := He.glo_ok X G (c.t.d.fact 23 rfl), g__law_order_holds := He.glo_ok X G (c.t.d.fact 24 rfl), g__law_pick := He.glo_ok X G (c.t.d.fact 25 rfl), g__law_places := He.glo_ok X G (c.t.d.fact 26 rfl), g__law_program := He.glo_ok X G (c.t.d.fact 27 rfl), g__law_random_command := He.glo_ok X G (c.t.d.fact 28 rfl), g__law_random_commands := He.glo_ok X G (c.t.d.fact 29 rfl), g__law_random_sizes := He.glo_ok X G (c.t.d.fact 30 rfl), g__law_rng := He.glo_ok X G (c.t.d.fact 31 rfl), f_abs := He.free_ok X G (c.t.d.fact 32 rfl), g_boxes := He.glo_ok X G (c.t.d.fact 33 rfl), g_boxes_of := He.glo_ok X G (c.t.d.fact 34 rfl), g_check_commands := He.glo_ok X G (c.t.d.fact 35 rfl), f_enumerate := He.free_ok X G (c.t.d.fact 36 rfl), g_first_holds := He.glo_ok X G (c.t.d.fact 37 rfl), f_isinstance := He.free_ok X G (c.t.d.fact 38 rfl), f_len := He.free_ok X G (c.t.d.fact 39 rfl), f_list := He.free_ok X G (c.t.d.fact 40 rfl), g_numbered := He.glo_ok X G (c.t.d.fact 41 rfl), g_orders := He.glo_ok X G (c.t.d.fact 42 rfl), f_range := He.free_ok X G (c.t.d.fact 43 rfl), f_sorted := He.free_ok X G (c.t.d.fact 44 rfl), g_stores := He.glo_ok X G (c.t.d.fact 45 rfl), f_tuple := He.free_ok X G (c.t.d.fact 46 rfl), f_zip := He.free_ok X G (c.t.d.fact 47 rfl), mk_Memory := He.mkr_ok (c.t.d.fact 48 rfl), me_Memory_kind := He.meth_ok (c.t.d.fact 49 rfl), me_Memory_facts := He.meth_ok (c.t.d.fact 50 rfl), me_Memory_check_line := He.meth_ok (c.t.d.fact 51 rfl), me_Memory_check_word := He.meth_ok (c.t.d.fact 52 rfl), me_Memory_zeros := He.meth_ok (c.t.d.fact 53 rfl), me_Memory___eq__ := He.meth_ok (c.t.d.fact 54 rfl), mk_Store := He.mkr_ok (c.t.d.fact 55 rfl), me_Store_kind := He.meth_ok (c.t.d.fact 56 rfl), me_Store_facts := He.meth_ok (c.t.d.fact 57 rfl), me_Store_check := He.meth_ok (c.t.d.fact 58 rfl), me_Store___eq__ := He.meth_ok (c.t.d.fact 59 rfl), mk_Flush := He.mkr_ok (c.t.d.fact 60 rfl), me_Flush_kind := He.meth_ok (c.t.d.fact 61 rfl), me_Flush_facts := He.meth_ok (c.t.d.fact 62 rfl), me_Flush_check := He.meth_ok (c.t.d.fact 63 rfl), me_Flush___eq__ := He.meth_ok (c.t.d.fact 64 rfl), me_Fence_kind := He.meth_ok (c.t.d.fact 65 rfl), me_Fence_check := He.meth_ok (c.t.d.fact 66 rfl), me_Fence_facts := He.meth_ok (c.t.d.fact 67 rfl), me_Fence___eq__ := He.meth_ok (c.t.d.fact 68 rfl), mk_Program := He.mkr_ok (c.t.d.fact 69 rfl), me_Program_kind := He.meth_ok (c.t.d.fact 70 rfl), me_Program_facts := He.meth_ok (c.t.d.fact 71 rfl), me_Program___eq__ := He.meth_ok (c.t.d.fact 72 rfl), mk_Counter := He.mkr_ok (c.t.d.fact 73 rfl), me_Counter_do_command := He.meth_ok (c.t.d.fact 74 rfl), mk_Box := He.mkr_ok (c.t.d.fact 75 rfl), me_Box_kind := He.meth_ok (c.t.d.fact 76 rfl), me_Box_facts := He.meth_ok (c.t.d.fact 77 rfl), me_Box___eq__ := He.meth_ok (c.t.d.fact 78 rfl), txt := e0, ck_0 := ck_of e1, ck_1 := ck_of e2, ck_2 := ck_of e3, mk0_3 := mk0_of rfl e4, ck_4 := ck_of e5, ck_5 := ck_of e6, ck_6 := ck_of e7, ab_7 := abs_of e8, ab_8 := abs_of e9, ab_9 := abs_of e10, ab_10 := abs_of e11, ab_11 := abs_of e12, ab_12 := abs_of e13, ab_13 := abs_of e14, ab_14 := abs_of e15, ab_15 := abs_of e16, ab_16 := abs_of e17, ab_17 := abs_of e18, isi_Flush := isiT_of e19, isi_Store := isiT_of e20, isi_Thing := isiT_of e21, isi_list := isiT_of e }
def csL (K : PySem.W.Frag) : List (Addr × Addr) := []
theorem facts {P : Program} {w : World} {K : PySem.W.Frag} {h : Heap} {mg : Str → Option Value} {f : Addr} (X : K.In h) (G : h.Ns mainGlobals mg) (hfa : mg ("law" : Str) = some (.ref f)) (hf : f = He.ga K "law") (c : He.SaysX faL fnL [] tfL exL w h K) :
    ∃ fd : FuncData, (∀ (s : Shared) (v : Value), BindsTo s fd ⟨[v], []⟩ [("_law_script", v)]) ∧ ∀ base : Heap, (∀ p ∈ csL K, LamX.TabB base mg p.1 p.2) → FnOk P w K mg base (L2.CX P w) 20 f fd ["_law_script"] (spLaw K) := by
  have T := tx_of X G c
  obtain ⟨fd, Fd⟩ := (c.t.d.def_ 54 (d := d_law) rfl)
  subst hf
  have b := FunD.bindsA (ps := ["_law_script"]) Fd fun _ _ _ _ _ _ us hl => match us, hl with | [_], _ => rfl
  refine ⟨fd, fun s v => b s [v] rfl, fun base TBs => ?_⟩
  have F_Memory_kind := ok_Memory_kind (P := P) (w := w) (base := base) T (c.t.d.def_ 7 (d := d_Memory_kind) rfl) ar_kind (pure_kind rfl)
  have F_Store_kind := ok_Store_kind (P := P) (w := w) (base := base) T (c.t.d.def_ 14 (d := d_Store_kind) rfl) ar_kind (pure_kind rfl)
  have F_Flush_kind := ok_Flush_kind (P := P) (w := w) (base := base) T (c.t.d.def_ 18 (d := d_Flush_kind) rfl) ar_kind (pure_kind rfl)
  have F_Fence_kind := ok_Fence_kind (P := P) (w := w) (base := base) T (c.t.d.def_ 21 (d := d_Fence_kind) rfl) ar_kind (pure_kind rfl)
  have F_Program_kind := ok_Program_kind (P := P) (w := w) (base := base) T (c.t.d.def_ 24 (d := d_Program_kind) rfl) ar_kind (pure_kind rfl)
  have F_Box_kind := ok_Box_kind (P := P) (w := w) (base := base) T (c.t.d.def_ 30 (d := d_Box_kind) rfl) ar_kind (pure_kind rfl)
  have F_Memory_facts := ok_Memory_facts (P := P) (w := w) (base := base) T (c.t.d.def_ 8 (d := d_Memory_facts) rfl) ar_facts pure_Memory_facts
  have F_Store_facts := ok_Store_facts (P := P) (w := w) (base := base) T (c.t.d.def_ 15 (d := d_Store_facts) rfl) ar_facts pure_Store_facts
  have F_Flush_facts := ok_Flush_facts (P := P) (w := w) (base := base) T (c.t.d.def_ 19 (d := d_Flush_facts) rfl) ar_facts pure_Flush_facts
  have F_Program_facts := ok_Program_facts (P := P) (w := w) (base := base) T (c.t.d.def_ 25 (d := d_Program_facts) rfl) ar_facts pure_Program_facts
  have F_Box_facts := ok_Box_facts (P := P) (w := w) (base := base) T (c.t.d.def_ 31 (d := d_Box_facts) rfl) ar_facts pure_Box_facts
  have F_Memory___init__ := ok_Memory___init__ (P := P) (w := w) (base := base) T (c.t.d.def_ 6 (d := d_Memory___init__) rfl) (fun ds mu P' F h => by obtain ⟨j, x, ns, rfl, _⟩ := h; rfl) pure_Memory___init__
  have F_Memory_check_line := ok_Memory_check_line (P := P) (w := w) (base := base) T (c.t.d.def_ 9 (d := d_Memory_check_line) rfl) (fun ds mu P' F h => by obtain ⟨ns, a, rfl, _⟩ := h; rfl) pure_Memory_check_line
  have MT_check_line : MTa P w K mg base 2 "check_line" mt_check_line := fun X h1 h2 h3 h4 h5 hr => by
    subst h1 h2 h3 h4 h5
    refine ⟨fun cc sp h ck => ?_⟩
    exact match cc, h, ck with
    | 0, h, ck => by
      have e := Option.some.inj h
      subst e
      exact ⟨by decide, _, _, _, T.me_Memory_check_line, F_Memory_check_line, hr.mono (by decide)⟩
    | n + 1, h, ck => nomatch (show (none : Option DSp) = some _ from h)
  have F_Memory_check_word := ok_Memory_check_word (P := P) (w := w) (base := base) T MT_check_line (c.t.d.def_ 10 (d := d_Memory_check_word) rfl) (fun ds mu P' F h => by obtain ⟨ns, a, b, rfl, _⟩ := h; rfl) pure_Memory_check_word
  have F_Memory_zeros := ok_Memory_zeros (P := P) (w := w) (base := base) T (c.t.d.def_ 11 (d := d_Memory_zeros) rfl) (fun ds mu P' F h => by obtain ⟨ns, rfl, _⟩ := h; rfl) pure_Memory_zeros
  have F_Store___init__ := ok_Store___init__ (P := P) (w := w) (base := base) T (c.t.d.def_ 13 (d := d_Store___init__) rfl) ar_init pure_Store___init__
  have MT_check_word : MTa P w K mg base 3 "check_word" mt_check_word := fun X h1 h2 h3 h4 h5 hr => by
    subst h1 h2 h3 h4 h5
    refine ⟨fun cc sp h ck => ?_⟩
    exact match cc, h, ck with
    | 0, h, ck => by
      have e := Option.some.inj h
      subst e
      exact ⟨by decide, _, _, _, T.me_Memory_check_word, F_Memory_check_word, hr.mono (by decide)⟩
    | n + 1, h, ck => nomatch (show (none : Option DSp) = some _ from h)
  have F_Store_check := ok_Store_check (P := P) (w := w) (base := base) T MT_check_word (c.t.d.def_ 16 (d := d_Store_check) rfl) (fun ds mu P' F h => by obtain ⟨ns, a, b, c, rfl, _⟩ := h; rfl) pure_Store_check
  have F_Flush___init__ := ok_Flush___init__ (P := P) (w := w) (base := base) T (c.t.d.def_ 17 (d := d_Flush___init__) rfl) ar_init pure_Flush___init__
  have F_Flush_check := ok_Flush_check (P := P) (w := w) (base := base) T MT_check_line (c.t.d.def_ 20 (d := d_Flush_check) rfl) (fun ds mu P' F h => by obtain ⟨ns, a, rfl, _⟩ := h; rfl) pure_Flush_check
  have MT_check : MTa P w K mg base 4 "check" mt_check := fun X h1 h2 h3 h4 h5 hr => by
    subst h1 h2 h3 h4 h5
    refine ⟨fun cc sp h ck => ?_⟩
    exact match cc, h, ck with
    | 0, h, ck => nomatch (show (none : Option DSp) = some _ from h)
    | 1, h, ck => by
      have e := Option.some.inj h
      subst e
      exact ⟨by decide, _, _, _, T.me_Store_check, F_Store_check, hr.mono (by decide)⟩
    | 2, h, ck => by
      have e := Option.some.inj h
      subst e
      exact ⟨by decide, _, _, _, T.me_Flush_check, F_Flush_check, hr.mono (by decide)⟩
    | 3, h, ck => by
      have e := Option.some.inj h
      subst e
      exact ⟨by decide, _, _, _, T.me_Fence_check, (ok_Command_check T (c.t.d.def_ 55 (d := d_Command_check_of_Fence) rfl) (fun ds mu P' F h => by obtain ⟨x, y, rfl, _⟩ := h; rfl) pure_Command_check), hr.mono (by decide)⟩
    | n + 4, h, ck => nomatch (show (none : Option DSp) = some _ from h)
  have F_check_commands := ok_check_commands (P := P) (w := w) (base := base) T MT_check (c.t.d.def_ 22 (d := d_check_commands) rfl) (fun ds mu P' F h => by obtain ⟨ns, cs, rfl, _⟩ := h; rfl) pure_check_commands
  have F_Program___init__ := ok_Program___init__ (P := P) (w := w) (base := base) T F_check_commands (c.t.d.def_ 23 (d := d_Program___init__) rfl) (fun ds mu P' F h => by obtain ⟨j, x, ns, cs, rfl, _⟩ := h; rfl) pure_Program___init__
  have F_stores := ok_stores (P := P) (w := w) (base := base) T (c.t.d.def_ 26 (d := d_stores) rfl) (fun ds mu P' F h => by obtain ⟨ns, cs, rfl, _⟩ := h; rfl) pure_stores
  have F_Counter___init__ := ok_Counter___init__ (P := P) (w := w) (base := base) T (c.t.d.def_ 27 (d := d_Counter___init__) rfl) (fun ds mu P' F h => by obtain ⟨j, ns, rfl, _⟩ := h; rfl) pure_Counter___init__
  have F_Counter_do_command := ok_Counter_do_command (P := P) (w := w) (base := base) T (c.t.d.def_ 28 (d := d_Counter_do_command) rfl) (fun ds mu P' F h => by obtain ⟨B, j, ns, s, c, rfl, _⟩ := h; rfl) pure_Counter_do_command
  have F_Box___init__ := ok_Box___init__ (P := P) (w := w) (base := base) T (c.t.d.def_ 29 (d := d_Box___init__) rfl) (fun ds mu P' F h => by obtain ⟨j, t, x, y, lo, hi, rfl, _⟩ := h; rfl) pure_Box___init__
  have M_Box : MkOk P w K mg base 2 6 3 g_Box := mk_Box T.mk_Box T.ck_6 F_Box___init__
  have M_Counter : MkOk P w K mg base 2 5 1 g_Counter := mk_Counter T.mk_Counter T.ck_5 F_Counter___init__
  have MT_zeros : MTa P w K mg base 2 "zeros" mt_zeros := fun X h1 h2 h3 h4 h5 hr => by
    subst h1 h2 h3 h4 h5
    refine ⟨fun cc sp h ck => ?_⟩
    exact match cc, h, ck with
    | 0, h, ck => by
      have e := Option.some.inj h
      subst e
      exact ⟨by decide, _, _, _, T.me_Memory_zeros, F_Memory_zeros, hr.mono (by decide)⟩
    | n + 1, h, ck => nomatch (show (none : Option DSp) = some _ from h)
  have MT_do_command : MTa P w K mg base 2 "do_command" mt_do_command := fun X h1 h2 h3 h4 h5 hr => by
    subst h1 h2 h3 h4 h5
    refine ⟨fun cc sp h ck => ?_⟩
    exact match cc, h, ck with
    | 0, h, ck => nomatch (show (none : Option DSp) = some _ from h)
    | 1, h, ck => nomatch (show (none : Option DSp) = some _ from h)
    | 2, h, ck => nomatch (show (none : Option DSp) = some _ from h)
    | 3, h, ck => nomatch (show (none : Option DSp) = some _ from h)
    | 4, h, ck => nomatch (show (none : Option DSp) = some _ from h)
    | 5, h, ck => by
      have e := Option.some.inj h
      subst e
      exact ⟨by decide, _, _, _, T.me_Counter_do_command, F_Counter_do_command, hr.mono (by decide)⟩
    | n + 6, h, ck => nomatch (show (none : Option DSp) = some _ from h)
  have F_boxes_of := ok_boxes_of (P := P) (w := w) (base := base) T M_Box MT_zeros M_Counter MT_do_command (c.t.d.def_ 32 (d := d_boxes_of) rfl) (fun ds mu P' F h => by obtain ⟨ns, cs, rfl, _⟩ := h; rfl) pure_boxes_of
  have F_boxes := ok_boxes (P := P) (w := w) (base := base) T F_boxes_of (c.t.d.def_ 33 (d := d_boxes) rfl) (fun ds mu P' F h => by obtain ⟨ns, cs, rfl, _⟩ := h; rfl) pure_boxes
  have F_numbered := ok_numbered (P := P) (w := w) (base := base) T (c.t.d.def_ 34 (d := d_numbered) rfl) (fun ds mu P' F h => by obtain ⟨ns, cs, rfl, _⟩ := h; rfl) pure_numbered
  have MT_kind : MTa P w K mg base 2 "kind" mt_kind := fun X h1 h2 h3 h4 h5 hr => by
    subst h1 h2 h3 h4 h5
    refine ⟨fun cc sp h ck => ?_⟩
    exact match cc, h, ck with
    | 0, h, ck => by
      have e := Option.some.inj h
      subst e
      exact ⟨by decide, _, _, _, T.me_Memory_kind, F_Memory_kind, hr.mono (by decide)⟩
    | 1, h, ck => by
      have e := Option.some.inj h
      subst e
      exact ⟨by decide, _, _, _, T.me_Store_kind, F_Store_kind, hr.mono (by decide)⟩
    | 2, h, ck => by
      have e := Option.some.inj h
      subst e
      exact ⟨by decide, _, _, _, T.me_Flush_kind, F_Flush_kind, hr.mono (by decide)⟩
    | 3, h, ck => by
      have e := Option.some.inj h
      subst e
      exact ⟨by decide, _, _, _, T.me_Fence_kind, F_Fence_kind, hr.mono (by decide)⟩
    | 4, h, ck => by
      have e := Option.some.inj h
      subst e
      exact ⟨by decide, _, _, _, T.me_Program_kind, F_Program_kind, hr.mono (by decide)⟩
    | 5, h, ck => nomatch (show (none : Option DSp) = some _ from h)
    | 6, h, ck => by
      have e := Option.some.inj h
      subst e
      exact ⟨by decide, _, _, _, T.me_Box_kind, F_Box_kind, hr.mono (by decide)⟩
    | 7, h, ck => absurd ck T.ab_7
    | 8, h, ck => absurd ck T.ab_8
    | 9, h, ck => absurd ck T.ab_9
    | 10, h, ck => absurd ck T.ab_10
    | 11, h, ck => absurd ck T.ab_11
    | 12, h, ck => absurd ck T.ab_12
    | 13, h, ck => absurd ck T.ab_13
    | 14, h, ck => absurd ck T.ab_14
    | 15, h, ck => absurd ck T.ab_15
    | 16, h, ck => absurd ck T.ab_16
    | 17, h, ck => absurd ck T.ab_17
    | n + 18, h, ck => nomatch (show (none : Option DSp) = some _ from h)
  have MT_facts : MTa P w K mg base 2 "facts" mt_facts := fun X h1 h2 h3 h4 h5 hr => by
    subst h1 h2 h3 h4 h5
    refine ⟨fun cc sp h ck => ?_⟩
    exact match cc, h, ck with
    | 0, h, ck => by
      have e := Option.some.inj h
      subst e
      exact ⟨by decide, _, _, _, T.me_Memory_facts, F_Memory_facts, hr.mono (by decide)⟩
    | 1, h, ck => by
      have e := Option.some.inj h
      subst e
      exact ⟨by decide, _, _, _, T.me_Store_facts, F_Store_facts, hr.mono (by decide)⟩
    | 2, h, ck => by
      have e := Option.some.inj h
      subst e
      exact ⟨by decide, _, _, _, T.me_Flush_facts, F_Flush_facts, hr.mono (by decide)⟩
    | 3, h, ck => by
      have e := Option.some.inj h
      subst e
      exact ⟨by decide, _, _, _, T.me_Fence_facts, (ok_Thing_facts T (c.t.d.def_ 56 (d := d_Thing_facts_of_Fence) rfl) (ar_facts) pure_Thing_facts), hr.mono (by decide)⟩
    | 4, h, ck => by
      have e := Option.some.inj h
      subst e
      exact ⟨by decide, _, _, _, T.me_Program_facts, F_Program_facts, hr.mono (by decide)⟩
    | 5, h, ck => nomatch (show (none : Option DSp) = some _ from h)
    | 6, h, ck => by
      have e := Option.some.inj h
      subst e
      exact ⟨by decide, _, _, _, T.me_Box_facts, F_Box_facts, hr.mono (by decide)⟩
    | 7, h, ck => absurd ck T.ab_7
    | 8, h, ck => absurd ck T.ab_8
    | 9, h, ck => absurd ck T.ab_9
    | 10, h, ck => absurd ck T.ab_10
    | 11, h, ck => absurd ck T.ab_11
    | 12, h, ck => absurd ck T.ab_12
    | 13, h, ck => absurd ck T.ab_13
    | 14, h, ck => absurd ck T.ab_14
    | 15, h, ck => absurd ck T.ab_15
    | 16, h, ck => absurd ck T.ab_16
    | 17, h, ck => absurd ck T.ab_17
    | n + 18, h, ck => nomatch (show (none : Option DSp) = some _ from h)
  have E : ∀ n, EqAll P w K mg base n := eq_all T.eqF fun n E => ok_Thing___eq__ T MT_kind MT_facts E (c.t.d.def_ 5 (d := d_Thing___eq__) rfl) (fun ds mu P' F h => by
    obtain ⟨c, l, e, b, rfl, _⟩ := h
    rfl) (pure_Thing___eq__ n)
  have F_first_holds := ok_first_holds (P := P) (w := w) (base := base) T (E 6) (c.t.d.def_ 36 (d := d_first_holds) rfl) (fun ds mu P' F h => by obtain ⟨p, b, l, m, rfl, _⟩ := h; rfl) pure_first_holds
  have F_orders := ok_orders (P := P) (w := w) (base := base) T F_numbered F_stores F_boxes F_first_holds (E 6) (c.t.d.def_ 35 (d := d_orders) rfl) (fun ds mu P' F h => by obtain ⟨ns, cs, rfl, _⟩ := h; rfl) pure_orders
  have FC__law_cell := (c.t.d.def_ 37 (d := d__law_cell) rfl)
  have F__law_rng := ok__law_rng (P := P) (w := w) (base := base) T (c.t.d.def_ 38 (d := d__law_rng) rfl) (fun ds mu P' F h => by obtain ⟨x, rfl, _⟩ := h; rfl) pure__law_rng
  have F__law_draw := ok__law_draw (P := P) (w := w) (base := base) T (c.t.d.def_ 39 (d := d__law_draw) rfl) (fun ds mu P' F h => by obtain ⟨n, l, rfl, _⟩ := h; rfl) pure__law_draw
  have F__law_pick := ok__law_pick (P := P) (w := w) (base := base) T F__law_draw (c.t.d.def_ 40 (d := d__law_pick) rfl) (fun ds mu P' F h => by obtain ⟨n, l, rfl, _⟩ := h; rfl) pure__law_pick
  have F__law_random_sizes := ok__law_random_sizes (P := P) (w := w) (base := base) T F__law_draw (c.t.d.def_ 41 (d := d__law_random_sizes) rfl) (fun ds mu P' F h => by obtain ⟨n, l, m, rfl, _⟩ := h; rfl) pure__law_random_sizes
  have F__law_random_command := ok__law_random_command (P := P) (w := w) (base := base) T F__law_pick F__law_draw (E 6) (c.t.d.def_ 42 (d := d__law_random_command) rfl) (fun ds mu P' F h => by obtain ⟨n, l, rfl, _⟩ := h; rfl) pure__law_random_command
  have F__law_random_commands := ok__law_random_commands (P := P) (w := w) (base := base) T F__law_draw F__law_random_command (c.t.d.def_ 43 (d := d__law_random_commands) rfl) (fun ds mu P' F h => by obtain ⟨n, l, m, rfl, _⟩ := h; rfl) pure__law_random_commands
  have M_Store : MkOk P w K mg base 2 1 3 g_Store := mk_plain T.mk_Store T.ck_1 rfl F_Store___init__
  have M_Flush : MkOk P w K mg base 2 2 1 g_Flush := mk_plain T.mk_Flush T.ck_2 rfl F_Flush___init__
  have F__law_command := ok__law_command (P := P) (w := w) (base := base) T M_Store M_Flush (E 6) (c.t.d.def_ 44 (d := d__law_command) rfl) (fun ds mu P' F h => by obtain ⟨c, rfl, _⟩ := h; rfl) pure__law_command
  have M_Program : MkOk P w K mg base 6 4 2 g_Program := mk_Program T.mk_Program T.ck_4 F_Program___init__
  have M_Memory : MkOk P w K mg base 2 0 1 g_Memory := mk_Memory T.mk_Memory T.ck_0 F_Memory___init__
  have F__law_program := ok__law_program (P := P) (w := w) (base := base) T M_Program F__law_command M_Memory (c.t.d.def_ 45 (d := d__law_program) rfl) (fun ds mu P' F h => by obtain ⟨y, ns, cs, rfl, _⟩ := h; rfl) pure__law_program
  have F__law_bounds := ok__law_bounds (P := P) (w := w) (base := base) T (E 6) (c.t.d.def_ 46 (d := d__law_bounds) rfl) (fun ds mu P' F h => by obtain ⟨ns, cs, rfl, _⟩ := h; rfl) pure__law_bounds
  have F__law_latest := ok__law_latest (P := P) (w := w) (base := base) T (E 6) (c.t.d.def_ 48 (d := d__law_latest) rfl) (fun ds mu P' F h => by obtain ⟨ns, cs, im, rfl, _⟩ := h; rfl) pure__law_latest
  have F__law_images := ok__law_images (P := P) (w := w) (base := base) T F__law_bounds F__law_latest (c.t.d.def_ 47 (d := d__law_images) rfl) (fun ds mu P' F h => by obtain ⟨ns, cs, rfl, _⟩ := h; rfl) pure__law_images
  have F__law_places := ok__law_places (P := P) (w := w) (base := base) T (E 6) (c.t.d.def_ 49 (d := d__law_places) rfl) (fun ds mu P' F h => by obtain ⟨y, ns, cs, rfl, _⟩ := h; rfl) pure__law_places
  have F__law_order_holds := ok__law_order_holds (P := P) (w := w) (base := base) T (E 6) (c.t.d.def_ 50 (d := d__law_order_holds) rfl) (fun ds mu P' F h => by obtain ⟨y, ns, cs, i, j, p, q, rfl, _⟩ := h; rfl) pure__law_order_holds
  have F__law_by_rule := ok__law_by_rule (P := P) (w := w) (base := base) T F__law_places F__law_order_holds (E 6) (c.t.d.def_ 51 (d := d__law_by_rule) rfl) (fun ds mu P' F h => by obtain ⟨y, ns, cs, rfl, _⟩ := h; rfl) pure__law_by_rule
  have F__law_by_images := ok__law_by_images (P := P) (w := w) (base := base) T F__law_images F__law_places (E 6) (c.t.d.def_ 52 (d := d__law_by_images) rfl) (fun ds mu P' F h => by obtain ⟨ns, cs, rfl, _⟩ := h; rfl) pure__law_by_images
  have F__law_again_holds := ok__law_again_holds (P := P) (w := w) (base := base) T F__law_by_rule F__law_program F_orders (E 6) (c.t.d.def_ 53 (d := d__law_again_holds) rfl) (fun ds mu P' F h => by obtain ⟨y, ns, cs, rfl, _⟩ := h; rfl) pure__law_again_holds
  exact ok_law T FC__law_cell F__law_rng F__law_random_sizes F__law_random_commands F_orders F__law_program F__law_by_rule F__law_by_images F__law_again_holds F__law_draw F__law_random_command (E 6) Fd
end LW
open PySem PySem.W PySem.Calls PyProof.Rows
theorem PySem.Challenge.cw_lateststore_k34_all_orders_holds : PySem.Challenge.rw_lateststore_k34_all_orders.Holds := by
  w_on; o_law
  refine HandSHeadRun.head_any (r := OpenLaw.row PySem.Challenge.rw_lateststore_k34_all_orders) (q := view (OpenLaw.row PySem.Challenge.rw_lateststore_k34_all_orders).prog [47]) (H := LW.hk) (ob := LW.ob) (M := 6000) (loose := [("_wall" : PySem.Str), ("__name__" : PySem.Str), ("StoreError" : PySem.Str), ("BadCount" : PySem.Str), ("NoLine" : PySem.Str), ("NoWord" : PySem.Str), ("OtherMemory" : PySem.Str), ("MOST_LINES" : PySem.Str), ("MOST_WORDS" : PySem.Str), ("MOST_COMMANDS" : PySem.Str), ("Thing" : PySem.Str), ("Memory" : PySem.Str), ("Command" : PySem.Str), ("Store" : PySem.Str), ("Flush" : PySem.Str), ("Fence" : PySem.Str), ("check_commands" : PySem.Str), ("Program" : PySem.Str), ("stores" : PySem.Str), ("Counter" : PySem.Str), ("Box" : PySem.Str), ("boxes_of" : PySem.Str), ("boxes" : PySem.Str), ("numbered" : PySem.Str), ("orders" : PySem.Str), ("first_holds" : PySem.Str), ("_law_cell" : PySem.Str), ("_law_rng" : PySem.Str), ("_law_draw" : PySem.Str), ("_law_pick" : PySem.Str), ("_law_random_sizes" : PySem.Str), ("_law_random_command" : PySem.Str), ("_law_random_commands" : PySem.Str), ("_law_command" : PySem.Str), ("_law_program" : PySem.Str), ("_law_bounds" : PySem.Str), ("_law_images" : PySem.Str), ("_law_latest" : PySem.Str), ("_law_places" : PySem.Str), ("_law_order_holds" : PySem.Str), ("_law_by_rule" : PySem.Str), ("_law_by_images" : PySem.Str), ("_law_again_holds" : PySem.Str)]) (d := HandSHeadRun.topDef (OpenLaw.row PySem.Challenge.rw_lateststore_k34_all_orders).prog 47) (kwd := []) LW.ob_eq
    (by kernel_rfl) (fun s => by kernel_rfl) LW.hrun (by kernel_rfl) (by kernel_rfl) (by kernel_rfl) (by rfl) (by first | assumption | decide +kernel) (by decide +kernel) ⟨rfl, rfl, rfl, rfl, rfl, by decide +kernel⟩ ?hw ?hc
  case hw => w_witness2
  case hc =>
    refine LamX.walk_ofTsE (l := PySem.Challenge.rw_lateststore_k34_all_orders) (n := 63) (k := 20) (x := "_law_script") (CX := fun w => L2.CX (PySem.Challenge.rw_lateststore_k34_all_orders).prog w) rfl (by decide) (by kernel_rfl) ⟨rfl, by decide, by decide⟩ ?F (fun w H s e s' z => by
      obtain ⟨_, _, _, _, _, _, _, _, _, _, _, _, z⟩ := z
      exact z)
    intro w mg fa h Y G hmg0
    obtain ⟨K, KX, c⟩ := Y
    have hmg : mg ("law" : PySem.Str) = some (.ref fa) := by
      have e : (HandSHeadRun.topDef (OpenLaw.row PySem.Challenge.rw_lateststore_k34_all_orders).prog 47).name = ("law" : PySem.Str) := by kernel_rfl
      rw [← e]
      exact hmg0
    have hf : fa = He.ga K "law" := by
      have e := hmg.symm.trans (He.glo_ok KX G (c.t.d.fact 0 (f := .glo "law") rfl))
      exact Value.ref.inj (Option.some.inj e)
    obtain ⟨fd, hb, hF⟩ := LW.facts (P := (PySem.Challenge.rw_lateststore_k34_all_orders).prog) (w := w) KX G hmg hf c
    refine ⟨K, KX, fd, LW.csL K, LW.spLaw K, ?_, ?_, ?_, hb, ?_, fun base _ _ tb => hF base tb⟩
    · exact fun _ z => (List.not_mem_nil z).elim
    · exact fun _ z => (List.not_mem_nil z).elim
    · exact fun _ z => (List.not_mem_nil z).elim
    · exact fun H a ns hl _ _ hS => ⟨a, ns, rfl, hS, hl, fun _ => rfl⟩

