/- Closed facts about types and fields of the program. Conditions: none beyond each theorem's own. -/
import Derived.Test.YtphehedgnhmahaaGreatDoorProg
import Derived.Test.YtphehedgnhmahaaGreatDoorKnB
import Derived.KernelRfl
namespace Go.Eng
open Go Go.Proofs
noncomputable def E0 : Env := { P := Tryz.prog, G := 8, ext := lookF [], sum := fun f => bif Nat.beq f 18 then some (.bool true) else none }
theorem fo137_2 : foff E0.P 137 2 = some 2 := by kernel_rfl
theorem ag4 : isAggT E0.P 4 = some false := by kernel_rfl
theorem fo137_3 : foff E0.P 137 3 = some 3 := by kernel_rfl
theorem ag3 : isAggT E0.P 3 = some false := by kernel_rfl
theorem sz3 : sizeT E0.P 3 = some 1 := by kernel_rfl
theorem fo137_0 : foff E0.P 137 0 = some 0 := by kernel_rfl
theorem ag22 : isAggT E0.P 22 = some false := by kernel_rfl
theorem el22 : elemT E0.P 22 = some 3 := by kernel_rfl
theorem ez3 : elemZ E0.P 3 = some (1, [.int .i64 0]) := by kernel_rfl
theorem sb3 : smallBytes E0.P 3 = true := by kernel_rfl
theorem un22 : E0.P.underlying 22 = some (.slice 3) := by kernel_rfl
theorem sz22 : sizeT E0.P 22 = some 1 := by kernel_rfl
theorem un3 : E0.P.underlying 3 = some (.int .i64) := by kernel_rfl
theorem un5 : E0.P.underlying 5 = some (.int .u8) := by kernel_rfl
theorem sz5 : sizeT E0.P 5 = some 1 := by kernel_rfl
theorem ag5 : isAggT E0.P 5 = some false := by kernel_rfl
theorem un4 : E0.P.underlying 4 = some TypeDesc.bool := by kernel_rfl
theorem sz4 : sizeT E0.P 4 = some 1 := by kernel_rfl
theorem un68 : E0.P.underlying 68 = some (.slice 5) := by kernel_rfl
theorem fo137_4 : foff E0.P 137 4 = some 4 := by kernel_rfl
theorem ag68 : isAggT E0.P 68 = some false := by kernel_rfl
theorem fo164_0 : foff E0.P 164 0 = some 0 := by kernel_rfl
theorem fo164_1 : foff E0.P 164 1 = some 1 := by kernel_rfl
theorem un47 : E0.P.underlying 47 = some (.slice 164) := by kernel_rfl
theorem sz164 : sizeT E0.P 164 = some 2 := by kernel_rfl
theorem ag47 : isAggT E0.P 47 = some false := by kernel_rfl
theorem fo119_0 : foff E0.P 119 0 = some 0 := by kernel_rfl
theorem fo119_1 : foff E0.P 119 1 = some 1 := by kernel_rfl
theorem fo119_2 : foff E0.P 119 2 = some 2 := by kernel_rfl
theorem fo119_3 : foff E0.P 119 3 = some 3 := by kernel_rfl
theorem fo137_1 : foff E0.P 137 1 = some 1 := by kernel_rfl
theorem ag135 : isAggT E0.P 135 = some false := by kernel_rfl
theorem un135 : E0.P.underlying 135 = some (.slice 9) := by kernel_rfl
theorem sz9 : sizeT E0.P 9 = some 1 := by kernel_rfl
theorem ag9 : isAggT E0.P 9 = some false := by kernel_rfl
theorem un9 : E0.P.underlying 9 = some TypeDesc.string := by kernel_rfl
theorem un32 : E0.P.underlying 32 = some (.slice 42) := by kernel_rfl
theorem el138 : elemT E0.P 138 = some 137 := by kernel_rfl
theorem ez137 : elemZ E0.P 137 = some (5, [.slice none 0 0, .slice none 0 0, .bool false, .int .i64 0, .bool false]) := by kernel_rfl
theorem sb137 : smallBytes E0.P 137 = true := by kernel_rfl
theorem sz42 : sizeT E0.P 42 = some 1 := by kernel_rfl
theorem ag42 : isAggT E0.P 42 = some false := by kernel_rfl
theorem un138 : E0.P.underlying 138 = some (.slice 137) := by kernel_rfl
theorem sz137 : sizeT E0.P 137 = some 5 := by kernel_rfl
theorem ag137 : isAggT E0.P 137 = some true := by kernel_rfl
theorem el68 : elemT E0.P 68 = some 5 := by kernel_rfl
theorem ez5 : elemZ E0.P 5 = some (1, [.int .u8 0]) := by kernel_rfl
theorem sb5 : smallBytes E0.P 5 = true := by kernel_rfl
theorem el47 : elemT E0.P 47 = some 164 := by kernel_rfl
theorem ez164 : elemZ E0.P 164 = some (2, [.int .i64 0, .int .i64 0]) := by kernel_rfl
theorem sb164 : smallBytes E0.P 164 = true := by kernel_rfl
theorem zt119 : zeroT E0.P 119 = some [.int .i64 0, .slice none 0 0, .int .i64 0, .slice none 0 0] := by kernel_rfl
theorem sz68 : sizeT E0.P 68 = some 1 := by kernel_rfl
theorem sz47 : sizeT E0.P 47 = some 1 := by kernel_rfl
theorem ag119 : isAggT E0.P 119 = some true := by kernel_rfl
theorem sz119 : sizeT E0.P 119 = some 4 := by kernel_rfl
theorem zt137 : zeroT E0.P 137 = some [.slice none 0 0, .slice none 0 0, .bool false, .int .i64 0, .bool false] := by kernel_rfl
theorem un133 : E0.P.underlying 133 = some (.slice 125) := by kernel_rfl
theorem sz125 : sizeT E0.P 125 = some 1 := by kernel_rfl
theorem ag125 : isAggT E0.P 125 = some false := by kernel_rfl
theorem ag164 : isAggT E0.P 164 = some true := by kernel_rfl
theorem zt164 : zeroT E0.P 164 = some [.int .i64 0, .int .i64 0] := by kernel_rfl
theorem un195 : E0.P.underlying 195 = some (.array 2 3) := by kernel_rfl
theorem zt196 : zeroT E0.P 196 = some [.int .i64 0, .int .i64 0, .int .i64 0] := by kernel_rfl
theorem sz196 : sizeT E0.P 196 = some 3 := by kernel_rfl
theorem un196 : E0.P.underlying 196 = some (.array 3 3) := by kernel_rfl
theorem zt68 : zeroT E0.P 68 = some [.slice none 0 0] := by kernel_rfl
theorem el32 : elemT E0.P 32 = some 42 := by kernel_rfl
theorem ez42 : elemZ E0.P 42 = some (1, [.nilFunc]) := by kernel_rfl
theorem zt47 : zeroT E0.P 47 = some [.slice none 0 0] := by kernel_rfl
theorem el133 : elemT E0.P 133 = some 125 := by kernel_rfl
theorem ez125 : elemZ E0.P 125 = some (1, [.nilFunc]) := by kernel_rfl
theorem fo24_0 : foff E0.P 24 0 = some 0 := by kernel_rfl
theorem fo24_1 : foff E0.P 24 1 = some 1 := by kernel_rfl
theorem fo24_2 : foff E0.P 24 2 = some 2 := by kernel_rfl
theorem fo85_0 : foff E0.P 85 0 = some 0 := by kernel_rfl
theorem fo85_1 : foff E0.P 85 1 = some 3 := by kernel_rfl
theorem fo85_2 : foff E0.P 85 2 = some 4 := by kernel_rfl
theorem fo85_3 : foff E0.P 85 3 = some 5 := by kernel_rfl
theorem zt24 : zeroT E0.P 24 = some [.int .i64 0, .slice none 0 0, .slice none 0 0] := by kernel_rfl
theorem ag24 : isAggT E0.P 24 = some true := by kernel_rfl
theorem sz24 : sizeT E0.P 24 = some 3 := by kernel_rfl
theorem zt85 : zeroT E0.P 85 = some [.int .i64 0, .slice none 0 0, .slice none 0 0, .int .i64 0, .int .i64 0, .int .i64 0] := by kernel_rfl
theorem ag85 : isAggT E0.P 85 = some true := by kernel_rfl
theorem sz85 : sizeT E0.P 85 = some 6 := by kernel_rfl
theorem un99 : E0.P.underlying 99 = some (.slice 91) := by kernel_rfl
theorem sz91 : sizeT E0.P 91 = some 1 := by kernel_rfl
theorem ag91 : isAggT E0.P 91 = some false := by kernel_rfl
theorem el50 : elemT E0.P 50 = some 4 := by kernel_rfl
theorem ez4 : elemZ E0.P 4 = some (1, [.bool false]) := by kernel_rfl
theorem sb4 : smallBytes E0.P 4 = true := by kernel_rfl
theorem un50 : E0.P.underlying 50 = some (.slice 4) := by kernel_rfl
theorem un172 : E0.P.underlying 172 = some (.int .u64) := by kernel_rfl
theorem el99 : elemT E0.P 99 = some 91 := by kernel_rfl
theorem ez91 : elemZ E0.P 91 = some (1, [.nilFunc]) := by kernel_rfl
theorem fo102_0 : foff E0.P 102 0 = some 0 := by kernel_rfl
theorem fo102_1 : foff E0.P 102 1 = some 1 := by kernel_rfl
theorem fo102_2 : foff E0.P 102 2 = some 2 := by kernel_rfl
theorem zt102 : zeroT E0.P 102 = some [.slice none 0 0, .int .i64 0, .int .i64 0, .slice none 0 0, .slice none 0 0] := by kernel_rfl
theorem ag102 : isAggT E0.P 102 = some true := by kernel_rfl
theorem sz102 : sizeT E0.P 102 = some 5 := by kernel_rfl
theorem un116 : E0.P.underlying 116 = some (.slice 108) := by kernel_rfl
theorem sz108 : sizeT E0.P 108 = some 1 := by kernel_rfl
theorem ag108 : isAggT E0.P 108 = some false := by kernel_rfl
theorem zt189 : zeroT E0.P 189 = some (zerosFor [.bool false] 4001) := by kernel_rfl
theorem un189 : E0.P.underlying 189 = some (.array 4001 4) := by kernel_rfl
theorem zt22 : zeroT E0.P 22 = some [.slice none 0 0] := by kernel_rfl
theorem el116 : elemT E0.P 116 = some 108 := by kernel_rfl
theorem ez108 : elemZ E0.P 108 = some (1, [.nilFunc]) := by kernel_rfl
end Go.Eng
