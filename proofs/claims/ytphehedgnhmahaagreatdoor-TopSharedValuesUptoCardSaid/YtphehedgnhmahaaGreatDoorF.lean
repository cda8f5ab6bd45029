/- Closed facts about types and fields of the program. Conditions: none beyond each theorem's own. -/
import Derived.Test.YtphehedgnhmahaaGreatDoorProg
import Derived.Test.YtphehedgnhmahaaGreatDoorKnB
import Derived.Test.YtphehedgnhmahaaGreatDoorMem
import Derived.KernelRfl
namespace Go.Eng
open Go Go.Proofs
noncomputable def E0 : Env := { P := Tryz.prog, G := 8, ext := lookF [], sum := fun f => bif Nat.beq f 18 then some (.bool true) else none }
theorem fo137_2 : foff E0.P 137 2 = some 2 := by kernel_rfl
theorem ag4 : isAggT E0.P 4 = some false := by kernel_rfl
theorem fo137_3 : foff E0.P 137 3 = some 3 := by kernel_rfl
theorem ag3 : isAggT E0.P 3 = some false := by kernel_rfl
theorem sz3 : sizeT E0.P 3 = some 1 := by kernel_rfl
theorem fo137_0 : foff E0.P 137 0 = some 0 := by kernel_rfl
theorem ag22 : isAggT E0.P 22 = some false := by kernel_rfl
theorem el22 : elemT E0.P 22 = some 3 := by kernel_rfl
theorem ez3 : elemZ E0.P 3 = some (1, [.int .i64 0]) := by kernel_rfl
theorem sb3 : smallBytes E0.P 3 = true := by kernel_rfl
theorem un22 : E0.P.underlying 22 = some (.slice 3) := by kernel_rfl
theorem sz22 : sizeT E0.P 22 = some 1 := by kernel_rfl
theorem un3 : E0.P.underlying 3 = some (.int .i64) := by kernel_rfl
theorem un5 : E0.P.underlying 5 = some (.int .u8) := by kernel_rfl
theorem sz5 : sizeT E0.P 5 = some 1 := by kernel_rfl
theorem ag5 : isAggT E0.P 5 = some false := by kernel_rfl
theorem un4 : E0.P.underlying 4 = some TypeDesc.bool := by kernel_rfl
theorem sz4 : sizeT E0.P 4 = some 1 := by kernel_rfl
theorem un68 : E0.P.underlying 68 = some (.slice 5) := by kernel_rfl
theorem fo137_4 : foff E0.P 137 4 = some 4 := by kernel_rfl
theorem ag68 : isAggT E0.P 68 = some false := by kernel_rfl
theorem fo164_0 : foff E0.P 164 0 = some 0 := by kernel_rfl
theorem fo164_1 : foff E0.P 164 1 = some 1 := by kernel_rfl
theorem un47 : E0.P.underlying 47 = some (.slice 164) := by kernel_rfl
theorem sz164 : sizeT E0.P 164 = some 2 := by kernel_rfl
theorem ag47 : isAggT E0.P 47 = some false := by kernel_rfl
theorem fo119_0 : foff E0.P 119 0 = some 0 := by kernel_rfl
theorem fo119_1 : foff E0.P 119 1 = some 1 := by kernel_rfl
theorem fo119_2 : foff E0.P 119 2 = some 2 := by kernel_rfl
theorem fo119_3 : foff E0.P 119 3 = some 3 := by kernel_rfl
theorem fo137_1 : foff E0.P 137 1 = some 1 := by kernel_rfl
theorem ag135 : isAggT E0.P 135 = some false := by kernel_rfl
theorem un135 : E0.P.underlying 135 = some (.slice 9) := by kernel_rfl
theorem sz9 : sizeT E0.P 9 = some 1 := by kernel_rfl
theorem ag9 : isAggT E0.P 9 = some false := by kernel_rfl
theorem un9 : E0.P.underlying 9 = some TypeDesc.string := by kernel_rfl
theorem un32 : E0.P.underlying 32 = some (.slice 42) := by kernel_rfl
theorem el138 : elemT E0.P 138 = some 137 := by kernel_rfl
theorem ez137 : elemZ E0.P 137 = some (5, [.slice none 0 0, .slice none 0 0, .bool false, .int .i64 0, .bool false]) := by kernel_rfl
theorem sb137 : smallBytes E0.P 137 = true := by kernel_rfl
theorem sz42 : sizeT E0.P 42 = some 1 := by kernel_rfl
theorem ag42 : isAggT E0.P 42 = some false := by kernel_rfl
theorem un138 : E0.P.underlying 138 = some (.slice 137) := by kernel_rfl
theorem sz137 : sizeT E0.P 137 = some 5 := by kernel_rfl
theorem ag137 : isAggT E0.P 137 = some true := by kernel_rfl
theorem el68 : elemT E0.P 68 = some 5 := by kernel_rfl
theorem ez5 : elemZ E0.P 5 = some (1, [.int .u8 0]) := by kernel_rfl
theorem sb5 : smallBytes E0.P 5 = true := by kernel_rfl
theorem el47 : elemT E0.P 47 = some 164 := by kernel_rfl
theorem ez164 : elemZ E0.P 164 = some (2, [.int .i64 0, .int .i64 0]) := by kernel_rfl
theorem sb164 : smallBytes E0.P 164 = true := by kernel_rfl
theorem zt119 : zeroT E0.P 119 = some [.int .i64 0, .slice none 0 0, .int .i64 0, .slice none 0 0] := by kernel_rfl
theorem sz68 : sizeT E0.P 68 = some 1 := by kernel_rfl
theorem sz47 : sizeT E0.P 47 = some 1 := by kernel_rfl
theorem ag119 : isAggT E0.P 119 = some true := by kernel_rfl
theorem sz119 : sizeT E0.P 119 = some 4 := by kernel_rfl
theorem zt137 : zeroT E0.P 137 = some [.slice none 0 0, .slice none 0 0, .bool false, .int .i64 0, .bool false] := by kernel_rfl
theorem un133 : E0.P.underlying 133 = some (.slice 125) := by kernel_rfl
theorem sz125 : sizeT E0.P 125 = some 1 := by kernel_rfl
theorem ag125 : isAggT E0.P 125 = some false := by kernel_rfl
theorem ag164 : isAggT E0.P 164 = some true := by kernel_rfl
theorem zt164 : zeroT E0.P 164 = some [.int .i64 0, .int .i64 0] := by kernel_rfl
theorem un195 : E0.P.underlying 195 = some (.array 2 3) := by kernel_rfl
theorem zt196 : zeroT E0.P 196 = some [.int .i64 0, .int .i64 0, .int .i64 0] := by kernel_rfl
theorem sz196 : sizeT E0.P 196 = some 3 := by kernel_rfl
theorem un196 : E0.P.underlying 196 = some (.array 3 3) := by kernel_rfl
theorem zt68 : zeroT E0.P 68 = some [.slice none 0 0] := by kernel_rfl
theorem el32 : elemT E0.P 32 = some 42 := by kernel_rfl
theorem ez42 : elemZ E0.P 42 = some (1, [.nilFunc]) := by kernel_rfl
theorem zt47 : zeroT E0.P 47 = some [.slice none 0 0] := by kernel_rfl
theorem el133 : elemT E0.P 133 = some 125 := by kernel_rfl
theorem ez125 : elemZ E0.P 125 = some (1, [.nilFunc]) := by kernel_rfl
theorem fo169_0 : foff E0.P 169 0 = some 0 := by kernel_rfl
theorem fo169_1 : foff E0.P 169 1 = some 1 := by kernel_rfl
theorem un46 : E0.P.underlying 46 = some (.slice 169) := by kernel_rfl
theorem sz169 : sizeT E0.P 169 = some 2 := by kernel_rfl
theorem ag46 : isAggT E0.P 46 = some false := by kernel_rfl
theorem fo49_0 : foff E0.P 49 0 = some 0 := by kernel_rfl
theorem fo49_1 : foff E0.P 49 1 = some 1 := by kernel_rfl
theorem fo49_2 : foff E0.P 49 2 = some 2 := by kernel_rfl
theorem fo49_3 : foff E0.P 49 3 = some 3 := by kernel_rfl
theorem fo49_4 : foff E0.P 49 4 = some 4 := by kernel_rfl
theorem fo70_0 : foff E0.P 70 0 = some 0 := by kernel_rfl
theorem fo70_1 : foff E0.P 70 1 = some 1 := by kernel_rfl
theorem fo70_2 : foff E0.P 70 2 = some 2 := by kernel_rfl
theorem fo70_3 : foff E0.P 70 3 = some 7 := by kernel_rfl
theorem fo70_4 : foff E0.P 70 4 = some 8 := by kernel_rfl
theorem fo70_5 : foff E0.P 70 5 = some 9 := by kernel_rfl
theorem fo70_6 : foff E0.P 70 6 = some 10 := by kernel_rfl
theorem el46 : elemT E0.P 46 = some 169 := by kernel_rfl
theorem ez169 : elemZ E0.P 169 = some (2, [.int .i64 0, .int .i64 0]) := by kernel_rfl
theorem sb169 : smallBytes E0.P 169 = true := by kernel_rfl
theorem zt49 : zeroT E0.P 49 = some [.int .i64 0, .slice none 0 0, .slice none 0 0, .slice none 0 0, .slice none 0 0] := by kernel_rfl
theorem sz46 : sizeT E0.P 46 = some 1 := by kernel_rfl
theorem ag49 : isAggT E0.P 49 = some true := by kernel_rfl
theorem sz49 : sizeT E0.P 49 = some 5 := by kernel_rfl
theorem zt70 : zeroT E0.P 70 = some [.int .u8 0, .int .u8 0, .int .i64 0, .slice none 0 0, .slice none 0 0, .slice none 0 0, .slice none 0 0, .slice none 0 0, .slice none 0 0, .slice none 0 0, .slice none 0 0] := by kernel_rfl
theorem ag70 : isAggT E0.P 70 = some true := by kernel_rfl
theorem sz70 : sizeT E0.P 70 = some 11 := by kernel_rfl
theorem un82 : E0.P.underlying 82 = some (.slice 79) := by kernel_rfl
theorem sz79 : sizeT E0.P 79 = some 1 := by kernel_rfl
theorem ag79 : isAggT E0.P 79 = some false := by kernel_rfl
theorem el82 : elemT E0.P 82 = some 79 := by kernel_rfl
theorem ez79 : elemZ E0.P 79 = some (1, [.nilFunc]) := by kernel_rfl
theorem un50 : E0.P.underlying 50 = some (.slice 4) := by kernel_rfl
theorem ag50 : isAggT E0.P 50 = some false := by kernel_rfl
theorem fo52_0 : foff E0.P 52 0 = some 0 := by kernel_rfl
theorem fo52_1 : foff E0.P 52 1 = some 5 := by kernel_rfl
theorem fo52_2 : foff E0.P 52 2 = some 6 := by kernel_rfl
theorem fo52_3 : foff E0.P 52 3 = some 7 := by kernel_rfl
theorem fo52_4 : foff E0.P 52 4 = some 8 := by kernel_rfl
theorem el50 : elemT E0.P 50 = some 4 := by kernel_rfl
theorem ez4 : elemZ E0.P 4 = some (1, [.bool false]) := by kernel_rfl
theorem sb4 : smallBytes E0.P 4 = true := by kernel_rfl
theorem zt52 : zeroT E0.P 52 = some [.int .i64 0, .slice none 0 0, .slice none 0 0, .slice none 0 0, .slice none 0 0, .slice none 0 0, .slice none 0 0, .slice none 0 0, .int .i64 0] := by kernel_rfl
theorem sz50 : sizeT E0.P 50 = some 1 := by kernel_rfl
theorem ag52 : isAggT E0.P 52 = some true := by kernel_rfl
theorem sz52 : sizeT E0.P 52 = some 9 := by kernel_rfl
theorem un66 : E0.P.underlying 66 = some (.slice 61) := by kernel_rfl
theorem sz61 : sizeT E0.P 61 = some 1 := by kernel_rfl
theorem ag61 : isAggT E0.P 61 = some false := by kernel_rfl
theorem el66 : elemT E0.P 66 = some 61 := by kernel_rfl
theorem ez61 : elemZ E0.P 61 = some (1, [.nilFunc]) := by kernel_rfl
theorem zt230 : zeroT E0.P 230 = some [.int .i64 0, .int .i64 0, .int .i64 0, .int .i64 0] := by kernel_rfl
theorem bl230_0i64_1i64_2i64_3i64 (v0 : Int) (v1 : Int) (v2 : Int) (v3 : Int) : buildA E0.P 230 [(0, .int .i64 v0), (1, .int .i64 v1), (2, .int .i64 v2), (3, .int .i64 v3)] = some (.agg #[.int .i64 v0, .int .i64 v1, .int .i64 v2, .int .i64 v3]) := by kernel_rfl
theorem sz230 : sizeT E0.P 230 = some 4 := by kernel_rfl
theorem ag230 : isAggT E0.P 230 = some true := by kernel_rfl
theorem ag169 : isAggT E0.P 169 = some true := by kernel_rfl
theorem un230 : E0.P.underlying 230 = some (.array 4 3) := by kernel_rfl
theorem ag186 : isAggT E0.P 186 = some false := by kernel_rfl
theorem zt186 : zeroT E0.P 186 = some [.nilFunc] := by kernel_rfl
theorem sz186 : sizeT E0.P 186 = some 1 := by kernel_rfl
theorem un237 : E0.P.underlying 237 = some (.slice 68) := by kernel_rfl
theorem el237 : elemT E0.P 237 = some 68 := by kernel_rfl
theorem ez68 : elemZ E0.P 68 = some (1, [.slice none 0 0]) := by kernel_rfl
theorem zt169 : zeroT E0.P 169 = some [.int .i64 0, .int .i64 0] := by kernel_rfl
theorem zt50 : zeroT E0.P 50 = some [.slice none 0 0] := by kernel_rfl
end Go.Eng
