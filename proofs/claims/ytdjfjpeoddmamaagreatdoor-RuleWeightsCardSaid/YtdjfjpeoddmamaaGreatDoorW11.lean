/- Part W11 of the proof. -/
import Derived.Test.YtdjfjpeoddmamaaGreatDoorW10
import Derived.Test.YtdjfjpeoddmamaaGreatDoorChecked
import Derived.KernelRfl
set_option linter.all false
namespace Go.Proofs.YtdjfjpeoddmamaaGreatDoor
open Go.Abs
set_option maxRecDepth 20000
theorem hmix:Tryz.prog.follows .mixedOrders=true:=by kernel_rfl
instance tz_2:TZ Tryz.prog 2 [Value.int IntKind.i64 0]:=⟨by kernel_rfl⟩
instance ts_2:TS Tryz.prog 2 1:=⟨by kernel_rfl⟩
instance tg_2:TG Tryz.prog 2 false:=⟨by kernel_rfl⟩
instance tb_2:TB Tryz.prog 2 8:=⟨by kernel_rfl⟩
instance tu_2:TU Tryz.prog 2 (.int .i64):=⟨by kernel_rfl⟩
instance tz_3:TZ Tryz.prog 3 [Value.int IntKind.i64 0]:=⟨by kernel_rfl⟩
instance ts_3:TS Tryz.prog 3 1:=⟨by kernel_rfl⟩
instance tg_3:TG Tryz.prog 3 false:=⟨by kernel_rfl⟩
instance tb_3:TB Tryz.prog 3 8:=⟨by kernel_rfl⟩
instance tu_3:TU Tryz.prog 3 (.int .i64):=⟨by kernel_rfl⟩
instance tz_4:TZ Tryz.prog 4 [Value.bool false]:=⟨by kernel_rfl⟩
instance ts_4:TS Tryz.prog 4 1:=⟨by kernel_rfl⟩
instance tg_4:TG Tryz.prog 4 false:=⟨by kernel_rfl⟩
instance tb_4:TB Tryz.prog 4 1:=⟨by kernel_rfl⟩
instance tu_4:TU Tryz.prog 4 .bool:=⟨by kernel_rfl⟩
instance tz_5:TZ Tryz.prog 5 [Value.int IntKind.u8 0]:=⟨by kernel_rfl⟩
instance ts_5:TS Tryz.prog 5 1:=⟨by kernel_rfl⟩
instance tg_5:TG Tryz.prog 5 false:=⟨by kernel_rfl⟩
instance tb_5:TB Tryz.prog 5 1:=⟨by kernel_rfl⟩
instance tu_5:TU Tryz.prog 5 (.int .u8):=⟨by kernel_rfl⟩
instance ts_9:TS Tryz.prog 9 1:=⟨by kernel_rfl⟩
instance tg_9:TG Tryz.prog 9 false:=⟨by kernel_rfl⟩
instance tb_9:TB Tryz.prog 9 16:=⟨by kernel_rfl⟩
instance tu_9:TU Tryz.prog 9 .string:=⟨by kernel_rfl⟩
instance tz_23:TZ Tryz.prog 23 [Value.int IntKind.i64 0,Value.int IntKind.i64 0,Value.int IntKind.u8 0]:=⟨by kernel_rfl⟩
instance ts_23:TS Tryz.prog 23 3:=⟨by kernel_rfl⟩
instance tg_23:TG Tryz.prog 23 true:=⟨by kernel_rfl⟩
instance tb_23:TB Tryz.prog 23 24:=⟨by kernel_rfl⟩
instance tp_23:TP Tryz.prog 23 [(0,1),(1,1),(2,1)]:=⟨by kernel_rfl⟩
instance tf_23_0:TF Tryz.prog 23 0 (0,1):=⟨by kernel_rfl⟩
instance tga_23_0:TA Tryz.prog 23 0 false:=⟨by kernel_rfl⟩
instance tf_23_1:TF Tryz.prog 23 1 (1,1):=⟨by kernel_rfl⟩
instance tga_23_1:TA Tryz.prog 23 1 false:=⟨by kernel_rfl⟩
instance tf_23_2:TF Tryz.prog 23 2 (2,1):=⟨by kernel_rfl⟩
instance tga_23_2:TA Tryz.prog 23 2 false:=⟨by kernel_rfl⟩
instance tz_25:TZ Tryz.prog 25 [Value.int IntKind.i64 0,Value.int IntKind.i64 0,Value.int IntKind.u8 0,Value.int IntKind.i64 0,Value.int IntKind.i64 0,Value.int IntKind.u8 0]:=⟨by kernel_rfl⟩
instance ts_25:TS Tryz.prog 25 6:=⟨by kernel_rfl⟩
instance tg_25:TG Tryz.prog 25 true:=⟨by kernel_rfl⟩
instance tb_25:TB Tryz.prog 25 48:=⟨by kernel_rfl⟩
instance tp_25:TP Tryz.prog 25 [(0,3),(3,3)]:=⟨by kernel_rfl⟩
instance tf_25_0:TF Tryz.prog 25 0 (0,3):=⟨by kernel_rfl⟩
instance tga_25_0:TA Tryz.prog 25 0 true:=⟨by kernel_rfl⟩
instance tf_25_1:TF Tryz.prog 25 1 (3,3):=⟨by kernel_rfl⟩
instance tga_25_1:TA Tryz.prog 25 1 true:=⟨by kernel_rfl⟩
instance tz_26:TZ Tryz.prog 26 [Value.slice none 0 0]:=⟨by kernel_rfl⟩
instance ts_26:TS Tryz.prog 26 1:=⟨by kernel_rfl⟩
instance tg_26:TG Tryz.prog 26 false:=⟨by kernel_rfl⟩
instance tb_26:TB Tryz.prog 26 24:=⟨by kernel_rfl⟩
instance te_26:TE Tryz.prog 26 (23,3):=⟨by kernel_rfl⟩
instance tz_29:TZ Tryz.prog 29 [Value.slice none 0 0]:=⟨by kernel_rfl⟩
instance ts_29:TS Tryz.prog 29 1:=⟨by kernel_rfl⟩
instance tg_29:TG Tryz.prog 29 false:=⟨by kernel_rfl⟩
instance tb_29:TB Tryz.prog 29 24:=⟨by kernel_rfl⟩
instance te_29:TE Tryz.prog 29 (236,1):=⟨by kernel_rfl⟩
instance tz_31:TZ Tryz.prog 31 [Value.slice none 0 0]:=⟨by kernel_rfl⟩
instance ts_31:TS Tryz.prog 31 1:=⟨by kernel_rfl⟩
instance tg_31:TG Tryz.prog 31 true:=⟨by kernel_rfl⟩
instance tb_31:TB Tryz.prog 31 24:=⟨by kernel_rfl⟩
instance tp_31:TP Tryz.prog 31 [(0,1)]:=⟨by kernel_rfl⟩
instance tf_31_0:TF Tryz.prog 31 0 (0,1):=⟨by kernel_rfl⟩
instance tga_31_0:TA Tryz.prog 31 0 false:=⟨by kernel_rfl⟩
instance tz_33:TZ Tryz.prog 33 [Value.slice none 0 0,Value.bool false]:=⟨by kernel_rfl⟩
instance ts_33:TS Tryz.prog 33 2:=⟨by kernel_rfl⟩
instance tg_33:TG Tryz.prog 33 true:=⟨by kernel_rfl⟩
instance tb_33:TB Tryz.prog 33 32:=⟨by kernel_rfl⟩
instance tp_33:TP Tryz.prog 33 [(0,1),(1,1)]:=⟨by kernel_rfl⟩
instance tf_33_0:TF Tryz.prog 33 0 (0,1):=⟨by kernel_rfl⟩
instance tga_33_0:TA Tryz.prog 33 0 true:=⟨by kernel_rfl⟩
instance tf_33_1:TF Tryz.prog 33 1 (1,1):=⟨by kernel_rfl⟩
instance tga_33_1:TA Tryz.prog 33 1 false:=⟨by kernel_rfl⟩
instance tz_35:TZ Tryz.prog 35 [Value.slice none 0 0,Value.bool false,Value.slice none 0 0]:=⟨by kernel_rfl⟩
instance ts_35:TS Tryz.prog 35 3:=⟨by kernel_rfl⟩
instance tg_35:TG Tryz.prog 35 true:=⟨by kernel_rfl⟩
instance tb_35:TB Tryz.prog 35 56:=⟨by kernel_rfl⟩
instance tp_35:TP Tryz.prog 35 [(0,2),(2,1)]:=⟨by kernel_rfl⟩
instance tf_35_0:TF Tryz.prog 35 0 (0,2):=⟨by kernel_rfl⟩
instance tga_35_0:TA Tryz.prog 35 0 true:=⟨by kernel_rfl⟩
instance tf_35_1:TF Tryz.prog 35 1 (2,1):=⟨by kernel_rfl⟩
instance tga_35_1:TA Tryz.prog 35 1 true:=⟨by kernel_rfl⟩
instance tz_37:TZ Tryz.prog 37 [Value.slice none 0 0,Value.bool false,Value.slice none 0 0,Value.slice none 0 0,Value.bool false,Value.slice none 0 0]:=⟨by kernel_rfl⟩
instance ts_37:TS Tryz.prog 37 6:=⟨by kernel_rfl⟩
instance tg_37:TG Tryz.prog 37 true:=⟨by kernel_rfl⟩
instance tb_37:TB Tryz.prog 37 112:=⟨by kernel_rfl⟩
instance tp_37:TP Tryz.prog 37 [(0,3),(3,3)]:=⟨by kernel_rfl⟩
instance tf_37_0:TF Tryz.prog 37 0 (0,3):=⟨by kernel_rfl⟩
instance tga_37_0:TA Tryz.prog 37 0 true:=⟨by kernel_rfl⟩
instance tf_37_1:TF Tryz.prog 37 1 (3,3):=⟨by kernel_rfl⟩
instance tga_37_1:TA Tryz.prog 37 1 true:=⟨by kernel_rfl⟩
instance tz_38:TZ Tryz.prog 38 [Value.slice none 0 0]:=⟨by kernel_rfl⟩
instance ts_38:TS Tryz.prog 38 1:=⟨by kernel_rfl⟩
instance tg_38:TG Tryz.prog 38 false:=⟨by kernel_rfl⟩
instance tb_38:TB Tryz.prog 38 24:=⟨by kernel_rfl⟩
instance te_38:TE Tryz.prog 38 (3,1):=⟨by kernel_rfl⟩
instance tz_40:TZ Tryz.prog 40 [Value.int IntKind.i64 0,Value.slice none 0 0]:=⟨by kernel_rfl⟩
instance ts_40:TS Tryz.prog 40 2:=⟨by kernel_rfl⟩
instance tg_40:TG Tryz.prog 40 true:=⟨by kernel_rfl⟩
instance tb_40:TB Tryz.prog 40 32:=⟨by kernel_rfl⟩
instance tp_40:TP Tryz.prog 40 [(0,1),(1,1)]:=⟨by kernel_rfl⟩
instance tf_40_0:TF Tryz.prog 40 0 (0,1):=⟨by kernel_rfl⟩
instance tga_40_0:TA Tryz.prog 40 0 false:=⟨by kernel_rfl⟩
instance tf_40_1:TF Tryz.prog 40 1 (1,1):=⟨by kernel_rfl⟩
instance tga_40_1:TA Tryz.prog 40 1 false:=⟨by kernel_rfl⟩
instance tz_42:TZ Tryz.prog 42 [Value.int IntKind.i64 0,Value.slice none 0 0,Value.int IntKind.i64 0,Value.slice none 0 0]:=⟨by kernel_rfl⟩
instance ts_42:TS Tryz.prog 42 4:=⟨by kernel_rfl⟩
instance tg_42:TG Tryz.prog 42 true:=⟨by kernel_rfl⟩
instance tb_42:TB Tryz.prog 42 64:=⟨by kernel_rfl⟩
instance tp_42:TP Tryz.prog 42 [(0,2),(2,2)]:=⟨by kernel_rfl⟩
instance tf_42_0:TF Tryz.prog 42 0 (0,2):=⟨by kernel_rfl⟩
instance tga_42_0:TA Tryz.prog 42 0 true:=⟨by kernel_rfl⟩
instance tf_42_1:TF Tryz.prog 42 1 (2,2):=⟨by kernel_rfl⟩
instance tga_42_1:TA Tryz.prog 42 1 true:=⟨by kernel_rfl⟩
instance tz_44:TZ Tryz.prog 44 [Value.int IntKind.i64 0,Value.slice none 0 0,Value.int IntKind.i64 0,Value.slice none 0 0,Value.int IntKind.i64 0,Value.slice none 0 0,Value.int IntKind.i64 0,Value.slice none 0 0]:=⟨by kernel_rfl⟩
instance ts_44:TS Tryz.prog 44 8:=⟨by kernel_rfl⟩
instance tg_44:TG Tryz.prog 44 true:=⟨by kernel_rfl⟩
instance tb_44:TB Tryz.prog 44 128:=⟨by kernel_rfl⟩
instance tp_44:TP Tryz.prog 44 [(0,4),(4,4)]:=⟨by kernel_rfl⟩
instance tf_44_0:TF Tryz.prog 44 0 (0,4):=⟨by kernel_rfl⟩
instance tga_44_0:TA Tryz.prog 44 0 true:=⟨by kernel_rfl⟩
instance tf_44_1:TF Tryz.prog 44 1 (4,4):=⟨by kernel_rfl⟩
instance tga_44_1:TA Tryz.prog 44 1 true:=⟨by kernel_rfl⟩
instance tz_49:TZ Tryz.prog 49 [Value.slice none 0 0]:=⟨by kernel_rfl⟩
instance ts_49:TS Tryz.prog 49 1:=⟨by kernel_rfl⟩
instance tg_49:TG Tryz.prog 49 false:=⟨by kernel_rfl⟩
instance tb_49:TB Tryz.prog 49 24:=⟨by kernel_rfl⟩
instance te_49:TE Tryz.prog 49 (35,3):=⟨by kernel_rfl⟩
instance tz_51:TZ Tryz.prog 51 [Value.slice none 0 0,Value.bool false,Value.bool false,Value.slice none 0 0,Value.bool false,Value.slice none 0 0,Value.slice none 0 0,Value.bool false,Value.slice none 0 0]:=⟨by kernel_rfl⟩
instance ts_51:TS Tryz.prog 51 9:=⟨by kernel_rfl⟩
instance tg_51:TG Tryz.prog 51 true:=⟨by kernel_rfl⟩
instance tb_51:TB Tryz.prog 51 144:=⟨by kernel_rfl⟩
instance tp_51:TP Tryz.prog 51 [(0,1),(1,1),(2,1),(3,3),(6,3)]:=⟨by kernel_rfl⟩
instance tf_51_0:TF Tryz.prog 51 0 (0,1):=⟨by kernel_rfl⟩
instance tga_51_0:TA Tryz.prog 51 0 false:=⟨by kernel_rfl⟩
instance tf_51_1:TF Tryz.prog 51 1 (1,1):=⟨by kernel_rfl⟩
instance tga_51_1:TA Tryz.prog 51 1 false:=⟨by kernel_rfl⟩
instance tf_51_2:TF Tryz.prog 51 2 (2,1):=⟨by kernel_rfl⟩
instance tga_51_2:TA Tryz.prog 51 2 false:=⟨by kernel_rfl⟩
instance tf_51_3:TF Tryz.prog 51 3 (3,3):=⟨by kernel_rfl⟩
instance tga_51_3:TA Tryz.prog 51 3 true:=⟨by kernel_rfl⟩
instance tf_51_4:TF Tryz.prog 51 4 (6,3):=⟨by kernel_rfl⟩
instance tga_51_4:TA Tryz.prog 51 4 true:=⟨by kernel_rfl⟩
instance tz_52:TZ Tryz.prog 52 [Value.int IntKind.i64 0]:=⟨by kernel_rfl⟩
instance ts_52:TS Tryz.prog 52 1:=⟨by kernel_rfl⟩
instance tg_52:TG Tryz.prog 52 false:=⟨by kernel_rfl⟩
instance tb_52:TB Tryz.prog 52 8:=⟨by kernel_rfl⟩
instance tu_52:TU Tryz.prog 52 (.int .i64):=⟨by kernel_rfl⟩
instance tz_55:TZ Tryz.prog 55 [Value.slice none 0 0]:=⟨by kernel_rfl⟩
instance ts_55:TS Tryz.prog 55 1:=⟨by kernel_rfl⟩
instance tg_55:TG Tryz.prog 55 false:=⟨by kernel_rfl⟩
instance tb_55:TB Tryz.prog 55 24:=⟨by kernel_rfl⟩
instance te_55:TE Tryz.prog 55 (35,3):=⟨by kernel_rfl⟩
instance tz_57:TZ Tryz.prog 57 [Value.slice none 0 0,Value.slice none 0 0]:=⟨by kernel_rfl⟩
instance ts_57:TS Tryz.prog 57 2:=⟨by kernel_rfl⟩
instance tg_57:TG Tryz.prog 57 true:=⟨by kernel_rfl⟩
instance tb_57:TB Tryz.prog 57 48:=⟨by kernel_rfl⟩
instance tp_57:TP Tryz.prog 57 [(0,1),(1,1)]:=⟨by kernel_rfl⟩
instance tf_57_0:TF Tryz.prog 57 0 (0,1):=⟨by kernel_rfl⟩
instance tga_57_0:TA Tryz.prog 57 0 false:=⟨by kernel_rfl⟩
instance tf_57_1:TF Tryz.prog 57 1 (1,1):=⟨by kernel_rfl⟩
instance tga_57_1:TA Tryz.prog 57 1 false:=⟨by kernel_rfl⟩
instance tz_65:TZ Tryz.prog 65 [Value.slice none 0 0]:=⟨by kernel_rfl⟩
instance ts_65:TS Tryz.prog 65 1:=⟨by kernel_rfl⟩
instance tg_65:TG Tryz.prog 65 false:=⟨by kernel_rfl⟩
instance tb_65:TB Tryz.prog 65 24:=⟨by kernel_rfl⟩
instance te_65:TE Tryz.prog 65 (42,4):=⟨by kernel_rfl⟩
instance tz_66:TZ Tryz.prog 66 [Value.slice none 0 0]:=⟨by kernel_rfl⟩
instance ts_66:TS Tryz.prog 66 1:=⟨by kernel_rfl⟩
instance tg_66:TG Tryz.prog 66 false:=⟨by kernel_rfl⟩
instance tb_66:TB Tryz.prog 66 24:=⟨by kernel_rfl⟩
instance te_66:TE Tryz.prog 66 (42,4):=⟨by kernel_rfl⟩
instance ts_75:TS Tryz.prog 75 19:=⟨by kernel_rfl⟩
instance tg_75:TG Tryz.prog 75 true:=⟨by kernel_rfl⟩
instance tb_75:TB Tryz.prog 75 160:=⟨by kernel_rfl⟩
instance tp_75:TP Tryz.prog 75 [(0,1),(1,6),(7,1),(8,1),(9,1),(10,1),(11,1),(12,1),(13,3),(16,3)]:=⟨by kernel_rfl⟩
instance tf_75_0:TF Tryz.prog 75 0 (0,1):=⟨by kernel_rfl⟩
instance tga_75_0:TA Tryz.prog 75 0 false:=⟨by kernel_rfl⟩
instance tf_75_1:TF Tryz.prog 75 1 (1,6):=⟨by kernel_rfl⟩
instance tga_75_1:TA Tryz.prog 75 1 true:=⟨by kernel_rfl⟩
instance tf_75_2:TF Tryz.prog 75 2 (7,1):=⟨by kernel_rfl⟩
instance tga_75_2:TA Tryz.prog 75 2 false:=⟨by kernel_rfl⟩
instance tf_75_3:TF Tryz.prog 75 3 (8,1):=⟨by kernel_rfl⟩
instance tga_75_3:TA Tryz.prog 75 3 false:=⟨by kernel_rfl⟩
instance tf_75_4:TF Tryz.prog 75 4 (9,1):=⟨by kernel_rfl⟩
instance tga_75_4:TA Tryz.prog 75 4 false:=⟨by kernel_rfl⟩
instance tf_75_5:TF Tryz.prog 75 5 (10,1):=⟨by kernel_rfl⟩
instance tga_75_5:TA Tryz.prog 75 5 false:=⟨by kernel_rfl⟩
instance tf_75_6:TF Tryz.prog 75 6 (11,1):=⟨by kernel_rfl⟩
instance tga_75_6:TA Tryz.prog 75 6 false:=⟨by kernel_rfl⟩
instance tf_75_7:TF Tryz.prog 75 7 (12,1):=⟨by kernel_rfl⟩
instance tga_75_7:TA Tryz.prog 75 7 false:=⟨by kernel_rfl⟩
instance tf_75_8:TF Tryz.prog 75 8 (13,3):=⟨by kernel_rfl⟩
instance tga_75_8:TA Tryz.prog 75 8 true:=⟨by kernel_rfl⟩
instance tf_75_9:TF Tryz.prog 75 9 (16,3):=⟨by kernel_rfl⟩
instance tga_75_9:TA Tryz.prog 75 9 true:=⟨by kernel_rfl⟩
instance tz_77:TZ Tryz.prog 77 [Value.slice none 0 0,Value.bool false,Value.bool false,Value.int IntKind.i64 0,Value.slice none 0 0,Value.int IntKind.i64 0,Value.slice none 0 0,Value.int IntKind.i64 0,Value.slice none 0 0,Value.int IntKind.i64 0,Value.slice none 0 0]:=⟨by kernel_rfl⟩
instance ts_77:TS Tryz.prog 77 11:=⟨by kernel_rfl⟩
instance tg_77:TG Tryz.prog 77 true:=⟨by kernel_rfl⟩
instance tb_77:TB Tryz.prog 77 160:=⟨by kernel_rfl⟩
instance tp_77:TP Tryz.prog 77 [(0,1),(1,1),(2,1),(3,4),(7,4)]:=⟨by kernel_rfl⟩
instance tf_77_0:TF Tryz.prog 77 0 (0,1):=⟨by kernel_rfl⟩
instance tga_77_0:TA Tryz.prog 77 0 false:=⟨by kernel_rfl⟩
instance tf_77_1:TF Tryz.prog 77 1 (1,1):=⟨by kernel_rfl⟩
instance tga_77_1:TA Tryz.prog 77 1 false:=⟨by kernel_rfl⟩
instance tf_77_2:TF Tryz.prog 77 2 (2,1):=⟨by kernel_rfl⟩
instance tga_77_2:TA Tryz.prog 77 2 false:=⟨by kernel_rfl⟩
instance tf_77_3:TF Tryz.prog 77 3 (3,4):=⟨by kernel_rfl⟩
instance tga_77_3:TA Tryz.prog 77 3 true:=⟨by kernel_rfl⟩
instance tf_77_4:TF Tryz.prog 77 4 (7,4):=⟨by kernel_rfl⟩
instance tga_77_4:TA Tryz.prog 77 4 true:=⟨by kernel_rfl⟩
instance tz_139:TZ Tryz.prog 139 [Value.nilFunc]:=⟨by kernel_rfl⟩
instance ts_139:TS Tryz.prog 139 1:=⟨by kernel_rfl⟩
instance tg_139:TG Tryz.prog 139 false:=⟨by kernel_rfl⟩
instance tb_139:TB Tryz.prog 139 8:=⟨by kernel_rfl⟩
instance tz_150:TZ Tryz.prog 150 [Value.slice none 0 0,Value.bool false,Value.bool false,Value.slice none 0 0,Value.bool false,Value.slice none 0 0,Value.slice none 0 0,Value.bool false,Value.slice none 0 0,Value.slice none 0 0,Value.slice none 0 0,Value.slice none 0 0,Value.bool false,Value.slice none 0 0,Value.slice none 0 0,Value.slice none 0 0]:=⟨by kernel_rfl⟩
instance ts_150:TS Tryz.prog 150 16:=⟨by kernel_rfl⟩
instance tg_150:TG Tryz.prog 150 true:=⟨by kernel_rfl⟩
instance tb_150:TB Tryz.prog 150 296:=⟨by kernel_rfl⟩
instance tp_150:TP Tryz.prog 150 [(0,9),(9,1),(10,1),(11,3),(14,1),(15,1)]:=⟨by kernel_rfl⟩
instance tf_150_0:TF Tryz.prog 150 0 (0,9):=⟨by kernel_rfl⟩
instance tga_150_0:TA Tryz.prog 150 0 true:=⟨by kernel_rfl⟩
instance tf_150_1:TF Tryz.prog 150 1 (9,1):=⟨by kernel_rfl⟩
instance tga_150_1:TA Tryz.prog 150 1 false:=⟨by kernel_rfl⟩
instance tf_150_2:TF Tryz.prog 150 2 (10,1):=⟨by kernel_rfl⟩
instance tga_150_2:TA Tryz.prog 150 2 false:=⟨by kernel_rfl⟩
instance tf_150_3:TF Tryz.prog 150 3 (11,3):=⟨by kernel_rfl⟩
instance tga_150_3:TA Tryz.prog 150 3 true:=⟨by kernel_rfl⟩
instance tf_150_4:TF Tryz.prog 150 4 (14,1):=⟨by kernel_rfl⟩
instance tga_150_4:TA Tryz.prog 150 4 false:=⟨by kernel_rfl⟩
instance tf_150_5:TF Tryz.prog 150 5 (15,1):=⟨by kernel_rfl⟩
instance tga_150_5:TA Tryz.prog 150 5 false:=⟨by kernel_rfl⟩
instance tz_151:TZ Tryz.prog 151 [Value.nilFunc]:=⟨by kernel_rfl⟩
instance ts_151:TS Tryz.prog 151 1:=⟨by kernel_rfl⟩
instance tg_151:TG Tryz.prog 151 false:=⟨by kernel_rfl⟩
instance tb_151:TB Tryz.prog 151 8:=⟨by kernel_rfl⟩
instance tz_157:TZ Tryz.prog 157 [Value.nilFunc]:=⟨by kernel_rfl⟩
instance ts_157:TS Tryz.prog 157 1:=⟨by kernel_rfl⟩
instance tg_157:TG Tryz.prog 157 false:=⟨by kernel_rfl⟩
instance tb_157:TB Tryz.prog 157 8:=⟨by kernel_rfl⟩
instance tz_199:TZ Tryz.prog 199 [Value.pointer none]:=⟨by kernel_rfl⟩
instance ts_199:TS Tryz.prog 199 1:=⟨by kernel_rfl⟩
instance tg_199:TG Tryz.prog 199 false:=⟨by kernel_rfl⟩
instance tb_199:TB Tryz.prog 199 8:=⟨by kernel_rfl⟩
instance tz_220:TZ Tryz.prog 220 [Value.pointer none]:=⟨by kernel_rfl⟩
instance ts_220:TS Tryz.prog 220 1:=⟨by kernel_rfl⟩
instance tg_220:TG Tryz.prog 220 false:=⟨by kernel_rfl⟩
instance tb_220:TB Tryz.prog 220 8:=⟨by kernel_rfl⟩
instance tz_221:TZ Tryz.prog 221 [Value.slice none 0 0]:=⟨by kernel_rfl⟩
instance ts_221:TS Tryz.prog 221 1:=⟨by kernel_rfl⟩
instance tg_221:TG Tryz.prog 221 false:=⟨by kernel_rfl⟩
instance tb_221:TB Tryz.prog 221 24:=⟨by kernel_rfl⟩
instance te_221:TE Tryz.prog 221 (5,1):=⟨by kernel_rfl⟩
instance tz_223:TZ Tryz.prog 223 [Value.pointer none,Value.slice none 0 0]:=⟨by kernel_rfl⟩
instance ts_223:TS Tryz.prog 223 2:=⟨by kernel_rfl⟩
instance tg_223:TG Tryz.prog 223 true:=⟨by kernel_rfl⟩
instance tb_223:TB Tryz.prog 223 32:=⟨by kernel_rfl⟩
instance tp_223:TP Tryz.prog 223 [(0,1),(1,1)]:=⟨by kernel_rfl⟩
instance tf_223_0:TF Tryz.prog 223 0 (0,1):=⟨by kernel_rfl⟩
instance tga_223_0:TA Tryz.prog 223 0 false:=⟨by kernel_rfl⟩
instance tf_223_1:TF Tryz.prog 223 1 (1,1):=⟨by kernel_rfl⟩
instance tga_223_1:TA Tryz.prog 223 1 false:=⟨by kernel_rfl⟩
instance tz_230:TZ Tryz.prog 230 [Value.nilFunc]:=⟨by kernel_rfl⟩
instance ts_230:TS Tryz.prog 230 1:=⟨by kernel_rfl⟩
instance tg_230:TG Tryz.prog 230 false:=⟨by kernel_rfl⟩
instance tb_230:TB Tryz.prog 230 8:=⟨by kernel_rfl⟩
instance tz_235:TZ Tryz.prog 235 [Value.int IntKind.u64 0]:=⟨by kernel_rfl⟩
instance ts_235:TS Tryz.prog 235 1:=⟨by kernel_rfl⟩
instance tg_235:TG Tryz.prog 235 false:=⟨by kernel_rfl⟩
instance tb_235:TB Tryz.prog 235 8:=⟨by kernel_rfl⟩
instance tu_235:TU Tryz.prog 235 (.int .u64):=⟨by kernel_rfl⟩
instance tz_236:TZ Tryz.prog 236 [Value.int IntKind.u32 0]:=⟨by kernel_rfl⟩
instance ts_236:TS Tryz.prog 236 1:=⟨by kernel_rfl⟩
instance tg_236:TG Tryz.prog 236 false:=⟨by kernel_rfl⟩
instance tb_236:TB Tryz.prog 236 4:=⟨by kernel_rfl⟩
instance tu_236:TU Tryz.prog 236 (.int .u32):=⟨by kernel_rfl⟩
instance tz_261:TZ Tryz.prog 261 [Value.slice none 0 0]:=⟨by kernel_rfl⟩
instance ts_261:TS Tryz.prog 261 1:=⟨by kernel_rfl⟩
instance tg_261:TG Tryz.prog 261 false:=⟨by kernel_rfl⟩
instance tb_261:TB Tryz.prog 261 24:=⟨by kernel_rfl⟩
instance te_261:TE Tryz.prog 261 (55,1):=⟨by kernel_rfl⟩
instance tz_263:TZ Tryz.prog 263 [Value.slice none 0 0,Value.slice none 0 0,Value.int IntKind.i64 0]:=⟨by kernel_rfl⟩
instance ts_263:TS Tryz.prog 263 3:=⟨by kernel_rfl⟩
instance tg_263:TG Tryz.prog 263 true:=⟨by kernel_rfl⟩
instance tb_263:TB Tryz.prog 263 56:=⟨by kernel_rfl⟩
instance tp_263:TP Tryz.prog 263 [(0,1),(1,1),(2,1)]:=⟨by kernel_rfl⟩
instance tf_263_0:TF Tryz.prog 263 0 (0,1):=⟨by kernel_rfl⟩
instance tga_263_0:TA Tryz.prog 263 0 false:=⟨by kernel_rfl⟩
instance tf_263_1:TF Tryz.prog 263 1 (1,1):=⟨by kernel_rfl⟩
instance tga_263_1:TA Tryz.prog 263 1 false:=⟨by kernel_rfl⟩
instance tf_263_2:TF Tryz.prog 263 2 (2,1):=⟨by kernel_rfl⟩
instance tga_263_2:TA Tryz.prog 263 2 false:=⟨by kernel_rfl⟩
instance tz_266:TZ Tryz.prog 266 [Value.nilFunc]:=⟨by kernel_rfl⟩
instance ts_266:TS Tryz.prog 266 1:=⟨by kernel_rfl⟩
instance tg_266:TG Tryz.prog 266 false:=⟨by kernel_rfl⟩
instance tb_266:TB Tryz.prog 266 8:=⟨by kernel_rfl⟩
instance tz_288:TZ Tryz.prog 288 [Value.pointer none]:=⟨by kernel_rfl⟩
instance ts_288:TS Tryz.prog 288 1:=⟨by kernel_rfl⟩
instance tg_288:TG Tryz.prog 288 false:=⟨by kernel_rfl⟩
instance tb_288:TB Tryz.prog 288 8:=⟨by kernel_rfl⟩
instance tz_293:TZ Tryz.prog 293 [Value.nilFunc]:=⟨by kernel_rfl⟩
instance ts_293:TS Tryz.prog 293 1:=⟨by kernel_rfl⟩
instance tg_293:TG Tryz.prog 293 false:=⟨by kernel_rfl⟩
instance tb_293:TB Tryz.prog 293 8:=⟨by kernel_rfl⟩
instance tz_318:TZ Tryz.prog 318 [Value.int IntKind.u64 0]:=⟨by kernel_rfl⟩
instance ts_318:TS Tryz.prog 318 1:=⟨by kernel_rfl⟩
instance tg_318:TG Tryz.prog 318 false:=⟨by kernel_rfl⟩
instance tb_318:TB Tryz.prog 318 8:=⟨by kernel_rfl⟩
instance tu_318:TU Tryz.prog 318 (.int .u64):=⟨by kernel_rfl⟩
instance tz_323:TZ Tryz.prog 323 [Value.pointer none]:=⟨by kernel_rfl⟩
instance ts_323:TS Tryz.prog 323 1:=⟨by kernel_rfl⟩
instance tg_323:TG Tryz.prog 323 false:=⟨by kernel_rfl⟩
instance tb_323:TB Tryz.prog 323 8:=⟨by kernel_rfl⟩
instance ts_337:TS Tryz.prog 337 24:=⟨by kernel_rfl⟩
instance tg_337:TG Tryz.prog 337 true:=⟨by kernel_rfl⟩
instance tb_337:TB Tryz.prog 337 24:=⟨by kernel_rfl⟩
instance ts_351:TS Tryz.prog 351 20:=⟨by kernel_rfl⟩
instance tg_351:TG Tryz.prog 351 true:=⟨by kernel_rfl⟩
instance tb_351:TB Tryz.prog 351 160:=⟨by kernel_rfl⟩
instance ts_352:TS Tryz.prog 352 65:=⟨by kernel_rfl⟩
instance tg_352:TG Tryz.prog 352 true:=⟨by kernel_rfl⟩
instance tb_352:TB Tryz.prog 352 65:=⟨by kernel_rfl⟩
instance ts_356:TS Tryz.prog 356 32:=⟨by kernel_rfl⟩
instance tg_356:TG Tryz.prog 356 true:=⟨by kernel_rfl⟩
instance tb_356:TB Tryz.prog 356 32:=⟨by kernel_rfl⟩
instance ts_357:TS Tryz.prog 357 64:=⟨by kernel_rfl⟩
instance tg_357:TG Tryz.prog 357 true:=⟨by kernel_rfl⟩
instance tb_357:TB Tryz.prog 357 64:=⟨by kernel_rfl⟩
theorem pJ_(l:List Nat):FSpec Tryz.prog 169 [.agg [.arr (dE l)]] (bln (l.length==0)):=by
 refine f_n Tryz.func169 ?_ ?_
 exact aa_ (aq_ (aa_ (bu_ l) ab_)) ab_
 refine r_z 2 ?_
 refine r_z 5 ?_
 refine ai_ (aP_ rfl ?_ (ad_ _))
 simp only[bln,f2_]
 congr 2
 rw[Bool.eq_iff_iff];simp
theorem dn_(l:List Nat)(hl:l.length≤281474976710656):FSpec Tryz.prog 182 [.arr (dE l)] (.agg [.arr (dE (trimD l))]):=by
 refine f_n Tryz.func182 ?_ ?_
 exact aa_ (bu_ l) ab_
 refine r_z 1 ?_
 refine r_z 3 ?_
 refine aS_ (fun k:Nat=>⟨[(0,.arr (dE l)),(2,.lptr 1 0 0),(3,i64 k)],[(1,some ⟨31,1,[[.emp]]⟩)],2,23⟩) (fun k=>k≤l.length∧trimD l=l.take k) ?_ ?_
 refine ah_ (ax_ (fun k:Nat=>⟨[(0,.arr (dE l)),(2,.lptr 1 0 0),(3,i64 k)],[(1,some ⟨31,1,[[.emp]]⟩)],2,23⟩) (fun k=>k) (fun k=>k≤l.length∧∀i,k≤i→i< l.length→l[i]?=some 0) l.length ⟨Nat.le_refl _,fun i h1 h2=>by omega⟩ ?_ ?_)
 exact s_e []
 rintro k ⟨hk,hz⟩
 have fin:k=0∨l[k- 1]?≠some 0→trimD l=l.take k:=e1_ l k hk hz
 by_cases h0:k=0
 subst h0
 refine ac_ (s_r 10 ?_)
 refine a_3 ?_
 refine n_g rfl d_f ?_
 refine n_g rfl d_f ?_
 refine n_g rfl d_f ?_
 refine n_g rfl d_f ?_
 refine n_g rfl d_f ?_
 refine n_g rfl d_f ?_
 refine o_0 (.pickF rfl d_f rfl) ?_
 refine an_ ?_
 refine am_ rfl (fun h=>?_) (fun _=>?_)
 cases h
 refine au_ ⟨0,⟨hk,fin (.inl rfl)⟩,?_⟩
 exact s_e []
 have hk1:k- 1< l.length:=by omega
 obtain⟨d,hd⟩:∃d,l[k- 1]?=some d:=⟨_,List.getElem?_eq_getElem hk1⟩
 have hd':(dE l)[((k:Int)- 1).toNat]?=some [u32 d]:=by rw[show((k:Int)- 1).toNat=k- 1 by omega];exact cd_ hd
 refine ac_ (s_r 10 ?_)
 refine a_3 ?_
 refine y_g rfl d_t (.move rfl) ?_
 refine y_g rfl d_t (.move rfl) ?_
 refine y_g rfl d_t (.bin rfl rfl (f8_ (by omega))) ?_
 first|refine y_g rfl d_t (.index_l rfl rfl (by omega) (by omega) te_29.h) ?_|refine y_g rfl d_t (.index_a rfl rfl (by omega) hd' rfl te_29.h) ?_
 first|refine y_g rfl d_t (.load_l1 rfl rfl hd' tg_236.h rfl) ?_|refine y_g rfl d_t (.load_a1 rfl hd' tg_236.h rfl) ?_
 refine y_g rfl d_t (.bin rfl rfl a8_) ?_
 refine o_0 (.pickT rfl d_t rfl) ?_
 refine an_ ?_
 refine am_ rfl (fun h=>?_) (fun h=>?_)
 refine ag_ ?_
 have hd0:d=0:=by simpa using h
 subst hd0
 refine ah_ (r_m 3 ?_)
 refine a_z ?_
 refine⟨k- 1,by omega,⟨by omega,fun i h1 h2=>?_⟩,?_⟩
 by_cases hi:i=k- 1
 rw[hi];exact hd
 exact hz i (by omega) h2
 exact s_e []
 refine au_ ⟨k,⟨hk,fin (.inr ?_)⟩,?_⟩
 rw[hd];simp at h⊢;omega
 exact s_e []
 rintro k ⟨hk,ht⟩
 refine s_r 6 ?_
 refine a_3 ?_
 refine o_0 (.sa_hm rfl rfl rfl rfl rfl ⟨Nat.le_refl _,by simpa using hk⟩ te_29.h (mu_ l)) ?_
 refine a_z ?_
 refine ai_ (bR_ rfl rfl rfl tg_31.h ts_31.h (nle rfl) ?_ (aq_ (aa_ (bu_ _) ab_)))
 rw[ht,←qA_]
 rfl
theorem i8_(z:Int):FSpec Tryz.prog 247 [i64 z] (bln false):=by
 refine f_n Tryz.func247 ?_ ?_
 exact aa_ (ad_ _) ab_
 refine r_z 1 ?_
 refine r_z 4 ?_
 refine ai_ (aP_ rfl ?_ (ad_ _))
 simp[bln]
theorem i7_(z:Nat):FSpec Tryz.prog 248 [u32 z] (bln false):=by
 refine f_n Tryz.func248 ?_ ?_
 exact aa_ (ad_ _) ab_
 refine r_z 1 ?_
 refine r_z 4 ?_
 refine ai_ (aP_ rfl ?_ (ad_ _))
 simp[bln]
theorem lb_(a b:Int):FSpec Tryz.prog 190 [i64 a,i64 b] (i64 (cmpZ a b)):=by
 refine f_n Tryz.func190 ?_ ?_
 exact aa_ (ad_ _) (aa_ (ad_ _) ab_)
 refine r_z 1 ?_
 refine r_c 3 (i8_ a) ?_
 refine a_z ?_
 refine r_c 3 (i8_ b) ?_
 refine a_z ?_
 refine ac_ (r_z 1 ?_)
 refine am_ rfl (fun h=>?_) (fun _=>ag_ ?_)
 cases h
 refine ac_ (r_z 1 ?_)
 refine am_ rfl (fun h=>?_) (fun _=>ag_ ?_)
 cases h
 refine ac_ (r_z 3 ?_)
 refine am_ rfl (fun h=>?_) (fun h=>ag_ ?_)
 refine r_z 1 ?_
 refine ai_ (aP_ rfl ?_ (ad_ _))
 simp at h;simp[i64,ofV,cmpZ,h]
 refine ac_ (r_z 3 ?_)
 refine am_ rfl (fun h'=>?_) (fun h'=>ag_ ?_)
 refine r_z 1 ?_
 refine ai_ (aP_ rfl ?_ (ad_ _))
 simp at h h';simp[i64,ofV,cmpZ];omega
 refine r_z 1 ?_
 refine ai_ (aP_ rfl ?_ (ad_ _))
 simp at h h';simp[i64,ofV,cmpZ];omega
theorem la_(a b:Nat):FSpec Tryz.prog 191 [u32 a,u32 b] (i64 (cmpZ a b)):=by
 refine f_n Tryz.func191 ?_ ?_
 exact aa_ (ad_ _) (aa_ (ad_ _) ab_)
 refine r_z 1 ?_
 refine r_c 3 (i7_ a) ?_
 refine a_z ?_
 refine r_c 3 (i7_ b) ?_
 refine a_z ?_
 refine ac_ (r_z 1 ?_)
 refine am_ rfl (fun h=>?_) (fun _=>ag_ ?_)
 cases h
 refine ac_ (r_z 1 ?_)
 refine am_ rfl (fun h=>?_) (fun _=>ag_ ?_)
 cases h
 refine ac_ (r_z 3 ?_)
 refine am_ rfl (fun h=>?_) (fun h=>ag_ ?_)
 refine r_z 1 ?_
 refine ai_ (aP_ rfl ?_ (ad_ _))
 simp at h;simp[i64,ofV,cmpZ,h]
 refine ac_ (r_z 3 ?_)
 refine am_ rfl (fun h'=>?_) (fun h'=>ag_ ?_)
 refine r_z 1 ?_
 refine ai_ (aP_ rfl ?_ (ad_ _))
 simp at h h';simp[i64,ofV,cmpZ];omega
 refine r_z 1 ?_
 refine ai_ (aP_ rfl ?_ (ad_ _))
 simp at h h';simp[i64,ofV,cmpZ];omega
theorem digs_one{n:Nat}:(digs MB n).length=1∧(digs MB n)[0]?=some 1↔n=1:=by
 constructor
 rintro⟨h1,h2⟩
 have:=a3_ (b:=MB) (by decide) n
 match hd:digs MB n,h1,h2 with
 |[d],_,h2=>rw[hd] at this;simp at h2;subst h2;simpa[ofD] using this.symm
 rintro rfl
 rw[ct_ (by decide) (by decide)]
 rw[show 1/ MB=0 by decide,bl_];simp
theorem fs_one(n:Nat):FSpec Tryz.prog 177 [.agg [mag n]] (bln (n==1)):=by
 refine f_n Tryz.func177 ?_ ?_
 exact aa_ (aq_ (aa_ (aL_ n) ab_)) ab_
 refine r_z 2 ?_
 by_cases h1:(digs MB n).length=1
 obtain⟨d,hd⟩:∃d,(digs MB n)[0]?=some d:=⟨_,List.getElem?_eq_getElem (by omega)⟩
 have hd':(dE (digs MB n))[(0:Int).toNat]?=some [u32 d]:=cd_ hd
 refine s_r 12 ?_
 refine a_5 ?_
 first|refine y_g rfl (by simp;omega) (.fieldAddr_l rfl tf_31_0.h (by decide)) ?_|refine y_g rfl (by simp;omega) (.fieldAddr_a rfl tf_31_0.h (by decide)) ?_
 first|refine y_g rfl (by simp;omega) (.load_l1 rfl rfl rfl tg_29.h rfl) ?_|refine y_g rfl (by simp;omega) (.load_a1 rfl rfl tg_29.h rfl) ?_
 first|refine y_g rfl (by simp;omega) (.index_l rfl rfl (by omega) (by omega) te_29.h) ?_|refine y_g rfl (by simp;omega) (.index_a rfl rfl (by omega) hd' rfl te_29.h) ?_
 first|refine y_g rfl (by simp;omega) (.load_l1 rfl rfl hd' tg_236.h rfl) ?_|refine y_g rfl (by simp;omega) (.load_a1 rfl hd' tg_236.h rfl) ?_
 refine y_g rfl (by simp;omega) (.bin rfl rfl a8_) ?_
 refine o_0 (.pickT rfl (by simp;omega) rfl) ?_
 refine a_z ?_
 refine ai_ (aP_ rfl ?_ (ad_ _))
 simp only[bln]
 congr 2
 rw[Bool.eq_iff_iff]
 have:=digs_one (n:=n)
 simp only[h1,hd,true_and,Option.some.injEq] at this
 simp only[beq_iff_eq,←this]
 omega
 refine s_r 12 ?_
 refine a_5 ?_
 refine n_g rfl (by simp;omega) ?_
 refine n_g rfl (by simp;omega) ?_
 refine n_g rfl (by simp;omega) ?_
 refine n_g rfl (by simp;omega) ?_
 refine n_g rfl (by simp;omega) ?_
 refine o_0 (.pickF rfl (by simp;omega) rfl) ?_
 refine a_z ?_
 refine ai_ (aP_ rfl ?_ (ad_ _))
 simp only[bln,ofV]
 congr 2
 symm
 rw[beq_eq_false_iff_ne]
 intro h
 exact h1 (digs_one.2 h).1
def mI_(n:Nat):Nat→AState
 |0=>⟨[(0,u64 n),(2,.lptr 1 0 0),(3,.emp)],[(1,some ⟨31,1,[[.emp]]⟩)],2,16⟩
 |k+1=>⟨[(0,u64 (restD n (k+1))),(2,.lptr 1 0 0),(3,.lsl 2 0 (k+1) none 1)],[(1,some ⟨31,1,[[.emp]]⟩),(2,some ⟨236,1,dE (preD n (k+1))⟩)],3,16⟩
theorem fo_(n:Nat):mI_ n 0=⟨[(0,u64 n),(2,.lptr 1 0 0),(3,.emp)],[(1,some ⟨31,1,[[.emp]]⟩)],2,16⟩:=rfl
theorem ds_(n k:Nat):mI_ n (k+1)=⟨[(0,u64 (restD n (k+1))),(2,.lptr 1 0 0),(3,.lsl 2 0 (k+1) none 1)],[(1,some ⟨31,1,[[.emp]]⟩),(2,some ⟨236,1,dE (preD n (k+1))⟩)],3,16⟩:=rfl
theorem dL_(n:Nat)(h:n< 18446744073709551616):FSpec Tryz.prog 180 [u64 n] (.agg [mag n]):=by
 have hlen:(digs MB n).length≤3:=co_ (by decide) (Nat.lt_of_lt_of_le h (by decide))
 refine f_n Tryz.func180 ?_ ?_
 exact aa_ (ad_ _) ab_
 refine r_z 1 ?_
 refine r_z 1 ?_
 refine aS_ (mI_ n) (fun k=>k=(digs MB n).length) ?_ ?_
 refine ah_ (ax_ (mI_ n) (fun k=>(digs MB n).length- k) (fun k=>k≤(digs MB n).length) 0 (Nat.zero_le _) ?_ ?_)
 rw[fo_]
 exact s_e []
 rintro k hk
 have hle:=restD_le hk
 have hz:=restD_eq hk
 have hpl:=fq_ hk
 cases k with
 |zero=>
  rw[iT_] at hz
  refine ac_ (r_z 2 ?_)
  refine am_ rfl (fun h=>?_) (fun h=>?_)
  refine ag_ ?_
  have h0:0< n:=by simpa using h
  have hl1:0< (digs MB n).length:=by omega
  obtain⟨hq,ht⟩:=iU_ hl1
  rw[iT_] at hq ht
  refine ac_ (ah_ (r_m 7 ?_))
  refine a_z ?_
  refine r_m 3 ?_
  refine a_z ?_
  refine⟨1,by omega,hl1,?_⟩
  rw[ds_]
  refine as_ [(2,3)] rfl rfl rfl ?_ (fun hs=>?_) (fun hs=>?_)
  ·repeat' (first|exact ShrL.nil|refine ShrL.cons rfl rfl rfl rfl (by first|rfl|(simp;done)|(simp[hq,ht,dx_]<;> omega)) ?_)
  ·repeat' (first|exact aA_|refine aw_ rfl ?_ ?_)
   all_goals (first|exact au_c|(refine Cv.loE hs ?_ (ad_ _);first|rfl|(simp[i64,u64,u32,bln,hq,ht,dx_];done)|(simp[i64,u64,u32,bln,hq,ht,dx_]<;> omega)))
  ·repeat' (first|exact ao_|refine ak_ rfl rfl rfl rfl ?_ ?_)
   all_goals (first|exact au_e|(refine aG_ hs ?_ (aW_ _);first|(simp[dQ_,eR_,dc_,hq,ht,dx_];done)|(simp[dE,u32,ofV,hq,ht,dx_];done))|(refine ae_ ?_;repeat' (first|exact ap_|refine af_ ?_ ?_)))
   all_goals (first|exact au_c|(refine Cv.loE hs ?_ (ad_ _);first|(simp[i64,u64,u32,bln,hq,ht,dx_];done)|(simp[i64,u64,u32,bln,hq,ht,dx_]<;> omega)))
  refine au_ ⟨0,?_,?_⟩
  have:¬0< n:=by simpa using h
  omega
  rw[fo_]
  exact s_e []
 |succ k=>
  rw[ds_]
  refine ac_ (r_z 2 ?_)
  refine am_ rfl (fun h=>?_) (fun h=>?_)
  refine ag_ ?_
  have h0:0< restD n (k+1):=by simpa using h
  have hl1:k+1< (digs MB n).length:=by omega
  obtain⟨hq,ht⟩:=iU_ hl1
  refine ac_ (ah_ (r_m 7 ?_))
  refine a_z ?_
  refine r_m 3 ?_
  refine a_z ?_
  refine⟨k+1+1,by omega,hl1,?_⟩
  rw[ds_]
  refine as_ [(2,3)] rfl rfl rfl ?_ (fun hs=>?_) (fun hs=>?_)
  ·repeat' (first|exact ShrL.nil|refine ShrL.cons rfl rfl rfl rfl (by first|rfl|(simp;done)|(simp[hq,ht,hpl]<;> omega)) ?_)
  ·repeat' (first|exact aA_|refine aw_ rfl ?_ ?_)
   all_goals (first|exact au_c|(refine Cv.loE hs ?_ (ad_ _);first|rfl|(simp[i64,u64,u32,bln,hq,ht,hpl];done)|(simp[i64,u64,u32,bln,hq,ht,hpl]<;> omega)))
  ·repeat' (first|exact ao_|refine ak_ rfl rfl rfl rfl ?_ ?_)
   all_goals (first|exact au_e|(refine aG_ hs ?_ (aW_ _);first|(simp[dQ_,eR_,dc_,hq,ht,hpl];done)|(simp[dE,u32,ofV,hq,ht,hpl];done))|(refine ae_ ?_;repeat' (first|exact ap_|refine af_ ?_ ?_)))
   all_goals (first|exact au_c|(refine Cv.loE hs ?_ (ad_ _);first|(simp[i64,u64,u32,bln,hq,ht,hpl];done)|(simp[i64,u64,u32,bln,hq,ht,hpl]<;> omega)))
  refine au_ ⟨k+1,?_,?_⟩
  have:¬0< restD n (k+1):=by simpa using h
  omega
  rw[ds_]
  exact s_e []
 rintro k rfl
 cases hk:(digs MB n).length with
 |zero=>
  rw[fo_]
  refine r_z 3 ?_
  refine ai_ (Fin.cell rfl rfl rfl tg_31.h ts_31.h (nle rfl) (Cv.agg (af_ (Cv.emp _ ?_) ap_)))
  unfold mag
  rw[List.length_eq_zero_iff] at hk
  rw[hk];rfl
 |succ k=>
  rw[ds_]
  refine r_z 3 ?_
  refine ai_ (Fin.cell rfl rfl rfl tg_31.h ts_31.h (nle rfl) (Cv.agg (af_ (Cv.shut at_ rfl (fun _ _ h=>by cases h) ?_ ?_) ap_)))
  simp[fq_ (Nat.le_of_eq hk.symm)]
  refine aG_ at_ ?_ (aW_ _)
  have h1:(preD n (k+1)).length=k+1:=fq_ (Nat.le_of_eq hk.symm)
  have h2:=preD_end n
  rw[hk] at h2
  simp only[List.drop_zero,qA_]
  rw[List.take_of_length_le (Nat.le_of_eq h1),h2]
def plusS(p:Nat)(q:Nat):List Nat×Nat→AState
 |(s,c)=>⟨[(26,i64 s.length),(25,i64 (digs MB p).length),(24,mag p),(2,.lptr 1 0 0),(3,.lptr 2 0 0),(4,.lptr 3 0 0),(5,.lsl 4 0 ((digs MB p).length+1) (some ((digs MB p).length+1)) 1),(6,u32 c)],
  [(1,some ⟨31,1,[[mag p]]⟩),(2,some ⟨31,1,[[mag q]]⟩),(3,some ⟨31,1,[[.emp]]⟩),(4,some ⟨236,1,dE (s++List.replicate ((digs MB p).length+1- s.length) 0)⟩)],5,63⟩
theorem e2_(p:Nat)(q:Nat)(s:List Nat)(c:Nat):plusS p q (s,c)=⟨[(26,i64 s.length),(25,i64 (digs MB p).length),(24,mag p),(2,.lptr 1 0 0),(3,.lptr 2 0 0),(4,.lptr 3 0 0),(5,.lsl 4 0 ((digs MB p).length+1) (some ((digs MB p).length+1)) 1),(6,u32 c)],
   [(1,some ⟨31,1,[[mag p]]⟩),(2,some ⟨31,1,[[mag q]]⟩),(3,some ⟨31,1,[[.emp]]⟩),(4,some ⟨236,1,dE (s++List.replicate ((digs MB p).length+1- s.length) 0)⟩)],5,63⟩:=rfl
structure PlusI (p q:Nat)(a:List Nat×Nat):Prop where
 le:a.1.length≤(digs MB p).length
 dig:∀d∈a.1,d< MB
 car:a.2≤1
 val:ofD MB a.1+MB^ a.1.length* a.2=ofD MB ((digs MB p).take a.1.length)+ofD MB ((digs MB q).take a.1.length)
theorem l8_(a b:Nat)(h:bl a+bl b≤17592186044416):FSpec Tryz.prog 181 [.agg [mag a],.agg [mag b]] (.agg [mag (a+b)]):=by
 have hla:=a1_ (b:=MB) (by decide) a
 have hlb:=a1_ (b:=MB) (by decide) b
 refine f_n Tryz.func181 ?_ ?_
 exact aa_ (aq_ (aa_ (aL_ a) ab_)) (aa_ (aq_ (aa_ (aL_ b) ab_)) ab_)
 refine r_z 3 ?_
 refine ac_ (r_z 7 ?_)
 refine aD_ (fun x:Nat×Nat=>⟨[(2,.lptr 1 0 0),(3,.lptr 2 0 0),(4,.lptr 3 0 0)],[(1,some ⟨31,1,[[mag x.1]]⟩),(2,some ⟨31,1,[[mag x.2]]⟩),(3,some ⟨31,1,[[.emp]]⟩)],4,63⟩)
  (fun x=>x.1+x.2=a+b∧(digs MB x.2).length≤(digs MB x.1).length∧(digs MB x.1).length≤17592186044416) ?_ ?_
 refine am_ rfl (fun h=>?_) (fun h=>?_)
 refine r_m 4 ?_
 refine a_z ?_
 refine⟨(b,a),⟨by simp;omega,?_,by simp;omega⟩,?_⟩
 simp at h;simp;omega
 exact s_e []
 refine ag_ ⟨(a,b),⟨rfl,?_,by simp;omega⟩,?_⟩
 simp at h;simpa using h
 exact s_e []
 rintro⟨p,q⟩ ⟨hpq,hqp,hp⟩
 simp only at hpq hqp hp⊢
 refine r_z 6 ?_
 refine r_z 1 ?_
 refine ac_ (r_z 4 ?_)
 refine aD_ (plusS p q) (fun x=>PlusI p q x∧x.1.length=(digs MB p).length) ?_ ?_
 refine ah_ (ax_ (plusS p q) (fun x=>(digs MB p).length- x.1.length) (PlusI p q) ([],0) ⟨by simp,by simp,by simp,by simp[ofD]⟩ ?_ ?_)
 rw[e2_]
 exact s_e [(4,5)]
 rintro⟨s,c⟩ ⟨hle,hdig,hcar,hval⟩
 simp only at hle hdig hcar hval
 rw[e2_]
 refine r_z 1 ?_
 refine ac_ (am_ rfl (fun h=>?_) (fun h=>?_))
 refine ag_ ?_
 have hlt:s.length< (digs MB p).length:=by simpa using h
 obtain⟨x,hx⟩:∃x,(digs MB p)[s.length]?=some x:=⟨_,List.getElem?_eq_getElem hlt⟩
 have hx1:x< 1000000000:=bn_ (by decide) hx
 have hx':(dE (digs MB p))[((s.length:Nat):Int).toNat]?=some [u32 x]:=cd_ hx
 refine ac_ (ah_ (s_r 5 ?_))
 refine a_1 ?_
 refine i_x hx' ?_
 refine l_1 hx' ?_
 refine a_z ?_
 refine r_z 4 ?_
 refine ac_ (r_z 5 ?_)
 have hq0:∀y,((digs MB q)[s.length]?.getD 0=y)→y< 1000000000:=by
  rintro y rfl
  cases hy:(digs MB q)[s.length]? with
  |none=>decide
  |some y=>exact bn_ (by decide) hy
 refine aD_ (fun v:Nat=>⟨[(26,i64 s.length),(25,i64 (digs MB p).length),(24,mag p),(2,.lptr 1 0 0),(3,.lptr 2 0 0),(4,.lptr 3 0 0),(5,.lsl 4 0 ((digs MB p).length+1) (some ((digs MB p).length+1)) 1),(7,i64 s.length),(8,u32 v)],
  [(1,some ⟨31,1,[[mag p]]⟩),(2,some ⟨31,1,[[mag q]]⟩),(3,some ⟨31,1,[[.emp]]⟩),(4,some ⟨236,1,dE (s++List.replicate ((digs MB p).length+1- s.length) 0)⟩)],5,63⟩)
  (fun v=>v=x+c+(digs MB q)[s.length]?.getD 0) ?_ ?_
 refine am_ rfl (fun h=>?_) (fun h=>?_)
 have hlt2:s.length< (digs MB q).length:=by simpa using h
 obtain⟨y,hy⟩:∃y,(digs MB q)[s.length]?=some y:=⟨_,List.getElem?_eq_getElem hlt2⟩
 have hy1:y< 1000000000:=bn_ (by decide) hy
 have hy':(dE (digs MB q))[((s.length:Nat):Int).toNat]?=some [u32 y]:=cd_ hy
 refine r_m 8 ?_
 refine a_4 ?_
 refine i_x hy' ?_
 refine l_1 hy' ?_
 refine a_z ?_
 refine⟨x+c+y,by rw[hy];rfl,?_⟩
 exact s_e []
 have hlt2:¬s.length< (digs MB q).length:=by simpa using h
 refine ag_ ⟨x+c,by rw[List.getElem?_eq_none (by omega)];rfl,?_⟩
 exact s_e []
 rintro v hv
 obtain⟨y,hy⟩:∃y,y=(digs MB q)[s.length]?.getD 0:=⟨_,rfl⟩
 have hy1:=hq0 y hy.symm
 rw[←hy] at hv
 refine r_z 1 ?_
 refine ac_ (r_z 2 ?_)
 have hg:(dE (s++List.replicate ((digs MB p).length+1- s.length) 0))[0+((s.length:Nat):Int).toNat]?=some [u32 0]:=by
  rw[Nat.zero_add,Int.toNat_natCast]
  exact cd_ (by rw[show(digs MB p).length+1- s.length=((digs MB p).length- s.length)+1 by omega];exact m9_ _ _ _ rfl)
 have hset:∀w:Nat,(dE (s++List.replicate ((digs MB p).length+1- s.length) 0)).set (0+((s.length:Nat):Int).toNat) [u32 w]=dE ((s++[w])++List.replicate ((digs MB p).length+1- (s++[w]).length) 0):=by
  intro w
  rw[Nat.zero_add,Int.toNat_natCast,dQ_,show(digs MB p).length+1- s.length=((digs MB p).length- s.length)+1 by omega,mM_ _ _ _ _ rfl,show(digs MB p).length+1- (s++[w]).length=(digs MB p).length- s.length by simp]
 have hnext:∀w c',w+1000000000* c'=x+c+y→w< 1000000000→c'≤1→PlusI p q (s++[w],c'):=by
  intro w c' hw hwb hc'
  refine⟨by simp;omega,?_,hc',?_⟩
  intro d hd
  rcases List.mem_append.1 hd with hd|hd
  exact hdig d hd
  simp at hd;subst hd;exact hwb
  simp only[List.length_append,List.length_singleton]
  rw[dh_,br_ _ hx,cn_,←hy,Nat.pow_succ]
  have e:MB^ s.length* w+MB^ s.length* MB* c'=MB^ s.length* (w+MB* c'):=by rw[Nat.mul_add,Nat.mul_assoc]
  have e2:MB^ s.length* (x+c+y)=MB^ s.length* x+MB^ s.length* c+MB^ s.length* y:=by rw[Nat.mul_add,Nat.mul_add]
  rw[hw,e2] at e
  omega
 refine am_ rfl (fun h=>?_) (fun h=>?_)
 have hb:1000000000≤v:=by have:=of_decide_eq_true h;omega
 have hv1:((v:Int)- 1000000000)=((v- 1000000000:Nat):Int):=by omega
 refine r_m 4 ?_
 refine a_z ?_
 refine r_m 5 ?_
 refine a_4 ?_
 refine o_1n (.store rfl rfl hg rfl rfl rfl ts_236.h (nle rfl)) ?_
 refine an_ ?_
 refine r_m 2 ?_
 refine a_z ?_
 refine⟨(s++[v- 1000000000],1),by simp;omega,hnext _ _ (by omega) (by omega) (Nat.le_refl _),?_⟩
 rw[e2_]
 refine as_ [] rfl rfl rfl au_r (fun hs=>au_f) (fun hs=>?_)
 ·repeat' (first|exact ao_|refine ak_ rfl rfl rfl rfl ?_ ?_)
  all_goals (first|(refine aG_ hs ?_ (aW_ _);rw[hv1];exact hset _)|exact au_e)
 have hb:v< 1000000000:=by have:=of_decide_eq_false h;omega
 refine ag_ (r_m 5 ?_)
 refine a_4 ?_
 refine o_1n (.store rfl rfl hg rfl rfl rfl ts_236.h (nle rfl)) ?_
 refine an_ ?_
 refine r_m 2 ?_
 refine a_z ?_
 refine⟨(s++[v],0),by simp;omega,hnext _ _ (by omega) hb (by omega),?_⟩
 rw[e2_]
 refine as_ [] rfl rfl rfl au_r (fun hs=>au_f) (fun hs=>?_)
 ·repeat' (first|exact ao_|refine ak_ rfl rfl rfl rfl ?_ ?_)
  all_goals (first|(refine aG_ hs ?_ (aW_ _);exact hset _)|exact au_e)
 refine au_ ⟨(s,c),⟨⟨hle,hdig,hcar,hval⟩,?_⟩,?_⟩
 simp at h;simp;omega
 rw[e2_]
 exact s_e []
 rintro⟨s,c⟩ ⟨⟨hle,hdig,hcar,hval⟩,hlen⟩
 simp only at hle hdig hcar hval hlen
 have hg:(dE (s++List.replicate ((digs MB p).length+1- s.length) 0))[0+(((digs MB p).length:Nat):Int).toNat]?=some [u32 0]:=by
  rw[Nat.zero_add,Int.toNat_natCast,←hlen]
  exact cd_ (by rw[show s.length+1- s.length=0+1 by omega];exact m9_ _ _ _ rfl)
 have hset:(dE (s++List.replicate ((digs MB p).length+1- s.length) 0)).set (0+(((digs MB p).length:Nat):Int).toNat) [u32 c]=dE (s++[c]):=by
  rw[Nat.zero_add,Int.toNat_natCast,←hlen,dQ_,show s.length+1- s.length=0+1 by omega,mM_ _ _ _ _ rfl];simp
 have hres:trimD (s++[c])=digs MB (a+b):=by
  rw[ec_ (b:=MB) (by decide),dh_,hval,c9_ _ (by omega),c9_ _ (by omega),a3_ (by decide),a3_ (by decide),hpq]
  intro d hd
  rcases List.mem_append.1 hd with hd|hd
  exact hdig d hd
  simp at hd;subst hd;show d< 1000000000;omega
 rw[e2_]
 refine s_r 7 ?_
 refine a_6 ?_
 refine o_1n (.store rfl rfl hg rfl rfl rfl ts_236.h (nle rfl)) ?_
 refine an_ ?_
 refine AWp.ent (st':=⟨[(4,.lptr 3 0 0),(5,.arr (dE (s++[c])))],[(3,some ⟨31,1,[[.emp]]⟩)],4,63⟩) ?_ ?_
 refine as_ [] rfl rfl rfl au_r (fun hs=>?_) (fun hs=>?_)
 ·repeat' (first|exact aA_|refine aw_ rfl ?_ ?_)
  all_goals (first|(exact Cv.sealE hs rfl (aE_ rfl) hset (by simp[hlen]) (aW_ _))|exact au_c)
 ·repeat' (first|exact ao_|refine ak_ rfl rfl rfl rfl ?_ ?_)
  all_goals (first|exact au_e|(refine ae_ ?_;repeat' (first|exact ap_|refine af_ ?_ ?_)))
  all_goals (first|(exact Cv.sealE hs rfl (aE_ rfl) hset (by simp[hlen]) (aW_ _))|exact au_c)
 refine s_r 3 ?_
 refine o_0 (.move rfl) ?_
 refine o_0 (.call rfl rfl rfl (dn_ _ (by simp;omega))) ?_
 refine a_z ?_
 refine ai_ (bR_ rfl rfl rfl tg_31.h ts_31.h (nle rfl) ?_ (aq_ (aa_ (aL_ _) ab_)))
 rw[hres];rfl
def agS(a:Nat)(b:Nat):Nat→AState
 |k=>⟨[(2,.lptr 1 0 0),(3,.lptr 2 0 0),(6,i64 ((k:Int)- 1))],[(1,some ⟨31,1,[[mag a]]⟩),(2,some ⟨31,1,[[mag b]]⟩)],3,40⟩
theorem lH_(a:Nat)(b:Nat)(k:Nat):agS a b k=⟨[(2,.lptr 1 0 0),(3,.lptr 2 0 0),(6,i64 ((k:Int)- 1))],[(1,some ⟨31,1,[[mag a]]⟩),(2,some ⟨31,1,[[mag b]]⟩)],3,40⟩:=rfl
theorem gk_(a b:Nat)(h:bl a+bl b≤17592186044416):FSpec Tryz.prog 104 [.agg [mag a],.agg [mag b]] (i64 (cmpZ a b)):=by
 have hla:=a1_ (b:=MB) (by decide) a
 have hlb:=a1_ (b:=MB) (by decide) b
 refine f_n Tryz.func104 ?_ ?_
 exact aa_ (aq_ (aa_ (aL_ a) ab_)) (aa_ (aq_ (aa_ (aL_ b) ab_)) ab_)
 refine r_z 3 ?_
 refine ac_ (r_c 8 (lb_ _ _) ?_)
 refine a_z ?_
 refine r_z 2 ?_
 refine am_ rfl (fun h=>?_) (fun h=>?_)
 have hne:cmpZ (digs MB a).length (digs MB b).length≠0:=by simpa using h
 refine r_z 2 ?_
 refine ai_ (aP_ rfl ?_ (ad_ _))
 unfold i64
 congr 2
 rw[j9_] at hne
 rcases Nat.lt_or_ge (digs MB a).length (digs MB b).length with hl|hl
 have:=d3_ (by decide) hl
 rw[fB_ (by omega),fB_ (by omega)]
 have:=d3_ (m:=b) (n:=a) (b:=MB) (by decide) (by omega)
 rw[go_ (by omega),go_ (by omega)]
 have heq:(digs MB a).length=(digs MB b).length:=by
  have h0:¬cmpZ (digs MB a).length (digs MB b).length≠0:=by simpa using h
  rw[j9_] at h0;omega
 refine ag_ (ac_ (r_z 5 ?_))
 refine aD_ (agS a b) (fun k=>k=0∧a=b) ?_ ?_
 refine ah_ (ax_ (agS a b) (fun k=>k) (fun k=>k≤(digs MB a).length∧(digs MB a).drop k=(digs MB b).drop k) (digs MB a).length ⟨Nat.le_refl _,by rw[List.drop_length,heq,List.drop_length]⟩ ?_ ?_)
 rw[lH_]
 exact s_e []
 rintro k ⟨hk,hd⟩
 rw[lH_]
 refine ac_ (r_z 2 ?_)
 refine am_ rfl (fun h=>?_) (fun h=>?_)
 have hk0:0< k:=by have:=of_decide_eq_true h;omega
 obtain⟨x,hx⟩:∃x,(digs MB a)[k- 1]?=some x:=⟨_,List.getElem?_eq_getElem (by omega)⟩
 obtain⟨y,hy⟩:∃y,(digs MB b)[k- 1]?=some y:=⟨_,List.getElem?_eq_getElem (by omega)⟩
 have hx':(dE (digs MB a))[((k:Int)- 1).toNat]?=some [u32 x]:=by rw[show((k:Int)- 1).toNat=k- 1 by omega];exact cd_ hx
 have hy':(dE (digs MB b))[((k:Int)- 1).toNat]?=some [u32 y]:=by rw[show((k:Int)- 1).toNat=k- 1 by omega];exact cd_ hy
 rw[show k=(k- 1)+1 by omega] at hd
 refine ag_ (ac_ (ah_ (ac_ (r_d hmix 12 ?_))))
 refine a_3 ?_
 refine i_x hx' ?_
 refine l_1 hx' ?_
 refine a_3 ?_
 refine i_x hy' ?_
 refine l_1 hy' ?_
 refine c_s (la_ x y) ?_
 refine a_1 ?_
 refine an_ (n_k ?_)
 refine r_z 2 ?_
 refine am_ rfl (fun h2=>?_) (fun h2=>?_)
 have hne:cmpZ x y≠0:=by simpa using h2
 refine r_z 2 ?_
 refine ai_ (aP_ rfl ?_ (ad_ _))
 unfold i64
 congr 2
 rw[j9_] at hne
 rcases Nat.lt_or_ge x y with hl|hl
 have:=fP_ (b:=MB) (bU_ (by decide) a) hx hy hd hl
 rw[a3_ (by decide),a3_ (by decide)] at this
 rw[fB_ (by omega),fB_ (by omega)]
 have:=fP_ (b:=MB) (bU_ (by decide) b) hy hx hd.symm (by omega)
 rw[a3_ (by decide),a3_ (by decide)] at this
 rw[go_ (by omega),go_ (by omega)]
 have hxy:x=y:=by
  have h0:¬cmpZ x y≠0:=by simpa using h2
  rw[j9_] at h0;omega
 refine ag_ (r_m 3 ?_)
 refine a_z ?_
 refine⟨k- 1,by omega,⟨by omega,?_⟩,?_⟩
 rw[cV_ hx,cV_ hy,hd,hxy]
 rw[lH_]
 exact s_e []
 have hk0:k=0:=by have:=of_decide_eq_false h;omega
 subst hk0
 refine au_ ⟨0,⟨rfl,?_⟩,?_⟩
 have:=congrArg (ofD MB) hd
 rwa[List.drop_zero,List.drop_zero,a3_ (by decide),a3_ (by decide)] at this
 rw[lH_]
 exact s_e []
 rintro k ⟨rfl,hab⟩
 rw[lH_]
 refine r_z 1 ?_
 refine ai_ (aP_ rfl ?_ (ad_ _))
 subst hab
 rw[qF_ rfl];rfl
def leS(a:Nat)(b:Nat):List Nat×Nat→AState
 |(s,c)=>⟨[(19,i64 s.length),(18,i64 (digs MB a).length),(2,.lptr 1 0 0),(3,.lptr 2 0 0),(4,.lptr 3 0 0),(5,.lsl 4 0 (digs MB a).length (some (digs MB a).length) 1),(6,u32 c)],
  [(1,some ⟨31,1,[[mag a]]⟩),(2,some ⟨31,1,[[mag b]]⟩),(3,some ⟨31,1,[[.emp]]⟩),(4,some ⟨236,1,dE (s++(digs MB a).drop s.length)⟩)],5,61⟩
theorem m8_(a:Nat)(b:Nat)(s:List Nat)(c:Nat):leS a b (s,c)=⟨[(19,i64 s.length),(18,i64 (digs MB a).length),(2,.lptr 1 0 0),(3,.lptr 2 0 0),(4,.lptr 3 0 0),(5,.lsl 4 0 (digs MB a).length (some (digs MB a).length) 1),(6,u32 c)],
   [(1,some ⟨31,1,[[mag a]]⟩),(2,some ⟨31,1,[[mag b]]⟩),(3,some ⟨31,1,[[.emp]]⟩),(4,some ⟨236,1,dE (s++(digs MB a).drop s.length)⟩)],5,61⟩:=rfl
def leT(n:Nat):List Nat×Unit→AState
 |(o,u)=>⟨[(4,.lptr 3 0 0),(5,.lsl 4 0 n (some n) 1)],
  [(3,some ⟨31,1,[[.emp]]⟩),(4,some ⟨236,1,dE o⟩)],5,61⟩
theorem py_(n:Nat)(o:List Nat)(u:Unit):leT n (o,u)=⟨[(4,.lptr 3 0 0),(5,.lsl 4 0 n (some n) 1)],
   [(3,some ⟨31,1,[[.emp]]⟩),(4,some ⟨236,1,dE o⟩)],5,61⟩:=rfl
structure LessI (a b:Nat)(x:List Nat×Nat):Prop where
 le:x.1.length≤(digs MB a).length
 dig:∀d∈x.1,d< MB
 car:x.2≤1
 val:ofD MB x.1+ofD MB ((digs MB b).take x.1.length)=ofD MB ((digs MB a).take x.1.length)+MB^ x.1.length* x.2
theorem l9_(a b:Nat)(h:bl a≤17592186044416)(hba:b≤a):FSpec Tryz.prog 179 [.agg [mag a],.agg [mag b]] (.agg [mag (a- b)]):=by
 have hla:=a1_ (b:=MB) (by decide) a
 have hlen:=m6_ (b:=MB) (by decide) hba
 have va:=a3_ (b:=MB) (by decide) a
 have vb:=a3_ (b:=MB) (by decide) b
 refine f_n Tryz.func179 ?_ ?_
 exact aa_ (aq_ (aa_ (aL_ a) ab_)) (aa_ (aq_ (aa_ (aL_ b) ab_)) ab_)
 refine r_z 3 ?_
 refine r_z 5 ?_
 refine s_r 4 ?_
 refine a_3 ?_
 refine o_1 (.copy rfl rfl rfl te_29.h rfl rfl rfl (by first|(simp;done)|(simp;omega)) (by first|exact dR_ _|exact dI_ _|exact df_ _|exact dS_ _|exact dw_ _|rfl|simp) rfl (.arr (mu_ _))) ?_
 refine an_ ?_
 have hcp:setAt (List.replicate (digs MB a).length [ofV (Value.int IntKind.u32 0)]) 0 (List.take (Nat.min (dE (digs MB a)).length (digs MB a).length) (dE (digs MB a)))=dE ([]++(digs MB a).drop 0):=by
  rw[o2_]
  rw[List.take_of_length_le (by simp)];rfl
  simp
 refine r_z 1 ?_
 refine ac_ (r_z 3 ?_)
 refine aD_ (leT (digs MB a).length) (fun x=>(∀d∈x.1,d< MB)∧x.1.length=(digs MB a).length∧ofD MB x.1=a- b) ?_ ?_
 refine ah_ (ax_ (leS a b) (fun x=>(digs MB a).length- x.1.length) (LessI a b) ([],0) ⟨by simp,by simp,by simp,by simp[ofD]⟩ ?_ ?_)
 rw[m8_]
 refine as_ [(4,5)] rfl rfl rfl ?_ (fun hs=>au_f) (fun hs=>?_)
 ·repeat' (first|exact ShrL.nil|refine ShrL.cons rfl rfl rfl rfl (by first|(exact(congrArg List.length hcp).trans (by simp))|rfl|(simp;done)|(simp <;> omega)) ?_)
 ·repeat' (first|exact ao_|refine ak_ rfl rfl rfl rfl ?_ ?_)
  all_goals (first|(exact aG_ hs hcp (aW_ _))|exact au_e)
 rintro⟨s,c⟩ ⟨hle,hdig,hcar,hval⟩
 simp only at hle hdig hcar hval
 rw[m8_]
 refine r_z 1 ?_
 refine ac_ (am_ rfl (fun h=>?_) (fun h=>?_))
 have hlt:s.length< (digs MB a).length:=by have:=of_decide_eq_true h;omega
 obtain⟨x,hx⟩:∃x,(digs MB a)[s.length]?=some x:=⟨_,List.getElem?_eq_getElem hlt⟩
 have hx1:x< 1000000000:=bn_ (by decide) hx
 have hdx:=cV_ hx
 refine ag_ (ac_ (ah_ (r_z 2 ?_)))
 refine r_z 2 ?_
 refine ac_ (r_z 5 ?_)
 refine aD_ (fun v:Nat=>⟨[(19,i64 s.length),(18,i64 (digs MB a).length),(2,.lptr 1 0 0),(3,.lptr 2 0 0),(4,.lptr 3 0 0),(5,.lsl 4 0 (digs MB a).length (some (digs MB a).length) 1),(6,u32 c),(7,i64 s.length),(8,u32 v)],
  [(1,some ⟨31,1,[[mag a]]⟩),(2,some ⟨31,1,[[mag b]]⟩),(3,some ⟨31,1,[[.emp]]⟩),(4,some ⟨236,1,dE (s++(digs MB a).drop s.length)⟩)],5,61⟩)
  (fun v=>v=c+(digs MB b)[s.length]?.getD 0∧v≤1000000000) ?_ ?_
 refine am_ rfl (fun h=>?_) (fun h=>?_)
 have hlt2:s.length< (digs MB b).length:=by have:=of_decide_eq_true h;omega
 obtain⟨y,hy⟩:∃y,(digs MB b)[s.length]?=some y:=⟨_,List.getElem?_eq_getElem hlt2⟩
 have hy1:y< 1000000000:=bn_ (by decide) hy
 have hy':(dE (digs MB b))[((s.length:Nat):Int).toNat]?=some [u32 y]:=cd_ hy
 refine r_m 8 ?_
 refine a_4 ?_
 refine i_x hy' ?_
 refine l_1 hy' ?_
 refine a_z ?_
 refine⟨c+y,⟨by rw[hy];rfl,by omega⟩,?_⟩
 exact s_e []
 have hlt2:¬s.length< (digs MB b).length:=by have:=of_decide_eq_false h;omega
 refine r_z 2 ?_
 refine am_ rfl (fun h=>?_) (fun h=>?_)
 have hc0:c=0:=by simpa using h
 refine au_ ⟨(s++(digs MB a).drop s.length,()),⟨?_,by simp;omega,?_⟩,?_⟩
 intro d hd
 rcases List.mem_append.1 hd with hd|hd
 exact hdig d hd
 exact bU_ (by decide) a d (List.mem_of_mem_drop hd)
 have:=b0_ MB s.length (digs MB a) (by omega)
 rw[va] at this
 rw[c9_ _ (by omega),vb,hc0] at hval
 simp only[c0_]
 omega
 rw[py_]
 exact s_e []
 refine ag_ ⟨c,⟨by rw[List.getElem?_eq_none (by omega)];rfl,by omega⟩,?_⟩
 exact s_e []
 rintro v ⟨hv,hv1⟩
 obtain⟨y,hy⟩:∃y,y=(digs MB b)[s.length]?.getD 0:=⟨_,rfl⟩
 rw[←hy] at hv
 have hg:(dE (s++(digs MB a).drop s.length))[0+((s.length:Nat):Int).toNat]?=some [u32 x]:=by
  rw[Nat.zero_add,Int.toNat_natCast,hdx]
  exact cd_ (hQ_ _ _ _ _ rfl)
 have hset:∀w:Nat,(dE (s++(digs MB a).drop s.length)).set (0+((s.length:Nat):Int).toNat) [u32 w]=dE ((s++[w])++(digs MB a).drop (s++[w]).length):=by
  intro w
  rw[Nat.zero_add,Int.toNat_natCast,dQ_,hdx,hj_ _ _ _ _ _ rfl];simp
 have hnext:∀w c',w+v=x+1000000000* c'→w< 1000000000→c'≤1→LessI a b (s++[w],c'):=by
  intro w c' hw hwb hc'
  refine⟨by simp;omega,?_,hc',?_⟩
  intro d hd
  rcases List.mem_append.1 hd with hd|hd
  exact hdig d hd
  simp at hd;subst hd;exact hwb
  simp only[List.length_append,List.length_singleton]
  rw[dh_,br_ _ hx,cn_,←hy,Nat.pow_succ]
  have e:MB^ s.length* (w+v)=MB^ s.length* (x+MB* c'):=by rw[hw]
  rw[hv,Nat.mul_add,Nat.mul_add,Nat.mul_add,←Nat.mul_assoc] at e
  omega
 refine r_z 1 ?_
 refine ac_ (s_r 6 ?_)
 refine a_2 ?_
 first|refine aB_ (.index_l rfl rfl (by omega) (by omega) te_29.h) rfl rfl ?_|refine aB_ (.index_a rfl rfl (by omega) hg rfl te_29.h) rfl rfl ?_
 first|refine aB_ (.load_l1 rfl rfl hg tg_236.h rfl) rfl rfl ?_|refine aB_ (.load_a1 rfl hg tg_236.h rfl) rfl rfl ?_
 refine a_z ?_
 refine am_ rfl (fun h=>?_) (fun h=>?_)
 have hb:x< v:=by have:=of_decide_eq_true h;omega
 have hv2:((x:Int)+1000000000- v)=((x+1000000000- v:Nat):Int):=by omega
 have hv3:((x:Int)+1000000000)=((x+1000000000:Nat):Int):=by omega
 refine r_m 10 ?_
 refine a_5 ?_
 first|refine aB_ (.load_l1 rfl rfl hg tg_236.h rfl) rfl rfl ?_|refine aB_ (.load_a1 rfl hg tg_236.h rfl) rfl rfl ?_
 refine a_2 ?_
 refine o_1n (.store rfl rfl hg rfl rfl rfl ts_236.h (nle rfl)) ?_
 refine a_z ?_
 refine AWp.ent (st':=⟨[(19,i64 s.length),(18,i64 (digs MB a).length),(2,.lptr 1 0 0),(3,.lptr 2 0 0),(4,.lptr 3 0 0),(5,.lsl 4 0 (digs MB a).length (some (digs MB a).length) 1),(6,u32 1),(7,i64 s.length),(8,u32 v)],
  [(1,some ⟨31,1,[[mag a]]⟩),(2,some ⟨31,1,[[mag b]]⟩),(3,some ⟨31,1,[[.emp]]⟩),(4,some ⟨236,1,dE (s++(x+1000000000)::(digs MB a).drop (s.length+1))⟩)],5,61⟩) ?_ ?_
 refine as_ [] rfl rfl rfl au_r (fun hs=>au_f) (fun hs=>?_)
 ·repeat' (first|exact ao_|refine ak_ rfl rfl rfl rfl ?_ ?_)
  all_goals (first|(refine aG_ hs ?_ (aW_ _);rw[hv3];exact(hset _).trans (by simp))|exact au_e)
 have hg2:(dE (s++(x+1000000000)::(digs MB a).drop (s.length+1)))[0+((s.length:Nat):Int).toNat]?=some [u32 (x+1000000000)]:=by
  rw[Nat.zero_add,Int.toNat_natCast]
  exact cd_ (hQ_ _ _ _ _ rfl)
 have hset2:∀w:Nat,(dE (s++(x+1000000000)::(digs MB a).drop (s.length+1))).set (0+((s.length:Nat):Int).toNat) [u32 w]=dE ((s++[w])++(digs MB a).drop (s++[w]).length):=by
  intro w
  rw[Nat.zero_add,Int.toNat_natCast,dQ_,hj_ _ _ _ _ _ rfl];simp
 have hv2:(((x+1000000000:Nat):Int)- v)=((x+1000000000- v:Nat):Int):=by omega
 refine r_m 8 ?_
 refine a_2 ?_
 first|refine aB_ (.index_l rfl rfl (by omega) (by omega) te_29.h) rfl rfl ?_|refine aB_ (.index_a rfl rfl (by omega) hg2 rfl te_29.h) rfl rfl ?_
 first|refine aB_ (.load_l1 rfl rfl hg2 tg_236.h rfl) rfl rfl ?_|refine aB_ (.load_a1 rfl hg2 tg_236.h rfl) rfl rfl ?_
 refine a_3 ?_
 refine o_1n (.store rfl rfl hg2 rfl rfl rfl ts_236.h (nle rfl)) ?_
 refine an_ ?_
 refine r_m 2 ?_
 refine a_z ?_
 refine⟨(s++[x+1000000000- v],1),by simp;omega,hnext _ _ (by omega) (by omega) (by omega),?_⟩
 rw[m8_]
 refine as_ [] rfl rfl rfl au_r (fun hs=>au_f) (fun hs=>?_)
 ·repeat' (first|exact ao_|refine ak_ rfl rfl rfl rfl ?_ ?_)
  all_goals (first|(refine aG_ hs ?_ (aW_ _);rw[hv2];exact hset2 _)|exact au_e)
 have hb:v≤x:=by have:=of_decide_eq_false h;omega
 have hv1:((x:Int)- v)=((x- v:Nat):Int):=by omega
 refine ag_ (r_m 8 ?_)
 refine a_2 ?_
 first|refine aB_ (.index_l rfl rfl (by omega) (by omega) te_29.h) rfl rfl ?_|refine aB_ (.index_a rfl rfl (by omega) hg rfl te_29.h) rfl rfl ?_
 first|refine aB_ (.load_l1 rfl rfl hg tg_236.h rfl) rfl rfl ?_|refine aB_ (.load_a1 rfl hg tg_236.h rfl) rfl rfl ?_
 refine a_3 ?_
 refine o_1n (.store rfl rfl hg rfl rfl rfl ts_236.h (nle rfl)) ?_
 refine an_ ?_
 refine r_m 2 ?_
 refine a_z ?_
 refine⟨(s++[x- v],0),by simp;omega,hnext _ _ (by omega) (by omega) (by omega),?_⟩
 rw[m8_]
 refine as_ [] rfl rfl rfl au_r (fun hs=>au_f) (fun hs=>?_)
 ·repeat' (first|exact ao_|refine ak_ rfl rfl rfl rfl ?_ ?_)
  all_goals (first|(refine aG_ hs ?_ (aW_ _);rw[hv1];exact hset _)|exact au_e)
 have hl:s.length=(digs MB a).length:=by have:=of_decide_eq_false h;omega
 refine au_ ⟨(s,()),⟨hdig,hl,?_⟩,?_⟩
 have h1:=da_ hdig
 rw[hl,c9_ _ hlen,c9_ _ (Nat.le_refl _),va,vb] at hval
 rw[hl] at h1
 have h2:c=0:=by
  rcases Nat.eq_zero_or_pos c with h|h
  exact h
  have:MB^ (digs MB a).length* 1≤MB^ (digs MB a).length* c:=Nat.mul_le_mul_left _ h
  omega
 subst h2
 simp at hval⊢
 omega
 rw[py_]
 refine as_ [] rfl rfl rfl ?_ (fun hs=>?_) (fun hs=>?_)
 ·repeat' (first|exact ShrL.nil|refine ShrL.cons rfl rfl rfl rfl (by first|rfl|(simp;done)|(simp[hl]<;> omega)) ?_)
 ·repeat' (first|exact aA_|refine aw_ rfl ?_ ?_)
  all_goals (first|exact au_c|(refine Cv.loE hs ?_ (ad_ _);first|rfl|(simp[i64,u64,u32,bln,hl];done)|(simp[i64,u64,u32,bln,hl]<;> omega)))
 ·repeat' (first|exact ao_|refine ak_ rfl rfl rfl rfl ?_ ?_)
  all_goals (first|exact au_e|(refine aG_ hs ?_ (aW_ _);first|(simp[dQ_,eR_,dc_,hl];done)|(simp[dE,u32,ofV,hl];done))|(refine ae_ ?_;repeat' (first|exact ap_|refine af_ ?_ ?_)))
  all_goals (first|exact au_c|(refine Cv.loE hs ?_ (ad_ _);first|(simp[i64,u64,u32,bln,hl];done)|(simp[i64,u64,u32,bln,hl]<;> omega)))
 rintro⟨o,u⟩ ⟨hd,hl,hv⟩
 rw[py_]
 refine AWp.ent (st':=⟨[(4,.lptr 3 0 0),(5,.arr (dE o))],[(3,some ⟨31,1,[[.emp]]⟩)],4,61⟩) ?_ ?_
 refine as_ [] rfl rfl rfl au_r (fun hs=>?_) (fun hs=>?_)
 ·repeat' (first|exact aA_|refine aw_ rfl ?_ ?_)
  all_goals (first|(exact Cv.sealE hs rfl (aE_ rfl) rfl (by simp[hl]) (aW_ _))|exact au_c)
 ·repeat' (first|exact ao_|refine ak_ rfl rfl rfl rfl ?_ ?_)
  all_goals (first|exact au_e|(refine ae_ ?_;repeat' (first|exact ap_|refine af_ ?_ ?_)))
  all_goals (first|(exact Cv.sealE hs rfl (aE_ rfl) rfl (by simp[hl]) (aW_ _))|exact au_c)
 simp only at hl hv
 refine s_r 3 ?_
 refine o_0 (.move rfl) ?_
 refine o_0 (.call rfl rfl rfl (dn_ _ (by omega))) ?_
 refine o_1n (.store rfl rfl rfl rfl rfl rfl ts_31.h (nle rfl)) ?_
 refine an_ ?_
 refine ai_ (bR_ rfl rfl rfl tg_31.h ts_31.h (nle rfl) ?_ (aq_ (aa_ (aL_ _) ab_)))
 rw[ec_ (b:=MB) (by decide) hd,hv];rfl
def tiS(a:Nat)(b:Nat):List Nat×Nat→AState
 |(o,i)=>⟨[(22,i64 i),(21,i64 (digs MB a).length),(20,mag a),(3,.lptr 2 0 0),(4,.lptr 3 0 0),(5,.lsl 4 0 ((digs MB a).length+(digs MB b).length) (some ((digs MB a).length+(digs MB b).length)) 1)],
  [(2,some ⟨31,1,[[mag b]]⟩),(3,some ⟨31,1,[[.emp]]⟩),(4,some ⟨236,1,dE o⟩)],5,73⟩
theorem kr_(a:Nat)(b:Nat)(o:List Nat)(i:Nat):tiS a b (o,i)=⟨[(22,i64 i),(21,i64 (digs MB a).length),(20,mag a),(3,.lptr 2 0 0),(4,.lptr 3 0 0),(5,.lsl 4 0 ((digs MB a).length+(digs MB b).length) (some ((digs MB a).length+(digs MB b).length)) 1)],
   [(2,some ⟨31,1,[[mag b]]⟩),(3,some ⟨31,1,[[.emp]]⟩),(4,some ⟨236,1,dE o⟩)],5,73⟩:=rfl
def tiT(a:Nat)(b:Nat)(i:Nat)(x:Nat):List Nat×Nat×Nat→AState
 |(o,k,c)=>⟨[(22,i64 i),(21,i64 (digs MB a).length),(20,mag a),(3,.lptr 2 0 0),(4,.lptr 3 0 0),(5,.lsl 4 0 ((digs MB a).length+(digs MB b).length) (some ((digs MB a).length+(digs MB b).length)) 1),(6,i64 i),(7,u32 x),(8,u64 c),(30,i64 k),(29,i64 (digs MB b).length),(28,mag b)],
  [(2,some ⟨31,1,[[mag b]]⟩),(3,some ⟨31,1,[[.emp]]⟩),(4,some ⟨236,1,dE o⟩)],5,73⟩
theorem kq_(a:Nat)(b:Nat)(i:Nat)(x:Nat)(o:List Nat)(k:Nat)(c:Nat):tiT a b i x (o,k,c)=⟨[(22,i64 i),(21,i64 (digs MB a).length),(20,mag a),(3,.lptr 2 0 0),(4,.lptr 3 0 0),(5,.lsl 4 0 ((digs MB a).length+(digs MB b).length) (some ((digs MB a).length+(digs MB b).length)) 1),(6,i64 i),(7,u32 x),(8,u64 c),(30,i64 k),(29,i64 (digs MB b).length),(28,mag b)],
   [(2,some ⟨31,1,[[mag b]]⟩),(3,some ⟨31,1,[[.emp]]⟩),(4,some ⟨236,1,dE o⟩)],5,73⟩:=rfl
structure TimesI (a b:Nat)(x:List Nat×Nat):Prop where
 len:x.1.length=(digs MB a).length+(digs MB b).length
 le:x.2≤(digs MB a).length
 dig:∀d∈x.1,d< MB
 val:ofD MB x.1=ofD MB ((digs MB a).take x.2) * b
 zer:∀j,x.2+(digs MB b).length≤j→j< x.1.length→x.1[j]?=some 0
structure TimesJ (a b i v:Nat)(x:List Nat×Nat×Nat):Prop where
 len:x.1.length=(digs MB a).length+(digs MB b).length
 le:x.2.1≤(digs MB b).length
 dig:∀d∈x.1,d< MB
 car:x.2.2< MB
 val:ofD MB x.1+MB^ (i+x.2.1) * x.2.2=ofD MB ((digs MB a).take i) * b+MB^ i* v* ofD MB ((digs MB b).take x.2.1)
 zer:∀j,i+(digs MB b).length≤j→j< x.1.length→x.1[j]?=some 0
theorem dJ_(a b:Nat)(h:bl a+bl b≤17592186044416):FSpec Tryz.prog 93 [.agg [mag a],.agg [mag b]] (.agg [mag (a* b)]):=by
 have hla:=a1_ (b:=MB) (by decide) a
 have hlb:=a1_ (b:=MB) (by decide) b
 have va:=a3_ (b:=MB) (by decide) a
 have vb:=a3_ (b:=MB) (by decide) b
 refine f_n Tryz.func93 ?_ ?_
 exact aa_ (aq_ (aa_ (aL_ a) ab_)) (aa_ (aq_ (aa_ (aL_ b) ab_)) ab_)
 refine r_z 3 ?_
 refine r_z 9 ?_
 refine ac_ (r_z 4 ?_)
 refine aD_ (tiS a b) (fun x=>TimesI a b x∧x.2=(digs MB a).length) ?_ ?_
 refine ah_ (ax_ (tiS a b) (fun x=>(digs MB a).length- x.2) (TimesI a b) (List.replicate ((digs MB a).length+(digs MB b).length) 0,0) ⟨by simp,by simp,?_,by simp[hv_,ofD],?_⟩ ?_ ?_)
 intro d hd;simp at hd;rw[hd.2];decide
 intro j _ hj;simp at hj;simp[hj]
 rw[kr_]
 exact s_e [(4,5)]
 rintro⟨o,i⟩ ⟨hlen,hle,hdig,hval,hzer⟩
 simp only at hlen hle hdig hval hzer
 rw[kr_]
 refine r_z 1 ?_
 refine ac_ (am_ rfl (fun h=>?_) (fun h=>?_))
 have hlt:i< (digs MB a).length:=by have:=of_decide_eq_true h;omega
 obtain⟨x,hx⟩:∃x,(digs MB a)[i]?=some x:=⟨_,List.getElem?_eq_getElem hlt⟩
 have hx1:x< 1000000000:=bn_ (by decide) hx
 have hx':(dE (digs MB a))[((i:Nat):Int).toNat]?=some [u32 x]:=cd_ hx
 refine ag_ (ac_ (ah_ (s_r 5 ?_)))
 refine a_1 ?_
 refine i_x hx' ?_
 refine l_1 hx' ?_
 refine a_z ?_
 refine r_z 1 ?_
 refine ac_ (r_z 4 ?_)
 refine aD_ (tiT a b i x) (fun y=>TimesJ a b i x y∧y.2.1=(digs MB b).length) ?_ ?_
 refine ah_ (ax_ (tiT a b i x) (fun y=>(digs MB b).length- y.2.1) (TimesJ a b i x) (o,0,0) ⟨hlen,by simp,hdig,(show 0< MB by decide),by simp[hval,ofD],hzer⟩ ?_ ?_)
 rw[kq_]
 exact s_e []
 rintro⟨q,k,c⟩ ⟨jlen,jle,jdig,jcar,jval,jzer⟩
 simp only at jlen jle jdig jcar jval jzer
 rw[kq_]
 refine r_z 1 ?_
 refine ac_ (am_ rfl (fun h=>?_) (fun h=>?_))
 have hltk:k< (digs MB b).length:=by have:=of_decide_eq_true h;omega
 obtain⟨y,hy⟩:∃y,(digs MB b)[k]?=some y:=⟨_,List.getElem?_eq_getElem hltk⟩
 have hy1:y< 1000000000:=bn_ (by decide) hy
 have hy':(dE (digs MB b))[((k:Nat):Int).toNat]?=some [u32 y]:=cd_ hy
 obtain⟨d,hd⟩:∃d,q[i+k]?=some d:=⟨_,List.getElem?_eq_getElem (by omega)⟩
 have hd1:d< 1000000000:=jdig d (List.mem_of_getElem? hd)
 have hc1:c< 1000000000:=jcar
 have hg:(dE q)[0+(((i:Int)+k)).toNat]?=some [u32 d]:=by rw[show 0+((i:Int)+k).toNat=i+k by omega];exact cd_ hd
 have hset:∀w:Nat,(dE q).set (0+(((i:Int)+k)).toNat) [u32 w]=dE (q.set (i+k) w):=by intro w;rw[show 0+((i:Int)+k).toNat=i+k by omega,dQ_]
 have hxy0:x* y≤999999999* 999999999:=Nat.mul_le_mul (by omega) (by omega)
 have hxyn:0≤(x:Int) * y:=Int.mul_nonneg (by omega) (by omega)
 have hxyi:(x:Int) * y=((x* y:Nat):Int):=by push_cast;rfl
 refine ag_ (ac_ (ah_ (s_r 5 ?_)))
 refine a_1 ?_
 refine i_x hy' ?_
 refine l_1 hy' ?_
 refine a_z ?_
 refine s_r 16 ?_
 refine a_8 ?_
 refine a_2 ?_
 first|refine aB_ (.index_l rfl rfl (by omega) (by omega) te_29.h) rfl rfl ?_|refine aB_ (.index_a rfl rfl (by omega) hg rfl te_29.h) rfl rfl ?_
 first|refine aB_ (.load_l1 rfl rfl hg tg_236.h rfl) rfl rfl ?_|refine aB_ (.load_a1 rfl hg tg_236.h rfl) rfl rfl ?_
 refine a_z ?_
 refine r_m 12 ?_
 refine a_8 ?_
 refine a_2 ?_
 refine o_1n (.store rfl rfl hg rfl rfl rfl ts_236.h (nle rfl)) ?_
 refine a_z ?_
 refine r_m 2 ?_
 refine a_z ?_
 have hm:((c:Int)+((x:Int) * y+d)) % 1000000000=(((c+(x* y+d)) % 1000000000:Nat):Int):=by rw[hxyi];omega
 have hq:((c:Int)+((x:Int) * y+d)) / 1000000000=(((c+(x* y+d)) / 1000000000:Nat):Int):=by rw[hxyi];omega
 refine⟨(q.set (i+k) ((c+(x* y+d)) % 1000000000),k+1,(c+(x* y+d)) / 1000000000),by simp;omega,⟨by simp[jlen],by simp;omega,jD_ jdig (Nat.mod_lt _ (by decide)),?_,?_,?_⟩,?_⟩
 show _< 1000000000;simp only;omega
 simp only
 have e1:=hw_ MB ((c+(x* y+d)) % 1000000000) hd
 have e2:=Nat.mod_add_div (c+(x* y+d)) 1000000000
 have e3:MB^ (i+k) * ((c+(x* y+d)) % 1000000000)+MB^ (i+(k+1)) * ((c+(x* y+d)) / 1000000000)=MB^ (i+k) * c+(MB^ (i+k) * (x* y)+MB^ (i+k) * d):=by
  rw[←Nat.add_assoc i k 1,Nat.pow_succ,Nat.mul_assoc,←Nat.mul_add,show MB* ((c+(x* y+d)) / 1000000000)=1000000000* ((c+(x* y+d)) / 1000000000) from rfl,e2,Nat.mul_add,Nat.mul_add]
 have e4:MB^ i* x* ofD MB ((digs MB b).take (k+1))=MB^ i* x* ofD MB ((digs MB b).take k)+MB^ (i+k) * (x* y):=by
  rw[br_ _ hy,Nat.mul_add]
  congr 1
  rw[Nat.pow_add]
  simp only[Nat.mul_assoc,Nat.mul_left_comm,Nat.mul_comm]
 rw[e4]
 omega
 intro j hj hj2
 rw[List.getElem?_set_ne (by omega)]
 exact jzer j hj (by simpa using hj2)
 rw[kq_]
 refine as_ [] rfl rfl rfl au_r (fun hs=>?_) (fun hs=>?_)
 ·repeat' (first|exact aA_|refine aw_ rfl ?_ ?_)
  all_goals (first|(exact Cv.loE hs (congrArg (fun z=>AV.v (.int .u64 z)) hq) (ad_ _))|exact au_c)
 ·repeat' (first|exact ao_|refine ak_ rfl rfl rfl rfl ?_ ?_)
  all_goals (first|(refine aG_ hs ?_ (aW_ _);rw[hm];exact hset _)|exact au_e|(refine ae_ ?_;repeat' (first|exact ap_|refine af_ ?_ ?_)))
  all_goals (first|(exact Cv.loE hs (congrArg (fun z=>AV.v (.int .u64 z)) hq) (ad_ _))|exact au_c)
 have hk:k=(digs MB b).length:=by have:=of_decide_eq_false h;omega
 refine au_ ⟨(q,k,c),⟨⟨jlen,jle,jdig,jcar,jval,jzer⟩,hk⟩,?_⟩
 rw[kq_]
 exact s_e []
 rintro⟨q,k,c⟩ ⟨⟨jlen,jle,jdig,jcar,jval,jzer⟩,hk⟩
 simp only at jlen jle jdig jcar jval jzer hk
 subst hk
 have hc1:c< 1000000000:=jcar
 have hz:=jzer (i+(digs MB b).length) (Nat.le_refl _) (by omega)
 have hg:(dE q)[0+(((i:Int)+(digs MB b).length)).toNat]?=some [u32 0]:=by rw[show 0+((i:Int)+(digs MB b).length).toNat=i+(digs MB b).length by omega];exact cd_ hz
 have hset:(dE q).set (0+(((i:Int)+(digs MB b).length)).toNat) [u32 c]=dE (q.set (i+(digs MB b).length) c):=by rw[show 0+((i:Int)+(digs MB b).length).toNat=i+(digs MB b).length by omega,dQ_]
 rw[List.take_length,vb] at jval
 rw[kq_]
 refine r_m 10 ?_
 refine a_8 ?_
 refine a_1 ?_
 refine o_1n (.store rfl rfl hg rfl rfl rfl ts_236.h (nle rfl)) ?_
 refine an_ ?_
 refine r_m 2 ?_
 refine a_z ?_
 refine⟨(q.set (i+(digs MB b).length) c,i+1),by simp;omega,⟨by simp[jlen],by simp;omega,jD_ jdig jcar,?_,?_⟩,?_⟩
 simp only
 have e1:=hw_ MB c hz
 rw[br_ _ hx,Nat.add_mul,←jval]
 omega
 intro j hj hj2
 rw[List.getElem?_set_ne (by simp only at hj;omega)]
 exact jzer j (by simp only at hj;omega) (by simpa using hj2)
 rw[kr_]
 exact s_f []
 have hi:i=(digs MB a).length:=by have:=of_decide_eq_false h;omega
 refine au_ ⟨(o,i),⟨⟨hlen,hle,hdig,hval,hzer⟩,hi⟩,?_⟩
 rw[kr_]
 exact s_e []
 rintro⟨o,i⟩ ⟨⟨hlen,hle,hdig,hval,hzer⟩,hi⟩
 simp only at hlen hle hdig hval hzer hi
 subst hi
 rw[List.take_length,va] at hval
 rw[kr_]
 refine AWp.ent (st':=⟨[(4,.lptr 3 0 0),(5,.arr (dE o))],[(3,some ⟨31,1,[[.emp]]⟩)],4,73⟩) ?_ ?_
 refine as_ [] rfl rfl rfl au_r (fun hs=>?_) (fun hs=>?_)
 ·repeat' (first|exact aA_|refine aw_ rfl ?_ ?_)
  all_goals (first|(exact Cv.sealE hs rfl (aE_ rfl) rfl (by simp[hlen]) (aW_ _))|exact au_c)
 ·repeat' (first|exact ao_|refine ak_ rfl rfl rfl rfl ?_ ?_)
  all_goals (first|exact au_e|(refine ae_ ?_;repeat' (first|exact ap_|refine af_ ?_ ?_)))
  all_goals (first|(exact Cv.sealE hs rfl (aE_ rfl) rfl (by simp[hlen]) (aW_ _))|exact au_c)
 refine s_r 3 ?_
 refine o_0 (.move rfl) ?_
 refine o_0 (.call rfl rfl rfl (dn_ _ (by omega))) ?_
 refine o_1n (.store rfl rfl rfl rfl rfl rfl ts_31.h (nle rfl)) ?_
 refine an_ ?_
 refine ai_ (bR_ rfl rfl rfl tg_31.h ts_31.h (nle rfl) ?_ (aq_ (aa_ (aL_ _) ab_)))
 rw[ec_ (b:=MB) (by decide) hdig,hval];rfl
end Go.Proofs.YtdjfjpeoddmamaaGreatDoor
