/- What is within, touches, or is in a state hangs on no corner with which the polygon begins, and on no way around: the law returns true for every input, and leaves its arguments as they were. -/
import Derived.Test.YtjhnmpfaemhnhaaLFenceMoved
import Derived.KernelRfl
set_option linter.unusedVariables false
namespace Go.Xv
/- 13 _fence_State -/
def c_fence_State : Cfg := ⟨[0, 1, 2, 3, 4, 6, 7, 8, 9, 10, 11, 13, 14, 28, 61, 74], [], [1000061, 1000074], [(8, [0, 1, 2, 3, 4, 6, 7, 8, 9, 10, 11, 13, 14, 28, 61, 74]), (9, [0, 1, 2, 3, 4, 6, 7, 8, 9, 10, 11, 13, 14, 28, 61, 74])]⟩
def ti_fence_State : List TV := [.agg [.v (.bool), .fs (.lit 0) .hole 2, .v (.int .i64), .v (.int .i64)], .v (.agg [.int .i64, .int .i64, .int .i64]), .v (.int .i64)]
def to_fence_State : TV := .v (.tup [.int .i64, .int .i64])
def S_fence_State (F : Nat) : FuncId → List VV → Option (Bool × VV) := words [(11, s_fence_Touches F), (8, s_fence_Within F), (28, s_fence_Zone_height F)]
def TN_fence_State_0 : TS := ⟨[(0, .agg [.v (.bool), .fs (.lit 0) .hole 2, .v (.int .i64), .v (.int .i64)]), (1, .v (.agg [.int .i64, .int .i64, .int .i64])), (2, .v (.int .i64)), (3, .lp 0 (.lit 0)), (4, .lp 1 (.lit 0)), (6, .v (.int .i64)), (7, .v (.int .i64)), (8, .lp 2 (.lit 0)), (9, .v (.bool)), (10, .v (.int .i64)), (11, .v (.bool)), (13, .v (.bool)), (14, .v (.bool))], [(0, ⟨(.ex [.v (.bool), .fs (.lit 0) .hole 2, .v (.int .i64), .v (.int .i64)]), false⟩), (1, ⟨(.ex [.v (.int .i64), .v (.int .i64), .v (.int .i64)]), true⟩), (2, ⟨(.ex [.v (.int .i64), .v (.int .i64)]), true⟩)], 3⟩
def TN_fence_State_0_0 : TS := ⟨[(0, .agg [.v (.bool), .fs (.lit 0) .hole 2, .v (.int .i64), .v (.int .i64)]), (1, .v (.agg [.int .i64, .int .i64, .int .i64])), (2, .v (.int .i64)), (3, .lp 0 (.lit 0)), (4, .lp 1 (.lit 0)), (6, .v (.int .i64)), (7, .v (.int .i64)), (8, .lp 2 (.lit 0)), (9, .v (.bool)), (10, .v (.int .i64)), (11, .v (.bool)), (13, .v (.bool)), (14, .v (.bool)), (61, .v (.bool))], [(0, ⟨(.ex [.v (.bool), .fs (.lit 0) .hole 2, .v (.int .i64), .v (.int .i64)]), false⟩), (1, ⟨(.ex [.v (.int .i64), .v (.int .i64), .v (.int .i64)]), true⟩), (2, ⟨(.ex [.v (.int .i64), .v (.int .i64)]), true⟩)], 3⟩
def TN_fence_State_0_1 : TS := ⟨[(0, .agg [.v (.bool), .fs (.lit 0) .hole 2, .v (.int .i64), .v (.int .i64)]), (1, .v (.agg [.int .i64, .int .i64, .int .i64])), (2, .v (.int .i64)), (3, .lp 0 (.lit 0)), (4, .lp 1 (.lit 0)), (6, .v (.int .i64)), (7, .v (.int .i64)), (8, .lp 2 (.lit 0)), (9, .v (.bool)), (10, .v (.int .i64)), (11, .v (.bool)), (13, .v (.bool)), (14, .v (.bool)), (61, .v (.bool)), (74, .v (.bool))], [(0, ⟨(.ex [.v (.bool), .fs (.lit 0) .hole 2, .v (.int .i64), .v (.int .i64)]), false⟩), (1, ⟨(.ex [.v (.int .i64), .v (.int .i64), .v (.int .i64)]), true⟩), (2, ⟨(.ex [.v (.int .i64), .v (.int .i64)]), true⟩)], 3⟩
def N_fence_State_0 (F : Nat) (ex0 : Bool → List VV → Nat → Int → Int → Int → Int → Int → Int → Int → Int → Bool → Int → Bool → Bool → Bool → Bool → Bool → List VV → Nat → Int → Int → Int → Int → Int → Int → Int → R) (ex1 : Bool → List VV → Nat → Int → Int → Int → Int → Int → Int → Int → Int → Bool → Int → Bool → Bool → Bool → Bool → Bool → Bool → List VV → Nat → Int → Int → Int → Int → Int → Int → Int → R) (x0 : Bool) (x1 : List VV) (x2 : Nat) (x3 : Int) (x4 : Int) (x5 : Int) (x6 : Int) (x7 : Int) (x8 : Int) (x9 : Int) (x10 : Int) (x11 : Bool) (x12 : Int) (x13 : Bool) (x14 : Bool) (x15 : Bool) (x16 : Bool) (x17 : List VV) (x18 : Nat) (x19 : Int) (x20 : Int) (x21 : Int) (x22 : Int) (x23 : Int) (x24 : Int) (x25 : Int) : R :=
  bif x14 then (
    bif x16 then (
      ex0 x0 x1 x2 x3 x4 x5 x6 x7 x8 0 x12 x11 x12 x13 x14 x15 true x16 x17 x18 x19 x20 x21 x22 x23 x24 x25)
    else (
      bif x15 then (
        bif ((!x16)) then (
          ex0 x0 x1 x2 x3 x4 x5 x6 x7 x8 0 x12 x11 x12 x13 x14 x15 true x16 x17 x18 x19 x20 x21 x22 x23 x24 x25)
        else (
          bif x14 then (
            ex1 x0 x1 x2 x3 x4 x5 x6 x7 x8 2 x12 x11 x12 x13 x14 x15 false true x16 x17 x18 x19 x20 x21 x22 x23 x24 x25)
          else (
            bif x15 then (
              ex1 x0 x1 x2 x3 x4 x5 x6 x7 x8 2 x12 x11 x12 x13 x14 x15 false true x16 x17 x18 x19 x20 x21 x22 x23 x24 x25)
            else (
              ex1 x0 x1 x2 x3 x4 x5 x6 x7 x8 1 x12 x11 x12 x13 x14 x15 false false x16 x17 x18 x19 x20 x21 x22 x23 x24 x25))))
      else (
        bif x14 then (
          ex1 x0 x1 x2 x3 x4 x5 x6 x7 x8 2 x12 x11 x12 x13 x14 x15 false true x16 x17 x18 x19 x20 x21 x22 x23 x24 x25)
        else (
          bif x15 then (
            ex1 x0 x1 x2 x3 x4 x5 x6 x7 x8 2 x12 x11 x12 x13 x14 x15 false true x16 x17 x18 x19 x20 x21 x22 x23 x24 x25)
          else (
            ex1 x0 x1 x2 x3 x4 x5 x6 x7 x8 1 x12 x11 x12 x13 x14 x15 false false x16 x17 x18 x19 x20 x21 x22 x23 x24 x25)))))
  else (
    bif x15 then (
      bif ((!x16)) then (
        ex0 x0 x1 x2 x3 x4 x5 x6 x7 x8 0 x12 x11 x12 x13 x14 x15 true x16 x17 x18 x19 x20 x21 x22 x23 x24 x25)
      else (
        bif x14 then (
          ex1 x0 x1 x2 x3 x4 x5 x6 x7 x8 2 x12 x11 x12 x13 x14 x15 false true x16 x17 x18 x19 x20 x21 x22 x23 x24 x25)
        else (
          bif x15 then (
            ex1 x0 x1 x2 x3 x4 x5 x6 x7 x8 2 x12 x11 x12 x13 x14 x15 false true x16 x17 x18 x19 x20 x21 x22 x23 x24 x25)
          else (
            ex1 x0 x1 x2 x3 x4 x5 x6 x7 x8 1 x12 x11 x12 x13 x14 x15 false false x16 x17 x18 x19 x20 x21 x22 x23 x24 x25))))
    else (
      bif x14 then (
        ex1 x0 x1 x2 x3 x4 x5 x6 x7 x8 2 x12 x11 x12 x13 x14 x15 false true x16 x17 x18 x19 x20 x21 x22 x23 x24 x25)
      else (
        bif x15 then (
          ex1 x0 x1 x2 x3 x4 x5 x6 x7 x8 2 x12 x11 x12 x13 x14 x15 false true x16 x17 x18 x19 x20 x21 x22 x23 x24 x25)
        else (
          ex1 x0 x1 x2 x3 x4 x5 x6 x7 x8 1 x12 x11 x12 x13 x14 x15 false false x16 x17 x18 x19 x20 x21 x22 x23 x24 x25))))
def TN_fence_State_1 : TS := ⟨[(0, .agg [.v (.bool), .fs (.lit 0) .hole 2, .v (.int .i64), .v (.int .i64)]), (1, .v (.agg [.int .i64, .int .i64, .int .i64])), (2, .v (.int .i64)), (3, .lp 0 (.lit 0)), (4, .lp 1 (.lit 0)), (6, .v (.int .i64)), (7, .v (.int .i64)), (8, .lp 2 (.lit 0)), (9, .v (.bool)), (10, .v (.int .i64)), (11, .v (.bool)), (13, .v (.bool)), (14, .v (.bool))], [(0, ⟨(.ex [.v (.bool), .fs (.lit 0) .hole 2, .v (.int .i64), .v (.int .i64)]), false⟩), (1, ⟨(.ex [.v (.int .i64), .v (.int .i64), .v (.int .i64)]), true⟩), (2, ⟨(.ex [.v (.int .i64), .v (.int .i64)]), true⟩)], 3⟩
def TN_fence_State_1_0 : TS := ⟨[(0, .agg [.v (.bool), .fs (.lit 0) .hole 2, .v (.int .i64), .v (.int .i64)]), (1, .v (.agg [.int .i64, .int .i64, .int .i64])), (2, .v (.int .i64)), (3, .lp 0 (.lit 0)), (4, .lp 1 (.lit 0)), (6, .v (.int .i64)), (7, .v (.int .i64)), (8, .lp 2 (.lit 0)), (9, .v (.bool)), (10, .v (.int .i64)), (11, .v (.bool)), (13, .v (.bool)), (14, .v (.bool)), (61, .v (.bool))], [(0, ⟨(.ex [.v (.bool), .fs (.lit 0) .hole 2, .v (.int .i64), .v (.int .i64)]), false⟩), (1, ⟨(.ex [.v (.int .i64), .v (.int .i64), .v (.int .i64)]), true⟩), (2, ⟨(.ex [.v (.int .i64), .v (.int .i64)]), true⟩)], 3⟩
def TN_fence_State_1_1 : TS := ⟨[(0, .agg [.v (.bool), .fs (.lit 0) .hole 2, .v (.int .i64), .v (.int .i64)]), (1, .v (.agg [.int .i64, .int .i64, .int .i64])), (2, .v (.int .i64)), (3, .lp 0 (.lit 0)), (4, .lp 1 (.lit 0)), (6, .v (.int .i64)), (7, .v (.int .i64)), (8, .lp 2 (.lit 0)), (9, .v (.bool)), (10, .v (.int .i64)), (11, .v (.bool)), (13, .v (.bool)), (14, .v (.bool)), (61, .v (.bool)), (74, .v (.bool))], [(0, ⟨(.ex [.v (.bool), .fs (.lit 0) .hole 2, .v (.int .i64), .v (.int .i64)]), false⟩), (1, ⟨(.ex [.v (.int .i64), .v (.int .i64), .v (.int .i64)]), true⟩), (2, ⟨(.ex [.v (.int .i64), .v (.int .i64)]), true⟩)], 3⟩
def N_fence_State_1 (F : Nat) (ex0 : Bool → List VV → Nat → Int → Int → Int → Int → Int → Int → Int → Int → Bool → Int → Bool → Bool → Bool → Bool → Bool → List VV → Nat → Int → Int → Int → Int → Int → Int → Int → R) (ex1 : Bool → List VV → Nat → Int → Int → Int → Int → Int → Int → Int → Int → Bool → Int → Bool → Bool → Bool → Bool → Bool → Bool → List VV → Nat → Int → Int → Int → Int → Int → Int → Int → R) (x0 : Bool) (x1 : List VV) (x2 : Nat) (x3 : Int) (x4 : Int) (x5 : Int) (x6 : Int) (x7 : Int) (x8 : Int) (x9 : Int) (x10 : Int) (x11 : Bool) (x12 : Int) (x13 : Bool) (x14 : Bool) (x15 : Bool) (x16 : Bool) (x17 : List VV) (x18 : Nat) (x19 : Int) (x20 : Int) (x21 : Int) (x22 : Int) (x23 : Int) (x24 : Int) (x25 : Int) : R :=
  bif x15 then (
    N_fence_State_0 F (fun (v1027 : Bool) (v1028 : List VV) (v1029 : Nat) (v1030 : Int) (v1031 : Int) (v1032 : Int) (v1033 : Int) (v1034 : Int) (v1035 : Int) (v1036 : Int) (v1037 : Int) (v1038 : Bool) (v1039 : Int) (v1040 : Bool) (v1041 : Bool) (v1042 : Bool) (v1043 : Bool) (v1044 : Bool) (v1045 : List VV) (v1046 : Nat) (v1047 : Int) (v1048 : Int) (v1049 : Int) (v1050 : Int) (v1051 : Int) (v1052 : Int) (v1053 : Int) =>
      ex0 v1027 v1028 v1029 v1030 v1031 v1032 v1033 v1034 v1035 v1036 v1037 v1038 v1039 v1040 v1041 v1042 v1043 v1044 v1045 v1046 v1047 v1048 v1049 v1050 v1051 v1052 v1053) (fun (v1054 : Bool) (v1055 : List VV) (v1056 : Nat) (v1057 : Int) (v1058 : Int) (v1059 : Int) (v1060 : Int) (v1061 : Int) (v1062 : Int) (v1063 : Int) (v1064 : Int) (v1065 : Bool) (v1066 : Int) (v1067 : Bool) (v1068 : Bool) (v1069 : Bool) (v1070 : Bool) (v1071 : Bool) (v1072 : Bool) (v1073 : List VV) (v1074 : Nat) (v1075 : Int) (v1076 : Int) (v1077 : Int) (v1078 : Int) (v1079 : Int) (v1080 : Int) (v1081 : Int) =>
      ex1 v1054 v1055 v1056 v1057 v1058 v1059 v1060 v1061 v1062 v1063 v1064 v1065 v1066 v1067 v1068 v1069 v1070 v1071 v1072 v1073 v1074 v1075 v1076 v1077 v1078 v1079 v1080 v1081) x0 x1 x2 x3 x4 x5 x6 x7 x8 x9 x10 x11 x12 x13 x14 true x16 x17 x18 x19 x20 x21 x22 x23 x24 x25)
  else (
    bif ((!x13)) then (
      N_fence_State_0 F (fun (v1084 : Bool) (v1085 : List VV) (v1086 : Nat) (v1087 : Int) (v1088 : Int) (v1089 : Int) (v1090 : Int) (v1091 : Int) (v1092 : Int) (v1093 : Int) (v1094 : Int) (v1095 : Bool) (v1096 : Int) (v1097 : Bool) (v1098 : Bool) (v1099 : Bool) (v1100 : Bool) (v1101 : Bool) (v1102 : List VV) (v1103 : Nat) (v1104 : Int) (v1105 : Int) (v1106 : Int) (v1107 : Int) (v1108 : Int) (v1109 : Int) (v1110 : Int) =>
        ex0 v1084 v1085 v1086 v1087 v1088 v1089 v1090 v1091 v1092 v1093 v1094 v1095 v1096 v1097 v1098 v1099 v1100 v1101 v1102 v1103 v1104 v1105 v1106 v1107 v1108 v1109 v1110) (fun (v1111 : Bool) (v1112 : List VV) (v1113 : Nat) (v1114 : Int) (v1115 : Int) (v1116 : Int) (v1117 : Int) (v1118 : Int) (v1119 : Int) (v1120 : Int) (v1121 : Int) (v1122 : Bool) (v1123 : Int) (v1124 : Bool) (v1125 : Bool) (v1126 : Bool) (v1127 : Bool) (v1128 : Bool) (v1129 : Bool) (v1130 : List VV) (v1131 : Nat) (v1132 : Int) (v1133 : Int) (v1134 : Int) (v1135 : Int) (v1136 : Int) (v1137 : Int) (v1138 : Int) =>
        ex1 v1111 v1112 v1113 v1114 v1115 v1116 v1117 v1118 v1119 v1120 v1121 v1122 v1123 v1124 v1125 v1126 v1127 v1128 v1129 v1130 v1131 v1132 v1133 v1134 v1135 v1136 v1137 v1138) x0 x1 x2 x3 x4 x5 x6 x7 x8 x9 x10 x11 x12 x13 x14 ((!x11)) x16 x17 x18 x19 x20 x21 x22 x23 x24 x25)
    else (
      N_fence_State_0 F (fun (v1139 : Bool) (v1140 : List VV) (v1141 : Nat) (v1142 : Int) (v1143 : Int) (v1144 : Int) (v1145 : Int) (v1146 : Int) (v1147 : Int) (v1148 : Int) (v1149 : Int) (v1150 : Bool) (v1151 : Int) (v1152 : Bool) (v1153 : Bool) (v1154 : Bool) (v1155 : Bool) (v1156 : Bool) (v1157 : List VV) (v1158 : Nat) (v1159 : Int) (v1160 : Int) (v1161 : Int) (v1162 : Int) (v1163 : Int) (v1164 : Int) (v1165 : Int) =>
        ex0 v1139 v1140 v1141 v1142 v1143 v1144 v1145 v1146 v1147 v1148 v1149 v1150 v1151 v1152 v1153 v1154 v1155 v1156 v1157 v1158 v1159 v1160 v1161 v1162 v1163 v1164 v1165) (fun (v1166 : Bool) (v1167 : List VV) (v1168 : Nat) (v1169 : Int) (v1170 : Int) (v1171 : Int) (v1172 : Int) (v1173 : Int) (v1174 : Int) (v1175 : Int) (v1176 : Int) (v1177 : Bool) (v1178 : Int) (v1179 : Bool) (v1180 : Bool) (v1181 : Bool) (v1182 : Bool) (v1183 : Bool) (v1184 : Bool) (v1185 : List VV) (v1186 : Nat) (v1187 : Int) (v1188 : Int) (v1189 : Int) (v1190 : Int) (v1191 : Int) (v1192 : Int) (v1193 : Int) =>
        ex1 v1166 v1167 v1168 v1169 v1170 v1171 v1172 v1173 v1174 v1175 v1176 v1177 v1178 v1179 v1180 v1181 v1182 v1183 v1184 v1185 v1186 v1187 v1188 v1189 v1190 v1191 v1192 v1193) x0 x1 x2 x3 x4 x5 x6 x7 x8 x9 x10 x11 x12 x13 x14 false x16 x17 x18 x19 x20 x21 x22 x23 x24 x25))
def W_fence_State (F : Nat) : List LW := []
def I_fence_State (F : Nat) : Nat → VS → (Exit → VS → R) → R := tabI c_fence_State (W_fence_State F)
def WJ_fence_State (F : Nat) : List LJ := [⟨9, 0, TN_fence_State_0, fun k q => N_fence_State_0 F (fun (z0 : Bool) (z1 : List VV) (z2 : Nat) (z3 : Int) (z4 : Int) (z5 : Int) (z6 : Int) (z7 : Int) (z8 : Int) (z9 : Int) (z10 : Int) (z11 : Bool) (z12 : Int) (z13 : Bool) (z14 : Bool) (z15 : Bool) (z16 : Bool) (z17 : Bool) (z18 : List VV) (z19 : Nat) (z20 : Int) (z21 : Int) (z22 : Int) (z23 : Int) (z24 : Int) (z25 : Int) (z26 : Int) => k .ret (fS TN_fence_State_0_0 [.b z0, .c z1, .n z2, .i z3, .i z4, .i z5, .i z6, .i z7, .i z8, .i z9, .i z10, .b z11, .i z12, .b z13, .b z14, .b z15, .b z16, .b z17, .c z18, .n z19, .i z20, .i z21, .i z22, .i z23, .i z24, .i z25, .i z26])) (fun (z0 : Bool) (z1 : List VV) (z2 : Nat) (z3 : Int) (z4 : Int) (z5 : Int) (z6 : Int) (z7 : Int) (z8 : Int) (z9 : Int) (z10 : Int) (z11 : Bool) (z12 : Int) (z13 : Bool) (z14 : Bool) (z15 : Bool) (z16 : Bool) (z17 : Bool) (z18 : Bool) (z19 : List VV) (z20 : Nat) (z21 : Int) (z22 : Int) (z23 : Int) (z24 : Int) (z25 : Int) (z26 : Int) (z27 : Int) => k .ret (fS TN_fence_State_0_1 [.b z0, .c z1, .n z2, .i z3, .i z4, .i z5, .i z6, .i z7, .i z8, .i z9, .i z10, .b z11, .i z12, .b z13, .b z14, .b z15, .b z16, .b z17, .b z18, .c z19, .n z20, .i z21, .i z22, .i z23, .i z24, .i z25, .i z26, .i z27])) (atB (nth q 0)) (atC (nth q 1)) (atN (nth q 2)) (atI (nth q 3)) (atI (nth q 4)) (atI (nth q 5)) (atI (nth q 6)) (atI (nth q 7)) (atI (nth q 8)) (atI (nth q 9)) (atI (nth q 10)) (atB (nth q 11)) (atI (nth q 12)) (atB (nth q 13)) (atB (nth q 14)) (atB (nth q 15)) (atB (nth q 16)) (atC (nth q 17)) (atN (nth q 18)) (atI (nth q 19)) (atI (nth q 20)) (atI (nth q 21)) (atI (nth q 22)) (atI (nth q 23)) (atI (nth q 24)) (atI (nth q 25))⟩, ⟨8, 0, TN_fence_State_1, fun k q => N_fence_State_1 F (fun (z0 : Bool) (z1 : List VV) (z2 : Nat) (z3 : Int) (z4 : Int) (z5 : Int) (z6 : Int) (z7 : Int) (z8 : Int) (z9 : Int) (z10 : Int) (z11 : Bool) (z12 : Int) (z13 : Bool) (z14 : Bool) (z15 : Bool) (z16 : Bool) (z17 : Bool) (z18 : List VV) (z19 : Nat) (z20 : Int) (z21 : Int) (z22 : Int) (z23 : Int) (z24 : Int) (z25 : Int) (z26 : Int) => k .ret (fS TN_fence_State_1_0 [.b z0, .c z1, .n z2, .i z3, .i z4, .i z5, .i z6, .i z7, .i z8, .i z9, .i z10, .b z11, .i z12, .b z13, .b z14, .b z15, .b z16, .b z17, .c z18, .n z19, .i z20, .i z21, .i z22, .i z23, .i z24, .i z25, .i z26])) (fun (z0 : Bool) (z1 : List VV) (z2 : Nat) (z3 : Int) (z4 : Int) (z5 : Int) (z6 : Int) (z7 : Int) (z8 : Int) (z9 : Int) (z10 : Int) (z11 : Bool) (z12 : Int) (z13 : Bool) (z14 : Bool) (z15 : Bool) (z16 : Bool) (z17 : Bool) (z18 : Bool) (z19 : List VV) (z20 : Nat) (z21 : Int) (z22 : Int) (z23 : Int) (z24 : Int) (z25 : Int) (z26 : Int) (z27 : Int) => k .ret (fS TN_fence_State_1_1 [.b z0, .c z1, .n z2, .i z3, .i z4, .i z5, .i z6, .i z7, .i z8, .i z9, .i z10, .b z11, .i z12, .b z13, .b z14, .b z15, .b z16, .b z17, .b z18, .c z19, .n z20, .i z21, .i z22, .i z23, .i z24, .i z25, .i z26, .i z27])) (atB (nth q 0)) (atC (nth q 1)) (atN (nth q 2)) (atI (nth q 3)) (atI (nth q 4)) (atI (nth q 5)) (atI (nth q 6)) (atI (nth q 7)) (atI (nth q 8)) (atI (nth q 9)) (atI (nth q 10)) (atB (nth q 11)) (atI (nth q 12)) (atB (nth q 13)) (atB (nth q 14)) (atB (nth q 15)) (atB (nth q 16)) (atC (nth q 17)) (atN (nth q 18)) (atI (nth q 19)) (atI (nth q 20)) (atI (nth q 21)) (atI (nth q 22)) (atI (nth q 23)) (atI (nth q 24)) (atI (nth q 25))⟩]
def J_fence_State (F : Nat) : Nat → Nat → VS → (Exit → VS → R) → R := tabJ (WJ_fence_State F)
theorem nN_fence_State_0 (F : Nat) (k : Exit → VS → R) (x0 : Bool) (x1 : List VV) (x2 : Nat) (x3 : Int) (x4 : Int) (x5 : Int) (x6 : Int) (x7 : Int) (x8 : Int) (x9 : Int) (x10 : Int) (x11 : Bool) (x12 : Int) (x13 : Bool) (x14 : Bool) (x15 : Bool) (x16 : Bool) (x17 : List VV) (x18 : Nat) (x19 : Int) (x20 : Int) (x21 : Int) (x22 : Int) (x23 : Int) (x24 : Int) (x25 : Int) : codeL PP (S_fence_State F) c_fence_State (I_fence_State F) (J_fence_State F) (joinAt PP c_fence_State 13 1) 0 (fS TN_fence_State_0 [.b x0, .c x1, .n x2, .i x3, .i x4, .i x5, .i x6, .i x7, .i x8, .i x9, .i x10, .b x11, .i x12, .b x13, .b x14, .b x15, .b x16, .c x17, .n x18, .i x19, .i x20, .i x21, .i x22, .i x23, .i x24, .i x25]) k = N_fence_State_0 F (fun (z0 : Bool) (z1 : List VV) (z2 : Nat) (z3 : Int) (z4 : Int) (z5 : Int) (z6 : Int) (z7 : Int) (z8 : Int) (z9 : Int) (z10 : Int) (z11 : Bool) (z12 : Int) (z13 : Bool) (z14 : Bool) (z15 : Bool) (z16 : Bool) (z17 : Bool) (z18 : List VV) (z19 : Nat) (z20 : Int) (z21 : Int) (z22 : Int) (z23 : Int) (z24 : Int) (z25 : Int) (z26 : Int) => k .ret (fS TN_fence_State_0_0 [.b z0, .c z1, .n z2, .i z3, .i z4, .i z5, .i z6, .i z7, .i z8, .i z9, .i z10, .b z11, .i z12, .b z13, .b z14, .b z15, .b z16, .b z17, .c z18, .n z19, .i z20, .i z21, .i z22, .i z23, .i z24, .i z25, .i z26])) (fun (z0 : Bool) (z1 : List VV) (z2 : Nat) (z3 : Int) (z4 : Int) (z5 : Int) (z6 : Int) (z7 : Int) (z8 : Int) (z9 : Int) (z10 : Int) (z11 : Bool) (z12 : Int) (z13 : Bool) (z14 : Bool) (z15 : Bool) (z16 : Bool) (z17 : Bool) (z18 : Bool) (z19 : List VV) (z20 : Nat) (z21 : Int) (z22 : Int) (z23 : Int) (z24 : Int) (z25 : Int) (z26 : Int) (z27 : Int) => k .ret (fS TN_fence_State_0_1 [.b z0, .c z1, .n z2, .i z3, .i z4, .i z5, .i z6, .i z7, .i z8, .i z9, .i z10, .b z11, .i z12, .b z13, .b z14, .b z15, .b z16, .b z17, .b z18, .c z19, .n z20, .i z21, .i z22, .i z23, .i z24, .i z25, .i z26, .i z27])) x0 x1 x2 x3 x4 x5 x6 x7 x8 x9 x10 x11 x12 x13 x14 x15 x16 x17 x18 x19 x20 x21 x22 x23 x24 x25 := by
  have h0 : ∀ (ok_fence_Touches : Nat → Bool → List VV → Nat → Nat → Int → Int → Int → Int → Int → Bool) (o_fence_Touches_0 : Nat → Bool → List VV → Nat → Nat → Int → Int → Int → Int → Int → Bool) (o_fence_Touches_1 : Nat → Bool → List VV → Nat → Nat → Int → Int → Int → Int → Int → Int) (ok_fence_Within : Nat → Bool → List VV → Nat → Nat → Int → Int → Int → Int → Bool) (o_fence_Within_0 : Nat → Bool → List VV → Nat → Nat → Int → Int → Int → Int → Bool) (o_fence_Within_1 : Nat → Bool → List VV → Nat → Nat → Int → Int → Int → Int → Int) (ok_fence_Zone_height : Nat → Bool → List VV → Nat → Int → Int → Int → Int → Bool) (o_fence_Zone_height_0 : Nat → Bool → List VV → Nat → Int → Int → Int → Int → Bool) (o_fence_Zone_height_1 : Nat → Bool → List VV → Nat → Int → Int → Int → Int → Bool) (N_fence_State_0 : Nat → (Bool → List VV → Nat → Int → Int → Int → Int → Int → Int → Int → Int → Bool → Int → Bool → Bool → Bool → Bool → Bool → List VV → Nat → Int → Int → Int → Int → Int → Int → Int → R) → (Bool → List VV → Nat → Int → Int → Int → Int → Int → Int → Int → Int → Bool → Int → Bool → Bool → Bool → Bool → Bool → Bool → List VV → Nat → Int → Int → Int → Int → Int → Int → Int → R) → Bool → List VV → Nat → Int → Int → Int → Int → Int → Int → Int → Int → Bool → Int → Bool → Bool → Bool → Bool → List VV → Nat → Int → Int → Int → Int → Int → Int → Int → R) (N_fence_State_1 : Nat → (Bool → List VV → Nat → Int → Int → Int → Int → Int → Int → Int → Int → Bool → Int → Bool → Bool → Bool → Bool → Bool → List VV → Nat → Int → Int → Int → Int → Int → Int → Int → R) → (Bool → List VV → Nat → Int → Int → Int → Int → Int → Int → Int → Int → Bool → Int → Bool → Bool → Bool → Bool → Bool → Bool → List VV → Nat → Int → Int → Int → Int → Int → Int → Int → R) → Bool → List VV → Nat → Int → Int → Int → Int → Int → Int → Int → Int → Bool → Int → Bool → Bool → Bool → Bool → List VV → Nat → Int → Int → Int → Int → Int → Int → Int → R), codeL PP (words [(11, spec ti_fence_Touches to_fence_Touches (fun q => (ok_fence_Touches F (atB (nth q 0)) (atC (nth q 1)) (atN (nth q 2)) (atN (nth q 3)) (atI (nth q 4)) (atI (nth q 5)) (atI (nth q 6)) (atI (nth q 7)) (atI (nth q 8)))) (fun q => [.b (o_fence_Touches_0 F (atB (nth q 0)) (atC (nth q 1)) (atN (nth q 2)) (atN (nth q 3)) (atI (nth q 4)) (atI (nth q 5)) (atI (nth q 6)) (atI (nth q 7)) (atI (nth q 8))), .i (o_fence_Touches_1 F (atB (nth q 0)) (atC (nth q 1)) (atN (nth q 2)) (atN (nth q 3)) (atI (nth q 4)) (atI (nth q 5)) (atI (nth q 6)) (atI (nth q 7)) (atI (nth q 8)))])), (8, spec ti_fence_Within to_fence_Within (fun q => (ok_fence_Within F (atB (nth q 0)) (atC (nth q 1)) (atN (nth q 2)) (atN (nth q 3)) (atI (nth q 4)) (atI (nth q 5)) (atI (nth q 6)) (atI (nth q 7)))) (fun q => [.b (o_fence_Within_0 F (atB (nth q 0)) (atC (nth q 1)) (atN (nth q 2)) (atN (nth q 3)) (atI (nth q 4)) (atI (nth q 5)) (atI (nth q 6)) (atI (nth q 7))), .i (o_fence_Within_1 F (atB (nth q 0)) (atC (nth q 1)) (atN (nth q 2)) (atN (nth q 3)) (atI (nth q 4)) (atI (nth q 5)) (atI (nth q 6)) (atI (nth q 7)))])), (28, spec ti_fence_Zone_height to_fence_Zone_height (fun q => (ok_fence_Zone_height F (atB (nth q 0)) (atC (nth q 1)) (atN (nth q 2)) (atI (nth q 3)) (atI (nth q 4)) (atI (nth q 5)) (atI (nth q 6)))) (fun q => [.b (o_fence_Zone_height_0 F (atB (nth q 0)) (atC (nth q 1)) (atN (nth q 2)) (atI (nth q 3)) (atI (nth q 4)) (atI (nth q 5)) (atI (nth q 6))), .b (o_fence_Zone_height_1 F (atB (nth q 0)) (atC (nth q 1)) (atN (nth q 2)) (atI (nth q 3)) (atI (nth q 4)) (atI (nth q 5)) (atI (nth q 6)))]))]) c_fence_State (tabI c_fence_State []) (tabJ [⟨9, 0, TN_fence_State_0, fun k q => N_fence_State_0 F (fun (z0 : Bool) (z1 : List VV) (z2 : Nat) (z3 : Int) (z4 : Int) (z5 : Int) (z6 : Int) (z7 : Int) (z8 : Int) (z9 : Int) (z10 : Int) (z11 : Bool) (z12 : Int) (z13 : Bool) (z14 : Bool) (z15 : Bool) (z16 : Bool) (z17 : Bool) (z18 : List VV) (z19 : Nat) (z20 : Int) (z21 : Int) (z22 : Int) (z23 : Int) (z24 : Int) (z25 : Int) (z26 : Int) => k .ret (fS TN_fence_State_0_0 [.b z0, .c z1, .n z2, .i z3, .i z4, .i z5, .i z6, .i z7, .i z8, .i z9, .i z10, .b z11, .i z12, .b z13, .b z14, .b z15, .b z16, .b z17, .c z18, .n z19, .i z20, .i z21, .i z22, .i z23, .i z24, .i z25, .i z26])) (fun (z0 : Bool) (z1 : List VV) (z2 : Nat) (z3 : Int) (z4 : Int) (z5 : Int) (z6 : Int) (z7 : Int) (z8 : Int) (z9 : Int) (z10 : Int) (z11 : Bool) (z12 : Int) (z13 : Bool) (z14 : Bool) (z15 : Bool) (z16 : Bool) (z17 : Bool) (z18 : Bool) (z19 : List VV) (z20 : Nat) (z21 : Int) (z22 : Int) (z23 : Int) (z24 : Int) (z25 : Int) (z26 : Int) (z27 : Int) => k .ret (fS TN_fence_State_0_1 [.b z0, .c z1, .n z2, .i z3, .i z4, .i z5, .i z6, .i z7, .i z8, .i z9, .i z10, .b z11, .i z12, .b z13, .b z14, .b z15, .b z16, .b z17, .b z18, .c z19, .n z20, .i z21, .i z22, .i z23, .i z24, .i z25, .i z26, .i z27])) (atB (nth q 0)) (atC (nth q 1)) (atN (nth q 2)) (atI (nth q 3)) (atI (nth q 4)) (atI (nth q 5)) (atI (nth q 6)) (atI (nth q 7)) (atI (nth q 8)) (atI (nth q 9)) (atI (nth q 10)) (atB (nth q 11)) (atI (nth q 12)) (atB (nth q 13)) (atB (nth q 14)) (atB (nth q 15)) (atB (nth q 16)) (atC (nth q 17)) (atN (nth q 18)) (atI (nth q 19)) (atI (nth q 20)) (atI (nth q 21)) (atI (nth q 22)) (atI (nth q 23)) (atI (nth q 24)) (atI (nth q 25))⟩, ⟨8, 0, TN_fence_State_1, fun k q => N_fence_State_1 F (fun (z0 : Bool) (z1 : List VV) (z2 : Nat) (z3 : Int) (z4 : Int) (z5 : Int) (z6 : Int) (z7 : Int) (z8 : Int) (z9 : Int) (z10 : Int) (z11 : Bool) (z12 : Int) (z13 : Bool) (z14 : Bool) (z15 : Bool) (z16 : Bool) (z17 : Bool) (z18 : List VV) (z19 : Nat) (z20 : Int) (z21 : Int) (z22 : Int) (z23 : Int) (z24 : Int) (z25 : Int) (z26 : Int) => k .ret (fS TN_fence_State_1_0 [.b z0, .c z1, .n z2, .i z3, .i z4, .i z5, .i z6, .i z7, .i z8, .i z9, .i z10, .b z11, .i z12, .b z13, .b z14, .b z15, .b z16, .b z17, .c z18, .n z19, .i z20, .i z21, .i z22, .i z23, .i z24, .i z25, .i z26])) (fun (z0 : Bool) (z1 : List VV) (z2 : Nat) (z3 : Int) (z4 : Int) (z5 : Int) (z6 : Int) (z7 : Int) (z8 : Int) (z9 : Int) (z10 : Int) (z11 : Bool) (z12 : Int) (z13 : Bool) (z14 : Bool) (z15 : Bool) (z16 : Bool) (z17 : Bool) (z18 : Bool) (z19 : List VV) (z20 : Nat) (z21 : Int) (z22 : Int) (z23 : Int) (z24 : Int) (z25 : Int) (z26 : Int) (z27 : Int) => k .ret (fS TN_fence_State_1_1 [.b z0, .c z1, .n z2, .i z3, .i z4, .i z5, .i z6, .i z7, .i z8, .i z9, .i z10, .b z11, .i z12, .b z13, .b z14, .b z15, .b z16, .b z17, .b z18, .c z19, .n z20, .i z21, .i z22, .i z23, .i z24, .i z25, .i z26, .i z27])) (atB (nth q 0)) (atC (nth q 1)) (atN (nth q 2)) (atI (nth q 3)) (atI (nth q 4)) (atI (nth q 5)) (atI (nth q 6)) (atI (nth q 7)) (atI (nth q 8)) (atI (nth q 9)) (atI (nth q 10)) (atB (nth q 11)) (atI (nth q 12)) (atB (nth q 13)) (atB (nth q 14)) (atB (nth q 15)) (atB (nth q 16)) (atC (nth q 17)) (atN (nth q 18)) (atI (nth q 19)) (atI (nth q 20)) (atI (nth q 21)) (atI (nth q 22)) (atI (nth q 23)) (atI (nth q 24)) (atI (nth q 25))⟩]) (joinAt PP c_fence_State 13 1) 0 (fS TN_fence_State_0 [.b x0, .c x1, .n x2, .i x3, .i x4, .i x5, .i x6, .i x7, .i x8, .i x9, .i x10, .b x11, .i x12, .b x13, .b x14, .b x15, .b x16, .c x17, .n x18, .i x19, .i x20, .i x21, .i x22, .i x23, .i x24, .i x25]) k = (fun (ex0 : Bool → List VV → Nat → Int → Int → Int → Int → Int → Int → Int → Int → Bool → Int → Bool → Bool → Bool → Bool → Bool → List VV → Nat → Int → Int → Int → Int → Int → Int → Int → R) (ex1 : Bool → List VV → Nat → Int → Int → Int → Int → Int → Int → Int → Int → Bool → Int → Bool → Bool → Bool → Bool → Bool → Bool → List VV → Nat → Int → Int → Int → Int → Int → Int → Int → R) => (
  bif x14 then (
    bif x16 then (
      ex0 x0 x1 x2 x3 x4 x5 x6 x7 x8 0 x12 x11 x12 x13 x14 x15 true x16 x17 x18 x19 x20 x21 x22 x23 x24 x25)
    else (
      bif x15 then (
        bif ((!x16)) then (
          ex0 x0 x1 x2 x3 x4 x5 x6 x7 x8 0 x12 x11 x12 x13 x14 x15 true x16 x17 x18 x19 x20 x21 x22 x23 x24 x25)
        else (
          bif x14 then (
            ex1 x0 x1 x2 x3 x4 x5 x6 x7 x8 2 x12 x11 x12 x13 x14 x15 false true x16 x17 x18 x19 x20 x21 x22 x23 x24 x25)
          else (
            bif x15 then (
              ex1 x0 x1 x2 x3 x4 x5 x6 x7 x8 2 x12 x11 x12 x13 x14 x15 false true x16 x17 x18 x19 x20 x21 x22 x23 x24 x25)
            else (
              ex1 x0 x1 x2 x3 x4 x5 x6 x7 x8 1 x12 x11 x12 x13 x14 x15 false false x16 x17 x18 x19 x20 x21 x22 x23 x24 x25))))
      else (
        bif x14 then (
          ex1 x0 x1 x2 x3 x4 x5 x6 x7 x8 2 x12 x11 x12 x13 x14 x15 false true x16 x17 x18 x19 x20 x21 x22 x23 x24 x25)
        else (
          bif x15 then (
            ex1 x0 x1 x2 x3 x4 x5 x6 x7 x8 2 x12 x11 x12 x13 x14 x15 false true x16 x17 x18 x19 x20 x21 x22 x23 x24 x25)
          else (
            ex1 x0 x1 x2 x3 x4 x5 x6 x7 x8 1 x12 x11 x12 x13 x14 x15 false false x16 x17 x18 x19 x20 x21 x22 x23 x24 x25)))))
  else (
    bif x15 then (
      bif ((!x16)) then (
        ex0 x0 x1 x2 x3 x4 x5 x6 x7 x8 0 x12 x11 x12 x13 x14 x15 true x16 x17 x18 x19 x20 x21 x22 x23 x24 x25)
      else (
        bif x14 then (
          ex1 x0 x1 x2 x3 x4 x5 x6 x7 x8 2 x12 x11 x12 x13 x14 x15 false true x16 x17 x18 x19 x20 x21 x22 x23 x24 x25)
        else (
          bif x15 then (
            ex1 x0 x1 x2 x3 x4 x5 x6 x7 x8 2 x12 x11 x12 x13 x14 x15 false true x16 x17 x18 x19 x20 x21 x22 x23 x24 x25)
          else (
            ex1 x0 x1 x2 x3 x4 x5 x6 x7 x8 1 x12 x11 x12 x13 x14 x15 false false x16 x17 x18 x19 x20 x21 x22 x23 x24 x25))))
    else (
      bif x14 then (
        ex1 x0 x1 x2 x3 x4 x5 x6 x7 x8 2 x12 x11 x12 x13 x14 x15 false true x16 x17 x18 x19 x20 x21 x22 x23 x24 x25)
      else (
        bif x15 then (
          ex1 x0 x1 x2 x3 x4 x5 x6 x7 x8 2 x12 x11 x12 x13 x14 x15 false true x16 x17 x18 x19 x20 x21 x22 x23 x24 x25)
        else (
          ex1 x0 x1 x2 x3 x4 x5 x6 x7 x8 1 x12 x11 x12 x13 x14 x15 false false x16 x17 x18 x19 x20 x21 x22 x23 x24 x25)))) : R)) (fun (z0 : Bool) (z1 : List VV) (z2 : Nat) (z3 : Int) (z4 : Int) (z5 : Int) (z6 : Int) (z7 : Int) (z8 : Int) (z9 : Int) (z10 : Int) (z11 : Bool) (z12 : Int) (z13 : Bool) (z14 : Bool) (z15 : Bool) (z16 : Bool) (z17 : Bool) (z18 : List VV) (z19 : Nat) (z20 : Int) (z21 : Int) (z22 : Int) (z23 : Int) (z24 : Int) (z25 : Int) (z26 : Int) => k .ret (fS TN_fence_State_0_0 [.b z0, .c z1, .n z2, .i z3, .i z4, .i z5, .i z6, .i z7, .i z8, .i z9, .i z10, .b z11, .i z12, .b z13, .b z14, .b z15, .b z16, .b z17, .c z18, .n z19, .i z20, .i z21, .i z22, .i z23, .i z24, .i z25, .i z26])) (fun (z0 : Bool) (z1 : List VV) (z2 : Nat) (z3 : Int) (z4 : Int) (z5 : Int) (z6 : Int) (z7 : Int) (z8 : Int) (z9 : Int) (z10 : Int) (z11 : Bool) (z12 : Int) (z13 : Bool) (z14 : Bool) (z15 : Bool) (z16 : Bool) (z17 : Bool) (z18 : Bool) (z19 : List VV) (z20 : Nat) (z21 : Int) (z22 : Int) (z23 : Int) (z24 : Int) (z25 : Int) (z26 : Int) (z27 : Int) => k .ret (fS TN_fence_State_0_1 [.b z0, .c z1, .n z2, .i z3, .i z4, .i z5, .i z6, .i z7, .i z8, .i z9, .i z10, .b z11, .i z12, .b z13, .b z14, .b z15, .b z16, .b z17, .b z18, .c z19, .n z20, .i z21, .i z22, .i z23, .i z24, .i z25, .i z26, .i z27])) := by
    intros
    kernel_rfl
  exact (h0 ok_fence_Touches o_fence_Touches_0 o_fence_Touches_1 ok_fence_Within o_fence_Within_0 o_fence_Within_1 ok_fence_Zone_height o_fence_Zone_height_0 o_fence_Zone_height_1 N_fence_State_0 N_fence_State_1).trans (by kernel_rfl)
theorem nN_fence_State_1 (F : Nat) (k : Exit → VS → R) (x0 : Bool) (x1 : List VV) (x2 : Nat) (x3 : Int) (x4 : Int) (x5 : Int) (x6 : Int) (x7 : Int) (x8 : Int) (x9 : Int) (x10 : Int) (x11 : Bool) (x12 : Int) (x13 : Bool) (x14 : Bool) (x15 : Bool) (x16 : Bool) (x17 : List VV) (x18 : Nat) (x19 : Int) (x20 : Int) (x21 : Int) (x22 : Int) (x23 : Int) (x24 : Int) (x25 : Int) : codeL PP (S_fence_State F) c_fence_State (I_fence_State F) (J_fence_State F) (joinAt PP c_fence_State 13 0) 0 (fS TN_fence_State_1 [.b x0, .c x1, .n x2, .i x3, .i x4, .i x5, .i x6, .i x7, .i x8, .i x9, .i x10, .b x11, .i x12, .b x13, .b x14, .b x15, .b x16, .c x17, .n x18, .i x19, .i x20, .i x21, .i x22, .i x23, .i x24, .i x25]) k = N_fence_State_1 F (fun (z0 : Bool) (z1 : List VV) (z2 : Nat) (z3 : Int) (z4 : Int) (z5 : Int) (z6 : Int) (z7 : Int) (z8 : Int) (z9 : Int) (z10 : Int) (z11 : Bool) (z12 : Int) (z13 : Bool) (z14 : Bool) (z15 : Bool) (z16 : Bool) (z17 : Bool) (z18 : List VV) (z19 : Nat) (z20 : Int) (z21 : Int) (z22 : Int) (z23 : Int) (z24 : Int) (z25 : Int) (z26 : Int) => k .ret (fS TN_fence_State_1_0 [.b z0, .c z1, .n z2, .i z3, .i z4, .i z5, .i z6, .i z7, .i z8, .i z9, .i z10, .b z11, .i z12, .b z13, .b z14, .b z15, .b z16, .b z17, .c z18, .n z19, .i z20, .i z21, .i z22, .i z23, .i z24, .i z25, .i z26])) (fun (z0 : Bool) (z1 : List VV) (z2 : Nat) (z3 : Int) (z4 : Int) (z5 : Int) (z6 : Int) (z7 : Int) (z8 : Int) (z9 : Int) (z10 : Int) (z11 : Bool) (z12 : Int) (z13 : Bool) (z14 : Bool) (z15 : Bool) (z16 : Bool) (z17 : Bool) (z18 : Bool) (z19 : List VV) (z20 : Nat) (z21 : Int) (z22 : Int) (z23 : Int) (z24 : Int) (z25 : Int) (z26 : Int) (z27 : Int) => k .ret (fS TN_fence_State_1_1 [.b z0, .c z1, .n z2, .i z3, .i z4, .i z5, .i z6, .i z7, .i z8, .i z9, .i z10, .b z11, .i z12, .b z13, .b z14, .b z15, .b z16, .b z17, .b z18, .c z19, .n z20, .i z21, .i z22, .i z23, .i z24, .i z25, .i z26, .i z27])) x0 x1 x2 x3 x4 x5 x6 x7 x8 x9 x10 x11 x12 x13 x14 x15 x16 x17 x18 x19 x20 x21 x22 x23 x24 x25 := by
  have h0 : ∀ (ok_fence_Touches : Nat → Bool → List VV → Nat → Nat → Int → Int → Int → Int → Int → Bool) (o_fence_Touches_0 : Nat → Bool → List VV → Nat → Nat → Int → Int → Int → Int → Int → Bool) (o_fence_Touches_1 : Nat → Bool → List VV → Nat → Nat → Int → Int → Int → Int → Int → Int) (ok_fence_Within : Nat → Bool → List VV → Nat → Nat → Int → Int → Int → Int → Bool) (o_fence_Within_0 : Nat → Bool → List VV → Nat → Nat → Int → Int → Int → Int → Bool) (o_fence_Within_1 : Nat → Bool → List VV → Nat → Nat → Int → Int → Int → Int → Int) (ok_fence_Zone_height : Nat → Bool → List VV → Nat → Int → Int → Int → Int → Bool) (o_fence_Zone_height_0 : Nat → Bool → List VV → Nat → Int → Int → Int → Int → Bool) (o_fence_Zone_height_1 : Nat → Bool → List VV → Nat → Int → Int → Int → Int → Bool) (N_fence_State_0 : Nat → (Bool → List VV → Nat → Int → Int → Int → Int → Int → Int → Int → Int → Bool → Int → Bool → Bool → Bool → Bool → Bool → List VV → Nat → Int → Int → Int → Int → Int → Int → Int → R) → (Bool → List VV → Nat → Int → Int → Int → Int → Int → Int → Int → Int → Bool → Int → Bool → Bool → Bool → Bool → Bool → Bool → List VV → Nat → Int → Int → Int → Int → Int → Int → Int → R) → Bool → List VV → Nat → Int → Int → Int → Int → Int → Int → Int → Int → Bool → Int → Bool → Bool → Bool → Bool → List VV → Nat → Int → Int → Int → Int → Int → Int → Int → R) (N_fence_State_1 : Nat → (Bool → List VV → Nat → Int → Int → Int → Int → Int → Int → Int → Int → Bool → Int → Bool → Bool → Bool → Bool → Bool → List VV → Nat → Int → Int → Int → Int → Int → Int → Int → R) → (Bool → List VV → Nat → Int → Int → Int → Int → Int → Int → Int → Int → Bool → Int → Bool → Bool → Bool → Bool → Bool → Bool → List VV → Nat → Int → Int → Int → Int → Int → Int → Int → R) → Bool → List VV → Nat → Int → Int → Int → Int → Int → Int → Int → Int → Bool → Int → Bool → Bool → Bool → Bool → List VV → Nat → Int → Int → Int → Int → Int → Int → Int → R), codeL PP (words [(11, spec ti_fence_Touches to_fence_Touches (fun q => (ok_fence_Touches F (atB (nth q 0)) (atC (nth q 1)) (atN (nth q 2)) (atN (nth q 3)) (atI (nth q 4)) (atI (nth q 5)) (atI (nth q 6)) (atI (nth q 7)) (atI (nth q 8)))) (fun q => [.b (o_fence_Touches_0 F (atB (nth q 0)) (atC (nth q 1)) (atN (nth q 2)) (atN (nth q 3)) (atI (nth q 4)) (atI (nth q 5)) (atI (nth q 6)) (atI (nth q 7)) (atI (nth q 8))), .i (o_fence_Touches_1 F (atB (nth q 0)) (atC (nth q 1)) (atN (nth q 2)) (atN (nth q 3)) (atI (nth q 4)) (atI (nth q 5)) (atI (nth q 6)) (atI (nth q 7)) (atI (nth q 8)))])), (8, spec ti_fence_Within to_fence_Within (fun q => (ok_fence_Within F (atB (nth q 0)) (atC (nth q 1)) (atN (nth q 2)) (atN (nth q 3)) (atI (nth q 4)) (atI (nth q 5)) (atI (nth q 6)) (atI (nth q 7)))) (fun q => [.b (o_fence_Within_0 F (atB (nth q 0)) (atC (nth q 1)) (atN (nth q 2)) (atN (nth q 3)) (atI (nth q 4)) (atI (nth q 5)) (atI (nth q 6)) (atI (nth q 7))), .i (o_fence_Within_1 F (atB (nth q 0)) (atC (nth q 1)) (atN (nth q 2)) (atN (nth q 3)) (atI (nth q 4)) (atI (nth q 5)) (atI (nth q 6)) (atI (nth q 7)))])), (28, spec ti_fence_Zone_height to_fence_Zone_height (fun q => (ok_fence_Zone_height F (atB (nth q 0)) (atC (nth q 1)) (atN (nth q 2)) (atI (nth q 3)) (atI (nth q 4)) (atI (nth q 5)) (atI (nth q 6)))) (fun q => [.b (o_fence_Zone_height_0 F (atB (nth q 0)) (atC (nth q 1)) (atN (nth q 2)) (atI (nth q 3)) (atI (nth q 4)) (atI (nth q 5)) (atI (nth q 6))), .b (o_fence_Zone_height_1 F (atB (nth q 0)) (atC (nth q 1)) (atN (nth q 2)) (atI (nth q 3)) (atI (nth q 4)) (atI (nth q 5)) (atI (nth q 6)))]))]) c_fence_State (tabI c_fence_State []) (tabJ [⟨9, 0, TN_fence_State_0, fun k q => N_fence_State_0 F (fun (z0 : Bool) (z1 : List VV) (z2 : Nat) (z3 : Int) (z4 : Int) (z5 : Int) (z6 : Int) (z7 : Int) (z8 : Int) (z9 : Int) (z10 : Int) (z11 : Bool) (z12 : Int) (z13 : Bool) (z14 : Bool) (z15 : Bool) (z16 : Bool) (z17 : Bool) (z18 : List VV) (z19 : Nat) (z20 : Int) (z21 : Int) (z22 : Int) (z23 : Int) (z24 : Int) (z25 : Int) (z26 : Int) => k .ret (fS TN_fence_State_0_0 [.b z0, .c z1, .n z2, .i z3, .i z4, .i z5, .i z6, .i z7, .i z8, .i z9, .i z10, .b z11, .i z12, .b z13, .b z14, .b z15, .b z16, .b z17, .c z18, .n z19, .i z20, .i z21, .i z22, .i z23, .i z24, .i z25, .i z26])) (fun (z0 : Bool) (z1 : List VV) (z2 : Nat) (z3 : Int) (z4 : Int) (z5 : Int) (z6 : Int) (z7 : Int) (z8 : Int) (z9 : Int) (z10 : Int) (z11 : Bool) (z12 : Int) (z13 : Bool) (z14 : Bool) (z15 : Bool) (z16 : Bool) (z17 : Bool) (z18 : Bool) (z19 : List VV) (z20 : Nat) (z21 : Int) (z22 : Int) (z23 : Int) (z24 : Int) (z25 : Int) (z26 : Int) (z27 : Int) => k .ret (fS TN_fence_State_0_1 [.b z0, .c z1, .n z2, .i z3, .i z4, .i z5, .i z6, .i z7, .i z8, .i z9, .i z10, .b z11, .i z12, .b z13, .b z14, .b z15, .b z16, .b z17, .b z18, .c z19, .n z20, .i z21, .i z22, .i z23, .i z24, .i z25, .i z26, .i z27])) (atB (nth q 0)) (atC (nth q 1)) (atN (nth q 2)) (atI (nth q 3)) (atI (nth q 4)) (atI (nth q 5)) (atI (nth q 6)) (atI (nth q 7)) (atI (nth q 8)) (atI (nth q 9)) (atI (nth q 10)) (atB (nth q 11)) (atI (nth q 12)) (atB (nth q 13)) (atB (nth q 14)) (atB (nth q 15)) (atB (nth q 16)) (atC (nth q 17)) (atN (nth q 18)) (atI (nth q 19)) (atI (nth q 20)) (atI (nth q 21)) (atI (nth q 22)) (atI (nth q 23)) (atI (nth q 24)) (atI (nth q 25))⟩, ⟨8, 0, TN_fence_State_1, fun k q => N_fence_State_1 F (fun (z0 : Bool) (z1 : List VV) (z2 : Nat) (z3 : Int) (z4 : Int) (z5 : Int) (z6 : Int) (z7 : Int) (z8 : Int) (z9 : Int) (z10 : Int) (z11 : Bool) (z12 : Int) (z13 : Bool) (z14 : Bool) (z15 : Bool) (z16 : Bool) (z17 : Bool) (z18 : List VV) (z19 : Nat) (z20 : Int) (z21 : Int) (z22 : Int) (z23 : Int) (z24 : Int) (z25 : Int) (z26 : Int) => k .ret (fS TN_fence_State_1_0 [.b z0, .c z1, .n z2, .i z3, .i z4, .i z5, .i z6, .i z7, .i z8, .i z9, .i z10, .b z11, .i z12, .b z13, .b z14, .b z15, .b z16, .b z17, .c z18, .n z19, .i z20, .i z21, .i z22, .i z23, .i z24, .i z25, .i z26])) (fun (z0 : Bool) (z1 : List VV) (z2 : Nat) (z3 : Int) (z4 : Int) (z5 : Int) (z6 : Int) (z7 : Int) (z8 : Int) (z9 : Int) (z10 : Int) (z11 : Bool) (z12 : Int) (z13 : Bool) (z14 : Bool) (z15 : Bool) (z16 : Bool) (z17 : Bool) (z18 : Bool) (z19 : List VV) (z20 : Nat) (z21 : Int) (z22 : Int) (z23 : Int) (z24 : Int) (z25 : Int) (z26 : Int) (z27 : Int) => k .ret (fS TN_fence_State_1_1 [.b z0, .c z1, .n z2, .i z3, .i z4, .i z5, .i z6, .i z7, .i z8, .i z9, .i z10, .b z11, .i z12, .b z13, .b z14, .b z15, .b z16, .b z17, .b z18, .c z19, .n z20, .i z21, .i z22, .i z23, .i z24, .i z25, .i z26, .i z27])) (atB (nth q 0)) (atC (nth q 1)) (atN (nth q 2)) (atI (nth q 3)) (atI (nth q 4)) (atI (nth q 5)) (atI (nth q 6)) (atI (nth q 7)) (atI (nth q 8)) (atI (nth q 9)) (atI (nth q 10)) (atB (nth q 11)) (atI (nth q 12)) (atB (nth q 13)) (atB (nth q 14)) (atB (nth q 15)) (atB (nth q 16)) (atC (nth q 17)) (atN (nth q 18)) (atI (nth q 19)) (atI (nth q 20)) (atI (nth q 21)) (atI (nth q 22)) (atI (nth q 23)) (atI (nth q 24)) (atI (nth q 25))⟩]) (joinAt PP c_fence_State 13 0) 0 (fS TN_fence_State_1 [.b x0, .c x1, .n x2, .i x3, .i x4, .i x5, .i x6, .i x7, .i x8, .i x9, .i x10, .b x11, .i x12, .b x13, .b x14, .b x15, .b x16, .c x17, .n x18, .i x19, .i x20, .i x21, .i x22, .i x23, .i x24, .i x25]) k = (fun (ex0 : Bool → List VV → Nat → Int → Int → Int → Int → Int → Int → Int → Int → Bool → Int → Bool → Bool → Bool → Bool → Bool → List VV → Nat → Int → Int → Int → Int → Int → Int → Int → R) (ex1 : Bool → List VV → Nat → Int → Int → Int → Int → Int → Int → Int → Int → Bool → Int → Bool → Bool → Bool → Bool → Bool → Bool → List VV → Nat → Int → Int → Int → Int → Int → Int → Int → R) => (
  bif x15 then (
    N_fence_State_0 F (fun (v1027 : Bool) (v1028 : List VV) (v1029 : Nat) (v1030 : Int) (v1031 : Int) (v1032 : Int) (v1033 : Int) (v1034 : Int) (v1035 : Int) (v1036 : Int) (v1037 : Int) (v1038 : Bool) (v1039 : Int) (v1040 : Bool) (v1041 : Bool) (v1042 : Bool) (v1043 : Bool) (v1044 : Bool) (v1045 : List VV) (v1046 : Nat) (v1047 : Int) (v1048 : Int) (v1049 : Int) (v1050 : Int) (v1051 : Int) (v1052 : Int) (v1053 : Int) =>
      ex0 v1027 v1028 v1029 v1030 v1031 v1032 v1033 v1034 v1035 v1036 v1037 v1038 v1039 v1040 v1041 v1042 v1043 v1044 v1045 v1046 v1047 v1048 v1049 v1050 v1051 v1052 v1053) (fun (v1054 : Bool) (v1055 : List VV) (v1056 : Nat) (v1057 : Int) (v1058 : Int) (v1059 : Int) (v1060 : Int) (v1061 : Int) (v1062 : Int) (v1063 : Int) (v1064 : Int) (v1065 : Bool) (v1066 : Int) (v1067 : Bool) (v1068 : Bool) (v1069 : Bool) (v1070 : Bool) (v1071 : Bool) (v1072 : Bool) (v1073 : List VV) (v1074 : Nat) (v1075 : Int) (v1076 : Int) (v1077 : Int) (v1078 : Int) (v1079 : Int) (v1080 : Int) (v1081 : Int) =>
      ex1 v1054 v1055 v1056 v1057 v1058 v1059 v1060 v1061 v1062 v1063 v1064 v1065 v1066 v1067 v1068 v1069 v1070 v1071 v1072 v1073 v1074 v1075 v1076 v1077 v1078 v1079 v1080 v1081) x0 x1 x2 x3 x4 x5 x6 x7 x8 x9 x10 x11 x12 x13 x14 true x16 x17 x18 x19 x20 x21 x22 x23 x24 x25)
  else (
    bif ((!x13)) then (
      N_fence_State_0 F (fun (v1084 : Bool) (v1085 : List VV) (v1086 : Nat) (v1087 : Int) (v1088 : Int) (v1089 : Int) (v1090 : Int) (v1091 : Int) (v1092 : Int) (v1093 : Int) (v1094 : Int) (v1095 : Bool) (v1096 : Int) (v1097 : Bool) (v1098 : Bool) (v1099 : Bool) (v1100 : Bool) (v1101 : Bool) (v1102 : List VV) (v1103 : Nat) (v1104 : Int) (v1105 : Int) (v1106 : Int) (v1107 : Int) (v1108 : Int) (v1109 : Int) (v1110 : Int) =>
        ex0 v1084 v1085 v1086 v1087 v1088 v1089 v1090 v1091 v1092 v1093 v1094 v1095 v1096 v1097 v1098 v1099 v1100 v1101 v1102 v1103 v1104 v1105 v1106 v1107 v1108 v1109 v1110) (fun (v1111 : Bool) (v1112 : List VV) (v1113 : Nat) (v1114 : Int) (v1115 : Int) (v1116 : Int) (v1117 : Int) (v1118 : Int) (v1119 : Int) (v1120 : Int) (v1121 : Int) (v1122 : Bool) (v1123 : Int) (v1124 : Bool) (v1125 : Bool) (v1126 : Bool) (v1127 : Bool) (v1128 : Bool) (v1129 : Bool) (v1130 : List VV) (v1131 : Nat) (v1132 : Int) (v1133 : Int) (v1134 : Int) (v1135 : Int) (v1136 : Int) (v1137 : Int) (v1138 : Int) =>
        ex1 v1111 v1112 v1113 v1114 v1115 v1116 v1117 v1118 v1119 v1120 v1121 v1122 v1123 v1124 v1125 v1126 v1127 v1128 v1129 v1130 v1131 v1132 v1133 v1134 v1135 v1136 v1137 v1138) x0 x1 x2 x3 x4 x5 x6 x7 x8 x9 x10 x11 x12 x13 x14 ((!x11)) x16 x17 x18 x19 x20 x21 x22 x23 x24 x25)
    else (
      N_fence_State_0 F (fun (v1139 : Bool) (v1140 : List VV) (v1141 : Nat) (v1142 : Int) (v1143 : Int) (v1144 : Int) (v1145 : Int) (v1146 : Int) (v1147 : Int) (v1148 : Int) (v1149 : Int) (v1150 : Bool) (v1151 : Int) (v1152 : Bool) (v1153 : Bool) (v1154 : Bool) (v1155 : Bool) (v1156 : Bool) (v1157 : List VV) (v1158 : Nat) (v1159 : Int) (v1160 : Int) (v1161 : Int) (v1162 : Int) (v1163 : Int) (v1164 : Int) (v1165 : Int) =>
        ex0 v1139 v1140 v1141 v1142 v1143 v1144 v1145 v1146 v1147 v1148 v1149 v1150 v1151 v1152 v1153 v1154 v1155 v1156 v1157 v1158 v1159 v1160 v1161 v1162 v1163 v1164 v1165) (fun (v1166 : Bool) (v1167 : List VV) (v1168 : Nat) (v1169 : Int) (v1170 : Int) (v1171 : Int) (v1172 : Int) (v1173 : Int) (v1174 : Int) (v1175 : Int) (v1176 : Int) (v1177 : Bool) (v1178 : Int) (v1179 : Bool) (v1180 : Bool) (v1181 : Bool) (v1182 : Bool) (v1183 : Bool) (v1184 : Bool) (v1185 : List VV) (v1186 : Nat) (v1187 : Int) (v1188 : Int) (v1189 : Int) (v1190 : Int) (v1191 : Int) (v1192 : Int) (v1193 : Int) =>
        ex1 v1166 v1167 v1168 v1169 v1170 v1171 v1172 v1173 v1174 v1175 v1176 v1177 v1178 v1179 v1180 v1181 v1182 v1183 v1184 v1185 v1186 v1187 v1188 v1189 v1190 v1191 v1192 v1193) x0 x1 x2 x3 x4 x5 x6 x7 x8 x9 x10 x11 x12 x13 x14 false x16 x17 x18 x19 x20 x21 x22 x23 x24 x25)) : R)) (fun (z0 : Bool) (z1 : List VV) (z2 : Nat) (z3 : Int) (z4 : Int) (z5 : Int) (z6 : Int) (z7 : Int) (z8 : Int) (z9 : Int) (z10 : Int) (z11 : Bool) (z12 : Int) (z13 : Bool) (z14 : Bool) (z15 : Bool) (z16 : Bool) (z17 : Bool) (z18 : List VV) (z19 : Nat) (z20 : Int) (z21 : Int) (z22 : Int) (z23 : Int) (z24 : Int) (z25 : Int) (z26 : Int) => k .ret (fS TN_fence_State_1_0 [.b z0, .c z1, .n z2, .i z3, .i z4, .i z5, .i z6, .i z7, .i z8, .i z9, .i z10, .b z11, .i z12, .b z13, .b z14, .b z15, .b z16, .b z17, .c z18, .n z19, .i z20, .i z21, .i z22, .i z23, .i z24, .i z25, .i z26])) (fun (z0 : Bool) (z1 : List VV) (z2 : Nat) (z3 : Int) (z4 : Int) (z5 : Int) (z6 : Int) (z7 : Int) (z8 : Int) (z9 : Int) (z10 : Int) (z11 : Bool) (z12 : Int) (z13 : Bool) (z14 : Bool) (z15 : Bool) (z16 : Bool) (z17 : Bool) (z18 : Bool) (z19 : List VV) (z20 : Nat) (z21 : Int) (z22 : Int) (z23 : Int) (z24 : Int) (z25 : Int) (z26 : Int) (z27 : Int) => k .ret (fS TN_fence_State_1_1 [.b z0, .c z1, .n z2, .i z3, .i z4, .i z5, .i z6, .i z7, .i z8, .i z9, .i z10, .b z11, .i z12, .b z13, .b z14, .b z15, .b z16, .b z17, .b z18, .c z19, .n z20, .i z21, .i z22, .i z23, .i z24, .i z25, .i z26, .i z27])) := by
    intros
    kernel_rfl
  exact (h0 ok_fence_Touches o_fence_Touches_0 o_fence_Touches_1 ok_fence_Within o_fence_Within_0 o_fence_Within_1 ok_fence_Zone_height o_fence_Zone_height_0 o_fence_Zone_height_1 N_fence_State_0 N_fence_State_1).trans (by kernel_rfl)
def f_fence_State (F : Nat) (a0 : Bool) (a1 : List VV) (a2 : Nat) (a3 : Int) (a4 : Int) (a5 : Int) (a6 : Int) (a7 : Int) (a8 : Int) : R :=
  bif (ok_fence_Touches F a0 a1 0 a2 a3 a4 a5 a6 a8) then (
    let v935 : Bool := (o_fence_Touches_0 F a0 a1 0 a2 a3 a4 a5 a6 a8)
    let v936 : Int := (o_fence_Touches_1 F a0 a1 0 a2 a3 a4 a5 a6 a8)
    bif ((v936 != 0)) then (
      some (.v (.tuple #[.int .i64 0, .int .i64 v936])))
    else (
      bif (ok_fence_Within F a0 a1 0 a2 a3 a4 a5 a6) then (
        let v938 : Bool := (o_fence_Within_0 F a0 a1 0 a2 a3 a4 a5 a6)
        bif (ok_fence_Zone_height F a0 a1 a2 a3 a4 a7 a8) then (
          let v971 : Bool := (o_fence_Zone_height_1 F a0 a1 a2 a3 a4 a7 a8)
          bif ((o_fence_Zone_height_0 F a0 a1 a2 a3 a4 a7 a8)) then (
            bif v938 then (
              N_fence_State_1 F (fun (v1194 : Bool) (v1195 : List VV) (v1196 : Nat) (v1197 : Int) (v1198 : Int) (v1199 : Int) (v1200 : Int) (v1201 : Int) (v1202 : Int) (v1203 : Int) (v1204 : Int) (v1205 : Bool) (v1206 : Int) (v1207 : Bool) (v1208 : Bool) (v1209 : Bool) (v1210 : Bool) (v1211 : Bool) (v1212 : List VV) (v1213 : Nat) (v1214 : Int) (v1215 : Int) (v1216 : Int) (v1217 : Int) (v1218 : Int) (v1219 : Int) (v1220 : Int) =>
                some (.v (.tuple #[.int .i64 v1203, .int .i64 v1204]))) (fun (v1221 : Bool) (v1222 : List VV) (v1223 : Nat) (v1224 : Int) (v1225 : Int) (v1226 : Int) (v1227 : Int) (v1228 : Int) (v1229 : Int) (v1230 : Int) (v1231 : Int) (v1232 : Bool) (v1233 : Int) (v1234 : Bool) (v1235 : Bool) (v1236 : Bool) (v1237 : Bool) (v1238 : Bool) (v1239 : Bool) (v1240 : List VV) (v1241 : Nat) (v1242 : Int) (v1243 : Int) (v1244 : Int) (v1245 : Int) (v1246 : Int) (v1247 : Int) (v1248 : Int) =>
                some (.v (.tuple #[.int .i64 v1230, .int .i64 v1231]))) a0 a1 a2 a3 a4 a5 a6 a7 a8 0 0 v935 v936 v938 ((!v935)) v971 a0 a1 a2 a3 a4 a5 a6 a7 a5 a6)
            else (
              N_fence_State_1 F (fun (v1249 : Bool) (v1250 : List VV) (v1251 : Nat) (v1252 : Int) (v1253 : Int) (v1254 : Int) (v1255 : Int) (v1256 : Int) (v1257 : Int) (v1258 : Int) (v1259 : Int) (v1260 : Bool) (v1261 : Int) (v1262 : Bool) (v1263 : Bool) (v1264 : Bool) (v1265 : Bool) (v1266 : Bool) (v1267 : List VV) (v1268 : Nat) (v1269 : Int) (v1270 : Int) (v1271 : Int) (v1272 : Int) (v1273 : Int) (v1274 : Int) (v1275 : Int) =>
                some (.v (.tuple #[.int .i64 v1258, .int .i64 v1259]))) (fun (v1276 : Bool) (v1277 : List VV) (v1278 : Nat) (v1279 : Int) (v1280 : Int) (v1281 : Int) (v1282 : Int) (v1283 : Int) (v1284 : Int) (v1285 : Int) (v1286 : Int) (v1287 : Bool) (v1288 : Int) (v1289 : Bool) (v1290 : Bool) (v1291 : Bool) (v1292 : Bool) (v1293 : Bool) (v1294 : Bool) (v1295 : List VV) (v1296 : Nat) (v1297 : Int) (v1298 : Int) (v1299 : Int) (v1300 : Int) (v1301 : Int) (v1302 : Int) (v1303 : Int) =>
                some (.v (.tuple #[.int .i64 v1285, .int .i64 v1286]))) a0 a1 a2 a3 a4 a5 a6 a7 a8 0 0 v935 v936 v938 false v971 a0 a1 a2 a3 a4 a5 a6 a7 a5 a6))
          else (
            N_fence_State_1 F (fun (v1304 : Bool) (v1305 : List VV) (v1306 : Nat) (v1307 : Int) (v1308 : Int) (v1309 : Int) (v1310 : Int) (v1311 : Int) (v1312 : Int) (v1313 : Int) (v1314 : Int) (v1315 : Bool) (v1316 : Int) (v1317 : Bool) (v1318 : Bool) (v1319 : Bool) (v1320 : Bool) (v1321 : Bool) (v1322 : List VV) (v1323 : Nat) (v1324 : Int) (v1325 : Int) (v1326 : Int) (v1327 : Int) (v1328 : Int) (v1329 : Int) (v1330 : Int) =>
              some (.v (.tuple #[.int .i64 v1313, .int .i64 v1314]))) (fun (v1331 : Bool) (v1332 : List VV) (v1333 : Nat) (v1334 : Int) (v1335 : Int) (v1336 : Int) (v1337 : Int) (v1338 : Int) (v1339 : Int) (v1340 : Int) (v1341 : Int) (v1342 : Bool) (v1343 : Int) (v1344 : Bool) (v1345 : Bool) (v1346 : Bool) (v1347 : Bool) (v1348 : Bool) (v1349 : Bool) (v1350 : List VV) (v1351 : Nat) (v1352 : Int) (v1353 : Int) (v1354 : Int) (v1355 : Int) (v1356 : Int) (v1357 : Int) (v1358 : Int) =>
              some (.v (.tuple #[.int .i64 v1340, .int .i64 v1341]))) a0 a1 a2 a3 a4 a5 a6 a7 a8 0 0 v935 v936 v938 false v971 a0 a1 a2 a3 a4 a5 a6 a7 a5 a6))
        else (
          none))
      else (
        none)))
  else (
    none)
theorem e_fence_State (F : Nat) (a0 : Bool) (a1 : List VV) (a2 : Nat) (a3 : Int) (a4 : Int) (a5 : Int) (a6 : Int) (a7 : Int) (a8 : Int) : funL PP (S_fence_State F) c_fence_State (I_fence_State F) (J_fence_State F) 13 (fTs ti_fence_State [.b a0, .c a1, .n a2, .i a3, .i a4, .i a5, .i a6, .i a7, .i a8]).1 = f_fence_State F a0 a1 a2 a3 a4 a5 a6 a7 a8 := by
  have h : ∀ (ok_fence_Touches : Nat → Bool → List VV → Nat → Nat → Int → Int → Int → Int → Int → Bool) (o_fence_Touches_0 : Nat → Bool → List VV → Nat → Nat → Int → Int → Int → Int → Int → Bool) (o_fence_Touches_1 : Nat → Bool → List VV → Nat → Nat → Int → Int → Int → Int → Int → Int) (ok_fence_Within : Nat → Bool → List VV → Nat → Nat → Int → Int → Int → Int → Bool) (o_fence_Within_0 : Nat → Bool → List VV → Nat → Nat → Int → Int → Int → Int → Bool) (o_fence_Within_1 : Nat → Bool → List VV → Nat → Nat → Int → Int → Int → Int → Int) (ok_fence_Zone_height : Nat → Bool → List VV → Nat → Int → Int → Int → Int → Bool) (o_fence_Zone_height_0 : Nat → Bool → List VV → Nat → Int → Int → Int → Int → Bool) (o_fence_Zone_height_1 : Nat → Bool → List VV → Nat → Int → Int → Int → Int → Bool) (N_fence_State_0 : Nat → (Bool → List VV → Nat → Int → Int → Int → Int → Int → Int → Int → Int → Bool → Int → Bool → Bool → Bool → Bool → Bool → List VV → Nat → Int → Int → Int → Int → Int → Int → Int → R) → (Bool → List VV → Nat → Int → Int → Int → Int → Int → Int → Int → Int → Bool → Int → Bool → Bool → Bool → Bool → Bool → Bool → List VV → Nat → Int → Int → Int → Int → Int → Int → Int → R) → Bool → List VV → Nat → Int → Int → Int → Int → Int → Int → Int → Int → Bool → Int → Bool → Bool → Bool → Bool → List VV → Nat → Int → Int → Int → Int → Int → Int → Int → R) (N_fence_State_1 : Nat → (Bool → List VV → Nat → Int → Int → Int → Int → Int → Int → Int → Int → Bool → Int → Bool → Bool → Bool → Bool → Bool → List VV → Nat → Int → Int → Int → Int → Int → Int → Int → R) → (Bool → List VV → Nat → Int → Int → Int → Int → Int → Int → Int → Int → Bool → Int → Bool → Bool → Bool → Bool → Bool → Bool → List VV → Nat → Int → Int → Int → Int → Int → Int → Int → R) → Bool → List VV → Nat → Int → Int → Int → Int → Int → Int → Int → Int → Bool → Int → Bool → Bool → Bool → Bool → List VV → Nat → Int → Int → Int → Int → Int → Int → Int → R), funL PP (words [(11, spec ti_fence_Touches to_fence_Touches (fun q => (ok_fence_Touches F (atB (nth q 0)) (atC (nth q 1)) (atN (nth q 2)) (atN (nth q 3)) (atI (nth q 4)) (atI (nth q 5)) (atI (nth q 6)) (atI (nth q 7)) (atI (nth q 8)))) (fun q => [.b (o_fence_Touches_0 F (atB (nth q 0)) (atC (nth q 1)) (atN (nth q 2)) (atN (nth q 3)) (atI (nth q 4)) (atI (nth q 5)) (atI (nth q 6)) (atI (nth q 7)) (atI (nth q 8))), .i (o_fence_Touches_1 F (atB (nth q 0)) (atC (nth q 1)) (atN (nth q 2)) (atN (nth q 3)) (atI (nth q 4)) (atI (nth q 5)) (atI (nth q 6)) (atI (nth q 7)) (atI (nth q 8)))])), (8, spec ti_fence_Within to_fence_Within (fun q => (ok_fence_Within F (atB (nth q 0)) (atC (nth q 1)) (atN (nth q 2)) (atN (nth q 3)) (atI (nth q 4)) (atI (nth q 5)) (atI (nth q 6)) (atI (nth q 7)))) (fun q => [.b (o_fence_Within_0 F (atB (nth q 0)) (atC (nth q 1)) (atN (nth q 2)) (atN (nth q 3)) (atI (nth q 4)) (atI (nth q 5)) (atI (nth q 6)) (atI (nth q 7))), .i (o_fence_Within_1 F (atB (nth q 0)) (atC (nth q 1)) (atN (nth q 2)) (atN (nth q 3)) (atI (nth q 4)) (atI (nth q 5)) (atI (nth q 6)) (atI (nth q 7)))])), (28, spec ti_fence_Zone_height to_fence_Zone_height (fun q => (ok_fence_Zone_height F (atB (nth q 0)) (atC (nth q 1)) (atN (nth q 2)) (atI (nth q 3)) (atI (nth q 4)) (atI (nth q 5)) (atI (nth q 6)))) (fun q => [.b (o_fence_Zone_height_0 F (atB (nth q 0)) (atC (nth q 1)) (atN (nth q 2)) (atI (nth q 3)) (atI (nth q 4)) (atI (nth q 5)) (atI (nth q 6))), .b (o_fence_Zone_height_1 F (atB (nth q 0)) (atC (nth q 1)) (atN (nth q 2)) (atI (nth q 3)) (atI (nth q 4)) (atI (nth q 5)) (atI (nth q 6)))]))]) c_fence_State (tabI c_fence_State []) (tabJ [⟨9, 0, TN_fence_State_0, fun k q => N_fence_State_0 F (fun (z0 : Bool) (z1 : List VV) (z2 : Nat) (z3 : Int) (z4 : Int) (z5 : Int) (z6 : Int) (z7 : Int) (z8 : Int) (z9 : Int) (z10 : Int) (z11 : Bool) (z12 : Int) (z13 : Bool) (z14 : Bool) (z15 : Bool) (z16 : Bool) (z17 : Bool) (z18 : List VV) (z19 : Nat) (z20 : Int) (z21 : Int) (z22 : Int) (z23 : Int) (z24 : Int) (z25 : Int) (z26 : Int) => k .ret (fS TN_fence_State_0_0 [.b z0, .c z1, .n z2, .i z3, .i z4, .i z5, .i z6, .i z7, .i z8, .i z9, .i z10, .b z11, .i z12, .b z13, .b z14, .b z15, .b z16, .b z17, .c z18, .n z19, .i z20, .i z21, .i z22, .i z23, .i z24, .i z25, .i z26])) (fun (z0 : Bool) (z1 : List VV) (z2 : Nat) (z3 : Int) (z4 : Int) (z5 : Int) (z6 : Int) (z7 : Int) (z8 : Int) (z9 : Int) (z10 : Int) (z11 : Bool) (z12 : Int) (z13 : Bool) (z14 : Bool) (z15 : Bool) (z16 : Bool) (z17 : Bool) (z18 : Bool) (z19 : List VV) (z20 : Nat) (z21 : Int) (z22 : Int) (z23 : Int) (z24 : Int) (z25 : Int) (z26 : Int) (z27 : Int) => k .ret (fS TN_fence_State_0_1 [.b z0, .c z1, .n z2, .i z3, .i z4, .i z5, .i z6, .i z7, .i z8, .i z9, .i z10, .b z11, .i z12, .b z13, .b z14, .b z15, .b z16, .b z17, .b z18, .c z19, .n z20, .i z21, .i z22, .i z23, .i z24, .i z25, .i z26, .i z27])) (atB (nth q 0)) (atC (nth q 1)) (atN (nth q 2)) (atI (nth q 3)) (atI (nth q 4)) (atI (nth q 5)) (atI (nth q 6)) (atI (nth q 7)) (atI (nth q 8)) (atI (nth q 9)) (atI (nth q 10)) (atB (nth q 11)) (atI (nth q 12)) (atB (nth q 13)) (atB (nth q 14)) (atB (nth q 15)) (atB (nth q 16)) (atC (nth q 17)) (atN (nth q 18)) (atI (nth q 19)) (atI (nth q 20)) (atI (nth q 21)) (atI (nth q 22)) (atI (nth q 23)) (atI (nth q 24)) (atI (nth q 25))⟩, ⟨8, 0, TN_fence_State_1, fun k q => N_fence_State_1 F (fun (z0 : Bool) (z1 : List VV) (z2 : Nat) (z3 : Int) (z4 : Int) (z5 : Int) (z6 : Int) (z7 : Int) (z8 : Int) (z9 : Int) (z10 : Int) (z11 : Bool) (z12 : Int) (z13 : Bool) (z14 : Bool) (z15 : Bool) (z16 : Bool) (z17 : Bool) (z18 : List VV) (z19 : Nat) (z20 : Int) (z21 : Int) (z22 : Int) (z23 : Int) (z24 : Int) (z25 : Int) (z26 : Int) => k .ret (fS TN_fence_State_1_0 [.b z0, .c z1, .n z2, .i z3, .i z4, .i z5, .i z6, .i z7, .i z8, .i z9, .i z10, .b z11, .i z12, .b z13, .b z14, .b z15, .b z16, .b z17, .c z18, .n z19, .i z20, .i z21, .i z22, .i z23, .i z24, .i z25, .i z26])) (fun (z0 : Bool) (z1 : List VV) (z2 : Nat) (z3 : Int) (z4 : Int) (z5 : Int) (z6 : Int) (z7 : Int) (z8 : Int) (z9 : Int) (z10 : Int) (z11 : Bool) (z12 : Int) (z13 : Bool) (z14 : Bool) (z15 : Bool) (z16 : Bool) (z17 : Bool) (z18 : Bool) (z19 : List VV) (z20 : Nat) (z21 : Int) (z22 : Int) (z23 : Int) (z24 : Int) (z25 : Int) (z26 : Int) (z27 : Int) => k .ret (fS TN_fence_State_1_1 [.b z0, .c z1, .n z2, .i z3, .i z4, .i z5, .i z6, .i z7, .i z8, .i z9, .i z10, .b z11, .i z12, .b z13, .b z14, .b z15, .b z16, .b z17, .b z18, .c z19, .n z20, .i z21, .i z22, .i z23, .i z24, .i z25, .i z26, .i z27])) (atB (nth q 0)) (atC (nth q 1)) (atN (nth q 2)) (atI (nth q 3)) (atI (nth q 4)) (atI (nth q 5)) (atI (nth q 6)) (atI (nth q 7)) (atI (nth q 8)) (atI (nth q 9)) (atI (nth q 10)) (atB (nth q 11)) (atI (nth q 12)) (atB (nth q 13)) (atB (nth q 14)) (atB (nth q 15)) (atB (nth q 16)) (atC (nth q 17)) (atN (nth q 18)) (atI (nth q 19)) (atI (nth q 20)) (atI (nth q 21)) (atI (nth q 22)) (atI (nth q 23)) (atI (nth q 24)) (atI (nth q 25))⟩]) 13 (fTs ti_fence_State [.b a0, .c a1, .n a2, .i a3, .i a4, .i a5, .i a6, .i a7, .i a8]).1 = (
  bif (ok_fence_Touches F a0 a1 0 a2 a3 a4 a5 a6 a8) then (
    let v935 : Bool := (o_fence_Touches_0 F a0 a1 0 a2 a3 a4 a5 a6 a8)
    let v936 : Int := (o_fence_Touches_1 F a0 a1 0 a2 a3 a4 a5 a6 a8)
    bif ((v936 != 0)) then (
      some (.v (.tuple #[.int .i64 0, .int .i64 v936])))
    else (
      bif (ok_fence_Within F a0 a1 0 a2 a3 a4 a5 a6) then (
        let v938 : Bool := (o_fence_Within_0 F a0 a1 0 a2 a3 a4 a5 a6)
        bif (ok_fence_Zone_height F a0 a1 a2 a3 a4 a7 a8) then (
          let v971 : Bool := (o_fence_Zone_height_1 F a0 a1 a2 a3 a4 a7 a8)
          bif ((o_fence_Zone_height_0 F a0 a1 a2 a3 a4 a7 a8)) then (
            bif v938 then (
              N_fence_State_1 F (fun (v1194 : Bool) (v1195 : List VV) (v1196 : Nat) (v1197 : Int) (v1198 : Int) (v1199 : Int) (v1200 : Int) (v1201 : Int) (v1202 : Int) (v1203 : Int) (v1204 : Int) (v1205 : Bool) (v1206 : Int) (v1207 : Bool) (v1208 : Bool) (v1209 : Bool) (v1210 : Bool) (v1211 : Bool) (v1212 : List VV) (v1213 : Nat) (v1214 : Int) (v1215 : Int) (v1216 : Int) (v1217 : Int) (v1218 : Int) (v1219 : Int) (v1220 : Int) =>
                some (.v (.tuple #[.int .i64 v1203, .int .i64 v1204]))) (fun (v1221 : Bool) (v1222 : List VV) (v1223 : Nat) (v1224 : Int) (v1225 : Int) (v1226 : Int) (v1227 : Int) (v1228 : Int) (v1229 : Int) (v1230 : Int) (v1231 : Int) (v1232 : Bool) (v1233 : Int) (v1234 : Bool) (v1235 : Bool) (v1236 : Bool) (v1237 : Bool) (v1238 : Bool) (v1239 : Bool) (v1240 : List VV) (v1241 : Nat) (v1242 : Int) (v1243 : Int) (v1244 : Int) (v1245 : Int) (v1246 : Int) (v1247 : Int) (v1248 : Int) =>
                some (.v (.tuple #[.int .i64 v1230, .int .i64 v1231]))) a0 a1 a2 a3 a4 a5 a6 a7 a8 0 0 v935 v936 v938 ((!v935)) v971 a0 a1 a2 a3 a4 a5 a6 a7 a5 a6)
            else (
              N_fence_State_1 F (fun (v1249 : Bool) (v1250 : List VV) (v1251 : Nat) (v1252 : Int) (v1253 : Int) (v1254 : Int) (v1255 : Int) (v1256 : Int) (v1257 : Int) (v1258 : Int) (v1259 : Int) (v1260 : Bool) (v1261 : Int) (v1262 : Bool) (v1263 : Bool) (v1264 : Bool) (v1265 : Bool) (v1266 : Bool) (v1267 : List VV) (v1268 : Nat) (v1269 : Int) (v1270 : Int) (v1271 : Int) (v1272 : Int) (v1273 : Int) (v1274 : Int) (v1275 : Int) =>
                some (.v (.tuple #[.int .i64 v1258, .int .i64 v1259]))) (fun (v1276 : Bool) (v1277 : List VV) (v1278 : Nat) (v1279 : Int) (v1280 : Int) (v1281 : Int) (v1282 : Int) (v1283 : Int) (v1284 : Int) (v1285 : Int) (v1286 : Int) (v1287 : Bool) (v1288 : Int) (v1289 : Bool) (v1290 : Bool) (v1291 : Bool) (v1292 : Bool) (v1293 : Bool) (v1294 : Bool) (v1295 : List VV) (v1296 : Nat) (v1297 : Int) (v1298 : Int) (v1299 : Int) (v1300 : Int) (v1301 : Int) (v1302 : Int) (v1303 : Int) =>
                some (.v (.tuple #[.int .i64 v1285, .int .i64 v1286]))) a0 a1 a2 a3 a4 a5 a6 a7 a8 0 0 v935 v936 v938 false v971 a0 a1 a2 a3 a4 a5 a6 a7 a5 a6))
          else (
            N_fence_State_1 F (fun (v1304 : Bool) (v1305 : List VV) (v1306 : Nat) (v1307 : Int) (v1308 : Int) (v1309 : Int) (v1310 : Int) (v1311 : Int) (v1312 : Int) (v1313 : Int) (v1314 : Int) (v1315 : Bool) (v1316 : Int) (v1317 : Bool) (v1318 : Bool) (v1319 : Bool) (v1320 : Bool) (v1321 : Bool) (v1322 : List VV) (v1323 : Nat) (v1324 : Int) (v1325 : Int) (v1326 : Int) (v1327 : Int) (v1328 : Int) (v1329 : Int) (v1330 : Int) =>
              some (.v (.tuple #[.int .i64 v1313, .int .i64 v1314]))) (fun (v1331 : Bool) (v1332 : List VV) (v1333 : Nat) (v1334 : Int) (v1335 : Int) (v1336 : Int) (v1337 : Int) (v1338 : Int) (v1339 : Int) (v1340 : Int) (v1341 : Int) (v1342 : Bool) (v1343 : Int) (v1344 : Bool) (v1345 : Bool) (v1346 : Bool) (v1347 : Bool) (v1348 : Bool) (v1349 : Bool) (v1350 : List VV) (v1351 : Nat) (v1352 : Int) (v1353 : Int) (v1354 : Int) (v1355 : Int) (v1356 : Int) (v1357 : Int) (v1358 : Int) =>
              some (.v (.tuple #[.int .i64 v1340, .int .i64 v1341]))) a0 a1 a2 a3 a4 a5 a6 a7 a8 0 0 v935 v936 v938 false v971 a0 a1 a2 a3 a4 a5 a6 a7 a5 a6))
        else (
          none))
      else (
        none)))
  else (
    none) : R) := by
    intros
    kernel_rfl
  exact (h ok_fence_Touches o_fence_Touches_0 o_fence_Touches_1 ok_fence_Within o_fence_Within_0 o_fence_Within_1 ok_fence_Zone_height o_fence_Zone_height_0 o_fence_Zone_height_1 N_fence_State_0 N_fence_State_1).trans (by kernel_rfl)
def ok_fence_State (F : Nat) (a0 : Bool) (a1 : List VV) (a2 : Nat) (a3 : Int) (a4 : Int) (a5 : Int) (a6 : Int) (a7 : Int) (a8 : Int) : Bool := okT to_fence_State (f_fence_State F a0 a1 a2 a3 a4 a5 a6 a7 a8)
def o_fence_State_0 (F : Nat) (a0 : Bool) (a1 : List VV) (a2 : Nat) (a3 : Int) (a4 : Int) (a5 : Int) (a6 : Int) (a7 : Int) (a8 : Int) : Int := atI (nth (outT to_fence_State (f_fence_State F a0 a1 a2 a3 a4 a5 a6 a7 a8)) 0)
def o_fence_State_1 (F : Nat) (a0 : Bool) (a1 : List VV) (a2 : Nat) (a3 : Int) (a4 : Int) (a5 : Int) (a6 : Int) (a7 : Int) (a8 : Int) : Int := atI (nth (outT to_fence_State (f_fence_State F a0 a1 a2 a3 a4 a5 a6 a7 a8)) 1)
theorem k_fence_State (F : Nat) (a0 : Bool) (a1 : List VV) (a2 : Nat) (a3 : Int) (a4 : Int) (a5 : Int) (a6 : Int) (a7 : Int) (a8 : Int) {z0 : Int} {z1 : Int} (h : f_fence_State F a0 a1 a2 a3 a4 a5 a6 a7 a8 = some (.v (.tuple #[.int .i64 z0, .int .i64 z1]))) : ok_fence_State F a0 a1 a2 a3 a4 a5 a6 a7 a8 = true ∧ o_fence_State_0 F a0 a1 a2 a3 a4 a5 a6 a7 a8 = z0 ∧ o_fence_State_1 F a0 a1 a2 a3 a4 a5 a6 a7 a8 = z1 := by
  refine ⟨?_, ?_, ?_⟩
  · unfold ok_fence_State; rw [h]; kernel_rfl
  · unfold o_fence_State_0; rw [h]; kernel_rfl
  · unfold o_fence_State_1; rw [h]; kernel_rfl
def s_fence_State (F : Nat) : List VV → Option (Bool × VV) := spec ti_fence_State to_fence_State (fun q => (ok_fence_State F (atB (nth q 0)) (atC (nth q 1)) (atN (nth q 2)) (atI (nth q 3)) (atI (nth q 4)) (atI (nth q 5)) (atI (nth q 6)) (atI (nth q 7)) (atI (nth q 8)))) (fun q => [.i (o_fence_State_0 F (atB (nth q 0)) (atC (nth q 1)) (atN (nth q 2)) (atI (nth q 3)) (atI (nth q 4)) (atI (nth q 5)) (atI (nth q 6)) (atI (nth q 7)) (atI (nth q 8))), .i (o_fence_State_1 F (atB (nth q 0)) (atC (nth q 1)) (atN (nth q 2)) (atI (nth q 3)) (atI (nth q 4)) (atI (nth q 5)) (atI (nth q 6)) (atI (nth q 7)) (atI (nth q 8)))])
theorem hS_fence_State (F : Nat) : ∀ f, Good PP f (unS (S_fence_State F f)) := words_good fun p hp => by
  simp only [List.mem_cons, List.not_mem_nil, or_false] at hp
  rcases hp with rfl | rfl | rfl
  · exact g_fence_Touches F
  · exact g_fence_Within F
  · exact g_fence_Zone_height F
theorem hl_fence_State (F : Nat) : ∀ p ∈ loopsIn PP 13, LoopOK PP (S_fence_State F) c_fence_State F (I_fence_State F) (J_fence_State F) p :=
  loops_of [] (by kernel_rfl) all_nil
theorem hj_fence_State (F : Nat) : ∀ p ∈ joinsIn PP c_fence_State 13, JoinOK PP (S_fence_State F) c_fence_State (I_fence_State F) (J_fence_State F) p :=
  joins_of [(8, 0, joinAt PP c_fence_State 13 0), (9, 0, joinAt PP c_fence_State 13 1)] (by kernel_rfl) (all_cons
    (join_ok (WJ_fence_State F) rfl (jtab_cons (fun h _ => absurd h (by decide)) (jtab_cons (fun _ _ k q => Le.ofEq ((nN_fence_State_1 F k (atB (nth q 0)) (atC (nth q 1)) (atN (nth q 2)) (atI (nth q 3)) (atI (nth q 4)) (atI (nth q 5)) (atI (nth q 6)) (atI (nth q 7)) (atI (nth q 8)) (atI (nth q 9)) (atI (nth q 10)) (atB (nth q 11)) (atI (nth q 12)) (atB (nth q 13)) (atB (nth q 14)) (atB (nth q 15)) (atB (nth q 16)) (atC (nth q 17)) (atN (nth q 18)) (atI (nth q 19)) (atI (nth q 20)) (atI (nth q 21)) (atI (nth q 22)) (atI (nth q 23)) (atI (nth q 24)) (atI (nth q 25))).symm.trans (congrArg (fun s => codeL PP (S_fence_State F) c_fence_State (I_fence_State F) (J_fence_State F) (joinAt PP c_fence_State 13 0) 0 s k) (show fS TN_fence_State_1 [.b (atB (nth q 0)), .c (atC (nth q 1)), .n (atN (nth q 2)), .i (atI (nth q 3)), .i (atI (nth q 4)), .i (atI (nth q 5)), .i (atI (nth q 6)), .i (atI (nth q 7)), .i (atI (nth q 8)), .i (atI (nth q 9)), .i (atI (nth q 10)), .b (atB (nth q 11)), .i (atI (nth q 12)), .b (atB (nth q 13)), .b (atB (nth q 14)), .b (atB (nth q 15)), .b (atB (nth q 16)), .c (atC (nth q 17)), .n (atN (nth q 18)), .i (atI (nth q 19)), .i (atI (nth q 20)), .i (atI (nth q 21)), .i (atI (nth q 22)), .i (atI (nth q 23)), .i (atI (nth q 24)), .i (atI (nth q 25))] = fS TN_fence_State_1 q by kernel_rfl)))) jtab_nil))) (all_cons
    (join_ok (WJ_fence_State F) rfl (jtab_cons (fun _ _ k q => Le.ofEq ((nN_fence_State_0 F k (atB (nth q 0)) (atC (nth q 1)) (atN (nth q 2)) (atI (nth q 3)) (atI (nth q 4)) (atI (nth q 5)) (atI (nth q 6)) (atI (nth q 7)) (atI (nth q 8)) (atI (nth q 9)) (atI (nth q 10)) (atB (nth q 11)) (atI (nth q 12)) (atB (nth q 13)) (atB (nth q 14)) (atB (nth q 15)) (atB (nth q 16)) (atC (nth q 17)) (atN (nth q 18)) (atI (nth q 19)) (atI (nth q 20)) (atI (nth q 21)) (atI (nth q 22)) (atI (nth q 23)) (atI (nth q 24)) (atI (nth q 25))).symm.trans (congrArg (fun s => codeL PP (S_fence_State F) c_fence_State (I_fence_State F) (J_fence_State F) (joinAt PP c_fence_State 13 1) 0 s k) (show fS TN_fence_State_0 [.b (atB (nth q 0)), .c (atC (nth q 1)), .n (atN (nth q 2)), .i (atI (nth q 3)), .i (atI (nth q 4)), .i (atI (nth q 5)), .i (atI (nth q 6)), .i (atI (nth q 7)), .i (atI (nth q 8)), .i (atI (nth q 9)), .i (atI (nth q 10)), .b (atB (nth q 11)), .i (atI (nth q 12)), .b (atB (nth q 13)), .b (atB (nth q 14)), .b (atB (nth q 15)), .b (atB (nth q 16)), .c (atC (nth q 17)), .n (atN (nth q 18)), .i (atI (nth q 19)), .i (atI (nth q 20)), .i (atI (nth q 21)), .i (atI (nth q 22)), .i (atI (nth q 23)), .i (atI (nth q 24)), .i (atI (nth q 25))] = fS TN_fence_State_0 q by kernel_rfl)))) (jtab_cons (fun h _ => absurd h (by decide)) jtab_nil))) all_nil))
theorem g_fence_State (F : Nat) : Good PP 13 (unS (s_fence_State F)) :=
  fun_spec (hS_fence_State F) (by kernel_rfl) (by kernel_rfl) (C := c_fence_State) (F := fun q => (f_fence_State F (atB (nth q 0)) (atC (nth q 1)) (atN (nth q 2)) (atI (nth q 3)) (atI (nth q 4)) (atI (nth q 5)) (atI (nth q 6)) (atI (nth q 7)) (atI (nth q 8)))) (fun _ => F) (fun _ => I_fence_State F) (fun _ => J_fence_State F) (fun _ => hl_fence_State F) (fun _ => hj_fence_State F)
    (fun q => (congrArg (funL PP (S_fence_State F) c_fence_State (I_fence_State F) (J_fence_State F) 13) (show (fTs ti_fence_State q).1 = (fTs ti_fence_State [.b (atB (nth q 0)), .c (atC (nth q 1)), .n (atN (nth q 2)), .i (atI (nth q 3)), .i (atI (nth q 4)), .i (atI (nth q 5)), .i (atI (nth q 6)), .i (atI (nth q 7)), .i (atI (nth q 8))]).1 by kernel_rfl)).trans (e_fence_State F (atB (nth q 0)) (atC (nth q 1)) (atN (nth q 2)) (atI (nth q 3)) (atI (nth q 4)) (atI (nth q 5)) (atI (nth q 6)) (atI (nth q 7)) (atI (nth q 8))))
    (fun _ h => okT_fill' h (by kernel_rfl))

end Go.Xv
namespace Go.Xv

def inH (fl rf h r : Int) : Bool := !decide (h + -r < fl) && !decide (rf < h + r)
def outH (fl rf h r : Int) : Bool := decide (h + r < fl) || decide (rf < h + -r)
def stateV (kp t w i o : Bool) : Int :=
  bif ((i && w && !t) && kp) || ((o || (!w && !t)) && !kp) then 0 else bif (i && w && !t) || (o || (!w && !t)) then 2 else 1
/-- the state of a zone that may be. -/
def stateOf (kp : Bool) (zs : List Pt) (fl rf : Int) (p : Pt) (h r : Int) : Int := stateV kp (touchesB zs p r) (withinB zs p) (inH fl rf h r) (outH fl rf h r)

theorem may0 {zs : List Pt} {fl rf : Int} {p : Pt} {r : Int} (h : mayB zs fl rf p r = true) : mayB zs fl rf p 0 = true := by
  obtain ⟨h1, h2, h3, _⟩ := mayB_sound h
  exact mayB_of h1 h2 h3 ⟨by decide, by decide⟩

end Go.Xv
namespace Go.Xv
theorem a_Touches (F : Nat) (kp : Bool) {zs : List Pt} (hl : zs.length ≤ 1000) (fl rf : Int) (p : Pt) (r : Int) :
    ok_fence_Touches F kp (cellsP zs) 0 zs.length fl rf p.1 p.2 r = true ∧ o_fence_Touches_0 F kp (cellsP zs) 0 zs.length fl rf p.1 p.2 r = (mayB zs fl rf p r && touchesB zs p r) ∧ o_fence_Touches_1 F kp (cellsP zs) 0 zs.length fl rf p.1 p.2 r = (bif mayB zs fl rf p r then 0 else 2) :=
  k_fence_Touches F _ _ _ _ _ _ _ _ _ (by unfold f_fence_Touches; rw [zoneOf_cells hl])
theorem a_Within (F : Nat) (kp : Bool) {zs : List Pt} (hl : zs.length ≤ 1000) (fl rf : Int) (p : Pt) :
    ok_fence_Within F kp (cellsP zs) 0 zs.length fl rf p.1 p.2 = true ∧ o_fence_Within_0 F kp (cellsP zs) 0 zs.length fl rf p.1 p.2 = (mayB zs fl rf p 0 && withinB zs p) ∧ o_fence_Within_1 F kp (cellsP zs) 0 zs.length fl rf p.1 p.2 = (bif mayB zs fl rf p 0 then 0 else 2) :=
  k_fence_Within F _ _ _ _ _ _ _ _ (by unfold f_fence_Within; rw [zoneOf_cells hl])
theorem a_hof (F : Nat) {n : Int} (h : I64 n) : ok_fence_Zone_height_1 F n = true ∧ o_fence_Zone_height_1_0 F n = hi n ∧ o_fence_Zone_height_1_1 F n = lo n := by
  refine k_fence_Zone_height_1 F _ ?_
  obtain ⟨h1, h2, h3⟩ := a_Of F h
  unfold f_fence_Zone_height_1
  simp only [h1, h2, h3, cond_true]
theorem a_height (F : Nat) (kp : Bool) (c : List VV) (l : Nat) {fl rf h r : Int} (hfl : I64 fl) (hrf : I64 rf) (hh : I64 h) (hr64 : I64 r) :
    ok_fence_Zone_height F kp c l fl rf h r = true ∧ o_fence_Zone_height_0 F kp c l fl rf h r = inH fl rf h r ∧ o_fence_Zone_height_1 F kp c l fl rf h r = outH fl rf h r := by
  refine k_fence_Zone_height F _ _ _ _ _ _ _ ?_
  obtain ⟨o1, o2, o3⟩ := a_hof F hh
  obtain ⟨q1, q2, q3⟩ := a_hof F hr64
  obtain ⟨n1, n2, n3⟩ := a_Neg F r
  obtain ⟨s1, s2, s3⟩ := a_Add F h (-r)
  obtain ⟨u1, u2, u3⟩ := a_Add F h r
  obtain ⟨f1, f2, f3⟩ := a_hof F hfl
  obtain ⟨g1, g2, g3⟩ := a_hof F hrf
  have w1 : W128 (h + -r) := by unfold W128; unfold I64 at hh hr64; omega
  have w2 : W128 (h + r) := by unfold W128; unfold I64 at hh hr64; omega
  obtain ⟨c1, c2⟩ := a_Less F w1 (I64_W hfl)
  obtain ⟨d1, d2⟩ := a_Less F (I64_W hrf) w2
  obtain ⟨e1, e2⟩ := a_Less F w2 (I64_W hfl)
  obtain ⟨h1, h2⟩ := a_Less F (I64_W hrf) w1
  unfold f_fence_Zone_height inH outH
  simp only [o1, o2, o3, q1, q2, q3, n1, n2, n3, s1, s2, s3, u1, u2, u3, f1, f2, f3, g1, g2, g3, c1, c2, d1, d2, e1, e2, h1, h2, cond_true]
  generalize decide (h + -r < fl) = L1
  generalize decide (rf < h + r) = L2
  generalize decide (h + r < fl) = L3
  generalize decide (rf < h + -r) = L4
  cases L1 <;> cases L2 <;> cases L3 <;> cases L4 <;> rfl
theorem f_State (F : Nat) (kp : Bool) (zs : List Pt) (hb : zs.length ≤ 1000) {fl rf : Int} (hfl : I64 fl) (hrf : I64 rf) (p : Pt) {h r : Int} (hh : I64 h) :
    f_fence_State F kp (cellsP zs) zs.length fl rf p.1 p.2 h r = some (.v (.tuple #[.int .i64 (bif mayB zs fl rf p r then stateOf kp zs fl rf p h r else 0), .int .i64 (bif mayB zs fl rf p r then 0 else 2)])) := by
  obtain ⟨k1, k2, k3⟩ := a_Touches F kp hb fl rf p r
  obtain ⟨j1, j2, j3⟩ := a_Within F kp hb fl rf p
  unfold f_fence_State
  rw [k2, k3]
  refine bp k1 ?_
  cases hm : mayB zs fl rf p r with
  | false => rfl
  | true =>
    rw [may0 hm] at j2
    obtain ⟨_, _, _, hr⟩ := mayB_sound hm
    have hr64 : I64 r := ⟨by have := hr.a; omega, by have := hr.b; omega⟩
    obtain ⟨o1, o2, o3⟩ := a_height F kp (cellsP zs) zs.length hfl hrf hh hr64
    unfold stateOf
    simp only [j1, j2, o1, o2, o3, Bool.true_and, cond_true, bne_self_eq_false, cond_false]
    generalize inH fl rf h r = L1
    generalize outH fl rf h r = L2
    generalize touchesB zs p r = t
    generalize withinB zs p = w
    cases kp <;> cases t <;> cases w <;> cases L1 <;> cases L2 <;> rfl
theorem a_State (F : Nat) (kp : Bool) (zs : List Pt) (hb : zs.length ≤ 1000) {fl rf : Int} (hfl : I64 fl) (hrf : I64 rf) (p : Pt) {h r : Int} (hh : I64 h) :
    ok_fence_State F kp (cellsP zs) zs.length fl rf p.1 p.2 h r = true ∧ o_fence_State_0 F kp (cellsP zs) zs.length fl rf p.1 p.2 h r = (bif mayB zs fl rf p r then stateOf kp zs fl rf p h r else 0) ∧ o_fence_State_1 F kp (cellsP zs) zs.length fl rf p.1 p.2 h r = (bif mayB zs fl rf p r then 0 else 2) :=
  k_fence_State F _ _ _ _ _ _ _ _ _ (f_State F kp zs hb hfl hrf p hh)
end Go.Xv
set_option linter.unusedVariables false
namespace Go.Xv
/- 9 _law37_few -/
def c_law37_few : Cfg := ⟨[0, 1, 2], [], [], []⟩
def ti_law37_few : List TV := [.agg [.v (.bool), .fs .hole .hole 2, .v (.int .i64), .v (.int .i64)]]
def to_law37_few : TV := .agg [.v (.bool), .fs (.lit 0) .hole 2, .v (.int .i64), .v (.int .i64)]
def S_law37_few (F : Nat) : FuncId → List VV → Option (Bool × VV) := words []
def W_law37_few (F : Nat) : List LW := []
def I_law37_few (F : Nat) : Nat → VS → (Exit → VS → R) → R := tabI c_law37_few (W_law37_few F)
def WJ_law37_few (F : Nat) : List LJ := []
def J_law37_few (F : Nat) : Nat → Nat → VS → (Exit → VS → R) → R := tabJ (WJ_law37_few F)
def f_law37_few (F : Nat) (a0 : Bool) (a1 : List VV) (a2 : Nat) (a3 : Nat) (a4 : Int) (a5 : Int) : R :=
  let v336 : Int := ((a3 : Nat) : Int)
  let v337 : Int := (if 20 < v336 then 20 else v336)
  bif (((decide (0 ≤ v337)) && (decide (0 ≤ (Int.toNat v337)))) && (decide ((Int.toNat v337) ≤ a3))) then (
    let v338 : Nat := (Int.toNat v337)
    bif ((decide ((v338 * 2) ≤ (a1.drop a2).length)) && (decide ((0 + v338) * 17 ≤ bigger))) then (
      some (.agg [.v (.bool a0), .fs (([] ++ ((a1.drop a2).take (v338 * 2)))) 0 ((0 + v338)) 2, .v (.int .i64 a4), .v (.int .i64 a5)]))
    else (
      none))
  else (
    none)
theorem e_law37_few (F : Nat) (a0 : Bool) (a1 : List VV) (a2 : Nat) (a3 : Nat) (a4 : Int) (a5 : Int) : funL PP (S_law37_few F) c_law37_few (I_law37_few F) (J_law37_few F) 9 (fTs ti_law37_few [.b a0, .c a1, .n a2, .n a3, .i a4, .i a5]).1 = f_law37_few F a0 a1 a2 a3 a4 a5 := by
  have h : ∀ (_ : Unit), funL PP (words []) c_law37_few (tabI c_law37_few []) (tabJ []) 9 (fTs ti_law37_few [.b a0, .c a1, .n a2, .n a3, .i a4, .i a5]).1 = (
  let v336 : Int := ((a3 : Nat) : Int)
  let v337 : Int := (if 20 < v336 then 20 else v336)
  bif (((decide (0 ≤ v337)) && (decide (0 ≤ (Int.toNat v337)))) && (decide ((Int.toNat v337) ≤ a3))) then (
    let v338 : Nat := (Int.toNat v337)
    bif ((decide ((v338 * 2) ≤ (a1.drop a2).length)) && (decide ((0 + v338) * 17 ≤ bigger))) then (
      some (.agg [.v (.bool a0), .fs (([] ++ ((a1.drop a2).take (v338 * 2)))) 0 ((0 + v338)) 2, .v (.int .i64 a4), .v (.int .i64 a5)]))
    else (
      none))
  else (
    none) : R) := by
    intros
    kernel_rfl
  exact (h ()).trans (by kernel_rfl)
def ok_law37_few (F : Nat) (a0 : Bool) (a1 : List VV) (a2 : Nat) (a3 : Nat) (a4 : Int) (a5 : Int) : Bool := okT to_law37_few (f_law37_few F a0 a1 a2 a3 a4 a5)
def o_law37_few_0 (F : Nat) (a0 : Bool) (a1 : List VV) (a2 : Nat) (a3 : Nat) (a4 : Int) (a5 : Int) : Bool := atB (nth (outT to_law37_few (f_law37_few F a0 a1 a2 a3 a4 a5)) 0)
def o_law37_few_1 (F : Nat) (a0 : Bool) (a1 : List VV) (a2 : Nat) (a3 : Nat) (a4 : Int) (a5 : Int) : List VV := atC (nth (outT to_law37_few (f_law37_few F a0 a1 a2 a3 a4 a5)) 1)
def o_law37_few_2 (F : Nat) (a0 : Bool) (a1 : List VV) (a2 : Nat) (a3 : Nat) (a4 : Int) (a5 : Int) : Nat := atN (nth (outT to_law37_few (f_law37_few F a0 a1 a2 a3 a4 a5)) 2)
def o_law37_few_3 (F : Nat) (a0 : Bool) (a1 : List VV) (a2 : Nat) (a3 : Nat) (a4 : Int) (a5 : Int) : Int := atI (nth (outT to_law37_few (f_law37_few F a0 a1 a2 a3 a4 a5)) 3)
def o_law37_few_4 (F : Nat) (a0 : Bool) (a1 : List VV) (a2 : Nat) (a3 : Nat) (a4 : Int) (a5 : Int) : Int := atI (nth (outT to_law37_few (f_law37_few F a0 a1 a2 a3 a4 a5)) 4)
theorem k_law37_few (F : Nat) (a0 : Bool) (a1 : List VV) (a2 : Nat) (a3 : Nat) (a4 : Int) (a5 : Int) {z0 : Bool} {z1 : List VV} {z2 : Nat} {z3 : Int} {z4 : Int} (h : f_law37_few F a0 a1 a2 a3 a4 a5 = some (.agg [.v (.bool z0), .fs z1 0 z2 2, .v (.int .i64 z3), .v (.int .i64 z4)])) : ok_law37_few F a0 a1 a2 a3 a4 a5 = true ∧ o_law37_few_0 F a0 a1 a2 a3 a4 a5 = z0 ∧ o_law37_few_1 F a0 a1 a2 a3 a4 a5 = z1 ∧ o_law37_few_2 F a0 a1 a2 a3 a4 a5 = z2 ∧ o_law37_few_3 F a0 a1 a2 a3 a4 a5 = z3 ∧ o_law37_few_4 F a0 a1 a2 a3 a4 a5 = z4 := by
  refine ⟨?_, ?_, ?_, ?_, ?_, ?_⟩
  · unfold ok_law37_few; rw [h]; kernel_rfl
  · unfold o_law37_few_0; rw [h]; kernel_rfl
  · unfold o_law37_few_1; rw [h]; kernel_rfl
  · unfold o_law37_few_2; rw [h]; kernel_rfl
  · unfold o_law37_few_3; rw [h]; kernel_rfl
  · unfold o_law37_few_4; rw [h]; kernel_rfl
def s_law37_few (F : Nat) : List VV → Option (Bool × VV) := spec ti_law37_few to_law37_few (fun q => (ok_law37_few F (atB (nth q 0)) (atC (nth q 1)) (atN (nth q 2)) (atN (nth q 3)) (atI (nth q 4)) (atI (nth q 5)))) (fun q => [.b (o_law37_few_0 F (atB (nth q 0)) (atC (nth q 1)) (atN (nth q 2)) (atN (nth q 3)) (atI (nth q 4)) (atI (nth q 5))), .c (o_law37_few_1 F (atB (nth q 0)) (atC (nth q 1)) (atN (nth q 2)) (atN (nth q 3)) (atI (nth q 4)) (atI (nth q 5))), .n (o_law37_few_2 F (atB (nth q 0)) (atC (nth q 1)) (atN (nth q 2)) (atN (nth q 3)) (atI (nth q 4)) (atI (nth q 5))), .i (o_law37_few_3 F (atB (nth q 0)) (atC (nth q 1)) (atN (nth q 2)) (atN (nth q 3)) (atI (nth q 4)) (atI (nth q 5))), .i (o_law37_few_4 F (atB (nth q 0)) (atC (nth q 1)) (atN (nth q 2)) (atN (nth q 3)) (atI (nth q 4)) (atI (nth q 5)))])
theorem hS_law37_few (F : Nat) : ∀ f, Good PP f (unS (S_law37_few F f)) := words_good fun p hp => by
  cases hp
theorem hl_law37_few (F : Nat) : ∀ p ∈ loopsIn PP 9, LoopOK PP (S_law37_few F) c_law37_few F (I_law37_few F) (J_law37_few F) p :=
  loops_of [] (by kernel_rfl) all_nil
theorem hj_law37_few (F : Nat) : ∀ p ∈ joinsIn PP c_law37_few 9, JoinOK PP (S_law37_few F) c_law37_few (I_law37_few F) (J_law37_few F) p :=
  joins_of [] (by kernel_rfl) all_nil
theorem g_law37_few (F : Nat) : Good PP 9 (unS (s_law37_few F)) :=
  fun_spec (hS_law37_few F) (by kernel_rfl) (by kernel_rfl) (C := c_law37_few) (F := fun q => (f_law37_few F (atB (nth q 0)) (atC (nth q 1)) (atN (nth q 2)) (atN (nth q 3)) (atI (nth q 4)) (atI (nth q 5)))) (fun _ => F) (fun _ => I_law37_few F) (fun _ => J_law37_few F) (fun _ => hl_law37_few F) (fun _ => hj_law37_few F)
    (fun q => (congrArg (funL PP (S_law37_few F) c_law37_few (I_law37_few F) (J_law37_few F) 9) (show (fTs ti_law37_few q).1 = (fTs ti_law37_few [.b (atB (nth q 0)), .c (atC (nth q 1)), .n (atN (nth q 2)), .n (atN (nth q 3)), .i (atI (nth q 4)), .i (atI (nth q 5))]).1 by kernel_rfl)).trans (e_law37_few F (atB (nth q 0)) (atC (nth q 1)) (atN (nth q 2)) (atN (nth q 3)) (atI (nth q 4)) (atI (nth q 5))))
    (fun _ h => okT_fill' h (by kernel_rfl))

end Go.Xv
namespace Go.Xv

theorem cellsP_app : ∀ a b : List Pt, cellsP (a ++ b) = cellsP a ++ cellsP b
  | [], _ => rfl
  | _ :: r, b => by simp [cellsP, cellsP_app r b]
theorem cellsP_take : ∀ (zs : List Pt) (n : Nat), (cellsP zs).take (n * 2) = cellsP (zs.take n)
  | [], n => by simp [cellsP]
  | p :: r, 0 => by simp [cellsP]
  | p :: r, n + 1 => by
    rw [show (n + 1) * 2 = n * 2 + 2 by omega]
    simp [cellsP, cellsP_take r n]

theorem f_few (F : Nat) (kp : Bool) (zs : List Pt) (fl rf : Int) :
    f_law37_few F kp (cellsP zs) 0 zs.length fl rf = some (.agg [.v (.bool kp), .fs (cellsP (zs.take 20)) 0 (zs.take 20).length 2, .v (.int .i64 fl), .v (.int .i64 rf)]) := by
  unfold f_law37_few
  have e : (Int.toNat (if 20 < ((zs.length : Nat) : Int) then 20 else ((zs.length : Nat) : Int))) = (zs.take 20).length := by
    rw [List.length_take]; split <;> omega
  have hlen : (zs.take 20).length ≤ 20 := by rw [List.length_take]; omega
  have hlen2 : (zs.take 20).length ≤ zs.length := by rw [List.length_take]; omega
  have h0 : 0 ≤ (if 20 < ((zs.length : Nat) : Int) then 20 else ((zs.length : Nat) : Int)) := by split <;> omega
  simp only [e, List.drop_zero, cellsP_take, List.nil_append, Nat.zero_add, dt h0, Nat.zero_le, decide_true, Bool.and_self, Bool.true_and, dt hlen2, cond_true]
  refine bp ?_ ?_
  · rw [dt (by rw [cellsP_len]; omega), dt (by unfold bigger; omega)]; rfl
  · rw [show zs.take ((zs.take 20).length) = zs.take 20 by rw [List.length_take]; by_cases h : zs.length ≤ 20
                                                           · rw [Nat.min_eq_right h, List.take_length, List.take_of_length_le h]
                                                           · rw [Nat.min_eq_left (by omega)]]
theorem a_few (F : Nat) (kp : Bool) (zs : List Pt) (fl rf : Int) :
    ok_law37_few F kp (cellsP zs) 0 zs.length fl rf = true ∧ o_law37_few_0 F kp (cellsP zs) 0 zs.length fl rf = kp ∧ o_law37_few_1 F kp (cellsP zs) 0 zs.length fl rf = cellsP (zs.take 20) ∧ o_law37_few_2 F kp (cellsP zs) 0 zs.length fl rf = (zs.take 20).length ∧ o_law37_few_3 F kp (cellsP zs) 0 zs.length fl rf = fl ∧ o_law37_few_4 F kp (cellsP zs) 0 zs.length fl rf = rf :=
  k_law37_few F _ _ _ _ _ _ (f_few F kp zs fl rf)

end Go.Xv
set_option linter.unusedVariables false
namespace Go.Xv
/- 17 _law37_works -/
def c_law37_works : Cfg := ⟨[0, 1, 2, 3, 4, 6, 8], [], [], []⟩
def ti_law37_works : List TV := []
def to_law37_works : TV := .v (.bool)
def S_law37_works (F : Nat) : FuncId → List VV → Option (Bool × VV) := words [(8, s_fence_Within F), (13, s_fence_State F)]
def W_law37_works (F : Nat) : List LW := []
def I_law37_works (F : Nat) : Nat → VS → (Exit → VS → R) → R := tabI c_law37_works (W_law37_works F)
def WJ_law37_works (F : Nat) : List LJ := []
def J_law37_works (F : Nat) : Nat → Nat → VS → (Exit → VS → R) → R := tabJ (WJ_law37_works F)
def f_law37_works (F : Nat) : R :=
  bif (ok_fence_Within F true ([.v (.int .i64 0), .v (.int .i64 0), .v (.int .i64 10), .v (.int .i64 0), .v (.int .i64 10), .v (.int .i64 10), .v (.int .i64 0), .v (.int .i64 10)]) 0 4 0 9 5 5) then (
    bif (ok_fence_Within F true ([.v (.int .i64 0), .v (.int .i64 0), .v (.int .i64 10), .v (.int .i64 0), .v (.int .i64 10), .v (.int .i64 10), .v (.int .i64 0), .v (.int .i64 10)]) 0 4 0 9 0 5) then (
      bif (ok_fence_Within F true ([.v (.int .i64 0), .v (.int .i64 0), .v (.int .i64 10), .v (.int .i64 0), .v (.int .i64 10), .v (.int .i64 10), .v (.int .i64 0), .v (.int .i64 10)]) 0 4 0 9 11 5) then (
        bif (ok_fence_State F true ([.v (.int .i64 0), .v (.int .i64 0), .v (.int .i64 10), .v (.int .i64 0), .v (.int .i64 10), .v (.int .i64 10), .v (.int .i64 0), .v (.int .i64 10)]) 4 0 9 11 5 0 0) then (
          bif ((o_fence_Within_0 F true ([.v (.int .i64 0), .v (.int .i64 0), .v (.int .i64 10), .v (.int .i64 0), .v (.int .i64 10), .v (.int .i64 10), .v (.int .i64 0), .v (.int .i64 10)]) 0 4 0 9 5 5)) then (
            bif ((((o_fence_Within_1 F true ([.v (.int .i64 0), .v (.int .i64 0), .v (.int .i64 10), .v (.int .i64 0), .v (.int .i64 10), .v (.int .i64 10), .v (.int .i64 0), .v (.int .i64 10)]) 0 4 0 9 5 5)) == 0)) then (
              bif ((o_fence_Within_0 F true ([.v (.int .i64 0), .v (.int .i64 0), .v (.int .i64 10), .v (.int .i64 0), .v (.int .i64 10), .v (.int .i64 10), .v (.int .i64 0), .v (.int .i64 10)]) 0 4 0 9 0 5)) then (
                bif ((!((o_fence_Within_0 F true ([.v (.int .i64 0), .v (.int .i64 0), .v (.int .i64 10), .v (.int .i64 0), .v (.int .i64 10), .v (.int .i64 10), .v (.int .i64 0), .v (.int .i64 10)]) 0 4 0 9 11 5)))) then (
                  some (.v (.bool ((((o_fence_State_0 F true ([.v (.int .i64 0), .v (.int .i64 0), .v (.int .i64 10), .v (.int .i64 0), .v (.int .i64 10), .v (.int .i64 10), .v (.int .i64 0), .v (.int .i64 10)]) 4 0 9 11 5 0 0)) == 2)))))
                else (
                  some (.v (.bool false))))
              else (
                some (.v (.bool false))))
            else (
              some (.v (.bool false))))
          else (
            some (.v (.bool false))))
        else (
          none))
      else (
        none))
    else (
      none))
  else (
    none)
theorem e_law37_works (F : Nat) : funL PP (S_law37_works F) c_law37_works (I_law37_works F) (J_law37_works F) 17 (fTs ti_law37_works []).1 = f_law37_works F := by
  have h : ∀ (ok_fence_Within : Nat → Bool → List VV → Nat → Nat → Int → Int → Int → Int → Bool) (o_fence_Within_0 : Nat → Bool → List VV → Nat → Nat → Int → Int → Int → Int → Bool) (o_fence_Within_1 : Nat → Bool → List VV → Nat → Nat → Int → Int → Int → Int → Int) (ok_fence_State : Nat → Bool → List VV → Nat → Int → Int → Int → Int → Int → Int → Bool) (o_fence_State_0 : Nat → Bool → List VV → Nat → Int → Int → Int → Int → Int → Int → Int) (o_fence_State_1 : Nat → Bool → List VV → Nat → Int → Int → Int → Int → Int → Int → Int), funL PP (words [(8, spec ti_fence_Within to_fence_Within (fun q => (ok_fence_Within F (atB (nth q 0)) (atC (nth q 1)) (atN (nth q 2)) (atN (nth q 3)) (atI (nth q 4)) (atI (nth q 5)) (atI (nth q 6)) (atI (nth q 7)))) (fun q => [.b (o_fence_Within_0 F (atB (nth q 0)) (atC (nth q 1)) (atN (nth q 2)) (atN (nth q 3)) (atI (nth q 4)) (atI (nth q 5)) (atI (nth q 6)) (atI (nth q 7))), .i (o_fence_Within_1 F (atB (nth q 0)) (atC (nth q 1)) (atN (nth q 2)) (atN (nth q 3)) (atI (nth q 4)) (atI (nth q 5)) (atI (nth q 6)) (atI (nth q 7)))])), (13, spec ti_fence_State to_fence_State (fun q => (ok_fence_State F (atB (nth q 0)) (atC (nth q 1)) (atN (nth q 2)) (atI (nth q 3)) (atI (nth q 4)) (atI (nth q 5)) (atI (nth q 6)) (atI (nth q 7)) (atI (nth q 8)))) (fun q => [.i (o_fence_State_0 F (atB (nth q 0)) (atC (nth q 1)) (atN (nth q 2)) (atI (nth q 3)) (atI (nth q 4)) (atI (nth q 5)) (atI (nth q 6)) (atI (nth q 7)) (atI (nth q 8))), .i (o_fence_State_1 F (atB (nth q 0)) (atC (nth q 1)) (atN (nth q 2)) (atI (nth q 3)) (atI (nth q 4)) (atI (nth q 5)) (atI (nth q 6)) (atI (nth q 7)) (atI (nth q 8)))]))]) c_law37_works (tabI c_law37_works []) (tabJ []) 17 (fTs ti_law37_works []).1 = (
  bif (ok_fence_Within F true ([.v (.int .i64 0), .v (.int .i64 0), .v (.int .i64 10), .v (.int .i64 0), .v (.int .i64 10), .v (.int .i64 10), .v (.int .i64 0), .v (.int .i64 10)]) 0 4 0 9 5 5) then (
    bif (ok_fence_Within F true ([.v (.int .i64 0), .v (.int .i64 0), .v (.int .i64 10), .v (.int .i64 0), .v (.int .i64 10), .v (.int .i64 10), .v (.int .i64 0), .v (.int .i64 10)]) 0 4 0 9 0 5) then (
      bif (ok_fence_Within F true ([.v (.int .i64 0), .v (.int .i64 0), .v (.int .i64 10), .v (.int .i64 0), .v (.int .i64 10), .v (.int .i64 10), .v (.int .i64 0), .v (.int .i64 10)]) 0 4 0 9 11 5) then (
        bif (ok_fence_State F true ([.v (.int .i64 0), .v (.int .i64 0), .v (.int .i64 10), .v (.int .i64 0), .v (.int .i64 10), .v (.int .i64 10), .v (.int .i64 0), .v (.int .i64 10)]) 4 0 9 11 5 0 0) then (
          bif ((o_fence_Within_0 F true ([.v (.int .i64 0), .v (.int .i64 0), .v (.int .i64 10), .v (.int .i64 0), .v (.int .i64 10), .v (.int .i64 10), .v (.int .i64 0), .v (.int .i64 10)]) 0 4 0 9 5 5)) then (
            bif ((((o_fence_Within_1 F true ([.v (.int .i64 0), .v (.int .i64 0), .v (.int .i64 10), .v (.int .i64 0), .v (.int .i64 10), .v (.int .i64 10), .v (.int .i64 0), .v (.int .i64 10)]) 0 4 0 9 5 5)) == 0)) then (
              bif ((o_fence_Within_0 F true ([.v (.int .i64 0), .v (.int .i64 0), .v (.int .i64 10), .v (.int .i64 0), .v (.int .i64 10), .v (.int .i64 10), .v (.int .i64 0), .v (.int .i64 10)]) 0 4 0 9 0 5)) then (
                bif ((!((o_fence_Within_0 F true ([.v (.int .i64 0), .v (.int .i64 0), .v (.int .i64 10), .v (.int .i64 0), .v (.int .i64 10), .v (.int .i64 10), .v (.int .i64 0), .v (.int .i64 10)]) 0 4 0 9 11 5)))) then (
                  some (.v (.bool ((((o_fence_State_0 F true ([.v (.int .i64 0), .v (.int .i64 0), .v (.int .i64 10), .v (.int .i64 0), .v (.int .i64 10), .v (.int .i64 10), .v (.int .i64 0), .v (.int .i64 10)]) 4 0 9 11 5 0 0)) == 2)))))
                else (
                  some (.v (.bool false))))
              else (
                some (.v (.bool false))))
            else (
              some (.v (.bool false))))
          else (
            some (.v (.bool false))))
        else (
          none))
      else (
        none))
    else (
      none))
  else (
    none) : R) := by
    intros
    kernel_rfl
  exact (h ok_fence_Within o_fence_Within_0 o_fence_Within_1 ok_fence_State o_fence_State_0 o_fence_State_1).trans (by kernel_rfl)
def ok_law37_works (F : Nat) : Bool := okT to_law37_works (f_law37_works F)
def o_law37_works_0 (F : Nat) : Bool := atB (nth (outT to_law37_works (f_law37_works F)) 0)
theorem k_law37_works (F : Nat) {z0 : Bool} (h : f_law37_works F = some (.v (.bool z0))) : ok_law37_works F = true ∧ o_law37_works_0 F = z0 := by
  refine ⟨?_, ?_⟩
  · unfold ok_law37_works; rw [h]; kernel_rfl
  · unfold o_law37_works_0; rw [h]; kernel_rfl
def s_law37_works (F : Nat) : List VV → Option (Bool × VV) := spec ti_law37_works to_law37_works (fun q => (ok_law37_works F )) (fun q => [.b (o_law37_works_0 F )])
theorem hS_law37_works (F : Nat) : ∀ f, Good PP f (unS (S_law37_works F f)) := words_good fun p hp => by
  simp only [List.mem_cons, List.not_mem_nil, or_false] at hp
  rcases hp with rfl | rfl
  · exact g_fence_Within F
  · exact g_fence_State F
theorem hl_law37_works (F : Nat) : ∀ p ∈ loopsIn PP 17, LoopOK PP (S_law37_works F) c_law37_works F (I_law37_works F) (J_law37_works F) p :=
  loops_of [] (by kernel_rfl) all_nil
theorem hj_law37_works (F : Nat) : ∀ p ∈ joinsIn PP c_law37_works 17, JoinOK PP (S_law37_works F) c_law37_works (I_law37_works F) (J_law37_works F) p :=
  joins_of [] (by kernel_rfl) all_nil
theorem g_law37_works (F : Nat) : Good PP 17 (unS (s_law37_works F)) :=
  fun_spec (hS_law37_works F) (by kernel_rfl) (by kernel_rfl) (C := c_law37_works) (F := fun q => (f_law37_works F )) (fun _ => F) (fun _ => I_law37_works F) (fun _ => J_law37_works F) (fun _ => hl_law37_works F) (fun _ => hj_law37_works F)
    (fun q => (congrArg (funL PP (S_law37_works F) c_law37_works (I_law37_works F) (J_law37_works F) 17) (show (fTs ti_law37_works q).1 = (fTs ti_law37_works []).1 by kernel_rfl)).trans (e_law37_works F ))
    (fun _ h => okT_fill' h (by kernel_rfl))

end Go.Xv
namespace Go.Xv
def pairsOf : List Int → List Pt
  | x :: y :: r => (x, y) :: pairsOf r
  | _ => []
theorem pairs_cells : ∀ (n : Nat) (z : List Int), z.length = n * 2 → cellsP (pairsOf z) = z.map (fun n => VV.v (.int .i64 n)) ∧ (pairsOf z).length = n
  | 0, z, h => by
    have : z = [] := List.eq_nil_of_length_eq_zero (by omega)
    subst this; exact ⟨rfl, rfl⟩
  | n + 1, z, h => by
    match z, h with
    | x :: y :: r, h =>
      obtain ⟨h1, h2⟩ := pairs_cells n r (by simp at h; omega)
      simp [pairsOf, cellsP, h1, h2]
    | [x], h => simp at h; omega
    | [], h => simp at h
def sq10 : List Pt := [(0, 0), (10, 0), (10, 10), (0, 10)]
theorem a_works37 (F : Nat) : ok_law37_works F = true ∧ o_law37_works_0 F = true := by
  refine k_law37_works F ?_
  obtain ⟨h1, h2, h3⟩ := a_Within F true (zs := sq10) (by decide) 0 9 (5, 5)
  obtain ⟨j1, j2, j3⟩ := a_Within F true (zs := sq10) (by decide) 0 9 (0, 5)
  obtain ⟨k1, k2, k3⟩ := a_Within F true (zs := sq10) (by decide) 0 9 (11, 5)
  obtain ⟨s1, s2, s3⟩ := a_State F true sq10 (by decide) (fl := 0) (rf := 9) (by unfold I64; omega) (by unfold I64; omega) (11, 5) (h := 0) (r := 0) (by unfold I64; omega)
  have e1 : (mayB sq10 0 9 (5, 5) 0 && withinB sq10 (5, 5)) = true := by decide
  have e2 : (bif mayB sq10 0 9 (5, 5) 0 then (0 : Int) else 2) = 0 := by decide
  have e3 : (mayB sq10 0 9 (0, 5) 0 && withinB sq10 (0, 5)) = true := by decide
  have e4 : (mayB sq10 0 9 (11, 5) 0 && withinB sq10 (11, 5)) = false := by decide
  have e5 : (bif mayB sq10 0 9 (11, 5) 0 then stateOf true sq10 0 9 (11, 5) 0 0 else 0) = 2 := by decide
  rw [e1] at h2; rw [e2] at h3; rw [e3] at j2; rw [e4] at k2; rw [e5] at s2
  have hc : cellsP sq10 = [.v (.int .i64 0), .v (.int .i64 0), .v (.int .i64 10), .v (.int .i64 0), .v (.int .i64 10), .v (.int .i64 10), .v (.int .i64 0), .v (.int .i64 10)] := rfl
  have hl : sq10.length = 4 := rfl
  simp only [hc, hl] at h1 h2 h3 j1 j2 j3 k1 k2 k3 s1 s2 s3
  unfold f_law37_works
  rw [h1, h2, h3, j1, j2, k1, k2, s1, s2]
  rfl
end Go.Xv
namespace Go.Xv

theorem cntN_shift {f : Nat → Bool} : ∀ (k i : Nat), cntN f (i + 1) k = cntN (fun j => f (j + 1)) i k
  | 0, _ => rfl
  | k + 1, i => by simp only [cntN, cntN_shift k (i + 1)]
theorem cntN_rot1 (f : Nat → Bool) (n : Nat) : cntN (fun j => f ((j + 1) % n)) 0 n = cntN f 0 n := by
  cases n with
  | zero => rfl
  | succ n =>
    rw [cntN_snoc, cntN, cntN_shift n 0]
    rw [cntN_congr (f := fun j => f ((j + 1) % (n + 1))) (g := fun j => f (j + 1)) fun j _ hj => by rw [Nat.mod_eq_of_lt (by omega)]]
    rw [Nat.zero_add, Nat.mod_self]
    omega
theorem cntN_rot (f : Nat → Bool) (n : Nat) : ∀ k, cntN (fun j => f ((j + k) % n)) 0 n = cntN f 0 n
  | 0 => cntN_congr fun j _ hj => by rw [Nat.add_zero, Nat.mod_eq_of_lt (by omega)]
  | k + 1 => by
    rw [← cntN_rot f n k, ← cntN_rot1 (fun j => f ((j + k) % n)) n]
    exact cntN_congr fun j _ _ => by rw [Nat.mod_add_mod]; congr 2; omega
theorem cntN_rev (f : Nat → Bool) : ∀ n, cntN (fun j => f (n - 1 - j)) 0 n = cntN f 0 n
  | 0 => rfl
  | n + 1 => by
    rw [cntN_snoc (f := f), ← cntN_rev f n, Nat.zero_add]
    rw [show cntN (fun j => f (n + 1 - 1 - j)) 0 (n + 1) = (if f (n + 1 - 1 - 0) then 1 else 0) + cntN (fun j => f (n + 1 - 1 - j)) (0 + 1) n from rfl, cntN_shift n 0]
    rw [cntN_congr (f := fun j => f (n + 1 - 1 - (j + 1))) (g := fun j => f (n - 1 - j)) fun j _ hj => by congr 1; omega]
    rw [show n + 1 - 1 - 0 = n by omega]
    omega
theorem cntN_all {f : Nat → Bool} : ∀ {n i : Nat}, allN f i n = true ↔ cntN f i n = n
  | 0, _ => by simp [allN, cntN]
  | n + 1, i => by
    have := cntN_le (f := f) n (i + 1)
    rw [allN, Bool.and_eq_true, cntN_all, cntN]
    cases f i <;> simp <;> omega
theorem cntN_any {f : Nat → Bool} : ∀ {n i : Nat}, anyN f i n = true ↔ cntN f i n ≠ 0
  | 0, _ => by simp [anyN, cntN]
  | n + 1, i => by
    rw [anyN, Bool.or_eq_true, cntN_any, cntN]
    cases f i <;> simp

def swapE (e : Pt × Pt) : Pt × Pt := (e.2, e.1)
/-- the same edges, either way, as often. -/
structure SameP (zs ys : List Pt) : Prop where
  len : ys.length = zs.length
  cnt : ∀ f : Pt × Pt → Bool, (∀ e, f (swapE e) = f e) → cntN (fun k => f (edge ys k)) 0 zs.length = cntN (fun k => f (edge zs k)) 0 zs.length
theorem SameP.trans {a b c : List Pt} (h : SameP a b) (k : SameP b c) : SameP a c :=
  ⟨k.len.trans h.len, fun f hf => by have := k.cnt f hf; rw [h.len] at this; exact this.trans (h.cnt f hf)⟩
theorem rot_same {zs ys : List Pt} (k : Nat) (hl : ys.length = zs.length) (h : ∀ j, j < zs.length → at0 ys j = at0 zs ((j + k) % zs.length)) : SameP zs ys :=
  ⟨hl, fun f _ => by
    rw [← cntN_rot (fun j => f (edge zs j)) zs.length k]
    refine cntN_congr fun j _ hj => ?_
    have hn : 0 < zs.length := by omega
    unfold edge
    rw [hl, h j (by omega), h ((j + 1) % zs.length) (Nat.mod_lt _ hn), Nat.mod_add_mod, Nat.mod_add_mod]
    congr 3; congr 1; omega⟩
theorem rev_same {zs ys : List Pt} (hl : ys.length = zs.length) (h : ∀ j, j < zs.length → at0 ys j = at0 zs (zs.length - 1 - j)) : SameP zs ys :=
  ⟨hl, fun f hf => by
    cases hn : zs.length with
    | zero => rfl
    | succ n =>
      rw [hn] at h
      have e1 : ∀ j, j < n → edge ys j = swapE (edge zs (n - 1 - j)) := fun j hj => by
        unfold edge swapE
        rw [hl, hn, h j (by omega), h ((j + 1) % (n + 1)) (Nat.mod_lt _ (by omega)), Nat.mod_eq_of_lt (by omega), Nat.mod_eq_of_lt (by omega)]
        simp only
        rw [show n + 1 - 1 - j = n - 1 - j + 1 by omega, show n + 1 - 1 - (j + 1) = n - 1 - j by omega]
      have e2 : edge ys n = swapE (edge zs n) := by
        unfold edge swapE
        rw [hl, hn, h n (by omega), Nat.mod_self, h 0 (by omega)]
        simp only
        rw [show n + 1 - 1 - n = 0 by omega, show n + 1 - 1 - 0 = n by omega]
      rw [cntN_snoc, cntN_snoc, Nat.zero_add, e2, hf]
      rw [cntN_congr (f := fun k => f (edge ys k)) (g := fun j => (fun i => f (edge zs i)) (n - 1 - j)) fun j _ hj => by rw [e1 j (by omega), hf], cntN_rev (fun i => f (edge zs i)) n]⟩

def symOK (e : Pt × Pt) : Bool := (rightB e.1 && rightB e.2) && !decide (e.1 = e.2)
theorem symOK_swap (e : Pt × Pt) : symOK (swapE e) = symOK e := by
  unfold symOK swapE
  rw [Bool.and_comm (rightB e.2)]
  congr 2
  rw [Bool.eq_iff_iff, decide_eq_true_eq, decide_eq_true_eq]
  exact eq_comm
theorem corn_sym (zs : List Pt) : allN (cornB zs) 0 zs.length = allN (fun k => symOK (edge zs k)) 0 zs.length := by
  rw [Bool.eq_iff_iff, allN_iff, allN_iff]
  constructor
  · intro h j h1 h2
    have hn : 0 < zs.length := by omega
    have g1 := h j h1 h2
    have g2 := h ((j + 1) % zs.length) (by omega) (by have := Nat.mod_lt (j + 1) hn; omega)
    simp only [cornB, Bool.and_eq_true] at g1 g2
    simp only [symOK, edge, Bool.and_eq_true]
    exact ⟨⟨g1.1, g2.1⟩, g1.2⟩
  · intro h j h1 h2
    have g := h j h1 h2
    simp only [symOK, edge, Bool.and_eq_true] at g
    simp only [cornB, Bool.and_eq_true]
    exact ⟨g.1.1, g.2⟩
theorem SameP.check {zs ys : List Pt} (h : SameP zs ys) (fl rf : Int) : checkB ys fl rf = checkB zs fl rf := by
  unfold checkB
  rw [corn_sym, corn_sym, h.len]
  congr 1
  rw [Bool.eq_iff_iff, cntN_all, cntN_all, h.cnt symOK symOK_swap]
theorem apB_comm (x y l h : Int) : apB y x l h = apB x y l h := by unfold apB; rw [Bool.and_comm (decide (y < l)), Bool.and_comm (decide (h < y))]
theorem pos_swap (a b p : Pt) (r : Int) : posB b a p r = negB a b p r := by
  unfold posB negB
  simp only [cross_swap a b]
  simp only [show ∀ x : Int, (0 < -x) ↔ (x < 0) from fun x => by omega]
theorem touch_swap (a b p : Pt) (r : Int) : touchB b a p r = touchB a b p r := by
  unfold touchB
  rw [apB_comm, apB_comm a.2, pos_swap, ← pos_swap b a]
  rw [Bool.and_assoc (_ && _), Bool.and_comm (!negB a b p r), ← Bool.and_assoc]
theorem SameP.touches {zs ys : List Pt} (h : SameP zs ys) (p : Pt) (r : Int) : touchesB ys p r = touchesB zs p r := by
  unfold touchesB
  rw [h.len, Bool.eq_iff_iff, cntN_any, cntN_any]
  have := h.cnt (fun e => touchB e.1 e.2 p r) (fun e => touch_swap _ _ _ _)
  rw [this]
theorem SameP.may {zs ys : List Pt} (h : SameP zs ys) (fl rf : Int) (p : Pt) (r : Int) : mayB ys fl rf p r = mayB zs fl rf p r := by
  unfold mayB; rw [h.check]
theorem rcross_swap (a b p : Pt) : rcrossB b a p = rcrossB a b p := by
  unfold rcrossB
  by_cases h1 : a.2 > b.2
  · rw [if_pos h1, if_neg (by omega)]
  · by_cases h2 : b.2 > a.2
    · rw [if_neg h1, if_pos h2]
    · have e : a.2 = b.2 := by omega
      rw [if_neg h1, if_neg h2, e]
      have : ∀ c d : Bool, (decide (b.2 ≤ p.2) && decide (b.2 > p.2) && c) = (decide (b.2 ≤ p.2) && decide (b.2 > p.2) && d) := fun c d => by
        by_cases h : b.2 ≤ p.2
        · rw [df (show ¬ b.2 > p.2 by omega)]; simp
        · rw [df h]; simp
      exact this _ _
theorem within_r (zs : List Pt) (p : Pt) : withinB zs p = (touchesB zs p 0 || decide (cntN (fun k => rcrossB (edge zs k).1 (edge zs k).2 p) 0 zs.length % 2 = 1)) := by
  unfold withinB
  cases ht : touchesB zs p 0 with
  | true => rfl
  | false =>
    rw [cntN_congr (f := fun k => rcrossB (edge zs k).1 (edge zs k).2 p) (g := fun k => crossB (edge zs k).1 (edge zs k).2 p) fun j h1 h2 => rcross_eq (by
      cases hj : touchB (edge zs j).1 (edge zs j).2 p 0 with
      | false => rfl
      | true =>
        have : touchesB zs p 0 = true := anyN_iff.2 ⟨j, h1, h2, hj⟩
        rw [ht] at this; cases this)]
theorem SameP.within {zs ys : List Pt} (h : SameP zs ys) (p : Pt) : withinB ys p = withinB zs p := by
  rw [within_r, within_r, h.touches, h.len]
  have := h.cnt (fun e => rcrossB e.1 e.2 p) (fun e => rcross_swap _ _ _)
  rw [this]
theorem SameP.state {zs ys : List Pt} (h : SameP zs ys) (kp : Bool) (fl rf : Int) (p : Pt) (x r : Int) : stateOf kp ys fl rf p x r = stateOf kp zs fl rf p x r := by
  unfold stateOf; rw [h.touches, h.within]
end Go.Xv
set_option linter.unusedVariables false
namespace Go.Xv
/- 18 _base_Among -/
def c_base_Among : Cfg := ⟨[0, 1, 4, 6], [], [], []⟩
def ti_base_Among : List TV := [.v (.int .i64), .v (.int .i64)]
def to_base_Among : TV := .v (.int .i64)
def S_base_Among (F : Nat) : FuncId → List VV → Option (Bool × VV) := words []
def W_base_Among (F : Nat) : List LW := []
def I_base_Among (F : Nat) : Nat → VS → (Exit → VS → R) → R := tabI c_base_Among (W_base_Among F)
def WJ_base_Among (F : Nat) : List LJ := []
def J_base_Among (F : Nat) : Nat → Nat → VS → (Exit → VS → R) → R := tabJ (WJ_base_Among F)
def f_base_Among (F : Nat) (a0 : Int) (a1 : Int) : R :=
  bif ((decide (a1 < 1))) then (
    some (.v (.int .i64 0)))
  else (
    let v2249 : Int := (IntKind.wrap .u64 a1)
    bif (!(decide (v2249 = 0))) then (
      some (.v (.int .i64 ((IntKind.wrap .i64 ((Int.tmod ((IntKind.wrap .u64 a0)) v2249)))))))
    else (
      none))
theorem e_base_Among (F : Nat) (a0 : Int) (a1 : Int) : funL PP (S_base_Among F) c_base_Among (I_base_Among F) (J_base_Among F) 18 (fTs ti_base_Among [.i a0, .i a1]).1 = f_base_Among F a0 a1 := by
  have h : ∀ (_ : Unit), funL PP (words []) c_base_Among (tabI c_base_Among []) (tabJ []) 18 (fTs ti_base_Among [.i a0, .i a1]).1 = (
  bif ((decide (a1 < 1))) then (
    some (.v (.int .i64 0)))
  else (
    let v2249 : Int := (IntKind.wrap .u64 a1)
    bif (!(decide (v2249 = 0))) then (
      some (.v (.int .i64 ((IntKind.wrap .i64 ((Int.tmod ((IntKind.wrap .u64 a0)) v2249)))))))
    else (
      none)) : R) := by
    intros
    kernel_rfl
  exact (h ()).trans (by kernel_rfl)
def ok_base_Among (F : Nat) (a0 : Int) (a1 : Int) : Bool := okT to_base_Among (f_base_Among F a0 a1)
def o_base_Among_0 (F : Nat) (a0 : Int) (a1 : Int) : Int := atI (nth (outT to_base_Among (f_base_Among F a0 a1)) 0)
theorem k_base_Among (F : Nat) (a0 : Int) (a1 : Int) {z0 : Int} (h : f_base_Among F a0 a1 = some (.v (.int .i64 z0))) : ok_base_Among F a0 a1 = true ∧ o_base_Among_0 F a0 a1 = z0 := by
  refine ⟨?_, ?_⟩
  · unfold ok_base_Among; rw [h]; kernel_rfl
  · unfold o_base_Among_0; rw [h]; kernel_rfl
def s_base_Among (F : Nat) : List VV → Option (Bool × VV) := spec ti_base_Among to_base_Among (fun q => (ok_base_Among F (atI (nth q 0)) (atI (nth q 1)))) (fun q => [.i (o_base_Among_0 F (atI (nth q 0)) (atI (nth q 1)))])
theorem hS_base_Among (F : Nat) : ∀ f, Good PP f (unS (S_base_Among F f)) := words_good fun p hp => by
  cases hp
theorem hl_base_Among (F : Nat) : ∀ p ∈ loopsIn PP 18, LoopOK PP (S_base_Among F) c_base_Among F (I_base_Among F) (J_base_Among F) p :=
  loops_of [] (by kernel_rfl) all_nil
theorem hj_base_Among (F : Nat) : ∀ p ∈ joinsIn PP c_base_Among 18, JoinOK PP (S_base_Among F) c_base_Among (I_base_Among F) (J_base_Among F) p :=
  joins_of [] (by kernel_rfl) all_nil
theorem g_base_Among (F : Nat) : Good PP 18 (unS (s_base_Among F)) :=
  fun_spec (hS_base_Among F) (by kernel_rfl) (by kernel_rfl) (C := c_base_Among) (F := fun q => (f_base_Among F (atI (nth q 0)) (atI (nth q 1)))) (fun _ => F) (fun _ => I_base_Among F) (fun _ => J_base_Among F) (fun _ => hl_base_Among F) (fun _ => hj_base_Among F)
    (fun q => (congrArg (funL PP (S_base_Among F) c_base_Among (I_base_Among F) (J_base_Among F) 18) (show (fTs ti_base_Among q).1 = (fTs ti_base_Among [.i (atI (nth q 0)), .i (atI (nth q 1))]).1 by kernel_rfl)).trans (e_base_Among F (atI (nth q 0)) (atI (nth q 1))))
    (fun _ h => okT_fill' h (by kernel_rfl))

end Go.Xv
set_option linter.unusedVariables false
namespace Go.Xv
/- 5 _law37_FenceMoved -/
def c_law37_FenceMoved : Cfg := ⟨[0, 1, 2, 3, 4, 5, 6, 10, 11, 12, 13, 14, 15, 16, 17, 18, 19, 20, 21, 22, 23, 24, 25, 26, 27, 28, 29, 30, 32, 46, 69], [(0, [0, 1, 2, 3, 4, 5, 6, 10, 11, 12, 13, 14, 15, 16, 17, 18, 19, 20, 21, 22, 23, 24, 25, 26, 27, 28, 29, 30, 31, 32, 33, 34, 35, 36, 37, 38, 39, 40, 41, 42, 43, 63, 64, 65, 66, 67, 68, 69, 70, 71, 72, 73, 74, 75, 76, 77, 78, 79, 80, 81, 82, 83, 84, 85, 86, 87, 88, 89, 90, 91, 92, 93, 94, 95, 96, 97, 98, 99, 100, 101, 102, 103, 104, 105, 106, 107, 108, 109, 110, 111, 112, 113, 114, 115, 116, 117, 118, 119, 120, 121, 122, 123, 124, 125, 126, 127, 128, 129, 130, 131, 132, 133, 134, 135, 136, 137, 138, 139, 140, 141, 142, 143, 144, 145, 146, 147, 148, 149, 150, 151, 152, 153, 154, 155, 156, 157, 158, 159, 160, 161, 162, 163, 164, 165, 166, 167, 168, 169, 170]), (2, [0, 1, 2, 3, 4, 5, 6, 10, 11, 12, 13, 14, 15, 18, 19, 20, 21, 22, 23, 24, 25, 26, 27, 28, 29, 30, 31, 32, 33, 34, 35, 36, 37, 38, 39, 40, 41, 42, 43, 44, 45, 46, 47, 48, 49, 50, 51, 52, 53, 54, 55, 56, 57, 58, 59, 60, 61, 62, 98, 99, 100, 101, 102, 103, 104, 105, 106, 107, 108, 109, 110, 111, 112, 113, 114, 115, 116, 117, 118, 119, 120, 121, 122, 123, 124, 125, 126, 127, 128, 129, 130, 131, 132, 133, 134, 135, 136, 137, 138, 139, 140, 141, 142, 143, 144, 145, 146, 147, 148, 149, 150, 151, 152, 153, 154, 155, 156, 157, 158, 159, 160, 161, 162, 163, 164, 165, 166, 167, 168, 169, 170])], [60], []⟩
def ti_law37_FenceMoved : List TV := [.agg [.v (.bool), .fs .hole .hole 2, .v (.int .i64), .v (.int .i64)], .v (.agg [.int .i64, .int .i64, .int .i64]), .v (.int .i64), .v (.int .i64), .v (.bool)]
def to_law37_FenceMoved : TV := .v (.bool)
def S_law37_FenceMoved (F : Nat) : FuncId → List VV → Option (Bool × VV) := words [(17, s_law37_works F), (9, s_law37_few F), (18, s_base_Among F), (8, s_fence_Within F), (11, s_fence_Touches F), (13, s_fence_State F)]
def T_law37_FenceMoved_0 : TS := ⟨[(0, .agg [.v (.bool), .fs .hole .hole 2, .v (.int .i64), .v (.int .i64)]), (1, .v (.agg [.int .i64, .int .i64, .int .i64])), (2, .v (.int .i64)), (3, .v (.int .i64)), (4, .v (.bool)), (5, .lp 0 (.lit 0)), (6, .lp 1 (.lit 0)), (10, .v (.bool)), (11, .lp 2 (.lit 0)), (12, .v (.int .i64)), (13, .v (.int .i64)), (14, .v (.int .i64))], [(0, ⟨(.ex [.v (.bool), .fs (.lit 0) .hole 2, .v (.int .i64), .v (.int .i64)]), false⟩), (1, ⟨(.ex [.v (.int .i64), .v (.int .i64), .v (.int .i64)]), true⟩), (2, ⟨(.ex [.v (.bool), .ls 3 (.lit 0) .hole 2, .v (.int .i64), .v (.int .i64)]), false⟩), (3, ⟨.hole, true⟩)], 4⟩
def T_law37_FenceMoved_0_0 : TS := ⟨[(0, .agg [.v (.bool), .fs .hole .hole 2, .v (.int .i64), .v (.int .i64)]), (1, .v (.agg [.int .i64, .int .i64, .int .i64])), (2, .v (.int .i64)), (3, .v (.int .i64)), (4, .v (.bool)), (5, .lp 0 (.lit 0)), (6, .lp 1 (.lit 0)), (10, .v (.bool)), (11, .lp 2 (.lit 0)), (12, .v (.int .i64)), (13, .v (.int .i64)), (14, .v (.int .i64))], [(0, ⟨(.ex [.v (.bool), .fs (.lit 0) .hole 2, .v (.int .i64), .v (.int .i64)]), false⟩), (1, ⟨(.ex [.v (.int .i64), .v (.int .i64), .v (.int .i64)]), true⟩), (2, ⟨(.ex [.v (.bool), .ls 3 (.lit 0) .hole 2, .v (.int .i64), .v (.int .i64)]), false⟩), (3, ⟨.hole, true⟩)], 4⟩
def B_law37_FenceMoved_0 (F : Nat) (rc : Bool → List VV → Nat → Nat → Int → Int → Int → Int → Int → Int → Int → Bool → Bool → Int → Int → Int → Bool → List VV → Nat → Int → Int → Int → Int → Int → Bool → Nat → Int → Int → List VV → R) (ex0 : Bool → List VV → Nat → Nat → Int → Int → Int → Int → Int → Int → Int → Bool → Bool → Int → Int → Int → Bool → List VV → Nat → Int → Int → Int → Int → Int → Bool → Nat → Int → Int → List VV → R) (x0 : Bool) (x1 : List VV) (x2 : Nat) (x3 : Nat) (x4 : Int) (x5 : Int) (x6 : Int) (x7 : Int) (x8 : Int) (x9 : Int) (x10 : Int) (x11 : Bool) (x12 : Bool) (x13 : Int) (x14 : Int) (x15 : Int) (x16 : Bool) (x17 : List VV) (x18 : Nat) (x19 : Int) (x20 : Int) (x21 : Int) (x22 : Int) (x23 : Int) (x24 : Bool) (x25 : Nat) (x26 : Int) (x27 : Int) (x28 : List VV) : R :=
  bif ((decide (x15 < x13))) then (
    bif (!(decide (x13 = 0))) then (
      let v2284 : Int := (Int.tmod ((IntKind.wrap .i64 (x15 + x14))) x13)
      bif ((decide (0 ≤ v2284)) && (decide (v2284 < ((x18 : Nat) : Int)))) then (
        let v2285 : Nat := (0 + ((Int.toNat v2284) * 2))
        bif ((isI .i64 x17[v2285]?) && ((isI .i64 x17[(v2285 + 1)]?) && true)) then (
          bif (((decide ((0 + (x25 * 2)) ≤ x28.length)) && true) && (decide ((x25 + 1) * 17 ≤ bigger))) then (
            rc x0 x1 x2 x3 x4 x5 x6 x7 x8 x9 x10 x11 x12 x13 x14 ((IntKind.wrap .i64 (x15 + 1))) x16 x17 x18 x19 x20 x21 x22 x23 x24 ((x25 + 1)) x26 x27 ((((x28.drop 0).take (x25 * 2)) ++ [.v (.int .i64 ((iv x17[v2285]?))), .v (.int .i64 ((iv x17[(v2285 + 1)]?)))])))
          else (
            none))
        else (
          none))
      else (
        none))
    else (
      none))
  else (
    ex0 x0 x1 x2 x3 x4 x5 x6 x7 x8 x9 x10 x11 x12 x13 x14 x15 x16 x17 x18 x19 x20 x21 x22 x23 x24 x25 x26 x27 x28)
def L_law37_FenceMoved_0 (F : Nat) (ex0 : Bool → List VV → Nat → Nat → Int → Int → Int → Int → Int → Int → Int → Bool → Bool → Int → Int → Int → Bool → List VV → Nat → Int → Int → Int → Int → Int → Bool → Nat → Int → Int → List VV → R) : Nat → Bool → List VV → Nat → Nat → Int → Int → Int → Int → Int → Int → Int → Bool → Bool → Int → Int → Int → Bool → List VV → Nat → Int → Int → Int → Int → Int → Bool → Nat → Int → Int → List VV → R
  | 0, _, _, _, _, _, _, _, _, _, _, _, _, _, _, _, _, _, _, _, _, _, _, _, _, _, _, _, _, _ => none
  | n + 1, x0, x1, x2, x3, x4, x5, x6, x7, x8, x9, x10, x11, x12, x13, x14, x15, x16, x17, x18, x19, x20, x21, x22, x23, x24, x25, x26, x27, x28 => B_law37_FenceMoved_0 F (L_law37_FenceMoved_0 F ex0 n) ex0 x0 x1 x2 x3 x4 x5 x6 x7 x8 x9 x10 x11 x12 x13 x14 x15 x16 x17 x18 x19 x20 x21 x22 x23 x24 x25 x26 x27 x28
def T_law37_FenceMoved_1 : TS := ⟨[(0, .agg [.v (.bool), .fs .hole .hole 2, .v (.int .i64), .v (.int .i64)]), (1, .v (.agg [.int .i64, .int .i64, .int .i64])), (2, .v (.int .i64)), (3, .v (.int .i64)), (4, .v (.bool)), (5, .lp 0 (.lit 0)), (6, .lp 1 (.lit 0)), (10, .v (.bool)), (11, .lp 2 (.lit 0)), (12, .v (.int .i64)), (13, .v (.int .i64)), (14, .v (.int .i64)), (15, .v (.int .i64))], [(0, ⟨(.ex [.v (.bool), .fs (.lit 0) .hole 2, .v (.int .i64), .v (.int .i64)]), false⟩), (1, ⟨(.ex [.v (.int .i64), .v (.int .i64), .v (.int .i64)]), true⟩), (2, ⟨(.ex [.v (.bool), .ls 3 (.lit 0) .hole 2, .v (.int .i64), .v (.int .i64)]), false⟩), (3, ⟨.hole, true⟩)], 4⟩
def T_law37_FenceMoved_1_0 : TS := ⟨[(0, .agg [.v (.bool), .fs .hole .hole 2, .v (.int .i64), .v (.int .i64)]), (1, .v (.agg [.int .i64, .int .i64, .int .i64])), (2, .v (.int .i64)), (3, .v (.int .i64)), (4, .v (.bool)), (5, .lp 0 (.lit 0)), (6, .lp 1 (.lit 0)), (10, .v (.bool)), (11, .lp 2 (.lit 0)), (12, .v (.int .i64)), (13, .v (.int .i64)), (14, .v (.int .i64)), (15, .v (.int .i64))], [(0, ⟨(.ex [.v (.bool), .fs (.lit 0) .hole 2, .v (.int .i64), .v (.int .i64)]), false⟩), (1, ⟨(.ex [.v (.int .i64), .v (.int .i64), .v (.int .i64)]), true⟩), (2, ⟨(.ex [.v (.bool), .ls 3 (.lit 0) .hole 2, .v (.int .i64), .v (.int .i64)]), false⟩), (3, ⟨.hole, true⟩)], 4⟩
def B_law37_FenceMoved_1 (F : Nat) (rc : Bool → List VV → Nat → Nat → Int → Int → Int → Int → Int → Int → Int → Bool → Bool → Int → Int → Int → Int → Bool → List VV → Nat → Int → Int → Int → Int → Int → Bool → Nat → Int → Int → List VV → R) (ex0 : Bool → List VV → Nat → Nat → Int → Int → Int → Int → Int → Int → Int → Bool → Bool → Int → Int → Int → Int → Bool → List VV → Nat → Int → Int → Int → Int → Int → Bool → Nat → Int → Int → List VV → R) (x0 : Bool) (x1 : List VV) (x2 : Nat) (x3 : Nat) (x4 : Int) (x5 : Int) (x6 : Int) (x7 : Int) (x8 : Int) (x9 : Int) (x10 : Int) (x11 : Bool) (x12 : Bool) (x13 : Int) (x14 : Int) (x15 : Int) (x16 : Int) (x17 : Bool) (x18 : List VV) (x19 : Nat) (x20 : Int) (x21 : Int) (x22 : Int) (x23 : Int) (x24 : Int) (x25 : Bool) (x26 : Nat) (x27 : Int) (x28 : Int) (x29 : List VV) : R :=
  bif ((decide (x16 < ((IntKind.wrap .i64 (Int.tdiv x13 2)))))) then (
    bif x11 then (
      bif ((decide (0 ≤ x16)) && (decide (x16 < ((x26 : Nat) : Int)))) then (
        let v2352 : Nat := (0 + ((Int.toNat x16) * 2))
        bif ((isI .i64 x29[v2352]?) && ((isI .i64 x29[(v2352 + 1)]?) && true)) then (
          let v2356 : Int := (IntKind.wrap .i64 (((IntKind.wrap .i64 (x13 - 1))) - x16))
          bif ((decide (0 ≤ v2356)) && (decide (v2356 < ((x26 : Nat) : Int)))) then (
            let v2357 : Nat := (0 + ((Int.toNat v2356) * 2))
            bif ((isI .i64 x29[v2357]?) && ((isI .i64 x29[(v2357 + 1)]?) && true)) then (
              let v2361 : Int := (IntKind.wrap .i64 (((IntKind.wrap .i64 (x13 - 1))) - x16))
              bif ((decide (0 ≤ x16)) && (decide (x16 < ((x26 : Nat) : Int)))) then (
                let v2362 : Nat := (0 + ((Int.toNat x16) * 2))
                bif (decide ((v2362 + 2) ≤ x29.length)) then (
                  let v2363 : List VV := (x29.take v2362 ++ [.v (.int .i64 ((iv x29[v2357]?))), .v (.int .i64 ((iv x29[(v2357 + 1)]?)))] ++ x29.drop (v2362 + 2))
                  bif ((decide (0 ≤ v2361)) && (decide (v2361 < ((x26 : Nat) : Int)))) then (
                    let v2364 : Nat := (0 + ((Int.toNat v2361) * 2))
                    bif (decide ((v2364 + 2) ≤ v2363.length)) then (
                      rc x0 x1 x2 x3 x4 x5 x6 x7 x8 x9 x10 x11 x12 x13 x14 x15 ((IntKind.wrap .i64 (x16 + 1))) x17 x18 x19 x20 x21 x22 x23 x24 x25 x26 x27 x28 ((v2363.take v2364 ++ [.v (.int .i64 ((iv x29[v2352]?))), .v (.int .i64 ((iv x29[(v2352 + 1)]?)))] ++ v2363.drop (v2364 + 2))))
                    else (
                      none))
                  else (
                    none))
                else (
                  none))
              else (
                none))
            else (
              none))
          else (
            none))
        else (
          none))
      else (
        none))
    else (
      ex0 x0 x1 x2 x3 x4 x5 x6 x7 x8 x9 x10 x11 x12 x13 x14 x15 x16 x17 x18 x19 x20 x21 x22 x23 x24 x25 x26 x27 x28 x29))
  else (
    ex0 x0 x1 x2 x3 x4 x5 x6 x7 x8 x9 x10 x11 x12 x13 x14 x15 x16 x17 x18 x19 x20 x21 x22 x23 x24 x25 x26 x27 x28 x29)
def L_law37_FenceMoved_1 (F : Nat) (ex0 : Bool → List VV → Nat → Nat → Int → Int → Int → Int → Int → Int → Int → Bool → Bool → Int → Int → Int → Int → Bool → List VV → Nat → Int → Int → Int → Int → Int → Bool → Nat → Int → Int → List VV → R) : Nat → Bool → List VV → Nat → Nat → Int → Int → Int → Int → Int → Int → Int → Bool → Bool → Int → Int → Int → Int → Bool → List VV → Nat → Int → Int → Int → Int → Int → Bool → Nat → Int → Int → List VV → R
  | 0, _, _, _, _, _, _, _, _, _, _, _, _, _, _, _, _, _, _, _, _, _, _, _, _, _, _, _, _, _, _ => none
  | n + 1, x0, x1, x2, x3, x4, x5, x6, x7, x8, x9, x10, x11, x12, x13, x14, x15, x16, x17, x18, x19, x20, x21, x22, x23, x24, x25, x26, x27, x28, x29 => B_law37_FenceMoved_1 F (L_law37_FenceMoved_1 F ex0 n) ex0 x0 x1 x2 x3 x4 x5 x6 x7 x8 x9 x10 x11 x12 x13 x14 x15 x16 x17 x18 x19 x20 x21 x22 x23 x24 x25 x26 x27 x28 x29
def W_law37_FenceMoved (F : Nat) : List LW := [⟨0, T_law37_FenceMoved_0, fun k q => L_law37_FenceMoved_0 F (fun (z0 : Bool) (z1 : List VV) (z2 : Nat) (z3 : Nat) (z4 : Int) (z5 : Int) (z6 : Int) (z7 : Int) (z8 : Int) (z9 : Int) (z10 : Int) (z11 : Bool) (z12 : Bool) (z13 : Int) (z14 : Int) (z15 : Int) (z16 : Bool) (z17 : List VV) (z18 : Nat) (z19 : Int) (z20 : Int) (z21 : Int) (z22 : Int) (z23 : Int) (z24 : Bool) (z25 : Nat) (z26 : Int) (z27 : Int) (z28 : List VV) => k (.exit 0) (fS T_law37_FenceMoved_0_0 [.b z0, .c z1, .n z2, .n z3, .i z4, .i z5, .i z6, .i z7, .i z8, .i z9, .i z10, .b z11, .b z12, .i z13, .i z14, .i z15, .b z16, .c z17, .n z18, .i z19, .i z20, .i z21, .i z22, .i z23, .b z24, .n z25, .i z26, .i z27, .c z28])) F (atB (nth q 0)) (atC (nth q 1)) (atN (nth q 2)) (atN (nth q 3)) (atI (nth q 4)) (atI (nth q 5)) (atI (nth q 6)) (atI (nth q 7)) (atI (nth q 8)) (atI (nth q 9)) (atI (nth q 10)) (atB (nth q 11)) (atB (nth q 12)) (atI (nth q 13)) (atI (nth q 14)) (atI (nth q 15)) (atB (nth q 16)) (atC (nth q 17)) (atN (nth q 18)) (atI (nth q 19)) (atI (nth q 20)) (atI (nth q 21)) (atI (nth q 22)) (atI (nth q 23)) (atB (nth q 24)) (atN (nth q 25)) (atI (nth q 26)) (atI (nth q 27)) (atC (nth q 28))⟩, ⟨2, T_law37_FenceMoved_1, fun k q => L_law37_FenceMoved_1 F (fun (z0 : Bool) (z1 : List VV) (z2 : Nat) (z3 : Nat) (z4 : Int) (z5 : Int) (z6 : Int) (z7 : Int) (z8 : Int) (z9 : Int) (z10 : Int) (z11 : Bool) (z12 : Bool) (z13 : Int) (z14 : Int) (z15 : Int) (z16 : Int) (z17 : Bool) (z18 : List VV) (z19 : Nat) (z20 : Int) (z21 : Int) (z22 : Int) (z23 : Int) (z24 : Int) (z25 : Bool) (z26 : Nat) (z27 : Int) (z28 : Int) (z29 : List VV) => k (.exit 2) (fS T_law37_FenceMoved_1_0 [.b z0, .c z1, .n z2, .n z3, .i z4, .i z5, .i z6, .i z7, .i z8, .i z9, .i z10, .b z11, .b z12, .i z13, .i z14, .i z15, .i z16, .b z17, .c z18, .n z19, .i z20, .i z21, .i z22, .i z23, .i z24, .b z25, .n z26, .i z27, .i z28, .c z29])) F (atB (nth q 0)) (atC (nth q 1)) (atN (nth q 2)) (atN (nth q 3)) (atI (nth q 4)) (atI (nth q 5)) (atI (nth q 6)) (atI (nth q 7)) (atI (nth q 8)) (atI (nth q 9)) (atI (nth q 10)) (atB (nth q 11)) (atB (nth q 12)) (atI (nth q 13)) (atI (nth q 14)) (atI (nth q 15)) (atI (nth q 16)) (atB (nth q 17)) (atC (nth q 18)) (atN (nth q 19)) (atI (nth q 20)) (atI (nth q 21)) (atI (nth q 22)) (atI (nth q 23)) (atI (nth q 24)) (atB (nth q 25)) (atN (nth q 26)) (atI (nth q 27)) (atI (nth q 28)) (atC (nth q 29))⟩]
def I_law37_FenceMoved (F : Nat) : Nat → VS → (Exit → VS → R) → R := tabI c_law37_FenceMoved (W_law37_FenceMoved F)
def WJ_law37_FenceMoved (F : Nat) : List LJ := []
def J_law37_FenceMoved (F : Nat) : Nat → Nat → VS → (Exit → VS → R) → R := tabJ (WJ_law37_FenceMoved F)
theorem lL_law37_FenceMoved_0 (F : Nat) (k : Exit → VS → R) : ∀ (n : Nat) (x0 : Bool) (x1 : List VV) (x2 : Nat) (x3 : Nat) (x4 : Int) (x5 : Int) (x6 : Int) (x7 : Int) (x8 : Int) (x9 : Int) (x10 : Int) (x11 : Bool) (x12 : Bool) (x13 : Int) (x14 : Int) (x15 : Int) (x16 : Bool) (x17 : List VV) (x18 : Nat) (x19 : Int) (x20 : Int) (x21 : Int) (x22 : Int) (x23 : Int) (x24 : Bool) (x25 : Nat) (x26 : Int) (x27 : Int) (x28 : List VV), iterC (codeL PP (S_law37_FenceMoved F) c_law37_FenceMoved (I_law37_FenceMoved F) (J_law37_FenceMoved F) (loopAt PP 5 0) 0) (headOf c_law37_FenceMoved 0) k n (fS T_law37_FenceMoved_0 [.b x0, .c x1, .n x2, .n x3, .i x4, .i x5, .i x6, .i x7, .i x8, .i x9, .i x10, .b x11, .b x12, .i x13, .i x14, .i x15, .b x16, .c x17, .n x18, .i x19, .i x20, .i x21, .i x22, .i x23, .b x24, .n x25, .i x26, .i x27, .c x28]) = L_law37_FenceMoved_0 F (fun (z0 : Bool) (z1 : List VV) (z2 : Nat) (z3 : Nat) (z4 : Int) (z5 : Int) (z6 : Int) (z7 : Int) (z8 : Int) (z9 : Int) (z10 : Int) (z11 : Bool) (z12 : Bool) (z13 : Int) (z14 : Int) (z15 : Int) (z16 : Bool) (z17 : List VV) (z18 : Nat) (z19 : Int) (z20 : Int) (z21 : Int) (z22 : Int) (z23 : Int) (z24 : Bool) (z25 : Nat) (z26 : Int) (z27 : Int) (z28 : List VV) => k (.exit 0) (fS T_law37_FenceMoved_0_0 [.b z0, .c z1, .n z2, .n z3, .i z4, .i z5, .i z6, .i z7, .i z8, .i z9, .i z10, .b z11, .b z12, .i z13, .i z14, .i z15, .b z16, .c z17, .n z18, .i z19, .i z20, .i z21, .i z22, .i z23, .b z24, .n z25, .i z26, .i z27, .c z28])) n x0 x1 x2 x3 x4 x5 x6 x7 x8 x9 x10 x11 x12 x13 x14 x15 x16 x17 x18 x19 x20 x21 x22 x23 x24 x25 x26 x27 x28
  | 0, _, _, _, _, _, _, _, _, _, _, _, _, _, _, _, _, _, _, _, _, _, _, _, _, _, _, _, _, _ => rfl
  | n + 1, x0, x1, x2, x3, x4, x5, x6, x7, x8, x9, x10, x11, x12, x13, x14, x15, x16, x17, x18, x19, x20, x21, x22, x23, x24, x25, x26, x27, x28 => by
    have h0 : ∀ (ok_law37_works : Nat → Bool) (o_law37_works_0 : Nat → Bool) (ok_law37_few : Nat → Bool → List VV → Nat → Nat → Int → Int → Bool) (o_law37_few_0 : Nat → Bool → List VV → Nat → Nat → Int → Int → Bool) (o_law37_few_1 : Nat → Bool → List VV → Nat → Nat → Int → Int → List VV) (o_law37_few_2 : Nat → Bool → List VV → Nat → Nat → Int → Int → Nat) (o_law37_few_3 : Nat → Bool → List VV → Nat → Nat → Int → Int → Int) (o_law37_few_4 : Nat → Bool → List VV → Nat → Nat → Int → Int → Int) (ok_base_Among : Nat → Int → Int → Bool) (o_base_Among_0 : Nat → Int → Int → Int) (ok_fence_Within : Nat → Bool → List VV → Nat → Nat → Int → Int → Int → Int → Bool) (o_fence_Within_0 : Nat → Bool → List VV → Nat → Nat → Int → Int → Int → Int → Bool) (o_fence_Within_1 : Nat → Bool → List VV → Nat → Nat → Int → Int → Int → Int → Int) (ok_fence_Touches : Nat → Bool → List VV → Nat → Nat → Int → Int → Int → Int → Int → Bool) (o_fence_Touches_0 : Nat → Bool → List VV → Nat → Nat → Int → Int → Int → Int → Int → Bool) (o_fence_Touches_1 : Nat → Bool → List VV → Nat → Nat → Int → Int → Int → Int → Int → Int) (ok_fence_State : Nat → Bool → List VV → Nat → Int → Int → Int → Int → Int → Int → Bool) (o_fence_State_0 : Nat → Bool → List VV → Nat → Int → Int → Int → Int → Int → Int → Int) (o_fence_State_1 : Nat → Bool → List VV → Nat → Int → Int → Int → Int → Int → Int → Int) (L_law37_FenceMoved_0 : Nat → (Bool → List VV → Nat → Nat → Int → Int → Int → Int → Int → Int → Int → Bool → Bool → Int → Int → Int → Bool → List VV → Nat → Int → Int → Int → Int → Int → Bool → Nat → Int → Int → List VV → R) → Nat → Bool → List VV → Nat → Nat → Int → Int → Int → Int → Int → Int → Int → Bool → Bool → Int → Int → Int → Bool → List VV → Nat → Int → Int → Int → Int → Int → Bool → Nat → Int → Int → List VV → R) (L_law37_FenceMoved_1 : Nat → (Bool → List VV → Nat → Nat → Int → Int → Int → Int → Int → Int → Int → Bool → Bool → Int → Int → Int → Int → Bool → List VV → Nat → Int → Int → Int → Int → Int → Bool → Nat → Int → Int → List VV → R) → Nat → Bool → List VV → Nat → Nat → Int → Int → Int → Int → Int → Int → Int → Bool → Bool → Int → Int → Int → Int → Bool → List VV → Nat → Int → Int → Int → Int → Int → Bool → Nat → Int → Int → List VV → R), iterC (codeL PP (words [(17, spec ti_law37_works to_law37_works (fun q => (ok_law37_works F )) (fun q => [.b (o_law37_works_0 F )])), (9, spec ti_law37_few to_law37_few (fun q => (ok_law37_few F (atB (nth q 0)) (atC (nth q 1)) (atN (nth q 2)) (atN (nth q 3)) (atI (nth q 4)) (atI (nth q 5)))) (fun q => [.b (o_law37_few_0 F (atB (nth q 0)) (atC (nth q 1)) (atN (nth q 2)) (atN (nth q 3)) (atI (nth q 4)) (atI (nth q 5))), .c (o_law37_few_1 F (atB (nth q 0)) (atC (nth q 1)) (atN (nth q 2)) (atN (nth q 3)) (atI (nth q 4)) (atI (nth q 5))), .n (o_law37_few_2 F (atB (nth q 0)) (atC (nth q 1)) (atN (nth q 2)) (atN (nth q 3)) (atI (nth q 4)) (atI (nth q 5))), .i (o_law37_few_3 F (atB (nth q 0)) (atC (nth q 1)) (atN (nth q 2)) (atN (nth q 3)) (atI (nth q 4)) (atI (nth q 5))), .i (o_law37_few_4 F (atB (nth q 0)) (atC (nth q 1)) (atN (nth q 2)) (atN (nth q 3)) (atI (nth q 4)) (atI (nth q 5)))])), (18, spec ti_base_Among to_base_Among (fun q => (ok_base_Among F (atI (nth q 0)) (atI (nth q 1)))) (fun q => [.i (o_base_Among_0 F (atI (nth q 0)) (atI (nth q 1)))])), (8, spec ti_fence_Within to_fence_Within (fun q => (ok_fence_Within F (atB (nth q 0)) (atC (nth q 1)) (atN (nth q 2)) (atN (nth q 3)) (atI (nth q 4)) (atI (nth q 5)) (atI (nth q 6)) (atI (nth q 7)))) (fun q => [.b (o_fence_Within_0 F (atB (nth q 0)) (atC (nth q 1)) (atN (nth q 2)) (atN (nth q 3)) (atI (nth q 4)) (atI (nth q 5)) (atI (nth q 6)) (atI (nth q 7))), .i (o_fence_Within_1 F (atB (nth q 0)) (atC (nth q 1)) (atN (nth q 2)) (atN (nth q 3)) (atI (nth q 4)) (atI (nth q 5)) (atI (nth q 6)) (atI (nth q 7)))])), (11, spec ti_fence_Touches to_fence_Touches (fun q => (ok_fence_Touches F (atB (nth q 0)) (atC (nth q 1)) (atN (nth q 2)) (atN (nth q 3)) (atI (nth q 4)) (atI (nth q 5)) (atI (nth q 6)) (atI (nth q 7)) (atI (nth q 8)))) (fun q => [.b (o_fence_Touches_0 F (atB (nth q 0)) (atC (nth q 1)) (atN (nth q 2)) (atN (nth q 3)) (atI (nth q 4)) (atI (nth q 5)) (atI (nth q 6)) (atI (nth q 7)) (atI (nth q 8))), .i (o_fence_Touches_1 F (atB (nth q 0)) (atC (nth q 1)) (atN (nth q 2)) (atN (nth q 3)) (atI (nth q 4)) (atI (nth q 5)) (atI (nth q 6)) (atI (nth q 7)) (atI (nth q 8)))])), (13, spec ti_fence_State to_fence_State (fun q => (ok_fence_State F (atB (nth q 0)) (atC (nth q 1)) (atN (nth q 2)) (atI (nth q 3)) (atI (nth q 4)) (atI (nth q 5)) (atI (nth q 6)) (atI (nth q 7)) (atI (nth q 8)))) (fun q => [.i (o_fence_State_0 F (atB (nth q 0)) (atC (nth q 1)) (atN (nth q 2)) (atI (nth q 3)) (atI (nth q 4)) (atI (nth q 5)) (atI (nth q 6)) (atI (nth q 7)) (atI (nth q 8))), .i (o_fence_State_1 F (atB (nth q 0)) (atC (nth q 1)) (atN (nth q 2)) (atI (nth q 3)) (atI (nth q 4)) (atI (nth q 5)) (atI (nth q 6)) (atI (nth q 7)) (atI (nth q 8)))]))]) c_law37_FenceMoved (tabI c_law37_FenceMoved [⟨0, T_law37_FenceMoved_0, fun k q => L_law37_FenceMoved_0 F (fun (z0 : Bool) (z1 : List VV) (z2 : Nat) (z3 : Nat) (z4 : Int) (z5 : Int) (z6 : Int) (z7 : Int) (z8 : Int) (z9 : Int) (z10 : Int) (z11 : Bool) (z12 : Bool) (z13 : Int) (z14 : Int) (z15 : Int) (z16 : Bool) (z17 : List VV) (z18 : Nat) (z19 : Int) (z20 : Int) (z21 : Int) (z22 : Int) (z23 : Int) (z24 : Bool) (z25 : Nat) (z26 : Int) (z27 : Int) (z28 : List VV) => k (.exit 0) (fS T_law37_FenceMoved_0_0 [.b z0, .c z1, .n z2, .n z3, .i z4, .i z5, .i z6, .i z7, .i z8, .i z9, .i z10, .b z11, .b z12, .i z13, .i z14, .i z15, .b z16, .c z17, .n z18, .i z19, .i z20, .i z21, .i z22, .i z23, .b z24, .n z25, .i z26, .i z27, .c z28])) F (atB (nth q 0)) (atC (nth q 1)) (atN (nth q 2)) (atN (nth q 3)) (atI (nth q 4)) (atI (nth q 5)) (atI (nth q 6)) (atI (nth q 7)) (atI (nth q 8)) (atI (nth q 9)) (atI (nth q 10)) (atB (nth q 11)) (atB (nth q 12)) (atI (nth q 13)) (atI (nth q 14)) (atI (nth q 15)) (atB (nth q 16)) (atC (nth q 17)) (atN (nth q 18)) (atI (nth q 19)) (atI (nth q 20)) (atI (nth q 21)) (atI (nth q 22)) (atI (nth q 23)) (atB (nth q 24)) (atN (nth q 25)) (atI (nth q 26)) (atI (nth q 27)) (atC (nth q 28))⟩, ⟨2, T_law37_FenceMoved_1, fun k q => L_law37_FenceMoved_1 F (fun (z0 : Bool) (z1 : List VV) (z2 : Nat) (z3 : Nat) (z4 : Int) (z5 : Int) (z6 : Int) (z7 : Int) (z8 : Int) (z9 : Int) (z10 : Int) (z11 : Bool) (z12 : Bool) (z13 : Int) (z14 : Int) (z15 : Int) (z16 : Int) (z17 : Bool) (z18 : List VV) (z19 : Nat) (z20 : Int) (z21 : Int) (z22 : Int) (z23 : Int) (z24 : Int) (z25 : Bool) (z26 : Nat) (z27 : Int) (z28 : Int) (z29 : List VV) => k (.exit 2) (fS T_law37_FenceMoved_1_0 [.b z0, .c z1, .n z2, .n z3, .i z4, .i z5, .i z6, .i z7, .i z8, .i z9, .i z10, .b z11, .b z12, .i z13, .i z14, .i z15, .i z16, .b z17, .c z18, .n z19, .i z20, .i z21, .i z22, .i z23, .i z24, .b z25, .n z26, .i z27, .i z28, .c z29])) F (atB (nth q 0)) (atC (nth q 1)) (atN (nth q 2)) (atN (nth q 3)) (atI (nth q 4)) (atI (nth q 5)) (atI (nth q 6)) (atI (nth q 7)) (atI (nth q 8)) (atI (nth q 9)) (atI (nth q 10)) (atB (nth q 11)) (atB (nth q 12)) (atI (nth q 13)) (atI (nth q 14)) (atI (nth q 15)) (atI (nth q 16)) (atB (nth q 17)) (atC (nth q 18)) (atN (nth q 19)) (atI (nth q 20)) (atI (nth q 21)) (atI (nth q 22)) (atI (nth q 23)) (atI (nth q 24)) (atB (nth q 25)) (atN (nth q 26)) (atI (nth q 27)) (atI (nth q 28)) (atC (nth q 29))⟩]) (tabJ []) (loopAt PP 5 0) 0) (headOf c_law37_FenceMoved 0) k (n + 1) (fS T_law37_FenceMoved_0 [.b x0, .c x1, .n x2, .n x3, .i x4, .i x5, .i x6, .i x7, .i x8, .i x9, .i x10, .b x11, .b x12, .i x13, .i x14, .i x15, .b x16, .c x17, .n x18, .i x19, .i x20, .i x21, .i x22, .i x23, .b x24, .n x25, .i x26, .i x27, .c x28]) = (fun (rc : Bool → List VV → Nat → Nat → Int → Int → Int → Int → Int → Int → Int → Bool → Bool → Int → Int → Int → Bool → List VV → Nat → Int → Int → Int → Int → Int → Bool → Nat → Int → Int → List VV → R) (ex0 : Bool → List VV → Nat → Nat → Int → Int → Int → Int → Int → Int → Int → Bool → Bool → Int → Int → Int → Bool → List VV → Nat → Int → Int → Int → Int → Int → Bool → Nat → Int → Int → List VV → R) (x0 : Bool) (x1 : List VV) (x2 : Nat) (x3 : Nat) (x4 : Int) (x5 : Int) (x6 : Int) (x7 : Int) (x8 : Int) (x9 : Int) (x10 : Int) (x11 : Bool) (x12 : Bool) (x13 : Int) (x14 : Int) (x15 : Int) (x16 : Bool) (x17 : List VV) (x18 : Nat) (x19 : Int) (x20 : Int) (x21 : Int) (x22 : Int) (x23 : Int) (x24 : Bool) (x25 : Nat) (x26 : Int) (x27 : Int) (x28 : List VV) => (
  bif ((decide (x15 < x13))) then (
    bif (!(decide (x13 = 0))) then (
      let v2284 : Int := (Int.tmod ((IntKind.wrap .i64 (x15 + x14))) x13)
      bif ((decide (0 ≤ v2284)) && (decide (v2284 < ((x18 : Nat) : Int)))) then (
        let v2285 : Nat := (0 + ((Int.toNat v2284) * 2))
        bif ((isI .i64 x17[v2285]?) && ((isI .i64 x17[(v2285 + 1)]?) && true)) then (
          bif (((decide ((0 + (x25 * 2)) ≤ x28.length)) && true) && (decide ((x25 + 1) * 17 ≤ bigger))) then (
            rc x0 x1 x2 x3 x4 x5 x6 x7 x8 x9 x10 x11 x12 x13 x14 ((IntKind.wrap .i64 (x15 + 1))) x16 x17 x18 x19 x20 x21 x22 x23 x24 ((x25 + 1)) x26 x27 ((((x28.drop 0).take (x25 * 2)) ++ [.v (.int .i64 ((iv x17[v2285]?))), .v (.int .i64 ((iv x17[(v2285 + 1)]?)))])))
          else (
            none))
        else (
          none))
      else (
        none))
    else (
      none))
  else (
    ex0 x0 x1 x2 x3 x4 x5 x6 x7 x8 x9 x10 x11 x12 x13 x14 x15 x16 x17 x18 x19 x20 x21 x22 x23 x24 x25 x26 x27 x28) : R)) (fun (y0 : Bool) (y1 : List VV) (y2 : Nat) (y3 : Nat) (y4 : Int) (y5 : Int) (y6 : Int) (y7 : Int) (y8 : Int) (y9 : Int) (y10 : Int) (y11 : Bool) (y12 : Bool) (y13 : Int) (y14 : Int) (y15 : Int) (y16 : Bool) (y17 : List VV) (y18 : Nat) (y19 : Int) (y20 : Int) (y21 : Int) (y22 : Int) (y23 : Int) (y24 : Bool) (y25 : Nat) (y26 : Int) (y27 : Int) (y28 : List VV) => iterC (codeL PP (words [(17, spec ti_law37_works to_law37_works (fun q => (ok_law37_works F )) (fun q => [.b (o_law37_works_0 F )])), (9, spec ti_law37_few to_law37_few (fun q => (ok_law37_few F (atB (nth q 0)) (atC (nth q 1)) (atN (nth q 2)) (atN (nth q 3)) (atI (nth q 4)) (atI (nth q 5)))) (fun q => [.b (o_law37_few_0 F (atB (nth q 0)) (atC (nth q 1)) (atN (nth q 2)) (atN (nth q 3)) (atI (nth q 4)) (atI (nth q 5))), .c (o_law37_few_1 F (atB (nth q 0)) (atC (nth q 1)) (atN (nth q 2)) (atN (nth q 3)) (atI (nth q 4)) (atI (nth q 5))), .n (o_law37_few_2 F (atB (nth q 0)) (atC (nth q 1)) (atN (nth q 2)) (atN (nth q 3)) (atI (nth q 4)) (atI (nth q 5))), .i (o_law37_few_3 F (atB (nth q 0)) (atC (nth q 1)) (atN (nth q 2)) (atN (nth q 3)) (atI (nth q 4)) (atI (nth q 5))), .i (o_law37_few_4 F (atB (nth q 0)) (atC (nth q 1)) (atN (nth q 2)) (atN (nth q 3)) (atI (nth q 4)) (atI (nth q 5)))])), (18, spec ti_base_Among to_base_Among (fun q => (ok_base_Among F (atI (nth q 0)) (atI (nth q 1)))) (fun q => [.i (o_base_Among_0 F (atI (nth q 0)) (atI (nth q 1)))])), (8, spec ti_fence_Within to_fence_Within (fun q => (ok_fence_Within F (atB (nth q 0)) (atC (nth q 1)) (atN (nth q 2)) (atN (nth q 3)) (atI (nth q 4)) (atI (nth q 5)) (atI (nth q 6)) (atI (nth q 7)))) (fun q => [.b (o_fence_Within_0 F (atB (nth q 0)) (atC (nth q 1)) (atN (nth q 2)) (atN (nth q 3)) (atI (nth q 4)) (atI (nth q 5)) (atI (nth q 6)) (atI (nth q 7))), .i (o_fence_Within_1 F (atB (nth q 0)) (atC (nth q 1)) (atN (nth q 2)) (atN (nth q 3)) (atI (nth q 4)) (atI (nth q 5)) (atI (nth q 6)) (atI (nth q 7)))])), (11, spec ti_fence_Touches to_fence_Touches (fun q => (ok_fence_Touches F (atB (nth q 0)) (atC (nth q 1)) (atN (nth q 2)) (atN (nth q 3)) (atI (nth q 4)) (atI (nth q 5)) (atI (nth q 6)) (atI (nth q 7)) (atI (nth q 8)))) (fun q => [.b (o_fence_Touches_0 F (atB (nth q 0)) (atC (nth q 1)) (atN (nth q 2)) (atN (nth q 3)) (atI (nth q 4)) (atI (nth q 5)) (atI (nth q 6)) (atI (nth q 7)) (atI (nth q 8))), .i (o_fence_Touches_1 F (atB (nth q 0)) (atC (nth q 1)) (atN (nth q 2)) (atN (nth q 3)) (atI (nth q 4)) (atI (nth q 5)) (atI (nth q 6)) (atI (nth q 7)) (atI (nth q 8)))])), (13, spec ti_fence_State to_fence_State (fun q => (ok_fence_State F (atB (nth q 0)) (atC (nth q 1)) (atN (nth q 2)) (atI (nth q 3)) (atI (nth q 4)) (atI (nth q 5)) (atI (nth q 6)) (atI (nth q 7)) (atI (nth q 8)))) (fun q => [.i (o_fence_State_0 F (atB (nth q 0)) (atC (nth q 1)) (atN (nth q 2)) (atI (nth q 3)) (atI (nth q 4)) (atI (nth q 5)) (atI (nth q 6)) (atI (nth q 7)) (atI (nth q 8))), .i (o_fence_State_1 F (atB (nth q 0)) (atC (nth q 1)) (atN (nth q 2)) (atI (nth q 3)) (atI (nth q 4)) (atI (nth q 5)) (atI (nth q 6)) (atI (nth q 7)) (atI (nth q 8)))]))]) c_law37_FenceMoved (tabI c_law37_FenceMoved [⟨0, T_law37_FenceMoved_0, fun k q => L_law37_FenceMoved_0 F (fun (z0 : Bool) (z1 : List VV) (z2 : Nat) (z3 : Nat) (z4 : Int) (z5 : Int) (z6 : Int) (z7 : Int) (z8 : Int) (z9 : Int) (z10 : Int) (z11 : Bool) (z12 : Bool) (z13 : Int) (z14 : Int) (z15 : Int) (z16 : Bool) (z17 : List VV) (z18 : Nat) (z19 : Int) (z20 : Int) (z21 : Int) (z22 : Int) (z23 : Int) (z24 : Bool) (z25 : Nat) (z26 : Int) (z27 : Int) (z28 : List VV) => k (.exit 0) (fS T_law37_FenceMoved_0_0 [.b z0, .c z1, .n z2, .n z3, .i z4, .i z5, .i z6, .i z7, .i z8, .i z9, .i z10, .b z11, .b z12, .i z13, .i z14, .i z15, .b z16, .c z17, .n z18, .i z19, .i z20, .i z21, .i z22, .i z23, .b z24, .n z25, .i z26, .i z27, .c z28])) F (atB (nth q 0)) (atC (nth q 1)) (atN (nth q 2)) (atN (nth q 3)) (atI (nth q 4)) (atI (nth q 5)) (atI (nth q 6)) (atI (nth q 7)) (atI (nth q 8)) (atI (nth q 9)) (atI (nth q 10)) (atB (nth q 11)) (atB (nth q 12)) (atI (nth q 13)) (atI (nth q 14)) (atI (nth q 15)) (atB (nth q 16)) (atC (nth q 17)) (atN (nth q 18)) (atI (nth q 19)) (atI (nth q 20)) (atI (nth q 21)) (atI (nth q 22)) (atI (nth q 23)) (atB (nth q 24)) (atN (nth q 25)) (atI (nth q 26)) (atI (nth q 27)) (atC (nth q 28))⟩, ⟨2, T_law37_FenceMoved_1, fun k q => L_law37_FenceMoved_1 F (fun (z0 : Bool) (z1 : List VV) (z2 : Nat) (z3 : Nat) (z4 : Int) (z5 : Int) (z6 : Int) (z7 : Int) (z8 : Int) (z9 : Int) (z10 : Int) (z11 : Bool) (z12 : Bool) (z13 : Int) (z14 : Int) (z15 : Int) (z16 : Int) (z17 : Bool) (z18 : List VV) (z19 : Nat) (z20 : Int) (z21 : Int) (z22 : Int) (z23 : Int) (z24 : Int) (z25 : Bool) (z26 : Nat) (z27 : Int) (z28 : Int) (z29 : List VV) => k (.exit 2) (fS T_law37_FenceMoved_1_0 [.b z0, .c z1, .n z2, .n z3, .i z4, .i z5, .i z6, .i z7, .i z8, .i z9, .i z10, .b z11, .b z12, .i z13, .i z14, .i z15, .i z16, .b z17, .c z18, .n z19, .i z20, .i z21, .i z22, .i z23, .i z24, .b z25, .n z26, .i z27, .i z28, .c z29])) F (atB (nth q 0)) (atC (nth q 1)) (atN (nth q 2)) (atN (nth q 3)) (atI (nth q 4)) (atI (nth q 5)) (atI (nth q 6)) (atI (nth q 7)) (atI (nth q 8)) (atI (nth q 9)) (atI (nth q 10)) (atB (nth q 11)) (atB (nth q 12)) (atI (nth q 13)) (atI (nth q 14)) (atI (nth q 15)) (atI (nth q 16)) (atB (nth q 17)) (atC (nth q 18)) (atN (nth q 19)) (atI (nth q 20)) (atI (nth q 21)) (atI (nth q 22)) (atI (nth q 23)) (atI (nth q 24)) (atB (nth q 25)) (atN (nth q 26)) (atI (nth q 27)) (atI (nth q 28)) (atC (nth q 29))⟩]) (tabJ []) (loopAt PP 5 0) 0) (headOf c_law37_FenceMoved 0) k n (fS T_law37_FenceMoved_0 [.b y0, .c y1, .n y2, .n y3, .i y4, .i y5, .i y6, .i y7, .i y8, .i y9, .i y10, .b y11, .b y12, .i y13, .i y14, .i y15, .b y16, .c y17, .n y18, .i y19, .i y20, .i y21, .i y22, .i y23, .b y24, .n y25, .i y26, .i y27, .c y28])) (fun (z0 : Bool) (z1 : List VV) (z2 : Nat) (z3 : Nat) (z4 : Int) (z5 : Int) (z6 : Int) (z7 : Int) (z8 : Int) (z9 : Int) (z10 : Int) (z11 : Bool) (z12 : Bool) (z13 : Int) (z14 : Int) (z15 : Int) (z16 : Bool) (z17 : List VV) (z18 : Nat) (z19 : Int) (z20 : Int) (z21 : Int) (z22 : Int) (z23 : Int) (z24 : Bool) (z25 : Nat) (z26 : Int) (z27 : Int) (z28 : List VV) => k (.exit 0) (fS T_law37_FenceMoved_0_0 [.b z0, .c z1, .n z2, .n z3, .i z4, .i z5, .i z6, .i z7, .i z8, .i z9, .i z10, .b z11, .b z12, .i z13, .i z14, .i z15, .b z16, .c z17, .n z18, .i z19, .i z20, .i z21, .i z22, .i z23, .b z24, .n z25, .i z26, .i z27, .c z28])) x0 x1 x2 x3 x4 x5 x6 x7 x8 x9 x10 x11 x12 x13 x14 x15 x16 x17 x18 x19 x20 x21 x22 x23 x24 x25 x26 x27 x28 := by
      intros
      kernel_rfl
    have h : iterC (codeL PP (S_law37_FenceMoved F) c_law37_FenceMoved (I_law37_FenceMoved F) (J_law37_FenceMoved F) (loopAt PP 5 0) 0) (headOf c_law37_FenceMoved 0) k (n + 1) (fS T_law37_FenceMoved_0 [.b x0, .c x1, .n x2, .n x3, .i x4, .i x5, .i x6, .i x7, .i x8, .i x9, .i x10, .b x11, .b x12, .i x13, .i x14, .i x15, .b x16, .c x17, .n x18, .i x19, .i x20, .i x21, .i x22, .i x23, .b x24, .n x25, .i x26, .i x27, .c x28]) = B_law37_FenceMoved_0 F (fun (y0 : Bool) (y1 : List VV) (y2 : Nat) (y3 : Nat) (y4 : Int) (y5 : Int) (y6 : Int) (y7 : Int) (y8 : Int) (y9 : Int) (y10 : Int) (y11 : Bool) (y12 : Bool) (y13 : Int) (y14 : Int) (y15 : Int) (y16 : Bool) (y17 : List VV) (y18 : Nat) (y19 : Int) (y20 : Int) (y21 : Int) (y22 : Int) (y23 : Int) (y24 : Bool) (y25 : Nat) (y26 : Int) (y27 : Int) (y28 : List VV) => iterC (codeL PP (S_law37_FenceMoved F) c_law37_FenceMoved (I_law37_FenceMoved F) (J_law37_FenceMoved F) (loopAt PP 5 0) 0) (headOf c_law37_FenceMoved 0) k n (fS T_law37_FenceMoved_0 [.b y0, .c y1, .n y2, .n y3, .i y4, .i y5, .i y6, .i y7, .i y8, .i y9, .i y10, .b y11, .b y12, .i y13, .i y14, .i y15, .b y16, .c y17, .n y18, .i y19, .i y20, .i y21, .i y22, .i y23, .b y24, .n y25, .i y26, .i y27, .c y28])) (fun (z0 : Bool) (z1 : List VV) (z2 : Nat) (z3 : Nat) (z4 : Int) (z5 : Int) (z6 : Int) (z7 : Int) (z8 : Int) (z9 : Int) (z10 : Int) (z11 : Bool) (z12 : Bool) (z13 : Int) (z14 : Int) (z15 : Int) (z16 : Bool) (z17 : List VV) (z18 : Nat) (z19 : Int) (z20 : Int) (z21 : Int) (z22 : Int) (z23 : Int) (z24 : Bool) (z25 : Nat) (z26 : Int) (z27 : Int) (z28 : List VV) => k (.exit 0) (fS T_law37_FenceMoved_0_0 [.b z0, .c z1, .n z2, .n z3, .i z4, .i z5, .i z6, .i z7, .i z8, .i z9, .i z10, .b z11, .b z12, .i z13, .i z14, .i z15, .b z16, .c z17, .n z18, .i z19, .i z20, .i z21, .i z22, .i z23, .b z24, .n z25, .i z26, .i z27, .c z28])) x0 x1 x2 x3 x4 x5 x6 x7 x8 x9 x10 x11 x12 x13 x14 x15 x16 x17 x18 x19 x20 x21 x22 x23 x24 x25 x26 x27 x28 := (h0 ok_law37_works o_law37_works_0 ok_law37_few o_law37_few_0 o_law37_few_1 o_law37_few_2 o_law37_few_3 o_law37_few_4 ok_base_Among o_base_Among_0 ok_fence_Within o_fence_Within_0 o_fence_Within_1 ok_fence_Touches o_fence_Touches_0 o_fence_Touches_1 ok_fence_State o_fence_State_0 o_fence_State_1 L_law37_FenceMoved_0 L_law37_FenceMoved_1).trans (by kernel_rfl)
    rw [h]
    simp only [lL_law37_FenceMoved_0 F k n]
    rfl
theorem lL_law37_FenceMoved_1 (F : Nat) (k : Exit → VS → R) : ∀ (n : Nat) (x0 : Bool) (x1 : List VV) (x2 : Nat) (x3 : Nat) (x4 : Int) (x5 : Int) (x6 : Int) (x7 : Int) (x8 : Int) (x9 : Int) (x10 : Int) (x11 : Bool) (x12 : Bool) (x13 : Int) (x14 : Int) (x15 : Int) (x16 : Int) (x17 : Bool) (x18 : List VV) (x19 : Nat) (x20 : Int) (x21 : Int) (x22 : Int) (x23 : Int) (x24 : Int) (x25 : Bool) (x26 : Nat) (x27 : Int) (x28 : Int) (x29 : List VV), iterC (codeL PP (S_law37_FenceMoved F) c_law37_FenceMoved (I_law37_FenceMoved F) (J_law37_FenceMoved F) (loopAt PP 5 1) 2) (headOf c_law37_FenceMoved 2) k n (fS T_law37_FenceMoved_1 [.b x0, .c x1, .n x2, .n x3, .i x4, .i x5, .i x6, .i x7, .i x8, .i x9, .i x10, .b x11, .b x12, .i x13, .i x14, .i x15, .i x16, .b x17, .c x18, .n x19, .i x20, .i x21, .i x22, .i x23, .i x24, .b x25, .n x26, .i x27, .i x28, .c x29]) = L_law37_FenceMoved_1 F (fun (z0 : Bool) (z1 : List VV) (z2 : Nat) (z3 : Nat) (z4 : Int) (z5 : Int) (z6 : Int) (z7 : Int) (z8 : Int) (z9 : Int) (z10 : Int) (z11 : Bool) (z12 : Bool) (z13 : Int) (z14 : Int) (z15 : Int) (z16 : Int) (z17 : Bool) (z18 : List VV) (z19 : Nat) (z20 : Int) (z21 : Int) (z22 : Int) (z23 : Int) (z24 : Int) (z25 : Bool) (z26 : Nat) (z27 : Int) (z28 : Int) (z29 : List VV) => k (.exit 2) (fS T_law37_FenceMoved_1_0 [.b z0, .c z1, .n z2, .n z3, .i z4, .i z5, .i z6, .i z7, .i z8, .i z9, .i z10, .b z11, .b z12, .i z13, .i z14, .i z15, .i z16, .b z17, .c z18, .n z19, .i z20, .i z21, .i z22, .i z23, .i z24, .b z25, .n z26, .i z27, .i z28, .c z29])) n x0 x1 x2 x3 x4 x5 x6 x7 x8 x9 x10 x11 x12 x13 x14 x15 x16 x17 x18 x19 x20 x21 x22 x23 x24 x25 x26 x27 x28 x29
  | 0, _, _, _, _, _, _, _, _, _, _, _, _, _, _, _, _, _, _, _, _, _, _, _, _, _, _, _, _, _, _ => rfl
  | n + 1, x0, x1, x2, x3, x4, x5, x6, x7, x8, x9, x10, x11, x12, x13, x14, x15, x16, x17, x18, x19, x20, x21, x22, x23, x24, x25, x26, x27, x28, x29 => by
    have h0 : ∀ (ok_law37_works : Nat → Bool) (o_law37_works_0 : Nat → Bool) (ok_law37_few : Nat → Bool → List VV → Nat → Nat → Int → Int → Bool) (o_law37_few_0 : Nat → Bool → List VV → Nat → Nat → Int → Int → Bool) (o_law37_few_1 : Nat → Bool → List VV → Nat → Nat → Int → Int → List VV) (o_law37_few_2 : Nat → Bool → List VV → Nat → Nat → Int → Int → Nat) (o_law37_few_3 : Nat → Bool → List VV → Nat → Nat → Int → Int → Int) (o_law37_few_4 : Nat → Bool → List VV → Nat → Nat → Int → Int → Int) (ok_base_Among : Nat → Int → Int → Bool) (o_base_Among_0 : Nat → Int → Int → Int) (ok_fence_Within : Nat → Bool → List VV → Nat → Nat → Int → Int → Int → Int → Bool) (o_fence_Within_0 : Nat → Bool → List VV → Nat → Nat → Int → Int → Int → Int → Bool) (o_fence_Within_1 : Nat → Bool → List VV → Nat → Nat → Int → Int → Int → Int → Int) (ok_fence_Touches : Nat → Bool → List VV → Nat → Nat → Int → Int → Int → Int → Int → Bool) (o_fence_Touches_0 : Nat → Bool → List VV → Nat → Nat → Int → Int → Int → Int → Int → Bool) (o_fence_Touches_1 : Nat → Bool → List VV → Nat → Nat → Int → Int → Int → Int → Int → Int) (ok_fence_State : Nat → Bool → List VV → Nat → Int → Int → Int → Int → Int → Int → Bool) (o_fence_State_0 : Nat → Bool → List VV → Nat → Int → Int → Int → Int → Int → Int → Int) (o_fence_State_1 : Nat → Bool → List VV → Nat → Int → Int → Int → Int → Int → Int → Int) (L_law37_FenceMoved_0 : Nat → (Bool → List VV → Nat → Nat → Int → Int → Int → Int → Int → Int → Int → Bool → Bool → Int → Int → Int → Bool → List VV → Nat → Int → Int → Int → Int → Int → Bool → Nat → Int → Int → List VV → R) → Nat → Bool → List VV → Nat → Nat → Int → Int → Int → Int → Int → Int → Int → Bool → Bool → Int → Int → Int → Bool → List VV → Nat → Int → Int → Int → Int → Int → Bool → Nat → Int → Int → List VV → R) (L_law37_FenceMoved_1 : Nat → (Bool → List VV → Nat → Nat → Int → Int → Int → Int → Int → Int → Int → Bool → Bool → Int → Int → Int → Int → Bool → List VV → Nat → Int → Int → Int → Int → Int → Bool → Nat → Int → Int → List VV → R) → Nat → Bool → List VV → Nat → Nat → Int → Int → Int → Int → Int → Int → Int → Bool → Bool → Int → Int → Int → Int → Bool → List VV → Nat → Int → Int → Int → Int → Int → Bool → Nat → Int → Int → List VV → R), iterC (codeL PP (words [(17, spec ti_law37_works to_law37_works (fun q => (ok_law37_works F )) (fun q => [.b (o_law37_works_0 F )])), (9, spec ti_law37_few to_law37_few (fun q => (ok_law37_few F (atB (nth q 0)) (atC (nth q 1)) (atN (nth q 2)) (atN (nth q 3)) (atI (nth q 4)) (atI (nth q 5)))) (fun q => [.b (o_law37_few_0 F (atB (nth q 0)) (atC (nth q 1)) (atN (nth q 2)) (atN (nth q 3)) (atI (nth q 4)) (atI (nth q 5))), .c (o_law37_few_1 F (atB (nth q 0)) (atC (nth q 1)) (atN (nth q 2)) (atN (nth q 3)) (atI (nth q 4)) (atI (nth q 5))), .n (o_law37_few_2 F (atB (nth q 0)) (atC (nth q 1)) (atN (nth q 2)) (atN (nth q 3)) (atI (nth q 4)) (atI (nth q 5))), .i (o_law37_few_3 F (atB (nth q 0)) (atC (nth q 1)) (atN (nth q 2)) (atN (nth q 3)) (atI (nth q 4)) (atI (nth q 5))), .i (o_law37_few_4 F (atB (nth q 0)) (atC (nth q 1)) (atN (nth q 2)) (atN (nth q 3)) (atI (nth q 4)) (atI (nth q 5)))])), (18, spec ti_base_Among to_base_Among (fun q => (ok_base_Among F (atI (nth q 0)) (atI (nth q 1)))) (fun q => [.i (o_base_Among_0 F (atI (nth q 0)) (atI (nth q 1)))])), (8, spec ti_fence_Within to_fence_Within (fun q => (ok_fence_Within F (atB (nth q 0)) (atC (nth q 1)) (atN (nth q 2)) (atN (nth q 3)) (atI (nth q 4)) (atI (nth q 5)) (atI (nth q 6)) (atI (nth q 7)))) (fun q => [.b (o_fence_Within_0 F (atB (nth q 0)) (atC (nth q 1)) (atN (nth q 2)) (atN (nth q 3)) (atI (nth q 4)) (atI (nth q 5)) (atI (nth q 6)) (atI (nth q 7))), .i (o_fence_Within_1 F (atB (nth q 0)) (atC (nth q 1)) (atN (nth q 2)) (atN (nth q 3)) (atI (nth q 4)) (atI (nth q 5)) (atI (nth q 6)) (atI (nth q 7)))])), (11, spec ti_fence_Touches to_fence_Touches (fun q => (ok_fence_Touches F (atB (nth q 0)) (atC (nth q 1)) (atN (nth q 2)) (atN (nth q 3)) (atI (nth q 4)) (atI (nth q 5)) (atI (nth q 6)) (atI (nth q 7)) (atI (nth q 8)))) (fun q => [.b (o_fence_Touches_0 F (atB (nth q 0)) (atC (nth q 1)) (atN (nth q 2)) (atN (nth q 3)) (atI (nth q 4)) (atI (nth q 5)) (atI (nth q 6)) (atI (nth q 7)) (atI (nth q 8))), .i (o_fence_Touches_1 F (atB (nth q 0)) (atC (nth q 1)) (atN (nth q 2)) (atN (nth q 3)) (atI (nth q 4)) (atI (nth q 5)) (atI (nth q 6)) (atI (nth q 7)) (atI (nth q 8)))])), (13, spec ti_fence_State to_fence_State (fun q => (ok_fence_State F (atB (nth q 0)) (atC (nth q 1)) (atN (nth q 2)) (atI (nth q 3)) (atI (nth q 4)) (atI (nth q 5)) (atI (nth q 6)) (atI (nth q 7)) (atI (nth q 8)))) (fun q => [.i (o_fence_State_0 F (atB (nth q 0)) (atC (nth q 1)) (atN (nth q 2)) (atI (nth q 3)) (atI (nth q 4)) (atI (nth q 5)) (atI (nth q 6)) (atI (nth q 7)) (atI (nth q 8))), .i (o_fence_State_1 F (atB (nth q 0)) (atC (nth q 1)) (atN (nth q 2)) (atI (nth q 3)) (atI (nth q 4)) (atI (nth q 5)) (atI (nth q 6)) (atI (nth q 7)) (atI (nth q 8)))]))]) c_law37_FenceMoved (tabI c_law37_FenceMoved [⟨0, T_law37_FenceMoved_0, fun k q => L_law37_FenceMoved_0 F (fun (z0 : Bool) (z1 : List VV) (z2 : Nat) (z3 : Nat) (z4 : Int) (z5 : Int) (z6 : Int) (z7 : Int) (z8 : Int) (z9 : Int) (z10 : Int) (z11 : Bool) (z12 : Bool) (z13 : Int) (z14 : Int) (z15 : Int) (z16 : Bool) (z17 : List VV) (z18 : Nat) (z19 : Int) (z20 : Int) (z21 : Int) (z22 : Int) (z23 : Int) (z24 : Bool) (z25 : Nat) (z26 : Int) (z27 : Int) (z28 : List VV) => k (.exit 0) (fS T_law37_FenceMoved_0_0 [.b z0, .c z1, .n z2, .n z3, .i z4, .i z5, .i z6, .i z7, .i z8, .i z9, .i z10, .b z11, .b z12, .i z13, .i z14, .i z15, .b z16, .c z17, .n z18, .i z19, .i z20, .i z21, .i z22, .i z23, .b z24, .n z25, .i z26, .i z27, .c z28])) F (atB (nth q 0)) (atC (nth q 1)) (atN (nth q 2)) (atN (nth q 3)) (atI (nth q 4)) (atI (nth q 5)) (atI (nth q 6)) (atI (nth q 7)) (atI (nth q 8)) (atI (nth q 9)) (atI (nth q 10)) (atB (nth q 11)) (atB (nth q 12)) (atI (nth q 13)) (atI (nth q 14)) (atI (nth q 15)) (atB (nth q 16)) (atC (nth q 17)) (atN (nth q 18)) (atI (nth q 19)) (atI (nth q 20)) (atI (nth q 21)) (atI (nth q 22)) (atI (nth q 23)) (atB (nth q 24)) (atN (nth q 25)) (atI (nth q 26)) (atI (nth q 27)) (atC (nth q 28))⟩, ⟨2, T_law37_FenceMoved_1, fun k q => L_law37_FenceMoved_1 F (fun (z0 : Bool) (z1 : List VV) (z2 : Nat) (z3 : Nat) (z4 : Int) (z5 : Int) (z6 : Int) (z7 : Int) (z8 : Int) (z9 : Int) (z10 : Int) (z11 : Bool) (z12 : Bool) (z13 : Int) (z14 : Int) (z15 : Int) (z16 : Int) (z17 : Bool) (z18 : List VV) (z19 : Nat) (z20 : Int) (z21 : Int) (z22 : Int) (z23 : Int) (z24 : Int) (z25 : Bool) (z26 : Nat) (z27 : Int) (z28 : Int) (z29 : List VV) => k (.exit 2) (fS T_law37_FenceMoved_1_0 [.b z0, .c z1, .n z2, .n z3, .i z4, .i z5, .i z6, .i z7, .i z8, .i z9, .i z10, .b z11, .b z12, .i z13, .i z14, .i z15, .i z16, .b z17, .c z18, .n z19, .i z20, .i z21, .i z22, .i z23, .i z24, .b z25, .n z26, .i z27, .i z28, .c z29])) F (atB (nth q 0)) (atC (nth q 1)) (atN (nth q 2)) (atN (nth q 3)) (atI (nth q 4)) (atI (nth q 5)) (atI (nth q 6)) (atI (nth q 7)) (atI (nth q 8)) (atI (nth q 9)) (atI (nth q 10)) (atB (nth q 11)) (atB (nth q 12)) (atI (nth q 13)) (atI (nth q 14)) (atI (nth q 15)) (atI (nth q 16)) (atB (nth q 17)) (atC (nth q 18)) (atN (nth q 19)) (atI (nth q 20)) (atI (nth q 21)) (atI (nth q 22)) (atI (nth q 23)) (atI (nth q 24)) (atB (nth q 25)) (atN (nth q 26)) (atI (nth q 27)) (atI (nth q 28)) (atC (nth q 29))⟩]) (tabJ []) (loopAt PP 5 1) 2) (headOf c_law37_FenceMoved 2) k (n + 1) (fS T_law37_FenceMoved_1 [.b x0, .c x1, .n x2, .n x3, .i x4, .i x5, .i x6, .i x7, .i x8, .i x9, .i x10, .b x11, .b x12, .i x13, .i x14, .i x15, .i x16, .b x17, .c x18, .n x19, .i x20, .i x21, .i x22, .i x23, .i x24, .b x25, .n x26, .i x27, .i x28, .c x29]) = (fun (rc : Bool → List VV → Nat → Nat → Int → Int → Int → Int → Int → Int → Int → Bool → Bool → Int → Int → Int → Int → Bool → List VV → Nat → Int → Int → Int → Int → Int → Bool → Nat → Int → Int → List VV → R) (ex0 : Bool → List VV → Nat → Nat → Int → Int → Int → Int → Int → Int → Int → Bool → Bool → Int → Int → Int → Int → Bool → List VV → Nat → Int → Int → Int → Int → Int → Bool → Nat → Int → Int → List VV → R) (x0 : Bool) (x1 : List VV) (x2 : Nat) (x3 : Nat) (x4 : Int) (x5 : Int) (x6 : Int) (x7 : Int) (x8 : Int) (x9 : Int) (x10 : Int) (x11 : Bool) (x12 : Bool) (x13 : Int) (x14 : Int) (x15 : Int) (x16 : Int) (x17 : Bool) (x18 : List VV) (x19 : Nat) (x20 : Int) (x21 : Int) (x22 : Int) (x23 : Int) (x24 : Int) (x25 : Bool) (x26 : Nat) (x27 : Int) (x28 : Int) (x29 : List VV) => (
  bif ((decide (x16 < ((IntKind.wrap .i64 (Int.tdiv x13 2)))))) then (
    bif x11 then (
      bif ((decide (0 ≤ x16)) && (decide (x16 < ((x26 : Nat) : Int)))) then (
        let v2352 : Nat := (0 + ((Int.toNat x16) * 2))
        bif ((isI .i64 x29[v2352]?) && ((isI .i64 x29[(v2352 + 1)]?) && true)) then (
          let v2356 : Int := (IntKind.wrap .i64 (((IntKind.wrap .i64 (x13 - 1))) - x16))
          bif ((decide (0 ≤ v2356)) && (decide (v2356 < ((x26 : Nat) : Int)))) then (
            let v2357 : Nat := (0 + ((Int.toNat v2356) * 2))
            bif ((isI .i64 x29[v2357]?) && ((isI .i64 x29[(v2357 + 1)]?) && true)) then (
              let v2361 : Int := (IntKind.wrap .i64 (((IntKind.wrap .i64 (x13 - 1))) - x16))
              bif ((decide (0 ≤ x16)) && (decide (x16 < ((x26 : Nat) : Int)))) then (
                let v2362 : Nat := (0 + ((Int.toNat x16) * 2))
                bif (decide ((v2362 + 2) ≤ x29.length)) then (
                  let v2363 : List VV := (x29.take v2362 ++ [.v (.int .i64 ((iv x29[v2357]?))), .v (.int .i64 ((iv x29[(v2357 + 1)]?)))] ++ x29.drop (v2362 + 2))
                  bif ((decide (0 ≤ v2361)) && (decide (v2361 < ((x26 : Nat) : Int)))) then (
                    let v2364 : Nat := (0 + ((Int.toNat v2361) * 2))
                    bif (decide ((v2364 + 2) ≤ v2363.length)) then (
                      rc x0 x1 x2 x3 x4 x5 x6 x7 x8 x9 x10 x11 x12 x13 x14 x15 ((IntKind.wrap .i64 (x16 + 1))) x17 x18 x19 x20 x21 x22 x23 x24 x25 x26 x27 x28 ((v2363.take v2364 ++ [.v (.int .i64 ((iv x29[v2352]?))), .v (.int .i64 ((iv x29[(v2352 + 1)]?)))] ++ v2363.drop (v2364 + 2))))
                    else (
                      none))
                  else (
                    none))
                else (
                  none))
              else (
                none))
            else (
              none))
          else (
            none))
        else (
          none))
      else (
        none))
    else (
      ex0 x0 x1 x2 x3 x4 x5 x6 x7 x8 x9 x10 x11 x12 x13 x14 x15 x16 x17 x18 x19 x20 x21 x22 x23 x24 x25 x26 x27 x28 x29))
  else (
    ex0 x0 x1 x2 x3 x4 x5 x6 x7 x8 x9 x10 x11 x12 x13 x14 x15 x16 x17 x18 x19 x20 x21 x22 x23 x24 x25 x26 x27 x28 x29) : R)) (fun (y0 : Bool) (y1 : List VV) (y2 : Nat) (y3 : Nat) (y4 : Int) (y5 : Int) (y6 : Int) (y7 : Int) (y8 : Int) (y9 : Int) (y10 : Int) (y11 : Bool) (y12 : Bool) (y13 : Int) (y14 : Int) (y15 : Int) (y16 : Int) (y17 : Bool) (y18 : List VV) (y19 : Nat) (y20 : Int) (y21 : Int) (y22 : Int) (y23 : Int) (y24 : Int) (y25 : Bool) (y26 : Nat) (y27 : Int) (y28 : Int) (y29 : List VV) => iterC (codeL PP (words [(17, spec ti_law37_works to_law37_works (fun q => (ok_law37_works F )) (fun q => [.b (o_law37_works_0 F )])), (9, spec ti_law37_few to_law37_few (fun q => (ok_law37_few F (atB (nth q 0)) (atC (nth q 1)) (atN (nth q 2)) (atN (nth q 3)) (atI (nth q 4)) (atI (nth q 5)))) (fun q => [.b (o_law37_few_0 F (atB (nth q 0)) (atC (nth q 1)) (atN (nth q 2)) (atN (nth q 3)) (atI (nth q 4)) (atI (nth q 5))), .c (o_law37_few_1 F (atB (nth q 0)) (atC (nth q 1)) (atN (nth q 2)) (atN (nth q 3)) (atI (nth q 4)) (atI (nth q 5))), .n (o_law37_few_2 F (atB (nth q 0)) (atC (nth q 1)) (atN (nth q 2)) (atN (nth q 3)) (atI (nth q 4)) (atI (nth q 5))), .i (o_law37_few_3 F (atB (nth q 0)) (atC (nth q 1)) (atN (nth q 2)) (atN (nth q 3)) (atI (nth q 4)) (atI (nth q 5))), .i (o_law37_few_4 F (atB (nth q 0)) (atC (nth q 1)) (atN (nth q 2)) (atN (nth q 3)) (atI (nth q 4)) (atI (nth q 5)))])), (18, spec ti_base_Among to_base_Among (fun q => (ok_base_Among F (atI (nth q 0)) (atI (nth q 1)))) (fun q => [.i (o_base_Among_0 F (atI (nth q 0)) (atI (nth q 1)))])), (8, spec ti_fence_Within to_fence_Within (fun q => (ok_fence_Within F (atB (nth q 0)) (atC (nth q 1)) (atN (nth q 2)) (atN (nth q 3)) (atI (nth q 4)) (atI (nth q 5)) (atI (nth q 6)) (atI (nth q 7)))) (fun q => [.b (o_fence_Within_0 F (atB (nth q 0)) (atC (nth q 1)) (atN (nth q 2)) (atN (nth q 3)) (atI (nth q 4)) (atI (nth q 5)) (atI (nth q 6)) (atI (nth q 7))), .i (o_fence_Within_1 F (atB (nth q 0)) (atC (nth q 1)) (atN (nth q 2)) (atN (nth q 3)) (atI (nth q 4)) (atI (nth q 5)) (atI (nth q 6)) (atI (nth q 7)))])), (11, spec ti_fence_Touches to_fence_Touches (fun q => (ok_fence_Touches F (atB (nth q 0)) (atC (nth q 1)) (atN (nth q 2)) (atN (nth q 3)) (atI (nth q 4)) (atI (nth q 5)) (atI (nth q 6)) (atI (nth q 7)) (atI (nth q 8)))) (fun q => [.b (o_fence_Touches_0 F (atB (nth q 0)) (atC (nth q 1)) (atN (nth q 2)) (atN (nth q 3)) (atI (nth q 4)) (atI (nth q 5)) (atI (nth q 6)) (atI (nth q 7)) (atI (nth q 8))), .i (o_fence_Touches_1 F (atB (nth q 0)) (atC (nth q 1)) (atN (nth q 2)) (atN (nth q 3)) (atI (nth q 4)) (atI (nth q 5)) (atI (nth q 6)) (atI (nth q 7)) (atI (nth q 8)))])), (13, spec ti_fence_State to_fence_State (fun q => (ok_fence_State F (atB (nth q 0)) (atC (nth q 1)) (atN (nth q 2)) (atI (nth q 3)) (atI (nth q 4)) (atI (nth q 5)) (atI (nth q 6)) (atI (nth q 7)) (atI (nth q 8)))) (fun q => [.i (o_fence_State_0 F (atB (nth q 0)) (atC (nth q 1)) (atN (nth q 2)) (atI (nth q 3)) (atI (nth q 4)) (atI (nth q 5)) (atI (nth q 6)) (atI (nth q 7)) (atI (nth q 8))), .i (o_fence_State_1 F (atB (nth q 0)) (atC (nth q 1)) (atN (nth q 2)) (atI (nth q 3)) (atI (nth q 4)) (atI (nth q 5)) (atI (nth q 6)) (atI (nth q 7)) (atI (nth q 8)))]))]) c_law37_FenceMoved (tabI c_law37_FenceMoved [⟨0, T_law37_FenceMoved_0, fun k q => L_law37_FenceMoved_0 F (fun (z0 : Bool) (z1 : List VV) (z2 : Nat) (z3 : Nat) (z4 : Int) (z5 : Int) (z6 : Int) (z7 : Int) (z8 : Int) (z9 : Int) (z10 : Int) (z11 : Bool) (z12 : Bool) (z13 : Int) (z14 : Int) (z15 : Int) (z16 : Bool) (z17 : List VV) (z18 : Nat) (z19 : Int) (z20 : Int) (z21 : Int) (z22 : Int) (z23 : Int) (z24 : Bool) (z25 : Nat) (z26 : Int) (z27 : Int) (z28 : List VV) => k (.exit 0) (fS T_law37_FenceMoved_0_0 [.b z0, .c z1, .n z2, .n z3, .i z4, .i z5, .i z6, .i z7, .i z8, .i z9, .i z10, .b z11, .b z12, .i z13, .i z14, .i z15, .b z16, .c z17, .n z18, .i z19, .i z20, .i z21, .i z22, .i z23, .b z24, .n z25, .i z26, .i z27, .c z28])) F (atB (nth q 0)) (atC (nth q 1)) (atN (nth q 2)) (atN (nth q 3)) (atI (nth q 4)) (atI (nth q 5)) (atI (nth q 6)) (atI (nth q 7)) (atI (nth q 8)) (atI (nth q 9)) (atI (nth q 10)) (atB (nth q 11)) (atB (nth q 12)) (atI (nth q 13)) (atI (nth q 14)) (atI (nth q 15)) (atB (nth q 16)) (atC (nth q 17)) (atN (nth q 18)) (atI (nth q 19)) (atI (nth q 20)) (atI (nth q 21)) (atI (nth q 22)) (atI (nth q 23)) (atB (nth q 24)) (atN (nth q 25)) (atI (nth q 26)) (atI (nth q 27)) (atC (nth q 28))⟩, ⟨2, T_law37_FenceMoved_1, fun k q => L_law37_FenceMoved_1 F (fun (z0 : Bool) (z1 : List VV) (z2 : Nat) (z3 : Nat) (z4 : Int) (z5 : Int) (z6 : Int) (z7 : Int) (z8 : Int) (z9 : Int) (z10 : Int) (z11 : Bool) (z12 : Bool) (z13 : Int) (z14 : Int) (z15 : Int) (z16 : Int) (z17 : Bool) (z18 : List VV) (z19 : Nat) (z20 : Int) (z21 : Int) (z22 : Int) (z23 : Int) (z24 : Int) (z25 : Bool) (z26 : Nat) (z27 : Int) (z28 : Int) (z29 : List VV) => k (.exit 2) (fS T_law37_FenceMoved_1_0 [.b z0, .c z1, .n z2, .n z3, .i z4, .i z5, .i z6, .i z7, .i z8, .i z9, .i z10, .b z11, .b z12, .i z13, .i z14, .i z15, .i z16, .b z17, .c z18, .n z19, .i z20, .i z21, .i z22, .i z23, .i z24, .b z25, .n z26, .i z27, .i z28, .c z29])) F (atB (nth q 0)) (atC (nth q 1)) (atN (nth q 2)) (atN (nth q 3)) (atI (nth q 4)) (atI (nth q 5)) (atI (nth q 6)) (atI (nth q 7)) (atI (nth q 8)) (atI (nth q 9)) (atI (nth q 10)) (atB (nth q 11)) (atB (nth q 12)) (atI (nth q 13)) (atI (nth q 14)) (atI (nth q 15)) (atI (nth q 16)) (atB (nth q 17)) (atC (nth q 18)) (atN (nth q 19)) (atI (nth q 20)) (atI (nth q 21)) (atI (nth q 22)) (atI (nth q 23)) (atI (nth q 24)) (atB (nth q 25)) (atN (nth q 26)) (atI (nth q 27)) (atI (nth q 28)) (atC (nth q 29))⟩]) (tabJ []) (loopAt PP 5 1) 2) (headOf c_law37_FenceMoved 2) k n (fS T_law37_FenceMoved_1 [.b y0, .c y1, .n y2, .n y3, .i y4, .i y5, .i y6, .i y7, .i y8, .i y9, .i y10, .b y11, .b y12, .i y13, .i y14, .i y15, .i y16, .b y17, .c y18, .n y19, .i y20, .i y21, .i y22, .i y23, .i y24, .b y25, .n y26, .i y27, .i y28, .c y29])) (fun (z0 : Bool) (z1 : List VV) (z2 : Nat) (z3 : Nat) (z4 : Int) (z5 : Int) (z6 : Int) (z7 : Int) (z8 : Int) (z9 : Int) (z10 : Int) (z11 : Bool) (z12 : Bool) (z13 : Int) (z14 : Int) (z15 : Int) (z16 : Int) (z17 : Bool) (z18 : List VV) (z19 : Nat) (z20 : Int) (z21 : Int) (z22 : Int) (z23 : Int) (z24 : Int) (z25 : Bool) (z26 : Nat) (z27 : Int) (z28 : Int) (z29 : List VV) => k (.exit 2) (fS T_law37_FenceMoved_1_0 [.b z0, .c z1, .n z2, .n z3, .i z4, .i z5, .i z6, .i z7, .i z8, .i z9, .i z10, .b z11, .b z12, .i z13, .i z14, .i z15, .i z16, .b z17, .c z18, .n z19, .i z20, .i z21, .i z22, .i z23, .i z24, .b z25, .n z26, .i z27, .i z28, .c z29])) x0 x1 x2 x3 x4 x5 x6 x7 x8 x9 x10 x11 x12 x13 x14 x15 x16 x17 x18 x19 x20 x21 x22 x23 x24 x25 x26 x27 x28 x29 := by
      intros
      kernel_rfl
    have h : iterC (codeL PP (S_law37_FenceMoved F) c_law37_FenceMoved (I_law37_FenceMoved F) (J_law37_FenceMoved F) (loopAt PP 5 1) 2) (headOf c_law37_FenceMoved 2) k (n + 1) (fS T_law37_FenceMoved_1 [.b x0, .c x1, .n x2, .n x3, .i x4, .i x5, .i x6, .i x7, .i x8, .i x9, .i x10, .b x11, .b x12, .i x13, .i x14, .i x15, .i x16, .b x17, .c x18, .n x19, .i x20, .i x21, .i x22, .i x23, .i x24, .b x25, .n x26, .i x27, .i x28, .c x29]) = B_law37_FenceMoved_1 F (fun (y0 : Bool) (y1 : List VV) (y2 : Nat) (y3 : Nat) (y4 : Int) (y5 : Int) (y6 : Int) (y7 : Int) (y8 : Int) (y9 : Int) (y10 : Int) (y11 : Bool) (y12 : Bool) (y13 : Int) (y14 : Int) (y15 : Int) (y16 : Int) (y17 : Bool) (y18 : List VV) (y19 : Nat) (y20 : Int) (y21 : Int) (y22 : Int) (y23 : Int) (y24 : Int) (y25 : Bool) (y26 : Nat) (y27 : Int) (y28 : Int) (y29 : List VV) => iterC (codeL PP (S_law37_FenceMoved F) c_law37_FenceMoved (I_law37_FenceMoved F) (J_law37_FenceMoved F) (loopAt PP 5 1) 2) (headOf c_law37_FenceMoved 2) k n (fS T_law37_FenceMoved_1 [.b y0, .c y1, .n y2, .n y3, .i y4, .i y5, .i y6, .i y7, .i y8, .i y9, .i y10, .b y11, .b y12, .i y13, .i y14, .i y15, .i y16, .b y17, .c y18, .n y19, .i y20, .i y21, .i y22, .i y23, .i y24, .b y25, .n y26, .i y27, .i y28, .c y29])) (fun (z0 : Bool) (z1 : List VV) (z2 : Nat) (z3 : Nat) (z4 : Int) (z5 : Int) (z6 : Int) (z7 : Int) (z8 : Int) (z9 : Int) (z10 : Int) (z11 : Bool) (z12 : Bool) (z13 : Int) (z14 : Int) (z15 : Int) (z16 : Int) (z17 : Bool) (z18 : List VV) (z19 : Nat) (z20 : Int) (z21 : Int) (z22 : Int) (z23 : Int) (z24 : Int) (z25 : Bool) (z26 : Nat) (z27 : Int) (z28 : Int) (z29 : List VV) => k (.exit 2) (fS T_law37_FenceMoved_1_0 [.b z0, .c z1, .n z2, .n z3, .i z4, .i z5, .i z6, .i z7, .i z8, .i z9, .i z10, .b z11, .b z12, .i z13, .i z14, .i z15, .i z16, .b z17, .c z18, .n z19, .i z20, .i z21, .i z22, .i z23, .i z24, .b z25, .n z26, .i z27, .i z28, .c z29])) x0 x1 x2 x3 x4 x5 x6 x7 x8 x9 x10 x11 x12 x13 x14 x15 x16 x17 x18 x19 x20 x21 x22 x23 x24 x25 x26 x27 x28 x29 := (h0 ok_law37_works o_law37_works_0 ok_law37_few o_law37_few_0 o_law37_few_1 o_law37_few_2 o_law37_few_3 o_law37_few_4 ok_base_Among o_base_Among_0 ok_fence_Within o_fence_Within_0 o_fence_Within_1 ok_fence_Touches o_fence_Touches_0 o_fence_Touches_1 ok_fence_State o_fence_State_0 o_fence_State_1 L_law37_FenceMoved_0 L_law37_FenceMoved_1).trans (by kernel_rfl)
    rw [h]
    simp only [lL_law37_FenceMoved_1 F k n]
    rfl
def f_law37_FenceMoved (F : Nat) (a0 : Bool) (a1 : List VV) (a2 : Nat) (a3 : Nat) (a4 : Int) (a5 : Int) (a6 : Int) (a7 : Int) (a8 : Int) (a9 : Int) (a10 : Int) (a11 : Bool) : R :=
  bif (ok_law37_works F) then (
    bif ((!((o_law37_works_0 F)))) then (
      some (.v (.bool false)))
    else (
      bif (ok_law37_few F a0 a1 a2 a3 a4 a5) then (
        let v2241 : Bool := (o_law37_few_0 F a0 a1 a2 a3 a4 a5)
        let v2243 : Nat := (o_law37_few_2 F a0 a1 a2 a3 a4 a5)
        let v2244 : Int := (o_law37_few_3 F a0 a1 a2 a3 a4 a5)
        let v2245 : Int := (o_law37_few_4 F a0 a1 a2 a3 a4 a5)
        let v2246 : Int := ((v2243 : Nat) : Int)
        bif (ok_base_Among F a10 v2246) then (
          L_law37_FenceMoved_0 F (fun (v2291 : Bool) (v2292 : List VV) (v2293 : Nat) (v2294 : Nat) (v2295 : Int) (v2296 : Int) (v2297 : Int) (v2298 : Int) (v2299 : Int) (v2300 : Int) (v2301 : Int) (v2302 : Bool) (v2303 : Bool) (v2304 : Int) (v2305 : Int) (v2306 : Int) (v2307 : Bool) (v2308 : List VV) (v2309 : Nat) (v2310 : Int) (v2311 : Int) (v2312 : Int) (v2313 : Int) (v2314 : Int) (v2315 : Bool) (v2316 : Nat) (v2317 : Int) (v2318 : Int) (v2319 : List VV) =>
            L_law37_FenceMoved_1 F (fun (v2367 : Bool) (v2368 : List VV) (v2369 : Nat) (v2370 : Nat) (v2371 : Int) (v2372 : Int) (v2373 : Int) (v2374 : Int) (v2375 : Int) (v2376 : Int) (v2377 : Int) (v2378 : Bool) (v2379 : Bool) (v2380 : Int) (v2381 : Int) (v2382 : Int) (v2383 : Int) (v2384 : Bool) (v2385 : List VV) (v2386 : Nat) (v2387 : Int) (v2388 : Int) (v2389 : Int) (v2390 : Int) (v2391 : Int) (v2392 : Bool) (v2393 : Nat) (v2394 : Int) (v2395 : Int) (v2396 : List VV) =>
              bif (ok_fence_Within F v2384 v2385 0 v2386 v2387 v2388 v2389 v2390) then (
                bif (ok_fence_Within F v2392 v2396 0 v2393 v2394 v2395 v2389 v2390) then (
                  bif (ok_fence_Touches F v2384 v2385 0 v2386 v2387 v2388 v2389 v2390 v2376) then (
                    bif (ok_fence_Touches F v2392 v2396 0 v2393 v2394 v2395 v2389 v2390 v2376) then (
                      bif (ok_fence_State F v2384 v2385 v2386 v2387 v2388 v2389 v2390 v2391 v2376) then (
                        bif (ok_fence_State F v2392 v2396 v2393 v2394 v2395 v2389 v2390 v2391 v2376) then (
                          bif ((((o_fence_Within_0 F v2384 v2385 0 v2386 v2387 v2388 v2389 v2390)) == ((o_fence_Within_0 F v2392 v2396 0 v2393 v2394 v2395 v2389 v2390)))) then (
                            bif ((((o_fence_Within_1 F v2384 v2385 0 v2386 v2387 v2388 v2389 v2390)) == ((o_fence_Within_1 F v2392 v2396 0 v2393 v2394 v2395 v2389 v2390)))) then (
                              bif ((((o_fence_Touches_0 F v2384 v2385 0 v2386 v2387 v2388 v2389 v2390 v2376)) == ((o_fence_Touches_0 F v2392 v2396 0 v2393 v2394 v2395 v2389 v2390 v2376)))) then (
                                bif ((((o_fence_Touches_1 F v2384 v2385 0 v2386 v2387 v2388 v2389 v2390 v2376)) == ((o_fence_Touches_1 F v2392 v2396 0 v2393 v2394 v2395 v2389 v2390 v2376)))) then (
                                  bif ((((o_fence_State_0 F v2384 v2385 v2386 v2387 v2388 v2389 v2390 v2391 v2376)) == ((o_fence_State_0 F v2392 v2396 v2393 v2394 v2395 v2389 v2390 v2391 v2376)))) then (
                                    some (.v (.bool ((((o_fence_State_1 F v2384 v2385 v2386 v2387 v2388 v2389 v2390 v2391 v2376)) == ((o_fence_State_1 F v2392 v2396 v2393 v2394 v2395 v2389 v2390 v2391 v2376)))))))
                                  else (
                                    some (.v (.bool false))))
                                else (
                                  some (.v (.bool false))))
                              else (
                                some (.v (.bool false))))
                            else (
                              some (.v (.bool false))))
                          else (
                            some (.v (.bool false))))
                        else (
                          none))
                      else (
                        none))
                    else (
                      none))
                  else (
                    none))
                else (
                  none))
              else (
                none)) F v2291 v2292 v2293 v2294 v2295 v2296 v2297 v2298 v2299 v2300 v2301 v2302 v2303 v2304 v2305 v2306 0 v2307 v2308 v2309 v2310 v2311 v2312 v2313 v2314 v2315 v2316 v2317 v2318 v2319) F a0 a1 a2 a3 a4 a5 a6 a7 a8 a9 a10 a11 false v2246 ((o_base_Among_0 F a10 v2246)) 0 v2241 ((o_law37_few_1 F a0 a1 a2 a3 a4 a5)) v2243 v2244 v2245 a6 a7 a8 v2241 0 v2244 v2245 [])
        else (
          none))
      else (
        none)))
  else (
    none)
theorem e_law37_FenceMoved (F : Nat) (a0 : Bool) (a1 : List VV) (a2 : Nat) (a3 : Nat) (a4 : Int) (a5 : Int) (a6 : Int) (a7 : Int) (a8 : Int) (a9 : Int) (a10 : Int) (a11 : Bool) : funL PP (S_law37_FenceMoved F) c_law37_FenceMoved (I_law37_FenceMoved F) (J_law37_FenceMoved F) 5 (fTs ti_law37_FenceMoved [.b a0, .c a1, .n a2, .n a3, .i a4, .i a5, .i a6, .i a7, .i a8, .i a9, .i a10, .b a11]).1 = f_law37_FenceMoved F a0 a1 a2 a3 a4 a5 a6 a7 a8 a9 a10 a11 := by
  have h : ∀ (ok_law37_works : Nat → Bool) (o_law37_works_0 : Nat → Bool) (ok_law37_few : Nat → Bool → List VV → Nat → Nat → Int → Int → Bool) (o_law37_few_0 : Nat → Bool → List VV → Nat → Nat → Int → Int → Bool) (o_law37_few_1 : Nat → Bool → List VV → Nat → Nat → Int → Int → List VV) (o_law37_few_2 : Nat → Bool → List VV → Nat → Nat → Int → Int → Nat) (o_law37_few_3 : Nat → Bool → List VV → Nat → Nat → Int → Int → Int) (o_law37_few_4 : Nat → Bool → List VV → Nat → Nat → Int → Int → Int) (ok_base_Among : Nat → Int → Int → Bool) (o_base_Among_0 : Nat → Int → Int → Int) (ok_fence_Within : Nat → Bool → List VV → Nat → Nat → Int → Int → Int → Int → Bool) (o_fence_Within_0 : Nat → Bool → List VV → Nat → Nat → Int → Int → Int → Int → Bool) (o_fence_Within_1 : Nat → Bool → List VV → Nat → Nat → Int → Int → Int → Int → Int) (ok_fence_Touches : Nat → Bool → List VV → Nat → Nat → Int → Int → Int → Int → Int → Bool) (o_fence_Touches_0 : Nat → Bool → List VV → Nat → Nat → Int → Int → Int → Int → Int → Bool) (o_fence_Touches_1 : Nat → Bool → List VV → Nat → Nat → Int → Int → Int → Int → Int → Int) (ok_fence_State : Nat → Bool → List VV → Nat → Int → Int → Int → Int → Int → Int → Bool) (o_fence_State_0 : Nat → Bool → List VV → Nat → Int → Int → Int → Int → Int → Int → Int) (o_fence_State_1 : Nat → Bool → List VV → Nat → Int → Int → Int → Int → Int → Int → Int) (L_law37_FenceMoved_0 : Nat → (Bool → List VV → Nat → Nat → Int → Int → Int → Int → Int → Int → Int → Bool → Bool → Int → Int → Int → Bool → List VV → Nat → Int → Int → Int → Int → Int → Bool → Nat → Int → Int → List VV → R) → Nat → Bool → List VV → Nat → Nat → Int → Int → Int → Int → Int → Int → Int → Bool → Bool → Int → Int → Int → Bool → List VV → Nat → Int → Int → Int → Int → Int → Bool → Nat → Int → Int → List VV → R) (L_law37_FenceMoved_1 : Nat → (Bool → List VV → Nat → Nat → Int → Int → Int → Int → Int → Int → Int → Bool → Bool → Int → Int → Int → Int → Bool → List VV → Nat → Int → Int → Int → Int → Int → Bool → Nat → Int → Int → List VV → R) → Nat → Bool → List VV → Nat → Nat → Int → Int → Int → Int → Int → Int → Int → Bool → Bool → Int → Int → Int → Int → Bool → List VV → Nat → Int → Int → Int → Int → Int → Bool → Nat → Int → Int → List VV → R), funL PP (words [(17, spec ti_law37_works to_law37_works (fun q => (ok_law37_works F )) (fun q => [.b (o_law37_works_0 F )])), (9, spec ti_law37_few to_law37_few (fun q => (ok_law37_few F (atB (nth q 0)) (atC (nth q 1)) (atN (nth q 2)) (atN (nth q 3)) (atI (nth q 4)) (atI (nth q 5)))) (fun q => [.b (o_law37_few_0 F (atB (nth q 0)) (atC (nth q 1)) (atN (nth q 2)) (atN (nth q 3)) (atI (nth q 4)) (atI (nth q 5))), .c (o_law37_few_1 F (atB (nth q 0)) (atC (nth q 1)) (atN (nth q 2)) (atN (nth q 3)) (atI (nth q 4)) (atI (nth q 5))), .n (o_law37_few_2 F (atB (nth q 0)) (atC (nth q 1)) (atN (nth q 2)) (atN (nth q 3)) (atI (nth q 4)) (atI (nth q 5))), .i (o_law37_few_3 F (atB (nth q 0)) (atC (nth q 1)) (atN (nth q 2)) (atN (nth q 3)) (atI (nth q 4)) (atI (nth q 5))), .i (o_law37_few_4 F (atB (nth q 0)) (atC (nth q 1)) (atN (nth q 2)) (atN (nth q 3)) (atI (nth q 4)) (atI (nth q 5)))])), (18, spec ti_base_Among to_base_Among (fun q => (ok_base_Among F (atI (nth q 0)) (atI (nth q 1)))) (fun q => [.i (o_base_Among_0 F (atI (nth q 0)) (atI (nth q 1)))])), (8, spec ti_fence_Within to_fence_Within (fun q => (ok_fence_Within F (atB (nth q 0)) (atC (nth q 1)) (atN (nth q 2)) (atN (nth q 3)) (atI (nth q 4)) (atI (nth q 5)) (atI (nth q 6)) (atI (nth q 7)))) (fun q => [.b (o_fence_Within_0 F (atB (nth q 0)) (atC (nth q 1)) (atN (nth q 2)) (atN (nth q 3)) (atI (nth q 4)) (atI (nth q 5)) (atI (nth q 6)) (atI (nth q 7))), .i (o_fence_Within_1 F (atB (nth q 0)) (atC (nth q 1)) (atN (nth q 2)) (atN (nth q 3)) (atI (nth q 4)) (atI (nth q 5)) (atI (nth q 6)) (atI (nth q 7)))])), (11, spec ti_fence_Touches to_fence_Touches (fun q => (ok_fence_Touches F (atB (nth q 0)) (atC (nth q 1)) (atN (nth q 2)) (atN (nth q 3)) (atI (nth q 4)) (atI (nth q 5)) (atI (nth q 6)) (atI (nth q 7)) (atI (nth q 8)))) (fun q => [.b (o_fence_Touches_0 F (atB (nth q 0)) (atC (nth q 1)) (atN (nth q 2)) (atN (nth q 3)) (atI (nth q 4)) (atI (nth q 5)) (atI (nth q 6)) (atI (nth q 7)) (atI (nth q 8))), .i (o_fence_Touches_1 F (atB (nth q 0)) (atC (nth q 1)) (atN (nth q 2)) (atN (nth q 3)) (atI (nth q 4)) (atI (nth q 5)) (atI (nth q 6)) (atI (nth q 7)) (atI (nth q 8)))])), (13, spec ti_fence_State to_fence_State (fun q => (ok_fence_State F (atB (nth q 0)) (atC (nth q 1)) (atN (nth q 2)) (atI (nth q 3)) (atI (nth q 4)) (atI (nth q 5)) (atI (nth q 6)) (atI (nth q 7)) (atI (nth q 8)))) (fun q => [.i (o_fence_State_0 F (atB (nth q 0)) (atC (nth q 1)) (atN (nth q 2)) (atI (nth q 3)) (atI (nth q 4)) (atI (nth q 5)) (atI (nth q 6)) (atI (nth q 7)) (atI (nth q 8))), .i (o_fence_State_1 F (atB (nth q 0)) (atC (nth q 1)) (atN (nth q 2)) (atI (nth q 3)) (atI (nth q 4)) (atI (nth q 5)) (atI (nth q 6)) (atI (nth q 7)) (atI (nth q 8)))]))]) c_law37_FenceMoved (tabI c_law37_FenceMoved [⟨0, T_law37_FenceMoved_0, fun k q => L_law37_FenceMoved_0 F (fun (z0 : Bool) (z1 : List VV) (z2 : Nat) (z3 : Nat) (z4 : Int) (z5 : Int) (z6 : Int) (z7 : Int) (z8 : Int) (z9 : Int) (z10 : Int) (z11 : Bool) (z12 : Bool) (z13 : Int) (z14 : Int) (z15 : Int) (z16 : Bool) (z17 : List VV) (z18 : Nat) (z19 : Int) (z20 : Int) (z21 : Int) (z22 : Int) (z23 : Int) (z24 : Bool) (z25 : Nat) (z26 : Int) (z27 : Int) (z28 : List VV) => k (.exit 0) (fS T_law37_FenceMoved_0_0 [.b z0, .c z1, .n z2, .n z3, .i z4, .i z5, .i z6, .i z7, .i z8, .i z9, .i z10, .b z11, .b z12, .i z13, .i z14, .i z15, .b z16, .c z17, .n z18, .i z19, .i z20, .i z21, .i z22, .i z23, .b z24, .n z25, .i z26, .i z27, .c z28])) F (atB (nth q 0)) (atC (nth q 1)) (atN (nth q 2)) (atN (nth q 3)) (atI (nth q 4)) (atI (nth q 5)) (atI (nth q 6)) (atI (nth q 7)) (atI (nth q 8)) (atI (nth q 9)) (atI (nth q 10)) (atB (nth q 11)) (atB (nth q 12)) (atI (nth q 13)) (atI (nth q 14)) (atI (nth q 15)) (atB (nth q 16)) (atC (nth q 17)) (atN (nth q 18)) (atI (nth q 19)) (atI (nth q 20)) (atI (nth q 21)) (atI (nth q 22)) (atI (nth q 23)) (atB (nth q 24)) (atN (nth q 25)) (atI (nth q 26)) (atI (nth q 27)) (atC (nth q 28))⟩, ⟨2, T_law37_FenceMoved_1, fun k q => L_law37_FenceMoved_1 F (fun (z0 : Bool) (z1 : List VV) (z2 : Nat) (z3 : Nat) (z4 : Int) (z5 : Int) (z6 : Int) (z7 : Int) (z8 : Int) (z9 : Int) (z10 : Int) (z11 : Bool) (z12 : Bool) (z13 : Int) (z14 : Int) (z15 : Int) (z16 : Int) (z17 : Bool) (z18 : List VV) (z19 : Nat) (z20 : Int) (z21 : Int) (z22 : Int) (z23 : Int) (z24 : Int) (z25 : Bool) (z26 : Nat) (z27 : Int) (z28 : Int) (z29 : List VV) => k (.exit 2) (fS T_law37_FenceMoved_1_0 [.b z0, .c z1, .n z2, .n z3, .i z4, .i z5, .i z6, .i z7, .i z8, .i z9, .i z10, .b z11, .b z12, .i z13, .i z14, .i z15, .i z16, .b z17, .c z18, .n z19, .i z20, .i z21, .i z22, .i z23, .i z24, .b z25, .n z26, .i z27, .i z28, .c z29])) F (atB (nth q 0)) (atC (nth q 1)) (atN (nth q 2)) (atN (nth q 3)) (atI (nth q 4)) (atI (nth q 5)) (atI (nth q 6)) (atI (nth q 7)) (atI (nth q 8)) (atI (nth q 9)) (atI (nth q 10)) (atB (nth q 11)) (atB (nth q 12)) (atI (nth q 13)) (atI (nth q 14)) (atI (nth q 15)) (atI (nth q 16)) (atB (nth q 17)) (atC (nth q 18)) (atN (nth q 19)) (atI (nth q 20)) (atI (nth q 21)) (atI (nth q 22)) (atI (nth q 23)) (atI (nth q 24)) (atB (nth q 25)) (atN (nth q 26)) (atI (nth q 27)) (atI (nth q 28)) (atC (nth q 29))⟩]) (tabJ []) 5 (fTs ti_law37_FenceMoved [.b a0, .c a1, .n a2, .n a3, .i a4, .i a5, .i a6, .i a7, .i a8, .i a9, .i a10, .b a11]).1 = (
  bif (ok_law37_works F) then (
    bif ((!((o_law37_works_0 F)))) then (
      some (.v (.bool false)))
    else (
      bif (ok_law37_few F a0 a1 a2 a3 a4 a5) then (
        let v2241 : Bool := (o_law37_few_0 F a0 a1 a2 a3 a4 a5)
        let v2243 : Nat := (o_law37_few_2 F a0 a1 a2 a3 a4 a5)
        let v2244 : Int := (o_law37_few_3 F a0 a1 a2 a3 a4 a5)
        let v2245 : Int := (o_law37_few_4 F a0 a1 a2 a3 a4 a5)
        let v2246 : Int := ((v2243 : Nat) : Int)
        bif (ok_base_Among F a10 v2246) then (
          L_law37_FenceMoved_0 F (fun (v2291 : Bool) (v2292 : List VV) (v2293 : Nat) (v2294 : Nat) (v2295 : Int) (v2296 : Int) (v2297 : Int) (v2298 : Int) (v2299 : Int) (v2300 : Int) (v2301 : Int) (v2302 : Bool) (v2303 : Bool) (v2304 : Int) (v2305 : Int) (v2306 : Int) (v2307 : Bool) (v2308 : List VV) (v2309 : Nat) (v2310 : Int) (v2311 : Int) (v2312 : Int) (v2313 : Int) (v2314 : Int) (v2315 : Bool) (v2316 : Nat) (v2317 : Int) (v2318 : Int) (v2319 : List VV) =>
            L_law37_FenceMoved_1 F (fun (v2367 : Bool) (v2368 : List VV) (v2369 : Nat) (v2370 : Nat) (v2371 : Int) (v2372 : Int) (v2373 : Int) (v2374 : Int) (v2375 : Int) (v2376 : Int) (v2377 : Int) (v2378 : Bool) (v2379 : Bool) (v2380 : Int) (v2381 : Int) (v2382 : Int) (v2383 : Int) (v2384 : Bool) (v2385 : List VV) (v2386 : Nat) (v2387 : Int) (v2388 : Int) (v2389 : Int) (v2390 : Int) (v2391 : Int) (v2392 : Bool) (v2393 : Nat) (v2394 : Int) (v2395 : Int) (v2396 : List VV) =>
              bif (ok_fence_Within F v2384 v2385 0 v2386 v2387 v2388 v2389 v2390) then (
                bif (ok_fence_Within F v2392 v2396 0 v2393 v2394 v2395 v2389 v2390) then (
                  bif (ok_fence_Touches F v2384 v2385 0 v2386 v2387 v2388 v2389 v2390 v2376) then (
                    bif (ok_fence_Touches F v2392 v2396 0 v2393 v2394 v2395 v2389 v2390 v2376) then (
                      bif (ok_fence_State F v2384 v2385 v2386 v2387 v2388 v2389 v2390 v2391 v2376) then (
                        bif (ok_fence_State F v2392 v2396 v2393 v2394 v2395 v2389 v2390 v2391 v2376) then (
                          bif ((((o_fence_Within_0 F v2384 v2385 0 v2386 v2387 v2388 v2389 v2390)) == ((o_fence_Within_0 F v2392 v2396 0 v2393 v2394 v2395 v2389 v2390)))) then (
                            bif ((((o_fence_Within_1 F v2384 v2385 0 v2386 v2387 v2388 v2389 v2390)) == ((o_fence_Within_1 F v2392 v2396 0 v2393 v2394 v2395 v2389 v2390)))) then (
                              bif ((((o_fence_Touches_0 F v2384 v2385 0 v2386 v2387 v2388 v2389 v2390 v2376)) == ((o_fence_Touches_0 F v2392 v2396 0 v2393 v2394 v2395 v2389 v2390 v2376)))) then (
                                bif ((((o_fence_Touches_1 F v2384 v2385 0 v2386 v2387 v2388 v2389 v2390 v2376)) == ((o_fence_Touches_1 F v2392 v2396 0 v2393 v2394 v2395 v2389 v2390 v2376)))) then (
                                  bif ((((o_fence_State_0 F v2384 v2385 v2386 v2387 v2388 v2389 v2390 v2391 v2376)) == ((o_fence_State_0 F v2392 v2396 v2393 v2394 v2395 v2389 v2390 v2391 v2376)))) then (
                                    some (.v (.bool ((((o_fence_State_1 F v2384 v2385 v2386 v2387 v2388 v2389 v2390 v2391 v2376)) == ((o_fence_State_1 F v2392 v2396 v2393 v2394 v2395 v2389 v2390 v2391 v2376)))))))
                                  else (
                                    some (.v (.bool false))))
                                else (
                                  some (.v (.bool false))))
                              else (
                                some (.v (.bool false))))
                            else (
                              some (.v (.bool false))))
                          else (
                            some (.v (.bool false))))
                        else (
                          none))
                      else (
                        none))
                    else (
                      none))
                  else (
                    none))
                else (
                  none))
              else (
                none)) F v2291 v2292 v2293 v2294 v2295 v2296 v2297 v2298 v2299 v2300 v2301 v2302 v2303 v2304 v2305 v2306 0 v2307 v2308 v2309 v2310 v2311 v2312 v2313 v2314 v2315 v2316 v2317 v2318 v2319) F a0 a1 a2 a3 a4 a5 a6 a7 a8 a9 a10 a11 false v2246 ((o_base_Among_0 F a10 v2246)) 0 v2241 ((o_law37_few_1 F a0 a1 a2 a3 a4 a5)) v2243 v2244 v2245 a6 a7 a8 v2241 0 v2244 v2245 [])
        else (
          none))
      else (
        none)))
  else (
    none) : R) := by
    intros
    kernel_rfl
  exact (h ok_law37_works o_law37_works_0 ok_law37_few o_law37_few_0 o_law37_few_1 o_law37_few_2 o_law37_few_3 o_law37_few_4 ok_base_Among o_base_Among_0 ok_fence_Within o_fence_Within_0 o_fence_Within_1 ok_fence_Touches o_fence_Touches_0 o_fence_Touches_1 ok_fence_State o_fence_State_0 o_fence_State_1 L_law37_FenceMoved_0 L_law37_FenceMoved_1).trans (by kernel_rfl)
def ok_law37_FenceMoved (F : Nat) (a0 : Bool) (a1 : List VV) (a2 : Nat) (a3 : Nat) (a4 : Int) (a5 : Int) (a6 : Int) (a7 : Int) (a8 : Int) (a9 : Int) (a10 : Int) (a11 : Bool) : Bool := okT to_law37_FenceMoved (f_law37_FenceMoved F a0 a1 a2 a3 a4 a5 a6 a7 a8 a9 a10 a11)
def o_law37_FenceMoved_0 (F : Nat) (a0 : Bool) (a1 : List VV) (a2 : Nat) (a3 : Nat) (a4 : Int) (a5 : Int) (a6 : Int) (a7 : Int) (a8 : Int) (a9 : Int) (a10 : Int) (a11 : Bool) : Bool := atB (nth (outT to_law37_FenceMoved (f_law37_FenceMoved F a0 a1 a2 a3 a4 a5 a6 a7 a8 a9 a10 a11)) 0)
theorem k_law37_FenceMoved (F : Nat) (a0 : Bool) (a1 : List VV) (a2 : Nat) (a3 : Nat) (a4 : Int) (a5 : Int) (a6 : Int) (a7 : Int) (a8 : Int) (a9 : Int) (a10 : Int) (a11 : Bool) {z0 : Bool} (h : f_law37_FenceMoved F a0 a1 a2 a3 a4 a5 a6 a7 a8 a9 a10 a11 = some (.v (.bool z0))) : ok_law37_FenceMoved F a0 a1 a2 a3 a4 a5 a6 a7 a8 a9 a10 a11 = true ∧ o_law37_FenceMoved_0 F a0 a1 a2 a3 a4 a5 a6 a7 a8 a9 a10 a11 = z0 := by
  refine ⟨?_, ?_⟩
  · unfold ok_law37_FenceMoved; rw [h]; kernel_rfl
  · unfold o_law37_FenceMoved_0; rw [h]; kernel_rfl
def s_law37_FenceMoved (F : Nat) : List VV → Option (Bool × VV) := spec ti_law37_FenceMoved to_law37_FenceMoved (fun q => (ok_law37_FenceMoved F (atB (nth q 0)) (atC (nth q 1)) (atN (nth q 2)) (atN (nth q 3)) (atI (nth q 4)) (atI (nth q 5)) (atI (nth q 6)) (atI (nth q 7)) (atI (nth q 8)) (atI (nth q 9)) (atI (nth q 10)) (atB (nth q 11)))) (fun q => [.b (o_law37_FenceMoved_0 F (atB (nth q 0)) (atC (nth q 1)) (atN (nth q 2)) (atN (nth q 3)) (atI (nth q 4)) (atI (nth q 5)) (atI (nth q 6)) (atI (nth q 7)) (atI (nth q 8)) (atI (nth q 9)) (atI (nth q 10)) (atB (nth q 11)))])
theorem hS_law37_FenceMoved (F : Nat) : ∀ f, Good PP f (unS (S_law37_FenceMoved F f)) := words_good fun p hp => by
  simp only [List.mem_cons, List.not_mem_nil, or_false] at hp
  rcases hp with rfl | rfl | rfl | rfl | rfl | rfl
  · exact g_law37_works F
  · exact g_law37_few F
  · exact g_base_Among F
  · exact g_fence_Within F
  · exact g_fence_Touches F
  · exact g_fence_State F
theorem hl_law37_FenceMoved (F : Nat) : ∀ p ∈ loopsIn PP 5, LoopOK PP (S_law37_FenceMoved F) c_law37_FenceMoved F (I_law37_FenceMoved F) (J_law37_FenceMoved F) p :=
  loops_of [(0, loopAt PP 5 0), (2, loopAt PP 5 1)] (by kernel_rfl) (all_cons
    (loop_ok (W_law37_FenceMoved F) rfl (tab_cons (fun _ k q => Le.ofEq ((lL_law37_FenceMoved_0 F k F (atB (nth q 0)) (atC (nth q 1)) (atN (nth q 2)) (atN (nth q 3)) (atI (nth q 4)) (atI (nth q 5)) (atI (nth q 6)) (atI (nth q 7)) (atI (nth q 8)) (atI (nth q 9)) (atI (nth q 10)) (atB (nth q 11)) (atB (nth q 12)) (atI (nth q 13)) (atI (nth q 14)) (atI (nth q 15)) (atB (nth q 16)) (atC (nth q 17)) (atN (nth q 18)) (atI (nth q 19)) (atI (nth q 20)) (atI (nth q 21)) (atI (nth q 22)) (atI (nth q 23)) (atB (nth q 24)) (atN (nth q 25)) (atI (nth q 26)) (atI (nth q 27)) (atC (nth q 28))).symm.trans (congrArg (iterC (codeL PP (S_law37_FenceMoved F) c_law37_FenceMoved (I_law37_FenceMoved F) (J_law37_FenceMoved F) (loopAt PP 5 0) 0) (headOf c_law37_FenceMoved 0) k F) (show fS T_law37_FenceMoved_0 [.b (atB (nth q 0)), .c (atC (nth q 1)), .n (atN (nth q 2)), .n (atN (nth q 3)), .i (atI (nth q 4)), .i (atI (nth q 5)), .i (atI (nth q 6)), .i (atI (nth q 7)), .i (atI (nth q 8)), .i (atI (nth q 9)), .i (atI (nth q 10)), .b (atB (nth q 11)), .b (atB (nth q 12)), .i (atI (nth q 13)), .i (atI (nth q 14)), .i (atI (nth q 15)), .b (atB (nth q 16)), .c (atC (nth q 17)), .n (atN (nth q 18)), .i (atI (nth q 19)), .i (atI (nth q 20)), .i (atI (nth q 21)), .i (atI (nth q 22)), .i (atI (nth q 23)), .b (atB (nth q 24)), .n (atN (nth q 25)), .i (atI (nth q 26)), .i (atI (nth q 27)), .c (atC (nth q 28))] = fS T_law37_FenceMoved_0 q by kernel_rfl)))) (tab_cons (fun h => absurd h (by decide)) tab_nil))) (all_cons
    (loop_ok (W_law37_FenceMoved F) rfl (tab_cons (fun h => absurd h (by decide)) (tab_cons (fun _ k q => Le.ofEq ((lL_law37_FenceMoved_1 F k F (atB (nth q 0)) (atC (nth q 1)) (atN (nth q 2)) (atN (nth q 3)) (atI (nth q 4)) (atI (nth q 5)) (atI (nth q 6)) (atI (nth q 7)) (atI (nth q 8)) (atI (nth q 9)) (atI (nth q 10)) (atB (nth q 11)) (atB (nth q 12)) (atI (nth q 13)) (atI (nth q 14)) (atI (nth q 15)) (atI (nth q 16)) (atB (nth q 17)) (atC (nth q 18)) (atN (nth q 19)) (atI (nth q 20)) (atI (nth q 21)) (atI (nth q 22)) (atI (nth q 23)) (atI (nth q 24)) (atB (nth q 25)) (atN (nth q 26)) (atI (nth q 27)) (atI (nth q 28)) (atC (nth q 29))).symm.trans (congrArg (iterC (codeL PP (S_law37_FenceMoved F) c_law37_FenceMoved (I_law37_FenceMoved F) (J_law37_FenceMoved F) (loopAt PP 5 1) 2) (headOf c_law37_FenceMoved 2) k F) (show fS T_law37_FenceMoved_1 [.b (atB (nth q 0)), .c (atC (nth q 1)), .n (atN (nth q 2)), .n (atN (nth q 3)), .i (atI (nth q 4)), .i (atI (nth q 5)), .i (atI (nth q 6)), .i (atI (nth q 7)), .i (atI (nth q 8)), .i (atI (nth q 9)), .i (atI (nth q 10)), .b (atB (nth q 11)), .b (atB (nth q 12)), .i (atI (nth q 13)), .i (atI (nth q 14)), .i (atI (nth q 15)), .i (atI (nth q 16)), .b (atB (nth q 17)), .c (atC (nth q 18)), .n (atN (nth q 19)), .i (atI (nth q 20)), .i (atI (nth q 21)), .i (atI (nth q 22)), .i (atI (nth q 23)), .i (atI (nth q 24)), .b (atB (nth q 25)), .n (atN (nth q 26)), .i (atI (nth q 27)), .i (atI (nth q 28)), .c (atC (nth q 29))] = fS T_law37_FenceMoved_1 q by kernel_rfl)))) tab_nil))) all_nil))
theorem hj_law37_FenceMoved (F : Nat) : ∀ p ∈ joinsIn PP c_law37_FenceMoved 5, JoinOK PP (S_law37_FenceMoved F) c_law37_FenceMoved (I_law37_FenceMoved F) (J_law37_FenceMoved F) p :=
  joins_of [] (by kernel_rfl) all_nil
theorem g_law37_FenceMoved (F : Nat) : Good PP 5 (unS (s_law37_FenceMoved F)) :=
  fun_spec (hS_law37_FenceMoved F) (by kernel_rfl) (by kernel_rfl) (C := c_law37_FenceMoved) (F := fun q => (f_law37_FenceMoved F (atB (nth q 0)) (atC (nth q 1)) (atN (nth q 2)) (atN (nth q 3)) (atI (nth q 4)) (atI (nth q 5)) (atI (nth q 6)) (atI (nth q 7)) (atI (nth q 8)) (atI (nth q 9)) (atI (nth q 10)) (atB (nth q 11)))) (fun _ => F) (fun _ => I_law37_FenceMoved F) (fun _ => J_law37_FenceMoved F) (fun _ => hl_law37_FenceMoved F) (fun _ => hj_law37_FenceMoved F)
    (fun q => (congrArg (funL PP (S_law37_FenceMoved F) c_law37_FenceMoved (I_law37_FenceMoved F) (J_law37_FenceMoved F) 5) (show (fTs ti_law37_FenceMoved q).1 = (fTs ti_law37_FenceMoved [.b (atB (nth q 0)), .c (atC (nth q 1)), .n (atN (nth q 2)), .n (atN (nth q 3)), .i (atI (nth q 4)), .i (atI (nth q 5)), .i (atI (nth q 6)), .i (atI (nth q 7)), .i (atI (nth q 8)), .i (atI (nth q 9)), .i (atI (nth q 10)), .b (atB (nth q 11))]).1 by kernel_rfl)).trans (e_law37_FenceMoved F (atB (nth q 0)) (atC (nth q 1)) (atN (nth q 2)) (atN (nth q 3)) (atI (nth q 4)) (atI (nth q 5)) (atI (nth q 6)) (atI (nth q 7)) (atI (nth q 8)) (atI (nth q 9)) (atI (nth q 10)) (atB (nth q 11))))
    (fun _ h => okT_fill' h (by kernel_rfl))

end Go.Xv
namespace Go.Xv
def mkL (n : Nat) (g : Nat → Pt) : List Pt := (List.range n).map g
theorem mkL_len (n : Nat) (g : Nat → Pt) : (mkL n g).length = n := by simp [mkL]
theorem at0_mkL {n j : Nat} (g : Nat → Pt) (h : j < n) : at0 (mkL n g) j = g j := by simp [mkL, at0, h]
theorem mkL_congr {n : Nat} {g h : Nat → Pt} (e : ∀ j, j < n → g j = h j) : mkL n g = mkL n h := by
  unfold mkL
  exact List.map_congr_left fun j hj => e j (List.mem_range.1 hj)
theorem mkL_succ (n : Nat) (g : Nat → Pt) : mkL (n + 1) g = mkL n g ++ [g n] := by simp [mkL, List.range_succ]
theorem cellsP_set : ∀ (zs : List Pt) (i : Nat) (p : Pt), i < zs.length → (cellsP zs).take (i * 2) ++ [.v (.int .i64 p.1), .v (.int .i64 p.2)] ++ (cellsP zs).drop (i * 2 + 2) = cellsP (zs.set i p)
  | [], i, p, h => by simp at h
  | q :: r, 0, p, _ => by simp [cellsP]
  | q :: r, i + 1, p, h => by
    have := cellsP_set r i p (by simpa using h)
    rw [show (i + 1) * 2 = i * 2 + 2 by omega, show i * 2 + 2 + 2 = (i * 2 + 2) + 2 by omega]
    simp [cellsP, ← this]
theorem mkL_set (n i : Nat) (g : Nat → Pt) (p : Pt) : (mkL n g).set i p = mkL n (fun j => if j = i then p else g j) := by
  apply List.ext_getElem
  · simp [mkL]
  · intro j h1 h2
    simp only [mkL, List.getElem_set, List.getElem_map, List.getElem_range]
    by_cases e : i = j
    · subst e; simp
    · rw [if_neg e, if_neg (Ne.symm e)]
theorem a_Among (F : Nat) (by0 : Int) {n : Nat} (hn : n ≤ 20) : ∃ k : Nat, (0 < n → k < n) ∧ ok_base_Among F by0 (n : Int) = true ∧ o_base_Among_0 F by0 (n : Int) = (k : Int) := by
  by_cases h : (n : Int) < 1
  · refine ⟨0, fun h => h, k_base_Among F _ _ ?_⟩
    unfold f_base_Among
    exact bp (dt h) rfl
  · have hu : IntKind.wrap .u64 (n : Int) = (n : Int) := wu64_in (by unfold U64; omega)
    have h1 := wu64_U by0
    unfold U64 at h1
    have h2 : Int.tmod (IntKind.wrap .u64 by0) (n : Int) = (IntKind.wrap .u64 by0) % (n : Int) := Int.tmod_eq_emod_of_nonneg h1.1
    have h3 := Int.emod_nonneg (IntKind.wrap .u64 by0) (show (n : Int) ≠ 0 by omega)
    have h4 := Int.emod_lt_of_pos (IntKind.wrap .u64 by0) (show (0 : Int) < (n : Int) by omega)
    refine ⟨((IntKind.wrap .u64 by0) % (n : Int)).toNat, fun _ => by omega, k_base_Among F _ _ ?_⟩
    unfold f_base_Among
    refine bn (df h) ?_
    simp only [hu]
    refine bp (by rw [df (by omega)]; rfl) (some_int ?_)
    rw [h2, wi64_in (by unfold I64; omega)]
    omega

theorem lp_mv0 (F : Nat) (ex0) (zs : List Pt) (k : Nat) (hz : zs.length ≤ 20) (hk : k < 20) (x0 : Bool) (x1 : List VV) (x2 : Nat) (x3 : Nat) (x4 : Int) (x5 : Int) (x6 : Int) (x7 : Int) (x8 : Int) (x9 : Int) (x10 : Int) (x11 : Bool) (x12 : Bool) (x16 : Bool) (x19 : Int) (x20 : Int) (x21 : Int) (x22 : Int) (x23 : Int) (x24 : Bool) (x26 : Int) (x27 : Int) :
    ∀ (d n i : Nat), i + d = zs.length → d < n → L_law37_FenceMoved_0 F ex0 n x0 x1 x2 x3 x4 x5 x6 x7 x8 x9 x10 x11 x12 (zs.length : Int) (k : Int) (i : Int) x16 (cellsP zs) zs.length x19 x20 x21 x22 x23 x24 i x26 x27 (cellsP (mkL i fun j => at0 zs ((j + k) % zs.length))) =
      ex0 x0 x1 x2 x3 x4 x5 x6 x7 x8 x9 x10 x11 x12 (zs.length : Int) (k : Int) (zs.length : Int) x16 (cellsP zs) zs.length x19 x20 x21 x22 x23 x24 zs.length x26 x27 (cellsP (mkL zs.length fun j => at0 zs ((j + k) % zs.length)))
  | _, 0, _, _, h => by omega
  | 0, n + 1, i, hi, _ => by
    rw [L_law37_FenceMoved_0, B_law37_FenceMoved_0]
    obtain rfl : i = zs.length := by omega
    exact bn (df (by omega)) rfl
  | d + 1, n + 1, i, hi, hd => by
    rw [L_law37_FenceMoved_0, B_law37_FenceMoved_0]
    have hlt : i < zs.length := by omega
    have hlt2 : (i + k) % zs.length < zs.length := Nat.mod_lt _ (by omega)
    obtain ⟨g1, g2⟩ := cellsP_get zs ((i + k) % zs.length) hlt2
    have ih := lp_mv0 F ex0 zs k hz hk x0 x1 x2 x3 x4 x5 x6 x7 x8 x9 x10 x11 x12 x16 x19 x20 x21 x22 x23 x24 x26 x27 d n (i + 1) (by omega) (by omega)
    have hw : IntKind.wrap .i64 ((i : Int) + (k : Int)) = ((i + k : Nat) : Int) := by rw [wi64_in (by unfold I64; omega)]; simp
    have hm : Int.tmod ((i + k : Nat) : Int) (zs.length : Int) = (((i + k) % zs.length : Nat) : Int) := by rw [Int.tmod_eq_emod_of_nonneg (by omega)]; simp
    have hlen : (cellsP (mkL i fun j => at0 zs ((j + k) % zs.length))).length = i * 2 := by rw [cellsP_len, mkL_len]
    simp only [hw, hm, Int.toNat_natCast, Nat.zero_add, g1, g2, isI, iv, decide_true, Bool.and_true, dt (show (i : Int) < (zs.length : Int) by omega), df (show ¬ (zs.length : Int) = 0 by omega), Bool.not_false,
      dt (show (0 : Int) ≤ (((i + k) % zs.length : Nat) : Int) by omega), dt (show (((i + k) % zs.length : Nat) : Int) < (zs.length : Int) by omega), Bool.and_self, cond_true, wi64_s i (show i < 1000 by omega), hlen, Nat.le_refl, dt (show (i + 1) * 17 ≤ bigger by unfold bigger; omega), List.drop_zero]
    rw [show (cellsP (mkL i fun j => at0 zs ((j + k) % zs.length))).take (i * 2) = cellsP (mkL i fun j => at0 zs ((j + k) % zs.length)) from List.take_of_length_le (by omega)]
    rw [show cellsP (mkL i fun j => at0 zs ((j + k) % zs.length)) ++ [VV.v (.int .i64 (at0 zs ((i + k) % zs.length)).1), VV.v (.int .i64 (at0 zs ((i + k) % zs.length)).2)] = cellsP (mkL (i + 1) fun j => at0 zs ((j + k) % zs.length)) by rw [mkL_succ, cellsP_app]; rfl]
    exact ih

theorem lp_mv1n (F : Nat) (ex0) (N n : Nat) (hN : N ≤ 20) (x0 : Bool) (x1 : List VV) (x2 : Nat) (x3 : Nat) (x4 : Int) (x5 : Int) (x6 : Int) (x7 : Int) (x8 : Int) (x9 : Int) (x10 : Int) (x12 : Bool) (x14 : Int) (x15 : Int) (x17 : Bool) (x18 : List VV) (x19 : Nat) (x20 : Int) (x21 : Int) (x22 : Int) (x23 : Int) (x24 : Int) (x25 : Bool) (x27 : Int) (x28 : Int) (x29 : List VV) : L_law37_FenceMoved_1 F ex0 (n + 1) x0 x1 x2 x3 x4 x5 x6 x7 x8 x9 x10 false x12 (N : Int) x14 x15 0 x17 x18 x19 x20 x21 x22 x23 x24 x25 N x27 x28 x29 = ex0 x0 x1 x2 x3 x4 x5 x6 x7 x8 x9 x10 false x12 (N : Int) x14 x15 0 x17 x18 x19 x20 x21 x22 x23 x24 x25 N x27 x28 x29 := by
  rw [L_law37_FenceMoved_1, B_law37_FenceMoved_1]
  generalize decide ((0 : Int) < IntKind.wrap .i64 (Int.tdiv (N : Int) 2)) = b
  cases b <;> rfl
theorem half {N : Nat} (hN : N ≤ 20) : IntKind.wrap .i64 (Int.tdiv (N : Int) 2) = ((N / 2 : Nat) : Int) := by
  rw [Int.tdiv_eq_ediv_of_nonneg (by omega), wi64_in (by unfold I64; omega)]; simp
theorem lp_mv1 (F : Nat) (ex0) (N : Nat) (hN : N ≤ 20) (g : Nat → Pt) (x0 : Bool) (x1 : List VV) (x2 : Nat) (x3 : Nat) (x4 : Int) (x5 : Int) (x6 : Int) (x7 : Int) (x8 : Int) (x9 : Int) (x10 : Int) (x12 : Bool) (x14 : Int) (x15 : Int) (x17 : Bool) (x18 : List VV) (x19 : Nat) (x20 : Int) (x21 : Int) (x22 : Int) (x23 : Int) (x24 : Int) (x25 : Bool) (x27 : Int) (x28 : Int) :
    ∀ (d n i : Nat), i + d = N / 2 → d < n → L_law37_FenceMoved_1 F ex0 n x0 x1 x2 x3 x4 x5 x6 x7 x8 x9 x10 true x12 (N : Int) x14 x15 (i : Int) x17 x18 x19 x20 x21 x22 x23 x24 x25 N x27 x28 (cellsP (mkL N fun j => if j < i ∨ N - i ≤ j then g (N - 1 - j) else g j)) =
      ex0 x0 x1 x2 x3 x4 x5 x6 x7 x8 x9 x10 true x12 (N : Int) x14 x15 ((N / 2 : Nat) : Int) x17 x18 x19 x20 x21 x22 x23 x24 x25 N x27 x28 (cellsP (mkL N fun j => g (N - 1 - j)))
  | _, 0, _, _, h => by omega
  | 0, n + 1, i, hi, _ => by
    rw [L_law37_FenceMoved_1, B_law37_FenceMoved_1, half hN]
    have e : cellsP (mkL N fun j => if j < i ∨ N - i ≤ j then g (N - 1 - j) else g j) = cellsP (mkL N fun j => g (N - 1 - j)) := by
      rw [mkL_congr (h := fun j => g (N - 1 - j)) fun j hj => ?_]
      split
      · rfl
      · congr 1; omega
    rw [e]
    obtain rfl : i = N / 2 := by omega
    exact bn (df (by omega)) rfl
  | d + 1, n + 1, i, hi, hd => by
    rw [L_law37_FenceMoved_1, B_law37_FenceMoved_1, half hN]
    have ih := lp_mv1 F ex0 N hN g x0 x1 x2 x3 x4 x5 x6 x7 x8 x9 x10 x12 x14 x15 x17 x18 x19 x20 x21 x22 x23 x24 x25 x27 x28 d n (i + 1) (by omega) (by omega)
    have hlt : i < N := by omega
    have hlt2 : N - 1 - i < N := by omega
    have hw : IntKind.wrap .i64 (IntKind.wrap .i64 ((N : Int) - 1) - (i : Int)) = ((N - 1 - i : Nat) : Int) := by
      rw [wi64_in (x := (N : Int) - 1) (by unfold I64; omega), wi64_in (by unfold I64; omega)]; omega
    have l1 : (mkL N fun j => if j < i ∨ N - i ≤ j then g (N - 1 - j) else g j).length = N := mkL_len _ _
    obtain ⟨g1, g2⟩ := cellsP_get (mkL N fun j => if j < i ∨ N - i ≤ j then g (N - 1 - j) else g j) i (by omega)
    obtain ⟨g3, g4⟩ := cellsP_get (mkL N fun j => if j < i ∨ N - i ≤ j then g (N - 1 - j) else g j) (N - 1 - i) (by omega)
    rw [at0_mkL _ hlt, if_neg (by omega)] at g1 g2
    rw [at0_mkL _ hlt2, if_neg (by omega)] at g3 g4
    have l2 : (cellsP (mkL N fun j => if j < i ∨ N - i ≤ j then g (N - 1 - j) else g j)).length = N * 2 := by rw [cellsP_len, mkL_len]
    have c1 := cellsP_set (mkL N fun j => if j < i ∨ N - i ≤ j then g (N - 1 - j) else g j) i (g (N - 1 - i)) (by omega)
    rw [mkL_set] at c1
    have c2 := cellsP_set (mkL N fun j => if j = i then g (N - 1 - i) else if j < i ∨ N - i ≤ j then g (N - 1 - j) else g j) (N - 1 - i) (g i) (by rw [mkL_len]; omega)
    have e0 : (mkL N fun j => if j = N - 1 - i then g i else if j = i then g (N - 1 - i) else if j < i ∨ N - i ≤ j then g (N - 1 - j) else g j) = mkL N fun j => if j < i + 1 ∨ N - (i + 1) ≤ j then g (N - 1 - j) else g j := mkL_congr fun j hj => by
      by_cases e1 : j = N - 1 - i
      · rw [if_pos e1, if_pos (by omega)]; congr 1; omega
      · rw [if_neg e1]
        by_cases e2 : j = i
        · rw [if_pos e2, if_pos (by omega), e2]
        · rw [if_neg e2]
          by_cases e3 : j < i ∨ N - i ≤ j
          · rw [if_pos e3, if_pos (by omega)]
          · rw [if_neg e3, if_neg (by omega)]
    rw [mkL_set, e0] at c2
    simp only [hw, Int.toNat_natCast, Nat.zero_add, g1, g2, g3, g4, isI, iv, decide_true, Bool.and_true, dt (show (i : Int) < ((N / 2 : Nat) : Int) by omega), dt (show (0 : Int) ≤ (i : Int) by omega), dt (show (i : Int) < (N : Int) by omega),
      dt (show (0 : Int) ≤ ((N - 1 - i : Nat) : Int) by omega), dt (show ((N - 1 - i : Nat) : Int) < (N : Int) by omega), Bool.and_self, cond_true, wi64_s i (show i < 1000 by omega), l2, dt (show i * 2 + 2 ≤ N * 2 by omega), c1]
    rw [cellsP_len, mkL_len]
    simp only [dt (show (N - 1 - i) * 2 + 2 ≤ N * 2 by omega), cond_true, c2]
    exact ih

end Go.Xv
namespace Go.Xv
theorem moved_end (F : Nat) {kp : Bool} {zs ys : List Pt} (hz : zs.length ≤ 20) (hs : SameP zs ys) {fl rf x y h r : Int} (hfl : I64 fl) (hrf : I64 rf) (hh : I64 h) (cy : List VV) (hc : cy = cellsP ys) :
    (bif (ok_fence_Within F kp (cellsP zs) 0 zs.length fl rf x y) then (
                bif (ok_fence_Within F kp cy 0 zs.length fl rf x y) then (
                  bif (ok_fence_Touches F kp (cellsP zs) 0 zs.length fl rf x y r) then (
                    bif (ok_fence_Touches F kp cy 0 zs.length fl rf x y r) then (
                      bif (ok_fence_State F kp (cellsP zs) zs.length fl rf x y h r) then (
                        bif (ok_fence_State F kp cy zs.length fl rf x y h r) then (
                          bif ((((o_fence_Within_0 F kp (cellsP zs) 0 zs.length fl rf x y)) == ((o_fence_Within_0 F kp cy 0 zs.length fl rf x y)))) then (
                            bif ((((o_fence_Within_1 F kp (cellsP zs) 0 zs.length fl rf x y)) == ((o_fence_Within_1 F kp cy 0 zs.length fl rf x y)))) then (
                              bif ((((o_fence_Touches_0 F kp (cellsP zs) 0 zs.length fl rf x y r)) == ((o_fence_Touches_0 F kp cy 0 zs.length fl rf x y r)))) then (
                                bif ((((o_fence_Touches_1 F kp (cellsP zs) 0 zs.length fl rf x y r)) == ((o_fence_Touches_1 F kp cy 0 zs.length fl rf x y r)))) then (
                                  bif ((((o_fence_State_0 F kp (cellsP zs) zs.length fl rf x y h r)) == ((o_fence_State_0 F kp cy zs.length fl rf x y h r)))) then (
                                    some (.v (.bool ((((o_fence_State_1 F kp (cellsP zs) zs.length fl rf x y h r)) == ((o_fence_State_1 F kp cy zs.length fl rf x y h r)))))))
                                  else (
                                    some (.v (.bool false))))
                                else (
                                  some (.v (.bool false))))
                              else (
                                some (.v (.bool false))))
                            else (
                              some (.v (.bool false))))
                          else (
                            some (.v (.bool false))))
                        else (
                          none))
                      else (
                        none))
                    else (
                      none))
                  else (
                    none))
                else (
                  none))
              else (
                none) : R) = some (.v (.bool true)) := by
  subst hc
  have hy : ys.length ≤ 1000 := by rw [hs.len]; omega
  obtain ⟨w1, w2, w3⟩ := a_Within F kp (zs := zs) (by omega) fl rf (x, y)
  obtain ⟨v1, v2, v3⟩ := a_Within F kp hy fl rf (x, y)
  obtain ⟨t1, t2, t3⟩ := a_Touches F kp (zs := zs) (by omega) fl rf (x, y) r
  obtain ⟨u1, u2, u3⟩ := a_Touches F kp hy fl rf (x, y) r
  obtain ⟨s1, s2, s3⟩ := a_State F kp zs (by omega) hfl hrf (x, y) (r := r) hh
  obtain ⟨o1, o2, o3⟩ := a_State F kp ys hy hfl hrf (x, y) (r := r) hh
  rw [hs.may, hs.len] at v2 v3 u2 u3 o2 o3
  rw [hs.len] at v1 u1 o1
  rw [hs.within] at v2
  rw [hs.touches] at u2
  rw [hs.state] at o2
  simp only [w1, w2, w3, v1, v2, v3, t1, t2, t3, u1, u2, u3, s1, s2, s3, o1, o2, o3, cond_true, beq_self_eq_true]

theorem f_FenceMoved (F : Nat) (hF : 200 ≤ F) {kp : Bool} {z : List Int} {len : Nat} {fl rf x y h r by0 : Int} {back : Bool} (hw : ∀ n ∈ z, I64 n) (hl : z.length = len * 2) (hfl : I64 fl) (hrf : I64 rf) (hx : I64 x) (hy : I64 y) (hh : I64 h) (hr : I64 r) (hby : I64 by0) :
    f_law37_FenceMoved F kp (z.map fun n => .v (.int .i64 n)) 0 len fl rf x y h r by0 back = some (.v (.bool true)) := by
  obtain ⟨e1, e2⟩ := pairs_cells len z hl
  rw [← e1, ← e2]
  generalize pairsOf z = zs0
  have hb : (zs0.take 20).length ≤ 20 := by rw [List.length_take]; omega
  obtain ⟨q1, q2, q3, q4, q5, q6⟩ := a_few F kp zs0 fl rf
  obtain ⟨k1, k2⟩ := a_works37 F
  obtain ⟨k, hk, m1, m2⟩ := a_Among F by0 hb
  unfold f_law37_FenceMoved
  simp only [q1, q2, q3, q4, q5, q6, k1, k2, m1, m2, cond_true, Bool.not_true, cond_false]
  generalize zs0.take 20 = zs at *
  have hk20 : k < 20 ∨ zs.length = 0 := by
    by_cases h0 : 0 < zs.length
    · exact .inl (by have := hk h0; omega)
    · exact .inr (by omega)
  obtain ⟨k', hk', hkk⟩ : ∃ k' : Nat, k' < 20 ∧ (zs.length = 0 ∨ k' = k) := by
    rcases hk20 with h0 | h0
    · exact ⟨k, h0, .inr rfl⟩
    · exact ⟨0, by omega, .inl h0⟩
  rcases hkk with hn | rfl
  · obtain rfl : zs = [] := List.eq_nil_of_length_eq_zero hn
    obtain ⟨n, hnF⟩ : ∃ n, F = n + 2 := ⟨F - 2, by omega⟩
    have l0 : ∀ ex0 n, L_law37_FenceMoved_0 F ex0 (n + 1) kp (cellsP zs0) 0 zs0.length fl rf x y h r by0 back false 0 (k : Int) 0 kp (cellsP []) 0 fl rf x y h kp 0 fl rf [] = ex0 kp (cellsP zs0) 0 zs0.length fl rf x y h r by0 back false 0 (k : Int) 0 kp (cellsP []) 0 fl rf x y h kp 0 fl rf [] := fun ex0 n => rfl
    have l1 : ∀ ex0 n, L_law37_FenceMoved_1 F ex0 (n + 1) kp (cellsP zs0) 0 zs0.length fl rf x y h r by0 back false 0 (k : Int) 0 0 kp (cellsP []) 0 fl rf x y h kp 0 fl rf [] = ex0 kp (cellsP zs0) 0 zs0.length fl rf x y h r by0 back false 0 (k : Int) 0 0 kp (cellsP []) 0 fl rf x y h kp 0 fl rf [] := fun ex0 n => by cases back <;> rfl
    have e : ∀ ex0, L_law37_FenceMoved_0 F ex0 F = L_law37_FenceMoved_0 F ex0 (n + 1 + 1) := fun _ => by rw [hnF]
    have e' : ∀ ex0, L_law37_FenceMoved_1 F ex0 F = L_law37_FenceMoved_1 F ex0 (n + 1 + 1) := fun _ => by rw [hnF]
    simp only [List.length_nil, Int.natCast_zero, Int.ofNat_zero, e, e']
    refine (l0 _ _).trans ((l1 _ _).trans ?_)
    exact moved_end F (zs := []) (ys := []) (by simp) ⟨rfl, fun _ _ => rfl⟩ hfl hrf hh _ rfl
  · refine (lp_mv0 F _ zs k' hb hk' _ _ _ _ _ _ _ _ _ _ _ _ _ _ _ _ _ _ _ _ _ _ zs.length F 0 (by omega) (by omega)).trans ?_
    have hrot : SameP zs (mkL zs.length fun j => at0 zs ((j + k') % zs.length)) := rot_same k' (mkL_len _ _) fun j hj => at0_mkL _ hj
    cases back with
    | false =>
      obtain ⟨n, hnF⟩ : ∃ n, F = n + 1 := ⟨F - 1, by omega⟩
      have e' : ∀ ex0, L_law37_FenceMoved_1 F ex0 F = L_law37_FenceMoved_1 F ex0 (n + 1) := fun _ => by rw [hnF]
      simp only [e']
      refine (lp_mv1n F _ zs.length n hb _ _ _ _ _ _ _ _ _ _ _ _ _ _ _ _ _ _ _ _ _ _ _ _ _ _).trans ?_
      exact moved_end F hb hrot hfl hrf hh _ rfl
    | true =>
      have hi0 : cellsP (mkL zs.length fun j => at0 zs ((j + k') % zs.length)) = cellsP (mkL zs.length fun j => if j < 0 ∨ zs.length - 0 ≤ j then (fun j => at0 zs ((j + k') % zs.length)) (zs.length - 1 - j) else (fun j => at0 zs ((j + k') % zs.length)) j) := by
        congr 1
        exact mkL_congr fun j hj => by rw [if_neg (by omega)]
      rw [hi0]
      refine (lp_mv1 F _ zs.length hb (fun j => at0 zs ((j + k') % zs.length)) _ _ _ _ _ _ _ _ _ _ _ _ _ _ _ _ _ _ _ _ _ _ _ _ _ (zs.length / 2) F 0 (by omega) (by omega)).trans ?_
      refine moved_end F hb (hrot.trans (rev_same ?_ fun j hj => ?_)) hfl hrf hh _ rfl
      · rw [mkL_len, mkL_len]
      · rw [mkL_len] at hj ⊢
        rw [at0_mkL _ hj, at0_mkL _ (by omega)]
end Go.Xv
namespace Go.Proofs.Ytjhnmpfaemhnhaa.fenceMoved
open Go.ChangeShapes Go.WideShapes Go.ChangeAt Go.RowKit Go.Xv Go.Proofs.Ytjhnmpfaemhnhaa.base
set_option linter.unusedVariables false
set_option maxRecDepth 100000 in
theorem lifted (os : Os) (started : os.Started) (H : Type) (enc : TypeId × Value → H) :
    ReturnsInHanded {} Try.checked os 5 .any (Rows.fenceMovedSpec.pre6 enc Try.prog Try.f5 Rows.fenceMovedRow.domain false) (Rows.fenceMovedSpec.post enc Try.prog Try.f5 false true false false) := by
  refine returnsInHanded_of_change (C := Try.checked) own started (by kernel_rfl) Try.func5
    (ChangeSpec.witness6 (enc := enc) (C := Try.checked) false ⟨#[], #[.agg #[.bool false, .slice none 0 0, .int .i64 0, .int .i64 0], .agg #[.int .i64 0, .int .i64 0, .int .i64 0], .int .i64 0, .int .i64 0, .bool false], []⟩ 8 (by kernel_rfl) (by kernel_rfl) (by kernel_rfl) (by kernel_rfl)) ?_
  intro W base args ds gs before hval0 hW hcnd _
  have hval : ∀ (j : Nat) t v, Try.f5.params[j]? = some t → args[j]? = some v → Value.okWide Try.prog W .any base t v := hval0
  have hW' := hW
  obtain ⟨p, q, hA0, hV, rfl, hfz, hnd⟩ := hW
  have hA : DataW.TrodAll enc Try.prog W 0 (fun _ => true) true Try.f5.params.toList args.toList ds p := hA0
  rw [Try.params5] at hA hval
  obtain ⟨v0, vs0, d0, ds0, p0, q0, hargs, rfl, rfl, h0, r0⟩ := trodAll_cons hA
  obtain ⟨v1, vs1, d1, ds1, p1, q1, rfl, rfl, rfl, h1, r1⟩ := trodAll_cons r0
  obtain ⟨v2, vs2, d2, ds2, p2, q2, rfl, rfl, rfl, h2, r2⟩ := trodAll_cons r1
  obtain ⟨v3, vs3, d3, ds3, p3, q3, rfl, rfl, rfl, h3, r3⟩ := trodAll_cons r2
  obtain ⟨v4, vs4, d4, ds4, p4, q4, rfl, rfl, rfl, h4, r4⟩ := trodAll_cons r3
  obtain ⟨rfl, rfl, rfl⟩ := trodAll_nil r4
  obtain rfl : args = #[v0, v1, v2, v3, v4] := by cases args; simp_all
  obtain ⟨a0, z0, len0, cap0, p0, a1, a2, rfl, hl0, _, hw0, wa1, wa2, hr0⟩ := open_zone (by kernel_rfl) (hval 0 25 v0 rfl rfl) h0
  obtain ⟨l1, rfl, f1⟩ := open_flat (ks := [some .i64, some .i64, some .i64]) (by kernel_rfl) (by kernel_rfl) (hval 1 27 v1 rfl rfl) h1
  obtain ⟨a3, l1, rfl, wa3, f1⟩ := fitW_some f1
  obtain ⟨a4, l1, rfl, wa4, f1⟩ := fitW_some f1
  obtain ⟨a5, l1, rfl, wa5, f1⟩ := fitW_some f1
  obtain rfl := fitW_nil f1
  obtain ⟨a6, rfl, wa6⟩ := open_num (k := .i64) (by kernel_rfl) (hval 2 23 v2 rfl rfl) h2
  obtain ⟨a7, rfl, wa7⟩ := open_num (k := .i64) (by kernel_rfl) (hval 3 3 v3 rfl rfl) h3
  obtain ⟨a8, rfl⟩ := Xv.open_bool (by kernel_rfl) (hval 4 4 v4 rfl rfl) h4
  refine law_contract laidOut (g_law37_FenceMoved fuel0) (bt := 4) (by kernel_rfl) (by kernel_rfl) (by kernel_rfl) (by kernel_rfl) rfl hW' ?_
  refine ⟨[.agg [.v (.bool a0), .fs (z0.map fun n => .v (.int .i64 n)) 0 len0 2, .v (.int .i64 a1), .v (.int .i64 a2)], .v (.agg #[.int .i64 a3, .int .i64 a4, .int .i64 a5]), .v (.int .i64 a6), .v (.int .i64 a7), .v (.bool a8)], rfl, fun i x hx => ?_, unS_of ?_⟩
  · match i, hx with
    | 0, hx => exact ⟨_, rfl, by cases hx; exact hr0 _⟩
    | 1, hx => exact ⟨_, rfl, by cases hx; exact Rel.v _ _⟩
    | 2, hx => exact ⟨_, rfl, by cases hx; exact Rel.v _ _⟩
    | 3, hx => exact ⟨_, rfl, by cases hx; exact Rel.v _ _⟩
    | 4, hx => exact ⟨_, rfl, by cases hx; exact Rel.v _ _⟩
    | _ + 5, hx => cases hx
  · obtain ⟨y1, y2⟩ := k_law37_FenceMoved fuel0 a0 (z0.map fun n => .v (.int .i64 n)) 0 len0 a1 a2 a3 a4 a5 a6 a7 a8 (f_FenceMoved fuel0 (by unfold fuel0; omega) (fun n hn => wf_i64 (hw0 n hn)) hl0 (wf_i64 wa1) (wf_i64 wa2) (wf_i64 wa3) (wf_i64 wa4) (wf_i64 wa5) (wf_i64 wa6) (wf_i64 wa7))
    have e : s_law37_FenceMoved fuel0 [.agg [.v (.bool a0), .fs (z0.map fun n => .v (.int .i64 n)) 0 len0 2, .v (.int .i64 a1), .v (.int .i64 a2)], .v (.agg #[.int .i64 a3, .int .i64 a4, .int .i64 a5]), .v (.int .i64 a6), .v (.int .i64 a7), .v (.bool a8)] = some (ok_law37_FenceMoved fuel0 a0 (z0.map fun n => .v (.int .i64 n)) 0 len0 a1 a2 a3 a4 a5 a6 a7 a8, .v (.bool (o_law37_FenceMoved_0 fuel0 a0 (z0.map fun n => .v (.int .i64 n)) 0 len0 a1 a2 a3 a4 a5 a6 a7 a8))) := by kernel_rfl
    rw [e, y1, y2]
theorem over : Rows.fenceMovedRow.holds Try.pinned (OpenSpec.ofChange Rows.fenceMovedSpec) :=
  OpenClaim.holds_of_wide 5 Try.f5 rfl rfl rfl rfl rfl rfl rfl ⟨rfl, rfl, rfl, rfl, rfl⟩ rfl rfl rfl rfl rfl (by kernel_rfl) Try.func5 (joined_of (P := Try.prog) behind enter_ rfl rfl ⟨rfl, rfl⟩ (by kernel_rfl))
    (of_decide_eq_true (by kernel_rfl)) (by unfold Func.isWrapper; first | (rw [if_pos (by decide +kernel)]; kernel_rfl) | (rw [if_neg (by decide +kernel)]; exact ⟨rfl, rfl⟩))
    (fun os started H enc _ => lifted os started H enc)
/-- The statement. -/
theorem proved : Rows.FenceMovedSaid := over
#print axioms proved
end Go.Proofs.Ytjhnmpfaemhnhaa.fenceMoved
