/- Where the state is not 1, each place that is no further off, axis by axis, than r, is in the same state with r 0: the law returns true for every input, and leaves its arguments as they were. -/
import Derived.Test.YtjhnmpfaemhnhaaLFenceSure
import Derived.KernelRfl
set_option linter.unusedVariables false
namespace Go.Xv
/- 13 _fence_State -/
def c_fence_State : Cfg := ⟨[0, 1, 2, 3, 4, 6, 7, 8, 9, 10, 11, 13, 14, 28, 61, 74], [], [1000061, 1000074], [(8, [0, 1, 2, 3, 4, 6, 7, 8, 9, 10, 11, 13, 14, 28, 61, 74]), (9, [0, 1, 2, 3, 4, 6, 7, 8, 9, 10, 11, 13, 14, 28, 61, 74])]⟩
def ti_fence_State : List TV := [.agg [.v (.bool), .fs (.lit 0) .hole 2, .v (.int .i64), .v (.int .i64)], .v (.agg [.int .i64, .int .i64, .int .i64]), .v (.int .i64)]
def to_fence_State : TV := .v (.tup [.int .i64, .int .i64])
def S_fence_State (F : Nat) : FuncId → List VV → Option (Bool × VV) := words [(11, s_fence_Touches F), (8, s_fence_Within F), (28, s_fence_Zone_height F)]
def TN_fence_State_0 : TS := ⟨[(0, .agg [.v (.bool), .fs (.lit 0) .hole 2, .v (.int .i64), .v (.int .i64)]), (1, .v (.agg [.int .i64, .int .i64, .int .i64])), (2, .v (.int .i64)), (3, .lp 0 (.lit 0)), (4, .lp 1 (.lit 0)), (6, .v (.int .i64)), (7, .v (.int .i64)), (8, .lp 2 (.lit 0)), (9, .v (.bool)), (10, .v (.int .i64)), (11, .v (.bool)), (13, .v (.bool)), (14, .v (.bool))], [(0, ⟨(.ex [.v (.bool), .fs (.lit 0) .hole 2, .v (.int .i64), .v (.int .i64)]), false⟩), (1, ⟨(.ex [.v (.int .i64), .v (.int .i64), .v (.int .i64)]), true⟩), (2, ⟨(.ex [.v (.int .i64), .v (.int .i64)]), true⟩)], 3⟩
def TN_fence_State_0_0 : TS := ⟨[(0, .agg [.v (.bool), .fs (.lit 0) .hole 2, .v (.int .i64), .v (.int .i64)]), (1, .v (.agg [.int .i64, .int .i64, .int .i64])), (2, .v (.int .i64)), (3, .lp 0 (.lit 0)), (4, .lp 1 (.lit 0)), (6, .v (.int .i64)), (7, .v (.int .i64)), (8, .lp 2 (.lit 0)), (9, .v (.bool)), (10, .v (.int .i64)), (11, .v (.bool)), (13, .v (.bool)), (14, .v (.bool)), (61, .v (.bool))], [(0, ⟨(.ex [.v (.bool), .fs (.lit 0) .hole 2, .v (.int .i64), .v (.int .i64)]), false⟩), (1, ⟨(.ex [.v (.int .i64), .v (.int .i64), .v (.int .i64)]), true⟩), (2, ⟨(.ex [.v (.int .i64), .v (.int .i64)]), true⟩)], 3⟩
def TN_fence_State_0_1 : TS := ⟨[(0, .agg [.v (.bool), .fs (.lit 0) .hole 2, .v (.int .i64), .v (.int .i64)]), (1, .v (.agg [.int .i64, .int .i64, .int .i64])), (2, .v (.int .i64)), (3, .lp 0 (.lit 0)), (4, .lp 1 (.lit 0)), (6, .v (.int .i64)), (7, .v (.int .i64)), (8, .lp 2 (.lit 0)), (9, .v (.bool)), (10, .v (.int .i64)), (11, .v (.bool)), (13, .v (.bool)), (14, .v (.bool)), (61, .v (.bool)), (74, .v (.bool))], [(0, ⟨(.ex [.v (.bool), .fs (.lit 0) .hole 2, .v (.int .i64), .v (.int .i64)]), false⟩), (1, ⟨(.ex [.v (.int .i64), .v (.int .i64), .v (.int .i64)]), true⟩), (2, ⟨(.ex [.v (.int .i64), .v (.int .i64)]), true⟩)], 3⟩
def N_fence_State_0 (F : Nat) (ex0 : Bool → List VV → Nat → Int → Int → Int → Int → Int → Int → Int → Int → Bool → Int → Bool → Bool → Bool → Bool → Bool → List VV → Nat → Int → Int → Int → Int → Int → Int → Int → R) (ex1 : Bool → List VV → Nat → Int → Int → Int → Int → Int → Int → Int → Int → Bool → Int → Bool → Bool → Bool → Bool → Bool → Bool → List VV → Nat → Int → Int → Int → Int → Int → Int → Int → R) (x0 : Bool) (x1 : List VV) (x2 : Nat) (x3 : Int) (x4 : Int) (x5 : Int) (x6 : Int) (x7 : Int) (x8 : Int) (x9 : Int) (x10 : Int) (x11 : Bool) (x12 : Int) (x13 : Bool) (x14 : Bool) (x15 : Bool) (x16 : Bool) (x17 : List VV) (x18 : Nat) (x19 : Int) (x20 : Int) (x21 : Int) (x22 : Int) (x23 : Int) (x24 : Int) (x25 : Int) : R :=
  bif x14 then (
    bif x16 then (
      ex0 x0 x1 x2 x3 x4 x5 x6 x7 x8 0 x12 x11 x12 x13 x14 x15 true x16 x17 x18 x19 x20 x21 x22 x23 x24 x25)
    else (
      bif x15 then (
        bif ((!x16)) then (
          ex0 x0 x1 x2 x3 x4 x5 x6 x7 x8 0 x12 x11 x12 x13 x14 x15 true x16 x17 x18 x19 x20 x21 x22 x23 x24 x25)
        else (
          bif x14 then (
            ex1 x0 x1 x2 x3 x4 x5 x6 x7 x8 2 x12 x11 x12 x13 x14 x15 false true x16 x17 x18 x19 x20 x21 x22 x23 x24 x25)
          else (
            bif x15 then (
              ex1 x0 x1 x2 x3 x4 x5 x6 x7 x8 2 x12 x11 x12 x13 x14 x15 false true x16 x17 x18 x19 x20 x21 x22 x23 x24 x25)
            else (
              ex1 x0 x1 x2 x3 x4 x5 x6 x7 x8 1 x12 x11 x12 x13 x14 x15 false false x16 x17 x18 x19 x20 x21 x22 x23 x24 x25))))
      else (
        bif x14 then (
          ex1 x0 x1 x2 x3 x4 x5 x6 x7 x8 2 x12 x11 x12 x13 x14 x15 false true x16 x17 x18 x19 x20 x21 x22 x23 x24 x25)
        else (
          bif x15 then (
            ex1 x0 x1 x2 x3 x4 x5 x6 x7 x8 2 x12 x11 x12 x13 x14 x15 false true x16 x17 x18 x19 x20 x21 x22 x23 x24 x25)
          else (
            ex1 x0 x1 x2 x3 x4 x5 x6 x7 x8 1 x12 x11 x12 x13 x14 x15 false false x16 x17 x18 x19 x20 x21 x22 x23 x24 x25)))))
  else (
    bif x15 then (
      bif ((!x16)) then (
        ex0 x0 x1 x2 x3 x4 x5 x6 x7 x8 0 x12 x11 x12 x13 x14 x15 true x16 x17 x18 x19 x20 x21 x22 x23 x24 x25)
      else (
        bif x14 then (
          ex1 x0 x1 x2 x3 x4 x5 x6 x7 x8 2 x12 x11 x12 x13 x14 x15 false true x16 x17 x18 x19 x20 x21 x22 x23 x24 x25)
        else (
          bif x15 then (
            ex1 x0 x1 x2 x3 x4 x5 x6 x7 x8 2 x12 x11 x12 x13 x14 x15 false true x16 x17 x18 x19 x20 x21 x22 x23 x24 x25)
          else (
            ex1 x0 x1 x2 x3 x4 x5 x6 x7 x8 1 x12 x11 x12 x13 x14 x15 false false x16 x17 x18 x19 x20 x21 x22 x23 x24 x25))))
    else (
      bif x14 then (
        ex1 x0 x1 x2 x3 x4 x5 x6 x7 x8 2 x12 x11 x12 x13 x14 x15 false true x16 x17 x18 x19 x20 x21 x22 x23 x24 x25)
      else (
        bif x15 then (
          ex1 x0 x1 x2 x3 x4 x5 x6 x7 x8 2 x12 x11 x12 x13 x14 x15 false true x16 x17 x18 x19 x20 x21 x22 x23 x24 x25)
        else (
          ex1 x0 x1 x2 x3 x4 x5 x6 x7 x8 1 x12 x11 x12 x13 x14 x15 false false x16 x17 x18 x19 x20 x21 x22 x23 x24 x25))))
def TN_fence_State_1 : TS := ⟨[(0, .agg [.v (.bool), .fs (.lit 0) .hole 2, .v (.int .i64), .v (.int .i64)]), (1, .v (.agg [.int .i64, .int .i64, .int .i64])), (2, .v (.int .i64)), (3, .lp 0 (.lit 0)), (4, .lp 1 (.lit 0)), (6, .v (.int .i64)), (7, .v (.int .i64)), (8, .lp 2 (.lit 0)), (9, .v (.bool)), (10, .v (.int .i64)), (11, .v (.bool)), (13, .v (.bool)), (14, .v (.bool))], [(0, ⟨(.ex [.v (.bool), .fs (.lit 0) .hole 2, .v (.int .i64), .v (.int .i64)]), false⟩), (1, ⟨(.ex [.v (.int .i64), .v (.int .i64), .v (.int .i64)]), true⟩), (2, ⟨(.ex [.v (.int .i64), .v (.int .i64)]), true⟩)], 3⟩
def TN_fence_State_1_0 : TS := ⟨[(0, .agg [.v (.bool), .fs (.lit 0) .hole 2, .v (.int .i64), .v (.int .i64)]), (1, .v (.agg [.int .i64, .int .i64, .int .i64])), (2, .v (.int .i64)), (3, .lp 0 (.lit 0)), (4, .lp 1 (.lit 0)), (6, .v (.int .i64)), (7, .v (.int .i64)), (8, .lp 2 (.lit 0)), (9, .v (.bool)), (10, .v (.int .i64)), (11, .v (.bool)), (13, .v (.bool)), (14, .v (.bool)), (61, .v (.bool))], [(0, ⟨(.ex [.v (.bool), .fs (.lit 0) .hole 2, .v (.int .i64), .v (.int .i64)]), false⟩), (1, ⟨(.ex [.v (.int .i64), .v (.int .i64), .v (.int .i64)]), true⟩), (2, ⟨(.ex [.v (.int .i64), .v (.int .i64)]), true⟩)], 3⟩
def TN_fence_State_1_1 : TS := ⟨[(0, .agg [.v (.bool), .fs (.lit 0) .hole 2, .v (.int .i64), .v (.int .i64)]), (1, .v (.agg [.int .i64, .int .i64, .int .i64])), (2, .v (.int .i64)), (3, .lp 0 (.lit 0)), (4, .lp 1 (.lit 0)), (6, .v (.int .i64)), (7, .v (.int .i64)), (8, .lp 2 (.lit 0)), (9, .v (.bool)), (10, .v (.int .i64)), (11, .v (.bool)), (13, .v (.bool)), (14, .v (.bool)), (61, .v (.bool)), (74, .v (.bool))], [(0, ⟨(.ex [.v (.bool), .fs (.lit 0) .hole 2, .v (.int .i64), .v (.int .i64)]), false⟩), (1, ⟨(.ex [.v (.int .i64), .v (.int .i64), .v (.int .i64)]), true⟩), (2, ⟨(.ex [.v (.int .i64), .v (.int .i64)]), true⟩)], 3⟩
def N_fence_State_1 (F : Nat) (ex0 : Bool → List VV → Nat → Int → Int → Int → Int → Int → Int → Int → Int → Bool → Int → Bool → Bool → Bool → Bool → Bool → List VV → Nat → Int → Int → Int → Int → Int → Int → Int → R) (ex1 : Bool → List VV → Nat → Int → Int → Int → Int → Int → Int → Int → Int → Bool → Int → Bool → Bool → Bool → Bool → Bool → Bool → List VV → Nat → Int → Int → Int → Int → Int → Int → Int → R) (x0 : Bool) (x1 : List VV) (x2 : Nat) (x3 : Int) (x4 : Int) (x5 : Int) (x6 : Int) (x7 : Int) (x8 : Int) (x9 : Int) (x10 : Int) (x11 : Bool) (x12 : Int) (x13 : Bool) (x14 : Bool) (x15 : Bool) (x16 : Bool) (x17 : List VV) (x18 : Nat) (x19 : Int) (x20 : Int) (x21 : Int) (x22 : Int) (x23 : Int) (x24 : Int) (x25 : Int) : R :=
  bif x15 then (
    N_fence_State_0 F (fun (v1027 : Bool) (v1028 : List VV) (v1029 : Nat) (v1030 : Int) (v1031 : Int) (v1032 : Int) (v1033 : Int) (v1034 : Int) (v1035 : Int) (v1036 : Int) (v1037 : Int) (v1038 : Bool) (v1039 : Int) (v1040 : Bool) (v1041 : Bool) (v1042 : Bool) (v1043 : Bool) (v1044 : Bool) (v1045 : List VV) (v1046 : Nat) (v1047 : Int) (v1048 : Int) (v1049 : Int) (v1050 : Int) (v1051 : Int) (v1052 : Int) (v1053 : Int) =>
      ex0 v1027 v1028 v1029 v1030 v1031 v1032 v1033 v1034 v1035 v1036 v1037 v1038 v1039 v1040 v1041 v1042 v1043 v1044 v1045 v1046 v1047 v1048 v1049 v1050 v1051 v1052 v1053) (fun (v1054 : Bool) (v1055 : List VV) (v1056 : Nat) (v1057 : Int) (v1058 : Int) (v1059 : Int) (v1060 : Int) (v1061 : Int) (v1062 : Int) (v1063 : Int) (v1064 : Int) (v1065 : Bool) (v1066 : Int) (v1067 : Bool) (v1068 : Bool) (v1069 : Bool) (v1070 : Bool) (v1071 : Bool) (v1072 : Bool) (v1073 : List VV) (v1074 : Nat) (v1075 : Int) (v1076 : Int) (v1077 : Int) (v1078 : Int) (v1079 : Int) (v1080 : Int) (v1081 : Int) =>
      ex1 v1054 v1055 v1056 v1057 v1058 v1059 v1060 v1061 v1062 v1063 v1064 v1065 v1066 v1067 v1068 v1069 v1070 v1071 v1072 v1073 v1074 v1075 v1076 v1077 v1078 v1079 v1080 v1081) x0 x1 x2 x3 x4 x5 x6 x7 x8 x9 x10 x11 x12 x13 x14 true x16 x17 x18 x19 x20 x21 x22 x23 x24 x25)
  else (
    bif ((!x13)) then (
      N_fence_State_0 F (fun (v1084 : Bool) (v1085 : List VV) (v1086 : Nat) (v1087 : Int) (v1088 : Int) (v1089 : Int) (v1090 : Int) (v1091 : Int) (v1092 : Int) (v1093 : Int) (v1094 : Int) (v1095 : Bool) (v1096 : Int) (v1097 : Bool) (v1098 : Bool) (v1099 : Bool) (v1100 : Bool) (v1101 : Bool) (v1102 : List VV) (v1103 : Nat) (v1104 : Int) (v1105 : Int) (v1106 : Int) (v1107 : Int) (v1108 : Int) (v1109 : Int) (v1110 : Int) =>
        ex0 v1084 v1085 v1086 v1087 v1088 v1089 v1090 v1091 v1092 v1093 v1094 v1095 v1096 v1097 v1098 v1099 v1100 v1101 v1102 v1103 v1104 v1105 v1106 v1107 v1108 v1109 v1110) (fun (v1111 : Bool) (v1112 : List VV) (v1113 : Nat) (v1114 : Int) (v1115 : Int) (v1116 : Int) (v1117 : Int) (v1118 : Int) (v1119 : Int) (v1120 : Int) (v1121 : Int) (v1122 : Bool) (v1123 : Int) (v1124 : Bool) (v1125 : Bool) (v1126 : Bool) (v1127 : Bool) (v1128 : Bool) (v1129 : Bool) (v1130 : List VV) (v1131 : Nat) (v1132 : Int) (v1133 : Int) (v1134 : Int) (v1135 : Int) (v1136 : Int) (v1137 : Int) (v1138 : Int) =>
        ex1 v1111 v1112 v1113 v1114 v1115 v1116 v1117 v1118 v1119 v1120 v1121 v1122 v1123 v1124 v1125 v1126 v1127 v1128 v1129 v1130 v1131 v1132 v1133 v1134 v1135 v1136 v1137 v1138) x0 x1 x2 x3 x4 x5 x6 x7 x8 x9 x10 x11 x12 x13 x14 ((!x11)) x16 x17 x18 x19 x20 x21 x22 x23 x24 x25)
    else (
      N_fence_State_0 F (fun (v1139 : Bool) (v1140 : List VV) (v1141 : Nat) (v1142 : Int) (v1143 : Int) (v1144 : Int) (v1145 : Int) (v1146 : Int) (v1147 : Int) (v1148 : Int) (v1149 : Int) (v1150 : Bool) (v1151 : Int) (v1152 : Bool) (v1153 : Bool) (v1154 : Bool) (v1155 : Bool) (v1156 : Bool) (v1157 : List VV) (v1158 : Nat) (v1159 : Int) (v1160 : Int) (v1161 : Int) (v1162 : Int) (v1163 : Int) (v1164 : Int) (v1165 : Int) =>
        ex0 v1139 v1140 v1141 v1142 v1143 v1144 v1145 v1146 v1147 v1148 v1149 v1150 v1151 v1152 v1153 v1154 v1155 v1156 v1157 v1158 v1159 v1160 v1161 v1162 v1163 v1164 v1165) (fun (v1166 : Bool) (v1167 : List VV) (v1168 : Nat) (v1169 : Int) (v1170 : Int) (v1171 : Int) (v1172 : Int) (v1173 : Int) (v1174 : Int) (v1175 : Int) (v1176 : Int) (v1177 : Bool) (v1178 : Int) (v1179 : Bool) (v1180 : Bool) (v1181 : Bool) (v1182 : Bool) (v1183 : Bool) (v1184 : Bool) (v1185 : List VV) (v1186 : Nat) (v1187 : Int) (v1188 : Int) (v1189 : Int) (v1190 : Int) (v1191 : Int) (v1192 : Int) (v1193 : Int) =>
        ex1 v1166 v1167 v1168 v1169 v1170 v1171 v1172 v1173 v1174 v1175 v1176 v1177 v1178 v1179 v1180 v1181 v1182 v1183 v1184 v1185 v1186 v1187 v1188 v1189 v1190 v1191 v1192 v1193) x0 x1 x2 x3 x4 x5 x6 x7 x8 x9 x10 x11 x12 x13 x14 false x16 x17 x18 x19 x20 x21 x22 x23 x24 x25))
def W_fence_State (F : Nat) : List LW := []
def I_fence_State (F : Nat) : Nat → VS → (Exit → VS → R) → R := tabI c_fence_State (W_fence_State F)
def WJ_fence_State (F : Nat) : List LJ := [⟨9, 0, TN_fence_State_0, fun k q => N_fence_State_0 F (fun (z0 : Bool) (z1 : List VV) (z2 : Nat) (z3 : Int) (z4 : Int) (z5 : Int) (z6 : Int) (z7 : Int) (z8 : Int) (z9 : Int) (z10 : Int) (z11 : Bool) (z12 : Int) (z13 : Bool) (z14 : Bool) (z15 : Bool) (z16 : Bool) (z17 : Bool) (z18 : List VV) (z19 : Nat) (z20 : Int) (z21 : Int) (z22 : Int) (z23 : Int) (z24 : Int) (z25 : Int) (z26 : Int) => k .ret (fS TN_fence_State_0_0 [.b z0, .c z1, .n z2, .i z3, .i z4, .i z5, .i z6, .i z7, .i z8, .i z9, .i z10, .b z11, .i z12, .b z13, .b z14, .b z15, .b z16, .b z17, .c z18, .n z19, .i z20, .i z21, .i z22, .i z23, .i z24, .i z25, .i z26])) (fun (z0 : Bool) (z1 : List VV) (z2 : Nat) (z3 : Int) (z4 : Int) (z5 : Int) (z6 : Int) (z7 : Int) (z8 : Int) (z9 : Int) (z10 : Int) (z11 : Bool) (z12 : Int) (z13 : Bool) (z14 : Bool) (z15 : Bool) (z16 : Bool) (z17 : Bool) (z18 : Bool) (z19 : List VV) (z20 : Nat) (z21 : Int) (z22 : Int) (z23 : Int) (z24 : Int) (z25 : Int) (z26 : Int) (z27 : Int) => k .ret (fS TN_fence_State_0_1 [.b z0, .c z1, .n z2, .i z3, .i z4, .i z5, .i z6, .i z7, .i z8, .i z9, .i z10, .b z11, .i z12, .b z13, .b z14, .b z15, .b z16, .b z17, .b z18, .c z19, .n z20, .i z21, .i z22, .i z23, .i z24, .i z25, .i z26, .i z27])) (atB (nth q 0)) (atC (nth q 1)) (atN (nth q 2)) (atI (nth q 3)) (atI (nth q 4)) (atI (nth q 5)) (atI (nth q 6)) (atI (nth q 7)) (atI (nth q 8)) (atI (nth q 9)) (atI (nth q 10)) (atB (nth q 11)) (atI (nth q 12)) (atB (nth q 13)) (atB (nth q 14)) (atB (nth q 15)) (atB (nth q 16)) (atC (nth q 17)) (atN (nth q 18)) (atI (nth q 19)) (atI (nth q 20)) (atI (nth q 21)) (atI (nth q 22)) (atI (nth q 23)) (atI (nth q 24)) (atI (nth q 25))⟩, ⟨8, 0, TN_fence_State_1, fun k q => N_fence_State_1 F (fun (z0 : Bool) (z1 : List VV) (z2 : Nat) (z3 : Int) (z4 : Int) (z5 : Int) (z6 : Int) (z7 : Int) (z8 : Int) (z9 : Int) (z10 : Int) (z11 : Bool) (z12 : Int) (z13 : Bool) (z14 : Bool) (z15 : Bool) (z16 : Bool) (z17 : Bool) (z18 : List VV) (z19 : Nat) (z20 : Int) (z21 : Int) (z22 : Int) (z23 : Int) (z24 : Int) (z25 : Int) (z26 : Int) => k .ret (fS TN_fence_State_1_0 [.b z0, .c z1, .n z2, .i z3, .i z4, .i z5, .i z6, .i z7, .i z8, .i z9, .i z10, .b z11, .i z12, .b z13, .b z14, .b z15, .b z16, .b z17, .c z18, .n z19, .i z20, .i z21, .i z22, .i z23, .i z24, .i z25, .i z26])) (fun (z0 : Bool) (z1 : List VV) (z2 : Nat) (z3 : Int) (z4 : Int) (z5 : Int) (z6 : Int) (z7 : Int) (z8 : Int) (z9 : Int) (z10 : Int) (z11 : Bool) (z12 : Int) (z13 : Bool) (z14 : Bool) (z15 : Bool) (z16 : Bool) (z17 : Bool) (z18 : Bool) (z19 : List VV) (z20 : Nat) (z21 : Int) (z22 : Int) (z23 : Int) (z24 : Int) (z25 : Int) (z26 : Int) (z27 : Int) => k .ret (fS TN_fence_State_1_1 [.b z0, .c z1, .n z2, .i z3, .i z4, .i z5, .i z6, .i z7, .i z8, .i z9, .i z10, .b z11, .i z12, .b z13, .b z14, .b z15, .b z16, .b z17, .b z18, .c z19, .n z20, .i z21, .i z22, .i z23, .i z24, .i z25, .i z26, .i z27])) (atB (nth q 0)) (atC (nth q 1)) (atN (nth q 2)) (atI (nth q 3)) (atI (nth q 4)) (atI (nth q 5)) (atI (nth q 6)) (atI (nth q 7)) (atI (nth q 8)) (atI (nth q 9)) (atI (nth q 10)) (atB (nth q 11)) (atI (nth q 12)) (atB (nth q 13)) (atB (nth q 14)) (atB (nth q 15)) (atB (nth q 16)) (atC (nth q 17)) (atN (nth q 18)) (atI (nth q 19)) (atI (nth q 20)) (atI (nth q 21)) (atI (nth q 22)) (atI (nth q 23)) (atI (nth q 24)) (atI (nth q 25))⟩]
def J_fence_State (F : Nat) : Nat → Nat → VS → (Exit → VS → R) → R := tabJ (WJ_fence_State F)
theorem nN_fence_State_0 (F : Nat) (k : Exit → VS → R) (x0 : Bool) (x1 : List VV) (x2 : Nat) (x3 : Int) (x4 : Int) (x5 : Int) (x6 : Int) (x7 : Int) (x8 : Int) (x9 : Int) (x10 : Int) (x11 : Bool) (x12 : Int) (x13 : Bool) (x14 : Bool) (x15 : Bool) (x16 : Bool) (x17 : List VV) (x18 : Nat) (x19 : Int) (x20 : Int) (x21 : Int) (x22 : Int) (x23 : Int) (x24 : Int) (x25 : Int) : codeL PP (S_fence_State F) c_fence_State (I_fence_State F) (J_fence_State F) (joinAt PP c_fence_State 13 1) 0 (fS TN_fence_State_0 [.b x0, .c x1, .n x2, .i x3, .i x4, .i x5, .i x6, .i x7, .i x8, .i x9, .i x10, .b x11, .i x12, .b x13, .b x14, .b x15, .b x16, .c x17, .n x18, .i x19, .i x20, .i x21, .i x22, .i x23, .i x24, .i x25]) k = N_fence_State_0 F (fun (z0 : Bool) (z1 : List VV) (z2 : Nat) (z3 : Int) (z4 : Int) (z5 : Int) (z6 : Int) (z7 : Int) (z8 : Int) (z9 : Int) (z10 : Int) (z11 : Bool) (z12 : Int) (z13 : Bool) (z14 : Bool) (z15 : Bool) (z16 : Bool) (z17 : Bool) (z18 : List VV) (z19 : Nat) (z20 : Int) (z21 : Int) (z22 : Int) (z23 : Int) (z24 : Int) (z25 : Int) (z26 : Int) => k .ret (fS TN_fence_State_0_0 [.b z0, .c z1, .n z2, .i z3, .i z4, .i z5, .i z6, .i z7, .i z8, .i z9, .i z10, .b z11, .i z12, .b z13, .b z14, .b z15, .b z16, .b z17, .c z18, .n z19, .i z20, .i z21, .i z22, .i z23, .i z24, .i z25, .i z26])) (fun (z0 : Bool) (z1 : List VV) (z2 : Nat) (z3 : Int) (z4 : Int) (z5 : Int) (z6 : Int) (z7 : Int) (z8 : Int) (z9 : Int) (z10 : Int) (z11 : Bool) (z12 : Int) (z13 : Bool) (z14 : Bool) (z15 : Bool) (z16 : Bool) (z17 : Bool) (z18 : Bool) (z19 : List VV) (z20 : Nat) (z21 : Int) (z22 : Int) (z23 : Int) (z24 : Int) (z25 : Int) (z26 : Int) (z27 : Int) => k .ret (fS TN_fence_State_0_1 [.b z0, .c z1, .n z2, .i z3, .i z4, .i z5, .i z6, .i z7, .i z8, .i z9, .i z10, .b z11, .i z12, .b z13, .b z14, .b z15, .b z16, .b z17, .b z18, .c z19, .n z20, .i z21, .i z22, .i z23, .i z24, .i z25, .i z26, .i z27])) x0 x1 x2 x3 x4 x5 x6 x7 x8 x9 x10 x11 x12 x13 x14 x15 x16 x17 x18 x19 x20 x21 x22 x23 x24 x25 := by
  have h0 : ∀ (ok_fence_Touches : Nat → Bool → List VV → Nat → Nat → Int → Int → Int → Int → Int → Bool) (o_fence_Touches_0 : Nat → Bool → List VV → Nat → Nat → Int → Int → Int → Int → Int → Bool) (o_fence_Touches_1 : Nat → Bool → List VV → Nat → Nat → Int → Int → Int → Int → Int → Int) (ok_fence_Within : Nat → Bool → List VV → Nat → Nat → Int → Int → Int → Int → Bool) (o_fence_Within_0 : Nat → Bool → List VV → Nat → Nat → Int → Int → Int → Int → Bool) (o_fence_Within_1 : Nat → Bool → List VV → Nat → Nat → Int → Int → Int → Int → Int) (ok_fence_Zone_height : Nat → Bool → List VV → Nat → Int → Int → Int → Int → Bool) (o_fence_Zone_height_0 : Nat → Bool → List VV → Nat → Int → Int → Int → Int → Bool) (o_fence_Zone_height_1 : Nat → Bool → List VV → Nat → Int → Int → Int → Int → Bool) (N_fence_State_0 : Nat → (Bool → List VV → Nat → Int → Int → Int → Int → Int → Int → Int → Int → Bool → Int → Bool → Bool → Bool → Bool → Bool → List VV → Nat → Int → Int → Int → Int → Int → Int → Int → R) → (Bool → List VV → Nat → Int → Int → Int → Int → Int → Int → Int → Int → Bool → Int → Bool → Bool → Bool → Bool → Bool → Bool → List VV → Nat → Int → Int → Int → Int → Int → Int → Int → R) → Bool → List VV → Nat → Int → Int → Int → Int → Int → Int → Int → Int → Bool → Int → Bool → Bool → Bool → Bool → List VV → Nat → Int → Int → Int → Int → Int → Int → Int → R) (N_fence_State_1 : Nat → (Bool → List VV → Nat → Int → Int → Int → Int → Int → Int → Int → Int → Bool → Int → Bool → Bool → Bool → Bool → Bool → List VV → Nat → Int → Int → Int → Int → Int → Int → Int → R) → (Bool → List VV → Nat → Int → Int → Int → Int → Int → Int → Int → Int → Bool → Int → Bool → Bool → Bool → Bool → Bool → Bool → List VV → Nat → Int → Int → Int → Int → Int → Int → Int → R) → Bool → List VV → Nat → Int → Int → Int → Int → Int → Int → Int → Int → Bool → Int → Bool → Bool → Bool → Bool → List VV → Nat → Int → Int → Int → Int → Int → Int → Int → R), codeL PP (words [(11, spec ti_fence_Touches to_fence_Touches (fun q => (ok_fence_Touches F (atB (nth q 0)) (atC (nth q 1)) (atN (nth q 2)) (atN (nth q 3)) (atI (nth q 4)) (atI (nth q 5)) (atI (nth q 6)) (atI (nth q 7)) (atI (nth q 8)))) (fun q => [.b (o_fence_Touches_0 F (atB (nth q 0)) (atC (nth q 1)) (atN (nth q 2)) (atN (nth q 3)) (atI (nth q 4)) (atI (nth q 5)) (atI (nth q 6)) (atI (nth q 7)) (atI (nth q 8))), .i (o_fence_Touches_1 F (atB (nth q 0)) (atC (nth q 1)) (atN (nth q 2)) (atN (nth q 3)) (atI (nth q 4)) (atI (nth q 5)) (atI (nth q 6)) (atI (nth q 7)) (atI (nth q 8)))])), (8, spec ti_fence_Within to_fence_Within (fun q => (ok_fence_Within F (atB (nth q 0)) (atC (nth q 1)) (atN (nth q 2)) (atN (nth q 3)) (atI (nth q 4)) (atI (nth q 5)) (atI (nth q 6)) (atI (nth q 7)))) (fun q => [.b (o_fence_Within_0 F (atB (nth q 0)) (atC (nth q 1)) (atN (nth q 2)) (atN (nth q 3)) (atI (nth q 4)) (atI (nth q 5)) (atI (nth q 6)) (atI (nth q 7))), .i (o_fence_Within_1 F (atB (nth q 0)) (atC (nth q 1)) (atN (nth q 2)) (atN (nth q 3)) (atI (nth q 4)) (atI (nth q 5)) (atI (nth q 6)) (atI (nth q 7)))])), (28, spec ti_fence_Zone_height to_fence_Zone_height (fun q => (ok_fence_Zone_height F (atB (nth q 0)) (atC (nth q 1)) (atN (nth q 2)) (atI (nth q 3)) (atI (nth q 4)) (atI (nth q 5)) (atI (nth q 6)))) (fun q => [.b (o_fence_Zone_height_0 F (atB (nth q 0)) (atC (nth q 1)) (atN (nth q 2)) (atI (nth q 3)) (atI (nth q 4)) (atI (nth q 5)) (atI (nth q 6))), .b (o_fence_Zone_height_1 F (atB (nth q 0)) (atC (nth q 1)) (atN (nth q 2)) (atI (nth q 3)) (atI (nth q 4)) (atI (nth q 5)) (atI (nth q 6)))]))]) c_fence_State (tabI c_fence_State []) (tabJ [⟨9, 0, TN_fence_State_0, fun k q => N_fence_State_0 F (fun (z0 : Bool) (z1 : List VV) (z2 : Nat) (z3 : Int) (z4 : Int) (z5 : Int) (z6 : Int) (z7 : Int) (z8 : Int) (z9 : Int) (z10 : Int) (z11 : Bool) (z12 : Int) (z13 : Bool) (z14 : Bool) (z15 : Bool) (z16 : Bool) (z17 : Bool) (z18 : List VV) (z19 : Nat) (z20 : Int) (z21 : Int) (z22 : Int) (z23 : Int) (z24 : Int) (z25 : Int) (z26 : Int) => k .ret (fS TN_fence_State_0_0 [.b z0, .c z1, .n z2, .i z3, .i z4, .i z5, .i z6, .i z7, .i z8, .i z9, .i z10, .b z11, .i z12, .b z13, .b z14, .b z15, .b z16, .b z17, .c z18, .n z19, .i z20, .i z21, .i z22, .i z23, .i z24, .i z25, .i z26])) (fun (z0 : Bool) (z1 : List VV) (z2 : Nat) (z3 : Int) (z4 : Int) (z5 : Int) (z6 : Int) (z7 : Int) (z8 : Int) (z9 : Int) (z10 : Int) (z11 : Bool) (z12 : Int) (z13 : Bool) (z14 : Bool) (z15 : Bool) (z16 : Bool) (z17 : Bool) (z18 : Bool) (z19 : List VV) (z20 : Nat) (z21 : Int) (z22 : Int) (z23 : Int) (z24 : Int) (z25 : Int) (z26 : Int) (z27 : Int) => k .ret (fS TN_fence_State_0_1 [.b z0, .c z1, .n z2, .i z3, .i z4, .i z5, .i z6, .i z7, .i z8, .i z9, .i z10, .b z11, .i z12, .b z13, .b z14, .b z15, .b z16, .b z17, .b z18, .c z19, .n z20, .i z21, .i z22, .i z23, .i z24, .i z25, .i z26, .i z27])) (atB (nth q 0)) (atC (nth q 1)) (atN (nth q 2)) (atI (nth q 3)) (atI (nth q 4)) (atI (nth q 5)) (atI (nth q 6)) (atI (nth q 7)) (atI (nth q 8)) (atI (nth q 9)) (atI (nth q 10)) (atB (nth q 11)) (atI (nth q 12)) (atB (nth q 13)) (atB (nth q 14)) (atB (nth q 15)) (atB (nth q 16)) (atC (nth q 17)) (atN (nth q 18)) (atI (nth q 19)) (atI (nth q 20)) (atI (nth q 21)) (atI (nth q 22)) (atI (nth q 23)) (atI (nth q 24)) (atI (nth q 25))⟩, ⟨8, 0, TN_fence_State_1, fun k q => N_fence_State_1 F (fun (z0 : Bool) (z1 : List VV) (z2 : Nat) (z3 : Int) (z4 : Int) (z5 : Int) (z6 : Int) (z7 : Int) (z8 : Int) (z9 : Int) (z10 : Int) (z11 : Bool) (z12 : Int) (z13 : Bool) (z14 : Bool) (z15 : Bool) (z16 : Bool) (z17 : Bool) (z18 : List VV) (z19 : Nat) (z20 : Int) (z21 : Int) (z22 : Int) (z23 : Int) (z24 : Int) (z25 : Int) (z26 : Int) => k .ret (fS TN_fence_State_1_0 [.b z0, .c z1, .n z2, .i z3, .i z4, .i z5, .i z6, .i z7, .i z8, .i z9, .i z10, .b z11, .i z12, .b z13, .b z14, .b z15, .b z16, .b z17, .c z18, .n z19, .i z20, .i z21, .i z22, .i z23, .i z24, .i z25, .i z26])) (fun (z0 : Bool) (z1 : List VV) (z2 : Nat) (z3 : Int) (z4 : Int) (z5 : Int) (z6 : Int) (z7 : Int) (z8 : Int) (z9 : Int) (z10 : Int) (z11 : Bool) (z12 : Int) (z13 : Bool) (z14 : Bool) (z15 : Bool) (z16 : Bool) (z17 : Bool) (z18 : Bool) (z19 : List VV) (z20 : Nat) (z21 : Int) (z22 : Int) (z23 : Int) (z24 : Int) (z25 : Int) (z26 : Int) (z27 : Int) => k .ret (fS TN_fence_State_1_1 [.b z0, .c z1, .n z2, .i z3, .i z4, .i z5, .i z6, .i z7, .i z8, .i z9, .i z10, .b z11, .i z12, .b z13, .b z14, .b z15, .b z16, .b z17, .b z18, .c z19, .n z20, .i z21, .i z22, .i z23, .i z24, .i z25, .i z26, .i z27])) (atB (nth q 0)) (atC (nth q 1)) (atN (nth q 2)) (atI (nth q 3)) (atI (nth q 4)) (atI (nth q 5)) (atI (nth q 6)) (atI (nth q 7)) (atI (nth q 8)) (atI (nth q 9)) (atI (nth q 10)) (atB (nth q 11)) (atI (nth q 12)) (atB (nth q 13)) (atB (nth q 14)) (atB (nth q 15)) (atB (nth q 16)) (atC (nth q 17)) (atN (nth q 18)) (atI (nth q 19)) (atI (nth q 20)) (atI (nth q 21)) (atI (nth q 22)) (atI (nth q 23)) (atI (nth q 24)) (atI (nth q 25))⟩]) (joinAt PP c_fence_State 13 1) 0 (fS TN_fence_State_0 [.b x0, .c x1, .n x2, .i x3, .i x4, .i x5, .i x6, .i x7, .i x8, .i x9, .i x10, .b x11, .i x12, .b x13, .b x14, .b x15, .b x16, .c x17, .n x18, .i x19, .i x20, .i x21, .i x22, .i x23, .i x24, .i x25]) k = (fun (ex0 : Bool → List VV → Nat → Int → Int → Int → Int → Int → Int → Int → Int → Bool → Int → Bool → Bool → Bool → Bool → Bool → List VV → Nat → Int → Int → Int → Int → Int → Int → Int → R) (ex1 : Bool → List VV → Nat → Int → Int → Int → Int → Int → Int → Int → Int → Bool → Int → Bool → Bool → Bool → Bool → Bool → Bool → List VV → Nat → Int → Int → Int → Int → Int → Int → Int → R) => (
  bif x14 then (
    bif x16 then (
      ex0 x0 x1 x2 x3 x4 x5 x6 x7 x8 0 x12 x11 x12 x13 x14 x15 true x16 x17 x18 x19 x20 x21 x22 x23 x24 x25)
    else (
      bif x15 then (
        bif ((!x16)) then (
          ex0 x0 x1 x2 x3 x4 x5 x6 x7 x8 0 x12 x11 x12 x13 x14 x15 true x16 x17 x18 x19 x20 x21 x22 x23 x24 x25)
        else (
          bif x14 then (
            ex1 x0 x1 x2 x3 x4 x5 x6 x7 x8 2 x12 x11 x12 x13 x14 x15 false true x16 x17 x18 x19 x20 x21 x22 x23 x24 x25)
          else (
            bif x15 then (
              ex1 x0 x1 x2 x3 x4 x5 x6 x7 x8 2 x12 x11 x12 x13 x14 x15 false true x16 x17 x18 x19 x20 x21 x22 x23 x24 x25)
            else (
              ex1 x0 x1 x2 x3 x4 x5 x6 x7 x8 1 x12 x11 x12 x13 x14 x15 false false x16 x17 x18 x19 x20 x21 x22 x23 x24 x25))))
      else (
        bif x14 then (
          ex1 x0 x1 x2 x3 x4 x5 x6 x7 x8 2 x12 x11 x12 x13 x14 x15 false true x16 x17 x18 x19 x20 x21 x22 x23 x24 x25)
        else (
          bif x15 then (
            ex1 x0 x1 x2 x3 x4 x5 x6 x7 x8 2 x12 x11 x12 x13 x14 x15 false true x16 x17 x18 x19 x20 x21 x22 x23 x24 x25)
          else (
            ex1 x0 x1 x2 x3 x4 x5 x6 x7 x8 1 x12 x11 x12 x13 x14 x15 false false x16 x17 x18 x19 x20 x21 x22 x23 x24 x25)))))
  else (
    bif x15 then (
      bif ((!x16)) then (
        ex0 x0 x1 x2 x3 x4 x5 x6 x7 x8 0 x12 x11 x12 x13 x14 x15 true x16 x17 x18 x19 x20 x21 x22 x23 x24 x25)
      else (
        bif x14 then (
          ex1 x0 x1 x2 x3 x4 x5 x6 x7 x8 2 x12 x11 x12 x13 x14 x15 false true x16 x17 x18 x19 x20 x21 x22 x23 x24 x25)
        else (
          bif x15 then (
            ex1 x0 x1 x2 x3 x4 x5 x6 x7 x8 2 x12 x11 x12 x13 x14 x15 false true x16 x17 x18 x19 x20 x21 x22 x23 x24 x25)
          else (
            ex1 x0 x1 x2 x3 x4 x5 x6 x7 x8 1 x12 x11 x12 x13 x14 x15 false false x16 x17 x18 x19 x20 x21 x22 x23 x24 x25))))
    else (
      bif x14 then (
        ex1 x0 x1 x2 x3 x4 x5 x6 x7 x8 2 x12 x11 x12 x13 x14 x15 false true x16 x17 x18 x19 x20 x21 x22 x23 x24 x25)
      else (
        bif x15 then (
          ex1 x0 x1 x2 x3 x4 x5 x6 x7 x8 2 x12 x11 x12 x13 x14 x15 false true x16 x17 x18 x19 x20 x21 x22 x23 x24 x25)
        else (
          ex1 x0 x1 x2 x3 x4 x5 x6 x7 x8 1 x12 x11 x12 x13 x14 x15 false false x16 x17 x18 x19 x20 x21 x22 x23 x24 x25)))) : R)) (fun (z0 : Bool) (z1 : List VV) (z2 : Nat) (z3 : Int) (z4 : Int) (z5 : Int) (z6 : Int) (z7 : Int) (z8 : Int) (z9 : Int) (z10 : Int) (z11 : Bool) (z12 : Int) (z13 : Bool) (z14 : Bool) (z15 : Bool) (z16 : Bool) (z17 : Bool) (z18 : List VV) (z19 : Nat) (z20 : Int) (z21 : Int) (z22 : Int) (z23 : Int) (z24 : Int) (z25 : Int) (z26 : Int) => k .ret (fS TN_fence_State_0_0 [.b z0, .c z1, .n z2, .i z3, .i z4, .i z5, .i z6, .i z7, .i z8, .i z9, .i z10, .b z11, .i z12, .b z13, .b z14, .b z15, .b z16, .b z17, .c z18, .n z19, .i z20, .i z21, .i z22, .i z23, .i z24, .i z25, .i z26])) (fun (z0 : Bool) (z1 : List VV) (z2 : Nat) (z3 : Int) (z4 : Int) (z5 : Int) (z6 : Int) (z7 : Int) (z8 : Int) (z9 : Int) (z10 : Int) (z11 : Bool) (z12 : Int) (z13 : Bool) (z14 : Bool) (z15 : Bool) (z16 : Bool) (z17 : Bool) (z18 : Bool) (z19 : List VV) (z20 : Nat) (z21 : Int) (z22 : Int) (z23 : Int) (z24 : Int) (z25 : Int) (z26 : Int) (z27 : Int) => k .ret (fS TN_fence_State_0_1 [.b z0, .c z1, .n z2, .i z3, .i z4, .i z5, .i z6, .i z7, .i z8, .i z9, .i z10, .b z11, .i z12, .b z13, .b z14, .b z15, .b z16, .b z17, .b z18, .c z19, .n z20, .i z21, .i z22, .i z23, .i z24, .i z25, .i z26, .i z27])) := by
    intros
    kernel_rfl
  exact (h0 ok_fence_Touches o_fence_Touches_0 o_fence_Touches_1 ok_fence_Within o_fence_Within_0 o_fence_Within_1 ok_fence_Zone_height o_fence_Zone_height_0 o_fence_Zone_height_1 N_fence_State_0 N_fence_State_1).trans (by kernel_rfl)
theorem nN_fence_State_1 (F : Nat) (k : Exit → VS → R) (x0 : Bool) (x1 : List VV) (x2 : Nat) (x3 : Int) (x4 : Int) (x5 : Int) (x6 : Int) (x7 : Int) (x8 : Int) (x9 : Int) (x10 : Int) (x11 : Bool) (x12 : Int) (x13 : Bool) (x14 : Bool) (x15 : Bool) (x16 : Bool) (x17 : List VV) (x18 : Nat) (x19 : Int) (x20 : Int) (x21 : Int) (x22 : Int) (x23 : Int) (x24 : Int) (x25 : Int) : codeL PP (S_fence_State F) c_fence_State (I_fence_State F) (J_fence_State F) (joinAt PP c_fence_State 13 0) 0 (fS TN_fence_State_1 [.b x0, .c x1, .n x2, .i x3, .i x4, .i x5, .i x6, .i x7, .i x8, .i x9, .i x10, .b x11, .i x12, .b x13, .b x14, .b x15, .b x16, .c x17, .n x18, .i x19, .i x20, .i x21, .i x22, .i x23, .i x24, .i x25]) k = N_fence_State_1 F (fun (z0 : Bool) (z1 : List VV) (z2 : Nat) (z3 : Int) (z4 : Int) (z5 : Int) (z6 : Int) (z7 : Int) (z8 : Int) (z9 : Int) (z10 : Int) (z11 : Bool) (z12 : Int) (z13 : Bool) (z14 : Bool) (z15 : Bool) (z16 : Bool) (z17 : Bool) (z18 : List VV) (z19 : Nat) (z20 : Int) (z21 : Int) (z22 : Int) (z23 : Int) (z24 : Int) (z25 : Int) (z26 : Int) => k .ret (fS TN_fence_State_1_0 [.b z0, .c z1, .n z2, .i z3, .i z4, .i z5, .i z6, .i z7, .i z8, .i z9, .i z10, .b z11, .i z12, .b z13, .b z14, .b z15, .b z16, .b z17, .c z18, .n z19, .i z20, .i z21, .i z22, .i z23, .i z24, .i z25, .i z26])) (fun (z0 : Bool) (z1 : List VV) (z2 : Nat) (z3 : Int) (z4 : Int) (z5 : Int) (z6 : Int) (z7 : Int) (z8 : Int) (z9 : Int) (z10 : Int) (z11 : Bool) (z12 : Int) (z13 : Bool) (z14 : Bool) (z15 : Bool) (z16 : Bool) (z17 : Bool) (z18 : Bool) (z19 : List VV) (z20 : Nat) (z21 : Int) (z22 : Int) (z23 : Int) (z24 : Int) (z25 : Int) (z26 : Int) (z27 : Int) => k .ret (fS TN_fence_State_1_1 [.b z0, .c z1, .n z2, .i z3, .i z4, .i z5, .i z6, .i z7, .i z8, .i z9, .i z10, .b z11, .i z12, .b z13, .b z14, .b z15, .b z16, .b z17, .b z18, .c z19, .n z20, .i z21, .i z22, .i z23, .i z24, .i z25, .i z26, .i z27])) x0 x1 x2 x3 x4 x5 x6 x7 x8 x9 x10 x11 x12 x13 x14 x15 x16 x17 x18 x19 x20 x21 x22 x23 x24 x25 := by
  have h0 : ∀ (ok_fence_Touches : Nat → Bool → List VV → Nat → Nat → Int → Int → Int → Int → Int → Bool) (o_fence_Touches_0 : Nat → Bool → List VV → Nat → Nat → Int → Int → Int → Int → Int → Bool) (o_fence_Touches_1 : Nat → Bool → List VV → Nat → Nat → Int → Int → Int → Int → Int → Int) (ok_fence_Within : Nat → Bool → List VV → Nat → Nat → Int → Int → Int → Int → Bool) (o_fence_Within_0 : Nat → Bool → List VV → Nat → Nat → Int → Int → Int → Int → Bool) (o_fence_Within_1 : Nat → Bool → List VV → Nat → Nat → Int → Int → Int → Int → Int) (ok_fence_Zone_height : Nat → Bool → List VV → Nat → Int → Int → Int → Int → Bool) (o_fence_Zone_height_0 : Nat → Bool → List VV → Nat → Int → Int → Int → Int → Bool) (o_fence_Zone_height_1 : Nat → Bool → List VV → Nat → Int → Int → Int → Int → Bool) (N_fence_State_0 : Nat → (Bool → List VV → Nat → Int → Int → Int → Int → Int → Int → Int → Int → Bool → Int → Bool → Bool → Bool → Bool → Bool → List VV → Nat → Int → Int → Int → Int → Int → Int → Int → R) → (Bool → List VV → Nat → Int → Int → Int → Int → Int → Int → Int → Int → Bool → Int → Bool → Bool → Bool → Bool → Bool → Bool → List VV → Nat → Int → Int → Int → Int → Int → Int → Int → R) → Bool → List VV → Nat → Int → Int → Int → Int → Int → Int → Int → Int → Bool → Int → Bool → Bool → Bool → Bool → List VV → Nat → Int → Int → Int → Int → Int → Int → Int → R) (N_fence_State_1 : Nat → (Bool → List VV → Nat → Int → Int → Int → Int → Int → Int → Int → Int → Bool → Int → Bool → Bool → Bool → Bool → Bool → List VV → Nat → Int → Int → Int → Int → Int → Int → Int → R) → (Bool → List VV → Nat → Int → Int → Int → Int → Int → Int → Int → Int → Bool → Int → Bool → Bool → Bool → Bool → Bool → Bool → List VV → Nat → Int → Int → Int → Int → Int → Int → Int → R) → Bool → List VV → Nat → Int → Int → Int → Int → Int → Int → Int → Int → Bool → Int → Bool → Bool → Bool → Bool → List VV → Nat → Int → Int → Int → Int → Int → Int → Int → R), codeL PP (words [(11, spec ti_fence_Touches to_fence_Touches (fun q => (ok_fence_Touches F (atB (nth q 0)) (atC (nth q 1)) (atN (nth q 2)) (atN (nth q 3)) (atI (nth q 4)) (atI (nth q 5)) (atI (nth q 6)) (atI (nth q 7)) (atI (nth q 8)))) (fun q => [.b (o_fence_Touches_0 F (atB (nth q 0)) (atC (nth q 1)) (atN (nth q 2)) (atN (nth q 3)) (atI (nth q 4)) (atI (nth q 5)) (atI (nth q 6)) (atI (nth q 7)) (atI (nth q 8))), .i (o_fence_Touches_1 F (atB (nth q 0)) (atC (nth q 1)) (atN (nth q 2)) (atN (nth q 3)) (atI (nth q 4)) (atI (nth q 5)) (atI (nth q 6)) (atI (nth q 7)) (atI (nth q 8)))])), (8, spec ti_fence_Within to_fence_Within (fun q => (ok_fence_Within F (atB (nth q 0)) (atC (nth q 1)) (atN (nth q 2)) (atN (nth q 3)) (atI (nth q 4)) (atI (nth q 5)) (atI (nth q 6)) (atI (nth q 7)))) (fun q => [.b (o_fence_Within_0 F (atB (nth q 0)) (atC (nth q 1)) (atN (nth q 2)) (atN (nth q 3)) (atI (nth q 4)) (atI (nth q 5)) (atI (nth q 6)) (atI (nth q 7))), .i (o_fence_Within_1 F (atB (nth q 0)) (atC (nth q 1)) (atN (nth q 2)) (atN (nth q 3)) (atI (nth q 4)) (atI (nth q 5)) (atI (nth q 6)) (atI (nth q 7)))])), (28, spec ti_fence_Zone_height to_fence_Zone_height (fun q => (ok_fence_Zone_height F (atB (nth q 0)) (atC (nth q 1)) (atN (nth q 2)) (atI (nth q 3)) (atI (nth q 4)) (atI (nth q 5)) (atI (nth q 6)))) (fun q => [.b (o_fence_Zone_height_0 F (atB (nth q 0)) (atC (nth q 1)) (atN (nth q 2)) (atI (nth q 3)) (atI (nth q 4)) (atI (nth q 5)) (atI (nth q 6))), .b (o_fence_Zone_height_1 F (atB (nth q 0)) (atC (nth q 1)) (atN (nth q 2)) (atI (nth q 3)) (atI (nth q 4)) (atI (nth q 5)) (atI (nth q 6)))]))]) c_fence_State (tabI c_fence_State []) (tabJ [⟨9, 0, TN_fence_State_0, fun k q => N_fence_State_0 F (fun (z0 : Bool) (z1 : List VV) (z2 : Nat) (z3 : Int) (z4 : Int) (z5 : Int) (z6 : Int) (z7 : Int) (z8 : Int) (z9 : Int) (z10 : Int) (z11 : Bool) (z12 : Int) (z13 : Bool) (z14 : Bool) (z15 : Bool) (z16 : Bool) (z17 : Bool) (z18 : List VV) (z19 : Nat) (z20 : Int) (z21 : Int) (z22 : Int) (z23 : Int) (z24 : Int) (z25 : Int) (z26 : Int) => k .ret (fS TN_fence_State_0_0 [.b z0, .c z1, .n z2, .i z3, .i z4, .i z5, .i z6, .i z7, .i z8, .i z9, .i z10, .b z11, .i z12, .b z13, .b z14, .b z15, .b z16, .b z17, .c z18, .n z19, .i z20, .i z21, .i z22, .i z23, .i z24, .i z25, .i z26])) (fun (z0 : Bool) (z1 : List VV) (z2 : Nat) (z3 : Int) (z4 : Int) (z5 : Int) (z6 : Int) (z7 : Int) (z8 : Int) (z9 : Int) (z10 : Int) (z11 : Bool) (z12 : Int) (z13 : Bool) (z14 : Bool) (z15 : Bool) (z16 : Bool) (z17 : Bool) (z18 : Bool) (z19 : List VV) (z20 : Nat) (z21 : Int) (z22 : Int) (z23 : Int) (z24 : Int) (z25 : Int) (z26 : Int) (z27 : Int) => k .ret (fS TN_fence_State_0_1 [.b z0, .c z1, .n z2, .i z3, .i z4, .i z5, .i z6, .i z7, .i z8, .i z9, .i z10, .b z11, .i z12, .b z13, .b z14, .b z15, .b z16, .b z17, .b z18, .c z19, .n z20, .i z21, .i z22, .i z23, .i z24, .i z25, .i z26, .i z27])) (atB (nth q 0)) (atC (nth q 1)) (atN (nth q 2)) (atI (nth q 3)) (atI (nth q 4)) (atI (nth q 5)) (atI (nth q 6)) (atI (nth q 7)) (atI (nth q 8)) (atI (nth q 9)) (atI (nth q 10)) (atB (nth q 11)) (atI (nth q 12)) (atB (nth q 13)) (atB (nth q 14)) (atB (nth q 15)) (atB (nth q 16)) (atC (nth q 17)) (atN (nth q 18)) (atI (nth q 19)) (atI (nth q 20)) (atI (nth q 21)) (atI (nth q 22)) (atI (nth q 23)) (atI (nth q 24)) (atI (nth q 25))⟩, ⟨8, 0, TN_fence_State_1, fun k q => N_fence_State_1 F (fun (z0 : Bool) (z1 : List VV) (z2 : Nat) (z3 : Int) (z4 : Int) (z5 : Int) (z6 : Int) (z7 : Int) (z8 : Int) (z9 : Int) (z10 : Int) (z11 : Bool) (z12 : Int) (z13 : Bool) (z14 : Bool) (z15 : Bool) (z16 : Bool) (z17 : Bool) (z18 : List VV) (z19 : Nat) (z20 : Int) (z21 : Int) (z22 : Int) (z23 : Int) (z24 : Int) (z25 : Int) (z26 : Int) => k .ret (fS TN_fence_State_1_0 [.b z0, .c z1, .n z2, .i z3, .i z4, .i z5, .i z6, .i z7, .i z8, .i z9, .i z10, .b z11, .i z12, .b z13, .b z14, .b z15, .b z16, .b z17, .c z18, .n z19, .i z20, .i z21, .i z22, .i z23, .i z24, .i z25, .i z26])) (fun (z0 : Bool) (z1 : List VV) (z2 : Nat) (z3 : Int) (z4 : Int) (z5 : Int) (z6 : Int) (z7 : Int) (z8 : Int) (z9 : Int) (z10 : Int) (z11 : Bool) (z12 : Int) (z13 : Bool) (z14 : Bool) (z15 : Bool) (z16 : Bool) (z17 : Bool) (z18 : Bool) (z19 : List VV) (z20 : Nat) (z21 : Int) (z22 : Int) (z23 : Int) (z24 : Int) (z25 : Int) (z26 : Int) (z27 : Int) => k .ret (fS TN_fence_State_1_1 [.b z0, .c z1, .n z2, .i z3, .i z4, .i z5, .i z6, .i z7, .i z8, .i z9, .i z10, .b z11, .i z12, .b z13, .b z14, .b z15, .b z16, .b z17, .b z18, .c z19, .n z20, .i z21, .i z22, .i z23, .i z24, .i z25, .i z26, .i z27])) (atB (nth q 0)) (atC (nth q 1)) (atN (nth q 2)) (atI (nth q 3)) (atI (nth q 4)) (atI (nth q 5)) (atI (nth q 6)) (atI (nth q 7)) (atI (nth q 8)) (atI (nth q 9)) (atI (nth q 10)) (atB (nth q 11)) (atI (nth q 12)) (atB (nth q 13)) (atB (nth q 14)) (atB (nth q 15)) (atB (nth q 16)) (atC (nth q 17)) (atN (nth q 18)) (atI (nth q 19)) (atI (nth q 20)) (atI (nth q 21)) (atI (nth q 22)) (atI (nth q 23)) (atI (nth q 24)) (atI (nth q 25))⟩]) (joinAt PP c_fence_State 13 0) 0 (fS TN_fence_State_1 [.b x0, .c x1, .n x2, .i x3, .i x4, .i x5, .i x6, .i x7, .i x8, .i x9, .i x10, .b x11, .i x12, .b x13, .b x14, .b x15, .b x16, .c x17, .n x18, .i x19, .i x20, .i x21, .i x22, .i x23, .i x24, .i x25]) k = (fun (ex0 : Bool → List VV → Nat → Int → Int → Int → Int → Int → Int → Int → Int → Bool → Int → Bool → Bool → Bool → Bool → Bool → List VV → Nat → Int → Int → Int → Int → Int → Int → Int → R) (ex1 : Bool → List VV → Nat → Int → Int → Int → Int → Int → Int → Int → Int → Bool → Int → Bool → Bool → Bool → Bool → Bool → Bool → List VV → Nat → Int → Int → Int → Int → Int → Int → Int → R) => (
  bif x15 then (
    N_fence_State_0 F (fun (v1027 : Bool) (v1028 : List VV) (v1029 : Nat) (v1030 : Int) (v1031 : Int) (v1032 : Int) (v1033 : Int) (v1034 : Int) (v1035 : Int) (v1036 : Int) (v1037 : Int) (v1038 : Bool) (v1039 : Int) (v1040 : Bool) (v1041 : Bool) (v1042 : Bool) (v1043 : Bool) (v1044 : Bool) (v1045 : List VV) (v1046 : Nat) (v1047 : Int) (v1048 : Int) (v1049 : Int) (v1050 : Int) (v1051 : Int) (v1052 : Int) (v1053 : Int) =>
      ex0 v1027 v1028 v1029 v1030 v1031 v1032 v1033 v1034 v1035 v1036 v1037 v1038 v1039 v1040 v1041 v1042 v1043 v1044 v1045 v1046 v1047 v1048 v1049 v1050 v1051 v1052 v1053) (fun (v1054 : Bool) (v1055 : List VV) (v1056 : Nat) (v1057 : Int) (v1058 : Int) (v1059 : Int) (v1060 : Int) (v1061 : Int) (v1062 : Int) (v1063 : Int) (v1064 : Int) (v1065 : Bool) (v1066 : Int) (v1067 : Bool) (v1068 : Bool) (v1069 : Bool) (v1070 : Bool) (v1071 : Bool) (v1072 : Bool) (v1073 : List VV) (v1074 : Nat) (v1075 : Int) (v1076 : Int) (v1077 : Int) (v1078 : Int) (v1079 : Int) (v1080 : Int) (v1081 : Int) =>
      ex1 v1054 v1055 v1056 v1057 v1058 v1059 v1060 v1061 v1062 v1063 v1064 v1065 v1066 v1067 v1068 v1069 v1070 v1071 v1072 v1073 v1074 v1075 v1076 v1077 v1078 v1079 v1080 v1081) x0 x1 x2 x3 x4 x5 x6 x7 x8 x9 x10 x11 x12 x13 x14 true x16 x17 x18 x19 x20 x21 x22 x23 x24 x25)
  else (
    bif ((!x13)) then (
      N_fence_State_0 F (fun (v1084 : Bool) (v1085 : List VV) (v1086 : Nat) (v1087 : Int) (v1088 : Int) (v1089 : Int) (v1090 : Int) (v1091 : Int) (v1092 : Int) (v1093 : Int) (v1094 : Int) (v1095 : Bool) (v1096 : Int) (v1097 : Bool) (v1098 : Bool) (v1099 : Bool) (v1100 : Bool) (v1101 : Bool) (v1102 : List VV) (v1103 : Nat) (v1104 : Int) (v1105 : Int) (v1106 : Int) (v1107 : Int) (v1108 : Int) (v1109 : Int) (v1110 : Int) =>
        ex0 v1084 v1085 v1086 v1087 v1088 v1089 v1090 v1091 v1092 v1093 v1094 v1095 v1096 v1097 v1098 v1099 v1100 v1101 v1102 v1103 v1104 v1105 v1106 v1107 v1108 v1109 v1110) (fun (v1111 : Bool) (v1112 : List VV) (v1113 : Nat) (v1114 : Int) (v1115 : Int) (v1116 : Int) (v1117 : Int) (v1118 : Int) (v1119 : Int) (v1120 : Int) (v1121 : Int) (v1122 : Bool) (v1123 : Int) (v1124 : Bool) (v1125 : Bool) (v1126 : Bool) (v1127 : Bool) (v1128 : Bool) (v1129 : Bool) (v1130 : List VV) (v1131 : Nat) (v1132 : Int) (v1133 : Int) (v1134 : Int) (v1135 : Int) (v1136 : Int) (v1137 : Int) (v1138 : Int) =>
        ex1 v1111 v1112 v1113 v1114 v1115 v1116 v1117 v1118 v1119 v1120 v1121 v1122 v1123 v1124 v1125 v1126 v1127 v1128 v1129 v1130 v1131 v1132 v1133 v1134 v1135 v1136 v1137 v1138) x0 x1 x2 x3 x4 x5 x6 x7 x8 x9 x10 x11 x12 x13 x14 ((!x11)) x16 x17 x18 x19 x20 x21 x22 x23 x24 x25)
    else (
      N_fence_State_0 F (fun (v1139 : Bool) (v1140 : List VV) (v1141 : Nat) (v1142 : Int) (v1143 : Int) (v1144 : Int) (v1145 : Int) (v1146 : Int) (v1147 : Int) (v1148 : Int) (v1149 : Int) (v1150 : Bool) (v1151 : Int) (v1152 : Bool) (v1153 : Bool) (v1154 : Bool) (v1155 : Bool) (v1156 : Bool) (v1157 : List VV) (v1158 : Nat) (v1159 : Int) (v1160 : Int) (v1161 : Int) (v1162 : Int) (v1163 : Int) (v1164 : Int) (v1165 : Int) =>
        ex0 v1139 v1140 v1141 v1142 v1143 v1144 v1145 v1146 v1147 v1148 v1149 v1150 v1151 v1152 v1153 v1154 v1155 v1156 v1157 v1158 v1159 v1160 v1161 v1162 v1163 v1164 v1165) (fun (v1166 : Bool) (v1167 : List VV) (v1168 : Nat) (v1169 : Int) (v1170 : Int) (v1171 : Int) (v1172 : Int) (v1173 : Int) (v1174 : Int) (v1175 : Int) (v1176 : Int) (v1177 : Bool) (v1178 : Int) (v1179 : Bool) (v1180 : Bool) (v1181 : Bool) (v1182 : Bool) (v1183 : Bool) (v1184 : Bool) (v1185 : List VV) (v1186 : Nat) (v1187 : Int) (v1188 : Int) (v1189 : Int) (v1190 : Int) (v1191 : Int) (v1192 : Int) (v1193 : Int) =>
        ex1 v1166 v1167 v1168 v1169 v1170 v1171 v1172 v1173 v1174 v1175 v1176 v1177 v1178 v1179 v1180 v1181 v1182 v1183 v1184 v1185 v1186 v1187 v1188 v1189 v1190 v1191 v1192 v1193) x0 x1 x2 x3 x4 x5 x6 x7 x8 x9 x10 x11 x12 x13 x14 false x16 x17 x18 x19 x20 x21 x22 x23 x24 x25)) : R)) (fun (z0 : Bool) (z1 : List VV) (z2 : Nat) (z3 : Int) (z4 : Int) (z5 : Int) (z6 : Int) (z7 : Int) (z8 : Int) (z9 : Int) (z10 : Int) (z11 : Bool) (z12 : Int) (z13 : Bool) (z14 : Bool) (z15 : Bool) (z16 : Bool) (z17 : Bool) (z18 : List VV) (z19 : Nat) (z20 : Int) (z21 : Int) (z22 : Int) (z23 : Int) (z24 : Int) (z25 : Int) (z26 : Int) => k .ret (fS TN_fence_State_1_0 [.b z0, .c z1, .n z2, .i z3, .i z4, .i z5, .i z6, .i z7, .i z8, .i z9, .i z10, .b z11, .i z12, .b z13, .b z14, .b z15, .b z16, .b z17, .c z18, .n z19, .i z20, .i z21, .i z22, .i z23, .i z24, .i z25, .i z26])) (fun (z0 : Bool) (z1 : List VV) (z2 : Nat) (z3 : Int) (z4 : Int) (z5 : Int) (z6 : Int) (z7 : Int) (z8 : Int) (z9 : Int) (z10 : Int) (z11 : Bool) (z12 : Int) (z13 : Bool) (z14 : Bool) (z15 : Bool) (z16 : Bool) (z17 : Bool) (z18 : Bool) (z19 : List VV) (z20 : Nat) (z21 : Int) (z22 : Int) (z23 : Int) (z24 : Int) (z25 : Int) (z26 : Int) (z27 : Int) => k .ret (fS TN_fence_State_1_1 [.b z0, .c z1, .n z2, .i z3, .i z4, .i z5, .i z6, .i z7, .i z8, .i z9, .i z10, .b z11, .i z12, .b z13, .b z14, .b z15, .b z16, .b z17, .b z18, .c z19, .n z20, .i z21, .i z22, .i z23, .i z24, .i z25, .i z26, .i z27])) := by
    intros
    kernel_rfl
  exact (h0 ok_fence_Touches o_fence_Touches_0 o_fence_Touches_1 ok_fence_Within o_fence_Within_0 o_fence_Within_1 ok_fence_Zone_height o_fence_Zone_height_0 o_fence_Zone_height_1 N_fence_State_0 N_fence_State_1).trans (by kernel_rfl)
def f_fence_State (F : Nat) (a0 : Bool) (a1 : List VV) (a2 : Nat) (a3 : Int) (a4 : Int) (a5 : Int) (a6 : Int) (a7 : Int) (a8 : Int) : R :=
  bif (ok_fence_Touches F a0 a1 0 a2 a3 a4 a5 a6 a8) then (
    let v935 : Bool := (o_fence_Touches_0 F a0 a1 0 a2 a3 a4 a5 a6 a8)
    let v936 : Int := (o_fence_Touches_1 F a0 a1 0 a2 a3 a4 a5 a6 a8)
    bif ((v936 != 0)) then (
      some (.v (.tuple #[.int .i64 0, .int .i64 v936])))
    else (
      bif (ok_fence_Within F a0 a1 0 a2 a3 a4 a5 a6) then (
        let v938 : Bool := (o_fence_Within_0 F a0 a1 0 a2 a3 a4 a5 a6)
        bif (ok_fence_Zone_height F a0 a1 a2 a3 a4 a7 a8) then (
          let v971 : Bool := (o_fence_Zone_height_1 F a0 a1 a2 a3 a4 a7 a8)
          bif ((o_fence_Zone_height_0 F a0 a1 a2 a3 a4 a7 a8)) then (
            bif v938 then (
              N_fence_State_1 F (fun (v1194 : Bool) (v1195 : List VV) (v1196 : Nat) (v1197 : Int) (v1198 : Int) (v1199 : Int) (v1200 : Int) (v1201 : Int) (v1202 : Int) (v1203 : Int) (v1204 : Int) (v1205 : Bool) (v1206 : Int) (v1207 : Bool) (v1208 : Bool) (v1209 : Bool) (v1210 : Bool) (v1211 : Bool) (v1212 : List VV) (v1213 : Nat) (v1214 : Int) (v1215 : Int) (v1216 : Int) (v1217 : Int) (v1218 : Int) (v1219 : Int) (v1220 : Int) =>
                some (.v (.tuple #[.int .i64 v1203, .int .i64 v1204]))) (fun (v1221 : Bool) (v1222 : List VV) (v1223 : Nat) (v1224 : Int) (v1225 : Int) (v1226 : Int) (v1227 : Int) (v1228 : Int) (v1229 : Int) (v1230 : Int) (v1231 : Int) (v1232 : Bool) (v1233 : Int) (v1234 : Bool) (v1235 : Bool) (v1236 : Bool) (v1237 : Bool) (v1238 : Bool) (v1239 : Bool) (v1240 : List VV) (v1241 : Nat) (v1242 : Int) (v1243 : Int) (v1244 : Int) (v1245 : Int) (v1246 : Int) (v1247 : Int) (v1248 : Int) =>
                some (.v (.tuple #[.int .i64 v1230, .int .i64 v1231]))) a0 a1 a2 a3 a4 a5 a6 a7 a8 0 0 v935 v936 v938 ((!v935)) v971 a0 a1 a2 a3 a4 a5 a6 a7 a5 a6)
            else (
              N_fence_State_1 F (fun (v1249 : Bool) (v1250 : List VV) (v1251 : Nat) (v1252 : Int) (v1253 : Int) (v1254 : Int) (v1255 : Int) (v1256 : Int) (v1257 : Int) (v1258 : Int) (v1259 : Int) (v1260 : Bool) (v1261 : Int) (v1262 : Bool) (v1263 : Bool) (v1264 : Bool) (v1265 : Bool) (v1266 : Bool) (v1267 : List VV) (v1268 : Nat) (v1269 : Int) (v1270 : Int) (v1271 : Int) (v1272 : Int) (v1273 : Int) (v1274 : Int) (v1275 : Int) =>
                some (.v (.tuple #[.int .i64 v1258, .int .i64 v1259]))) (fun (v1276 : Bool) (v1277 : List VV) (v1278 : Nat) (v1279 : Int) (v1280 : Int) (v1281 : Int) (v1282 : Int) (v1283 : Int) (v1284 : Int) (v1285 : Int) (v1286 : Int) (v1287 : Bool) (v1288 : Int) (v1289 : Bool) (v1290 : Bool) (v1291 : Bool) (v1292 : Bool) (v1293 : Bool) (v1294 : Bool) (v1295 : List VV) (v1296 : Nat) (v1297 : Int) (v1298 : Int) (v1299 : Int) (v1300 : Int) (v1301 : Int) (v1302 : Int) (v1303 : Int) =>
                some (.v (.tuple #[.int .i64 v1285, .int .i64 v1286]))) a0 a1 a2 a3 a4 a5 a6 a7 a8 0 0 v935 v936 v938 false v971 a0 a1 a2 a3 a4 a5 a6 a7 a5 a6))
          else (
            N_fence_State_1 F (fun (v1304 : Bool) (v1305 : List VV) (v1306 : Nat) (v1307 : Int) (v1308 : Int) (v1309 : Int) (v1310 : Int) (v1311 : Int) (v1312 : Int) (v1313 : Int) (v1314 : Int) (v1315 : Bool) (v1316 : Int) (v1317 : Bool) (v1318 : Bool) (v1319 : Bool) (v1320 : Bool) (v1321 : Bool) (v1322 : List VV) (v1323 : Nat) (v1324 : Int) (v1325 : Int) (v1326 : Int) (v1327 : Int) (v1328 : Int) (v1329 : Int) (v1330 : Int) =>
              some (.v (.tuple #[.int .i64 v1313, .int .i64 v1314]))) (fun (v1331 : Bool) (v1332 : List VV) (v1333 : Nat) (v1334 : Int) (v1335 : Int) (v1336 : Int) (v1337 : Int) (v1338 : Int) (v1339 : Int) (v1340 : Int) (v1341 : Int) (v1342 : Bool) (v1343 : Int) (v1344 : Bool) (v1345 : Bool) (v1346 : Bool) (v1347 : Bool) (v1348 : Bool) (v1349 : Bool) (v1350 : List VV) (v1351 : Nat) (v1352 : Int) (v1353 : Int) (v1354 : Int) (v1355 : Int) (v1356 : Int) (v1357 : Int) (v1358 : Int) =>
              some (.v (.tuple #[.int .i64 v1340, .int .i64 v1341]))) a0 a1 a2 a3 a4 a5 a6 a7 a8 0 0 v935 v936 v938 false v971 a0 a1 a2 a3 a4 a5 a6 a7 a5 a6))
        else (
          none))
      else (
        none)))
  else (
    none)
theorem e_fence_State (F : Nat) (a0 : Bool) (a1 : List VV) (a2 : Nat) (a3 : Int) (a4 : Int) (a5 : Int) (a6 : Int) (a7 : Int) (a8 : Int) : funL PP (S_fence_State F) c_fence_State (I_fence_State F) (J_fence_State F) 13 (fTs ti_fence_State [.b a0, .c a1, .n a2, .i a3, .i a4, .i a5, .i a6, .i a7, .i a8]).1 = f_fence_State F a0 a1 a2 a3 a4 a5 a6 a7 a8 := by
  have h : ∀ (ok_fence_Touches : Nat → Bool → List VV → Nat → Nat → Int → Int → Int → Int → Int → Bool) (o_fence_Touches_0 : Nat → Bool → List VV → Nat → Nat → Int → Int → Int → Int → Int → Bool) (o_fence_Touches_1 : Nat → Bool → List VV → Nat → Nat → Int → Int → Int → Int → Int → Int) (ok_fence_Within : Nat → Bool → List VV → Nat → Nat → Int → Int → Int → Int → Bool) (o_fence_Within_0 : Nat → Bool → List VV → Nat → Nat → Int → Int → Int → Int → Bool) (o_fence_Within_1 : Nat → Bool → List VV → Nat → Nat → Int → Int → Int → Int → Int) (ok_fence_Zone_height : Nat → Bool → List VV → Nat → Int → Int → Int → Int → Bool) (o_fence_Zone_height_0 : Nat → Bool → List VV → Nat → Int → Int → Int → Int → Bool) (o_fence_Zone_height_1 : Nat → Bool → List VV → Nat → Int → Int → Int → Int → Bool) (N_fence_State_0 : Nat → (Bool → List VV → Nat → Int → Int → Int → Int → Int → Int → Int → Int → Bool → Int → Bool → Bool → Bool → Bool → Bool → List VV → Nat → Int → Int → Int → Int → Int → Int → Int → R) → (Bool → List VV → Nat → Int → Int → Int → Int → Int → Int → Int → Int → Bool → Int → Bool → Bool → Bool → Bool → Bool → Bool → List VV → Nat → Int → Int → Int → Int → Int → Int → Int → R) → Bool → List VV → Nat → Int → Int → Int → Int → Int → Int → Int → Int → Bool → Int → Bool → Bool → Bool → Bool → List VV → Nat → Int → Int → Int → Int → Int → Int → Int → R) (N_fence_State_1 : Nat → (Bool → List VV → Nat → Int → Int → Int → Int → Int → Int → Int → Int → Bool → Int → Bool → Bool → Bool → Bool → Bool → List VV → Nat → Int → Int → Int → Int → Int → Int → Int → R) → (Bool → List VV → Nat → Int → Int → Int → Int → Int → Int → Int → Int → Bool → Int → Bool → Bool → Bool → Bool → Bool → Bool → List VV → Nat → Int → Int → Int → Int → Int → Int → Int → R) → Bool → List VV → Nat → Int → Int → Int → Int → Int → Int → Int → Int → Bool → Int → Bool → Bool → Bool → Bool → List VV → Nat → Int → Int → Int → Int → Int → Int → Int → R), funL PP (words [(11, spec ti_fence_Touches to_fence_Touches (fun q => (ok_fence_Touches F (atB (nth q 0)) (atC (nth q 1)) (atN (nth q 2)) (atN (nth q 3)) (atI (nth q 4)) (atI (nth q 5)) (atI (nth q 6)) (atI (nth q 7)) (atI (nth q 8)))) (fun q => [.b (o_fence_Touches_0 F (atB (nth q 0)) (atC (nth q 1)) (atN (nth q 2)) (atN (nth q 3)) (atI (nth q 4)) (atI (nth q 5)) (atI (nth q 6)) (atI (nth q 7)) (atI (nth q 8))), .i (o_fence_Touches_1 F (atB (nth q 0)) (atC (nth q 1)) (atN (nth q 2)) (atN (nth q 3)) (atI (nth q 4)) (atI (nth q 5)) (atI (nth q 6)) (atI (nth q 7)) (atI (nth q 8)))])), (8, spec ti_fence_Within to_fence_Within (fun q => (ok_fence_Within F (atB (nth q 0)) (atC (nth q 1)) (atN (nth q 2)) (atN (nth q 3)) (atI (nth q 4)) (atI (nth q 5)) (atI (nth q 6)) (atI (nth q 7)))) (fun q => [.b (o_fence_Within_0 F (atB (nth q 0)) (atC (nth q 1)) (atN (nth q 2)) (atN (nth q 3)) (atI (nth q 4)) (atI (nth q 5)) (atI (nth q 6)) (atI (nth q 7))), .i (o_fence_Within_1 F (atB (nth q 0)) (atC (nth q 1)) (atN (nth q 2)) (atN (nth q 3)) (atI (nth q 4)) (atI (nth q 5)) (atI (nth q 6)) (atI (nth q 7)))])), (28, spec ti_fence_Zone_height to_fence_Zone_height (fun q => (ok_fence_Zone_height F (atB (nth q 0)) (atC (nth q 1)) (atN (nth q 2)) (atI (nth q 3)) (atI (nth q 4)) (atI (nth q 5)) (atI (nth q 6)))) (fun q => [.b (o_fence_Zone_height_0 F (atB (nth q 0)) (atC (nth q 1)) (atN (nth q 2)) (atI (nth q 3)) (atI (nth q 4)) (atI (nth q 5)) (atI (nth q 6))), .b (o_fence_Zone_height_1 F (atB (nth q 0)) (atC (nth q 1)) (atN (nth q 2)) (atI (nth q 3)) (atI (nth q 4)) (atI (nth q 5)) (atI (nth q 6)))]))]) c_fence_State (tabI c_fence_State []) (tabJ [⟨9, 0, TN_fence_State_0, fun k q => N_fence_State_0 F (fun (z0 : Bool) (z1 : List VV) (z2 : Nat) (z3 : Int) (z4 : Int) (z5 : Int) (z6 : Int) (z7 : Int) (z8 : Int) (z9 : Int) (z10 : Int) (z11 : Bool) (z12 : Int) (z13 : Bool) (z14 : Bool) (z15 : Bool) (z16 : Bool) (z17 : Bool) (z18 : List VV) (z19 : Nat) (z20 : Int) (z21 : Int) (z22 : Int) (z23 : Int) (z24 : Int) (z25 : Int) (z26 : Int) => k .ret (fS TN_fence_State_0_0 [.b z0, .c z1, .n z2, .i z3, .i z4, .i z5, .i z6, .i z7, .i z8, .i z9, .i z10, .b z11, .i z12, .b z13, .b z14, .b z15, .b z16, .b z17, .c z18, .n z19, .i z20, .i z21, .i z22, .i z23, .i z24, .i z25, .i z26])) (fun (z0 : Bool) (z1 : List VV) (z2 : Nat) (z3 : Int) (z4 : Int) (z5 : Int) (z6 : Int) (z7 : Int) (z8 : Int) (z9 : Int) (z10 : Int) (z11 : Bool) (z12 : Int) (z13 : Bool) (z14 : Bool) (z15 : Bool) (z16 : Bool) (z17 : Bool) (z18 : Bool) (z19 : List VV) (z20 : Nat) (z21 : Int) (z22 : Int) (z23 : Int) (z24 : Int) (z25 : Int) (z26 : Int) (z27 : Int) => k .ret (fS TN_fence_State_0_1 [.b z0, .c z1, .n z2, .i z3, .i z4, .i z5, .i z6, .i z7, .i z8, .i z9, .i z10, .b z11, .i z12, .b z13, .b z14, .b z15, .b z16, .b z17, .b z18, .c z19, .n z20, .i z21, .i z22, .i z23, .i z24, .i z25, .i z26, .i z27])) (atB (nth q 0)) (atC (nth q 1)) (atN (nth q 2)) (atI (nth q 3)) (atI (nth q 4)) (atI (nth q 5)) (atI (nth q 6)) (atI (nth q 7)) (atI (nth q 8)) (atI (nth q 9)) (atI (nth q 10)) (atB (nth q 11)) (atI (nth q 12)) (atB (nth q 13)) (atB (nth q 14)) (atB (nth q 15)) (atB (nth q 16)) (atC (nth q 17)) (atN (nth q 18)) (atI (nth q 19)) (atI (nth q 20)) (atI (nth q 21)) (atI (nth q 22)) (atI (nth q 23)) (atI (nth q 24)) (atI (nth q 25))⟩, ⟨8, 0, TN_fence_State_1, fun k q => N_fence_State_1 F (fun (z0 : Bool) (z1 : List VV) (z2 : Nat) (z3 : Int) (z4 : Int) (z5 : Int) (z6 : Int) (z7 : Int) (z8 : Int) (z9 : Int) (z10 : Int) (z11 : Bool) (z12 : Int) (z13 : Bool) (z14 : Bool) (z15 : Bool) (z16 : Bool) (z17 : Bool) (z18 : List VV) (z19 : Nat) (z20 : Int) (z21 : Int) (z22 : Int) (z23 : Int) (z24 : Int) (z25 : Int) (z26 : Int) => k .ret (fS TN_fence_State_1_0 [.b z0, .c z1, .n z2, .i z3, .i z4, .i z5, .i z6, .i z7, .i z8, .i z9, .i z10, .b z11, .i z12, .b z13, .b z14, .b z15, .b z16, .b z17, .c z18, .n z19, .i z20, .i z21, .i z22, .i z23, .i z24, .i z25, .i z26])) (fun (z0 : Bool) (z1 : List VV) (z2 : Nat) (z3 : Int) (z4 : Int) (z5 : Int) (z6 : Int) (z7 : Int) (z8 : Int) (z9 : Int) (z10 : Int) (z11 : Bool) (z12 : Int) (z13 : Bool) (z14 : Bool) (z15 : Bool) (z16 : Bool) (z17 : Bool) (z18 : Bool) (z19 : List VV) (z20 : Nat) (z21 : Int) (z22 : Int) (z23 : Int) (z24 : Int) (z25 : Int) (z26 : Int) (z27 : Int) => k .ret (fS TN_fence_State_1_1 [.b z0, .c z1, .n z2, .i z3, .i z4, .i z5, .i z6, .i z7, .i z8, .i z9, .i z10, .b z11, .i z12, .b z13, .b z14, .b z15, .b z16, .b z17, .b z18, .c z19, .n z20, .i z21, .i z22, .i z23, .i z24, .i z25, .i z26, .i z27])) (atB (nth q 0)) (atC (nth q 1)) (atN (nth q 2)) (atI (nth q 3)) (atI (nth q 4)) (atI (nth q 5)) (atI (nth q 6)) (atI (nth q 7)) (atI (nth q 8)) (atI (nth q 9)) (atI (nth q 10)) (atB (nth q 11)) (atI (nth q 12)) (atB (nth q 13)) (atB (nth q 14)) (atB (nth q 15)) (atB (nth q 16)) (atC (nth q 17)) (atN (nth q 18)) (atI (nth q 19)) (atI (nth q 20)) (atI (nth q 21)) (atI (nth q 22)) (atI (nth q 23)) (atI (nth q 24)) (atI (nth q 25))⟩]) 13 (fTs ti_fence_State [.b a0, .c a1, .n a2, .i a3, .i a4, .i a5, .i a6, .i a7, .i a8]).1 = (
  bif (ok_fence_Touches F a0 a1 0 a2 a3 a4 a5 a6 a8) then (
    let v935 : Bool := (o_fence_Touches_0 F a0 a1 0 a2 a3 a4 a5 a6 a8)
    let v936 : Int := (o_fence_Touches_1 F a0 a1 0 a2 a3 a4 a5 a6 a8)
    bif ((v936 != 0)) then (
      some (.v (.tuple #[.int .i64 0, .int .i64 v936])))
    else (
      bif (ok_fence_Within F a0 a1 0 a2 a3 a4 a5 a6) then (
        let v938 : Bool := (o_fence_Within_0 F a0 a1 0 a2 a3 a4 a5 a6)
        bif (ok_fence_Zone_height F a0 a1 a2 a3 a4 a7 a8) then (
          let v971 : Bool := (o_fence_Zone_height_1 F a0 a1 a2 a3 a4 a7 a8)
          bif ((o_fence_Zone_height_0 F a0 a1 a2 a3 a4 a7 a8)) then (
            bif v938 then (
              N_fence_State_1 F (fun (v1194 : Bool) (v1195 : List VV) (v1196 : Nat) (v1197 : Int) (v1198 : Int) (v1199 : Int) (v1200 : Int) (v1201 : Int) (v1202 : Int) (v1203 : Int) (v1204 : Int) (v1205 : Bool) (v1206 : Int) (v1207 : Bool) (v1208 : Bool) (v1209 : Bool) (v1210 : Bool) (v1211 : Bool) (v1212 : List VV) (v1213 : Nat) (v1214 : Int) (v1215 : Int) (v1216 : Int) (v1217 : Int) (v1218 : Int) (v1219 : Int) (v1220 : Int) =>
                some (.v (.tuple #[.int .i64 v1203, .int .i64 v1204]))) (fun (v1221 : Bool) (v1222 : List VV) (v1223 : Nat) (v1224 : Int) (v1225 : Int) (v1226 : Int) (v1227 : Int) (v1228 : Int) (v1229 : Int) (v1230 : Int) (v1231 : Int) (v1232 : Bool) (v1233 : Int) (v1234 : Bool) (v1235 : Bool) (v1236 : Bool) (v1237 : Bool) (v1238 : Bool) (v1239 : Bool) (v1240 : List VV) (v1241 : Nat) (v1242 : Int) (v1243 : Int) (v1244 : Int) (v1245 : Int) (v1246 : Int) (v1247 : Int) (v1248 : Int) =>
                some (.v (.tuple #[.int .i64 v1230, .int .i64 v1231]))) a0 a1 a2 a3 a4 a5 a6 a7 a8 0 0 v935 v936 v938 ((!v935)) v971 a0 a1 a2 a3 a4 a5 a6 a7 a5 a6)
            else (
              N_fence_State_1 F (fun (v1249 : Bool) (v1250 : List VV) (v1251 : Nat) (v1252 : Int) (v1253 : Int) (v1254 : Int) (v1255 : Int) (v1256 : Int) (v1257 : Int) (v1258 : Int) (v1259 : Int) (v1260 : Bool) (v1261 : Int) (v1262 : Bool) (v1263 : Bool) (v1264 : Bool) (v1265 : Bool) (v1266 : Bool) (v1267 : List VV) (v1268 : Nat) (v1269 : Int) (v1270 : Int) (v1271 : Int) (v1272 : Int) (v1273 : Int) (v1274 : Int) (v1275 : Int) =>
                some (.v (.tuple #[.int .i64 v1258, .int .i64 v1259]))) (fun (v1276 : Bool) (v1277 : List VV) (v1278 : Nat) (v1279 : Int) (v1280 : Int) (v1281 : Int) (v1282 : Int) (v1283 : Int) (v1284 : Int) (v1285 : Int) (v1286 : Int) (v1287 : Bool) (v1288 : Int) (v1289 : Bool) (v1290 : Bool) (v1291 : Bool) (v1292 : Bool) (v1293 : Bool) (v1294 : Bool) (v1295 : List VV) (v1296 : Nat) (v1297 : Int) (v1298 : Int) (v1299 : Int) (v1300 : Int) (v1301 : Int) (v1302 : Int) (v1303 : Int) =>
                some (.v (.tuple #[.int .i64 v1285, .int .i64 v1286]))) a0 a1 a2 a3 a4 a5 a6 a7 a8 0 0 v935 v936 v938 false v971 a0 a1 a2 a3 a4 a5 a6 a7 a5 a6))
          else (
            N_fence_State_1 F (fun (v1304 : Bool) (v1305 : List VV) (v1306 : Nat) (v1307 : Int) (v1308 : Int) (v1309 : Int) (v1310 : Int) (v1311 : Int) (v1312 : Int) (v1313 : Int) (v1314 : Int) (v1315 : Bool) (v1316 : Int) (v1317 : Bool) (v1318 : Bool) (v1319 : Bool) (v1320 : Bool) (v1321 : Bool) (v1322 : List VV) (v1323 : Nat) (v1324 : Int) (v1325 : Int) (v1326 : Int) (v1327 : Int) (v1328 : Int) (v1329 : Int) (v1330 : Int) =>
              some (.v (.tuple #[.int .i64 v1313, .int .i64 v1314]))) (fun (v1331 : Bool) (v1332 : List VV) (v1333 : Nat) (v1334 : Int) (v1335 : Int) (v1336 : Int) (v1337 : Int) (v1338 : Int) (v1339 : Int) (v1340 : Int) (v1341 : Int) (v1342 : Bool) (v1343 : Int) (v1344 : Bool) (v1345 : Bool) (v1346 : Bool) (v1347 : Bool) (v1348 : Bool) (v1349 : Bool) (v1350 : List VV) (v1351 : Nat) (v1352 : Int) (v1353 : Int) (v1354 : Int) (v1355 : Int) (v1356 : Int) (v1357 : Int) (v1358 : Int) =>
              some (.v (.tuple #[.int .i64 v1340, .int .i64 v1341]))) a0 a1 a2 a3 a4 a5 a6 a7 a8 0 0 v935 v936 v938 false v971 a0 a1 a2 a3 a4 a5 a6 a7 a5 a6))
        else (
          none))
      else (
        none)))
  else (
    none) : R) := by
    intros
    kernel_rfl
  exact (h ok_fence_Touches o_fence_Touches_0 o_fence_Touches_1 ok_fence_Within o_fence_Within_0 o_fence_Within_1 ok_fence_Zone_height o_fence_Zone_height_0 o_fence_Zone_height_1 N_fence_State_0 N_fence_State_1).trans (by kernel_rfl)
def ok_fence_State (F : Nat) (a0 : Bool) (a1 : List VV) (a2 : Nat) (a3 : Int) (a4 : Int) (a5 : Int) (a6 : Int) (a7 : Int) (a8 : Int) : Bool := okT to_fence_State (f_fence_State F a0 a1 a2 a3 a4 a5 a6 a7 a8)
def o_fence_State_0 (F : Nat) (a0 : Bool) (a1 : List VV) (a2 : Nat) (a3 : Int) (a4 : Int) (a5 : Int) (a6 : Int) (a7 : Int) (a8 : Int) : Int := atI (nth (outT to_fence_State (f_fence_State F a0 a1 a2 a3 a4 a5 a6 a7 a8)) 0)
def o_fence_State_1 (F : Nat) (a0 : Bool) (a1 : List VV) (a2 : Nat) (a3 : Int) (a4 : Int) (a5 : Int) (a6 : Int) (a7 : Int) (a8 : Int) : Int := atI (nth (outT to_fence_State (f_fence_State F a0 a1 a2 a3 a4 a5 a6 a7 a8)) 1)
theorem k_fence_State (F : Nat) (a0 : Bool) (a1 : List VV) (a2 : Nat) (a3 : Int) (a4 : Int) (a5 : Int) (a6 : Int) (a7 : Int) (a8 : Int) {z0 : Int} {z1 : Int} (h : f_fence_State F a0 a1 a2 a3 a4 a5 a6 a7 a8 = some (.v (.tuple #[.int .i64 z0, .int .i64 z1]))) : ok_fence_State F a0 a1 a2 a3 a4 a5 a6 a7 a8 = true ∧ o_fence_State_0 F a0 a1 a2 a3 a4 a5 a6 a7 a8 = z0 ∧ o_fence_State_1 F a0 a1 a2 a3 a4 a5 a6 a7 a8 = z1 := by
  refine ⟨?_, ?_, ?_⟩
  · unfold ok_fence_State; rw [h]; kernel_rfl
  · unfold o_fence_State_0; rw [h]; kernel_rfl
  · unfold o_fence_State_1; rw [h]; kernel_rfl
def s_fence_State (F : Nat) : List VV → Option (Bool × VV) := spec ti_fence_State to_fence_State (fun q => (ok_fence_State F (atB (nth q 0)) (atC (nth q 1)) (atN (nth q 2)) (atI (nth q 3)) (atI (nth q 4)) (atI (nth q 5)) (atI (nth q 6)) (atI (nth q 7)) (atI (nth q 8)))) (fun q => [.i (o_fence_State_0 F (atB (nth q 0)) (atC (nth q 1)) (atN (nth q 2)) (atI (nth q 3)) (atI (nth q 4)) (atI (nth q 5)) (atI (nth q 6)) (atI (nth q 7)) (atI (nth q 8))), .i (o_fence_State_1 F (atB (nth q 0)) (atC (nth q 1)) (atN (nth q 2)) (atI (nth q 3)) (atI (nth q 4)) (atI (nth q 5)) (atI (nth q 6)) (atI (nth q 7)) (atI (nth q 8)))])
theorem hS_fence_State (F : Nat) : ∀ f, Good PP f (unS (S_fence_State F f)) := words_good fun p hp => by
  simp only [List.mem_cons, List.not_mem_nil, or_false] at hp
  rcases hp with rfl | rfl | rfl
  · exact g_fence_Touches F
  · exact g_fence_Within F
  · exact g_fence_Zone_height F
theorem hl_fence_State (F : Nat) : ∀ p ∈ loopsIn PP 13, LoopOK PP (S_fence_State F) c_fence_State F (I_fence_State F) (J_fence_State F) p :=
  loops_of [] (by kernel_rfl) all_nil
theorem hj_fence_State (F : Nat) : ∀ p ∈ joinsIn PP c_fence_State 13, JoinOK PP (S_fence_State F) c_fence_State (I_fence_State F) (J_fence_State F) p :=
  joins_of [(8, 0, joinAt PP c_fence_State 13 0), (9, 0, joinAt PP c_fence_State 13 1)] (by kernel_rfl) (all_cons
    (join_ok (WJ_fence_State F) rfl (jtab_cons (fun h _ => absurd h (by decide)) (jtab_cons (fun _ _ k q => Le.ofEq ((nN_fence_State_1 F k (atB (nth q 0)) (atC (nth q 1)) (atN (nth q 2)) (atI (nth q 3)) (atI (nth q 4)) (atI (nth q 5)) (atI (nth q 6)) (atI (nth q 7)) (atI (nth q 8)) (atI (nth q 9)) (atI (nth q 10)) (atB (nth q 11)) (atI (nth q 12)) (atB (nth q 13)) (atB (nth q 14)) (atB (nth q 15)) (atB (nth q 16)) (atC (nth q 17)) (atN (nth q 18)) (atI (nth q 19)) (atI (nth q 20)) (atI (nth q 21)) (atI (nth q 22)) (atI (nth q 23)) (atI (nth q 24)) (atI (nth q 25))).symm.trans (congrArg (fun s => codeL PP (S_fence_State F) c_fence_State (I_fence_State F) (J_fence_State F) (joinAt PP c_fence_State 13 0) 0 s k) (show fS TN_fence_State_1 [.b (atB (nth q 0)), .c (atC (nth q 1)), .n (atN (nth q 2)), .i (atI (nth q 3)), .i (atI (nth q 4)), .i (atI (nth q 5)), .i (atI (nth q 6)), .i (atI (nth q 7)), .i (atI (nth q 8)), .i (atI (nth q 9)), .i (atI (nth q 10)), .b (atB (nth q 11)), .i (atI (nth q 12)), .b (atB (nth q 13)), .b (atB (nth q 14)), .b (atB (nth q 15)), .b (atB (nth q 16)), .c (atC (nth q 17)), .n (atN (nth q 18)), .i (atI (nth q 19)), .i (atI (nth q 20)), .i (atI (nth q 21)), .i (atI (nth q 22)), .i (atI (nth q 23)), .i (atI (nth q 24)), .i (atI (nth q 25))] = fS TN_fence_State_1 q by kernel_rfl)))) jtab_nil))) (all_cons
    (join_ok (WJ_fence_State F) rfl (jtab_cons (fun _ _ k q => Le.ofEq ((nN_fence_State_0 F k (atB (nth q 0)) (atC (nth q 1)) (atN (nth q 2)) (atI (nth q 3)) (atI (nth q 4)) (atI (nth q 5)) (atI (nth q 6)) (atI (nth q 7)) (atI (nth q 8)) (atI (nth q 9)) (atI (nth q 10)) (atB (nth q 11)) (atI (nth q 12)) (atB (nth q 13)) (atB (nth q 14)) (atB (nth q 15)) (atB (nth q 16)) (atC (nth q 17)) (atN (nth q 18)) (atI (nth q 19)) (atI (nth q 20)) (atI (nth q 21)) (atI (nth q 22)) (atI (nth q 23)) (atI (nth q 24)) (atI (nth q 25))).symm.trans (congrArg (fun s => codeL PP (S_fence_State F) c_fence_State (I_fence_State F) (J_fence_State F) (joinAt PP c_fence_State 13 1) 0 s k) (show fS TN_fence_State_0 [.b (atB (nth q 0)), .c (atC (nth q 1)), .n (atN (nth q 2)), .i (atI (nth q 3)), .i (atI (nth q 4)), .i (atI (nth q 5)), .i (atI (nth q 6)), .i (atI (nth q 7)), .i (atI (nth q 8)), .i (atI (nth q 9)), .i (atI (nth q 10)), .b (atB (nth q 11)), .i (atI (nth q 12)), .b (atB (nth q 13)), .b (atB (nth q 14)), .b (atB (nth q 15)), .b (atB (nth q 16)), .c (atC (nth q 17)), .n (atN (nth q 18)), .i (atI (nth q 19)), .i (atI (nth q 20)), .i (atI (nth q 21)), .i (atI (nth q 22)), .i (atI (nth q 23)), .i (atI (nth q 24)), .i (atI (nth q 25))] = fS TN_fence_State_0 q by kernel_rfl)))) (jtab_cons (fun h _ => absurd h (by decide)) jtab_nil))) all_nil))
theorem g_fence_State (F : Nat) : Good PP 13 (unS (s_fence_State F)) :=
  fun_spec (hS_fence_State F) (by kernel_rfl) (by kernel_rfl) (C := c_fence_State) (F := fun q => (f_fence_State F (atB (nth q 0)) (atC (nth q 1)) (atN (nth q 2)) (atI (nth q 3)) (atI (nth q 4)) (atI (nth q 5)) (atI (nth q 6)) (atI (nth q 7)) (atI (nth q 8)))) (fun _ => F) (fun _ => I_fence_State F) (fun _ => J_fence_State F) (fun _ => hl_fence_State F) (fun _ => hj_fence_State F)
    (fun q => (congrArg (funL PP (S_fence_State F) c_fence_State (I_fence_State F) (J_fence_State F) 13) (show (fTs ti_fence_State q).1 = (fTs ti_fence_State [.b (atB (nth q 0)), .c (atC (nth q 1)), .n (atN (nth q 2)), .i (atI (nth q 3)), .i (atI (nth q 4)), .i (atI (nth q 5)), .i (atI (nth q 6)), .i (atI (nth q 7)), .i (atI (nth q 8))]).1 by kernel_rfl)).trans (e_fence_State F (atB (nth q 0)) (atC (nth q 1)) (atN (nth q 2)) (atI (nth q 3)) (atI (nth q 4)) (atI (nth q 5)) (atI (nth q 6)) (atI (nth q 7)) (atI (nth q 8))))
    (fun _ h => okT_fill' h (by kernel_rfl))

end Go.Xv
namespace Go.Xv

def inH (fl rf h r : Int) : Bool := !decide (h + -r < fl) && !decide (rf < h + r)
def outH (fl rf h r : Int) : Bool := decide (h + r < fl) || decide (rf < h + -r)
def stateV (kp t w i o : Bool) : Int :=
  bif ((i && w && !t) && kp) || ((o || (!w && !t)) && !kp) then 0 else bif (i && w && !t) || (o || (!w && !t)) then 2 else 1
/-- the state of a zone that may be. -/
def stateOf (kp : Bool) (zs : List Pt) (fl rf : Int) (p : Pt) (h r : Int) : Int := stateV kp (touchesB zs p r) (withinB zs p) (inH fl rf h r) (outH fl rf h r)

theorem may0 {zs : List Pt} {fl rf : Int} {p : Pt} {r : Int} (h : mayB zs fl rf p r = true) : mayB zs fl rf p 0 = true := by
  obtain ⟨h1, h2, h3, _⟩ := mayB_sound h
  exact mayB_of h1 h2 h3 ⟨by decide, by decide⟩

end Go.Xv
namespace Go.Xv
theorem a_Touches (F : Nat) (kp : Bool) {zs : List Pt} (hl : zs.length ≤ 1000) (fl rf : Int) (p : Pt) (r : Int) :
    ok_fence_Touches F kp (cellsP zs) 0 zs.length fl rf p.1 p.2 r = true ∧ o_fence_Touches_0 F kp (cellsP zs) 0 zs.length fl rf p.1 p.2 r = (mayB zs fl rf p r && touchesB zs p r) ∧ o_fence_Touches_1 F kp (cellsP zs) 0 zs.length fl rf p.1 p.2 r = (bif mayB zs fl rf p r then 0 else 2) :=
  k_fence_Touches F _ _ _ _ _ _ _ _ _ (by unfold f_fence_Touches; rw [zoneOf_cells hl])
theorem a_Within (F : Nat) (kp : Bool) {zs : List Pt} (hl : zs.length ≤ 1000) (fl rf : Int) (p : Pt) :
    ok_fence_Within F kp (cellsP zs) 0 zs.length fl rf p.1 p.2 = true ∧ o_fence_Within_0 F kp (cellsP zs) 0 zs.length fl rf p.1 p.2 = (mayB zs fl rf p 0 && withinB zs p) ∧ o_fence_Within_1 F kp (cellsP zs) 0 zs.length fl rf p.1 p.2 = (bif mayB zs fl rf p 0 then 0 else 2) :=
  k_fence_Within F _ _ _ _ _ _ _ _ (by unfold f_fence_Within; rw [zoneOf_cells hl])
theorem a_hof (F : Nat) {n : Int} (h : I64 n) : ok_fence_Zone_height_1 F n = true ∧ o_fence_Zone_height_1_0 F n = hi n ∧ o_fence_Zone_height_1_1 F n = lo n := by
  refine k_fence_Zone_height_1 F _ ?_
  obtain ⟨h1, h2, h3⟩ := a_Of F h
  unfold f_fence_Zone_height_1
  simp only [h1, h2, h3, cond_true]
theorem a_height (F : Nat) (kp : Bool) (c : List VV) (l : Nat) {fl rf h r : Int} (hfl : I64 fl) (hrf : I64 rf) (hh : I64 h) (hr64 : I64 r) :
    ok_fence_Zone_height F kp c l fl rf h r = true ∧ o_fence_Zone_height_0 F kp c l fl rf h r = inH fl rf h r ∧ o_fence_Zone_height_1 F kp c l fl rf h r = outH fl rf h r := by
  refine k_fence_Zone_height F _ _ _ _ _ _ _ ?_
  obtain ⟨o1, o2, o3⟩ := a_hof F hh
  obtain ⟨q1, q2, q3⟩ := a_hof F hr64
  obtain ⟨n1, n2, n3⟩ := a_Neg F r
  obtain ⟨s1, s2, s3⟩ := a_Add F h (-r)
  obtain ⟨u1, u2, u3⟩ := a_Add F h r
  obtain ⟨f1, f2, f3⟩ := a_hof F hfl
  obtain ⟨g1, g2, g3⟩ := a_hof F hrf
  have w1 : W128 (h + -r) := by unfold W128; unfold I64 at hh hr64; omega
  have w2 : W128 (h + r) := by unfold W128; unfold I64 at hh hr64; omega
  obtain ⟨c1, c2⟩ := a_Less F w1 (I64_W hfl)
  obtain ⟨d1, d2⟩ := a_Less F (I64_W hrf) w2
  obtain ⟨e1, e2⟩ := a_Less F w2 (I64_W hfl)
  obtain ⟨h1, h2⟩ := a_Less F (I64_W hrf) w1
  unfold f_fence_Zone_height inH outH
  simp only [o1, o2, o3, q1, q2, q3, n1, n2, n3, s1, s2, s3, u1, u2, u3, f1, f2, f3, g1, g2, g3, c1, c2, d1, d2, e1, e2, h1, h2, cond_true]
  generalize decide (h + -r < fl) = L1
  generalize decide (rf < h + r) = L2
  generalize decide (h + r < fl) = L3
  generalize decide (rf < h + -r) = L4
  cases L1 <;> cases L2 <;> cases L3 <;> cases L4 <;> rfl
theorem f_State (F : Nat) (kp : Bool) (zs : List Pt) (hb : zs.length ≤ 1000) {fl rf : Int} (hfl : I64 fl) (hrf : I64 rf) (p : Pt) {h r : Int} (hh : I64 h) :
    f_fence_State F kp (cellsP zs) zs.length fl rf p.1 p.2 h r = some (.v (.tuple #[.int .i64 (bif mayB zs fl rf p r then stateOf kp zs fl rf p h r else 0), .int .i64 (bif mayB zs fl rf p r then 0 else 2)])) := by
  obtain ⟨k1, k2, k3⟩ := a_Touches F kp hb fl rf p r
  obtain ⟨j1, j2, j3⟩ := a_Within F kp hb fl rf p
  unfold f_fence_State
  rw [k2, k3]
  refine bp k1 ?_
  cases hm : mayB zs fl rf p r with
  | false => rfl
  | true =>
    rw [may0 hm] at j2
    obtain ⟨_, _, _, hr⟩ := mayB_sound hm
    have hr64 : I64 r := ⟨by have := hr.a; omega, by have := hr.b; omega⟩
    obtain ⟨o1, o2, o3⟩ := a_height F kp (cellsP zs) zs.length hfl hrf hh hr64
    unfold stateOf
    simp only [j1, j2, o1, o2, o3, Bool.true_and, cond_true, bne_self_eq_false, cond_false]
    generalize inH fl rf h r = L1
    generalize outH fl rf h r = L2
    generalize touchesB zs p r = t
    generalize withinB zs p = w
    cases kp <;> cases t <;> cases w <;> cases L1 <;> cases L2 <;> rfl
theorem a_State (F : Nat) (kp : Bool) (zs : List Pt) (hb : zs.length ≤ 1000) {fl rf : Int} (hfl : I64 fl) (hrf : I64 rf) (p : Pt) {h r : Int} (hh : I64 h) :
    ok_fence_State F kp (cellsP zs) zs.length fl rf p.1 p.2 h r = true ∧ o_fence_State_0 F kp (cellsP zs) zs.length fl rf p.1 p.2 h r = (bif mayB zs fl rf p r then stateOf kp zs fl rf p h r else 0) ∧ o_fence_State_1 F kp (cellsP zs) zs.length fl rf p.1 p.2 h r = (bif mayB zs fl rf p r then 0 else 2) :=
  k_fence_State F _ _ _ _ _ _ _ _ _ (f_State F kp zs hb hfl hrf p hh)
end Go.Xv
set_option linter.unusedVariables false
namespace Go.Xv
/- 9 _law37_few -/
def c_law37_few : Cfg := ⟨[0, 1, 2], [], [], []⟩
def ti_law37_few : List TV := [.agg [.v (.bool), .fs .hole .hole 2, .v (.int .i64), .v (.int .i64)]]
def to_law37_few : TV := .agg [.v (.bool), .fs (.lit 0) .hole 2, .v (.int .i64), .v (.int .i64)]
def S_law37_few (F : Nat) : FuncId → List VV → Option (Bool × VV) := words []
def W_law37_few (F : Nat) : List LW := []
def I_law37_few (F : Nat) : Nat → VS → (Exit → VS → R) → R := tabI c_law37_few (W_law37_few F)
def WJ_law37_few (F : Nat) : List LJ := []
def J_law37_few (F : Nat) : Nat → Nat → VS → (Exit → VS → R) → R := tabJ (WJ_law37_few F)
def f_law37_few (F : Nat) (a0 : Bool) (a1 : List VV) (a2 : Nat) (a3 : Nat) (a4 : Int) (a5 : Int) : R :=
  let v336 : Int := ((a3 : Nat) : Int)
  let v337 : Int := (if 20 < v336 then 20 else v336)
  bif (((decide (0 ≤ v337)) && (decide (0 ≤ (Int.toNat v337)))) && (decide ((Int.toNat v337) ≤ a3))) then (
    let v338 : Nat := (Int.toNat v337)
    bif ((decide ((v338 * 2) ≤ (a1.drop a2).length)) && (decide ((0 + v338) * 17 ≤ bigger))) then (
      some (.agg [.v (.bool a0), .fs (([] ++ ((a1.drop a2).take (v338 * 2)))) 0 ((0 + v338)) 2, .v (.int .i64 a4), .v (.int .i64 a5)]))
    else (
      none))
  else (
    none)
theorem e_law37_few (F : Nat) (a0 : Bool) (a1 : List VV) (a2 : Nat) (a3 : Nat) (a4 : Int) (a5 : Int) : funL PP (S_law37_few F) c_law37_few (I_law37_few F) (J_law37_few F) 9 (fTs ti_law37_few [.b a0, .c a1, .n a2, .n a3, .i a4, .i a5]).1 = f_law37_few F a0 a1 a2 a3 a4 a5 := by
  have h : ∀ (_ : Unit), funL PP (words []) c_law37_few (tabI c_law37_few []) (tabJ []) 9 (fTs ti_law37_few [.b a0, .c a1, .n a2, .n a3, .i a4, .i a5]).1 = (
  let v336 : Int := ((a3 : Nat) : Int)
  let v337 : Int := (if 20 < v336 then 20 else v336)
  bif (((decide (0 ≤ v337)) && (decide (0 ≤ (Int.toNat v337)))) && (decide ((Int.toNat v337) ≤ a3))) then (
    let v338 : Nat := (Int.toNat v337)
    bif ((decide ((v338 * 2) ≤ (a1.drop a2).length)) && (decide ((0 + v338) * 17 ≤ bigger))) then (
      some (.agg [.v (.bool a0), .fs (([] ++ ((a1.drop a2).take (v338 * 2)))) 0 ((0 + v338)) 2, .v (.int .i64 a4), .v (.int .i64 a5)]))
    else (
      none))
  else (
    none) : R) := by
    intros
    kernel_rfl
  exact (h ()).trans (by kernel_rfl)
def ok_law37_few (F : Nat) (a0 : Bool) (a1 : List VV) (a2 : Nat) (a3 : Nat) (a4 : Int) (a5 : Int) : Bool := okT to_law37_few (f_law37_few F a0 a1 a2 a3 a4 a5)
def o_law37_few_0 (F : Nat) (a0 : Bool) (a1 : List VV) (a2 : Nat) (a3 : Nat) (a4 : Int) (a5 : Int) : Bool := atB (nth (outT to_law37_few (f_law37_few F a0 a1 a2 a3 a4 a5)) 0)
def o_law37_few_1 (F : Nat) (a0 : Bool) (a1 : List VV) (a2 : Nat) (a3 : Nat) (a4 : Int) (a5 : Int) : List VV := atC (nth (outT to_law37_few (f_law37_few F a0 a1 a2 a3 a4 a5)) 1)
def o_law37_few_2 (F : Nat) (a0 : Bool) (a1 : List VV) (a2 : Nat) (a3 : Nat) (a4 : Int) (a5 : Int) : Nat := atN (nth (outT to_law37_few (f_law37_few F a0 a1 a2 a3 a4 a5)) 2)
def o_law37_few_3 (F : Nat) (a0 : Bool) (a1 : List VV) (a2 : Nat) (a3 : Nat) (a4 : Int) (a5 : Int) : Int := atI (nth (outT to_law37_few (f_law37_few F a0 a1 a2 a3 a4 a5)) 3)
def o_law37_few_4 (F : Nat) (a0 : Bool) (a1 : List VV) (a2 : Nat) (a3 : Nat) (a4 : Int) (a5 : Int) : Int := atI (nth (outT to_law37_few (f_law37_few F a0 a1 a2 a3 a4 a5)) 4)
theorem k_law37_few (F : Nat) (a0 : Bool) (a1 : List VV) (a2 : Nat) (a3 : Nat) (a4 : Int) (a5 : Int) {z0 : Bool} {z1 : List VV} {z2 : Nat} {z3 : Int} {z4 : Int} (h : f_law37_few F a0 a1 a2 a3 a4 a5 = some (.agg [.v (.bool z0), .fs z1 0 z2 2, .v (.int .i64 z3), .v (.int .i64 z4)])) : ok_law37_few F a0 a1 a2 a3 a4 a5 = true ∧ o_law37_few_0 F a0 a1 a2 a3 a4 a5 = z0 ∧ o_law37_few_1 F a0 a1 a2 a3 a4 a5 = z1 ∧ o_law37_few_2 F a0 a1 a2 a3 a4 a5 = z2 ∧ o_law37_few_3 F a0 a1 a2 a3 a4 a5 = z3 ∧ o_law37_few_4 F a0 a1 a2 a3 a4 a5 = z4 := by
  refine ⟨?_, ?_, ?_, ?_, ?_, ?_⟩
  · unfold ok_law37_few; rw [h]; kernel_rfl
  · unfold o_law37_few_0; rw [h]; kernel_rfl
  · unfold o_law37_few_1; rw [h]; kernel_rfl
  · unfold o_law37_few_2; rw [h]; kernel_rfl
  · unfold o_law37_few_3; rw [h]; kernel_rfl
  · unfold o_law37_few_4; rw [h]; kernel_rfl
def s_law37_few (F : Nat) : List VV → Option (Bool × VV) := spec ti_law37_few to_law37_few (fun q => (ok_law37_few F (atB (nth q 0)) (atC (nth q 1)) (atN (nth q 2)) (atN (nth q 3)) (atI (nth q 4)) (atI (nth q 5)))) (fun q => [.b (o_law37_few_0 F (atB (nth q 0)) (atC (nth q 1)) (atN (nth q 2)) (atN (nth q 3)) (atI (nth q 4)) (atI (nth q 5))), .c (o_law37_few_1 F (atB (nth q 0)) (atC (nth q 1)) (atN (nth q 2)) (atN (nth q 3)) (atI (nth q 4)) (atI (nth q 5))), .n (o_law37_few_2 F (atB (nth q 0)) (atC (nth q 1)) (atN (nth q 2)) (atN (nth q 3)) (atI (nth q 4)) (atI (nth q 5))), .i (o_law37_few_3 F (atB (nth q 0)) (atC (nth q 1)) (atN (nth q 2)) (atN (nth q 3)) (atI (nth q 4)) (atI (nth q 5))), .i (o_law37_few_4 F (atB (nth q 0)) (atC (nth q 1)) (atN (nth q 2)) (atN (nth q 3)) (atI (nth q 4)) (atI (nth q 5)))])
theorem hS_law37_few (F : Nat) : ∀ f, Good PP f (unS (S_law37_few F f)) := words_good fun p hp => by
  cases hp
theorem hl_law37_few (F : Nat) : ∀ p ∈ loopsIn PP 9, LoopOK PP (S_law37_few F) c_law37_few F (I_law37_few F) (J_law37_few F) p :=
  loops_of [] (by kernel_rfl) all_nil
theorem hj_law37_few (F : Nat) : ∀ p ∈ joinsIn PP c_law37_few 9, JoinOK PP (S_law37_few F) c_law37_few (I_law37_few F) (J_law37_few F) p :=
  joins_of [] (by kernel_rfl) all_nil
theorem g_law37_few (F : Nat) : Good PP 9 (unS (s_law37_few F)) :=
  fun_spec (hS_law37_few F) (by kernel_rfl) (by kernel_rfl) (C := c_law37_few) (F := fun q => (f_law37_few F (atB (nth q 0)) (atC (nth q 1)) (atN (nth q 2)) (atN (nth q 3)) (atI (nth q 4)) (atI (nth q 5)))) (fun _ => F) (fun _ => I_law37_few F) (fun _ => J_law37_few F) (fun _ => hl_law37_few F) (fun _ => hj_law37_few F)
    (fun q => (congrArg (funL PP (S_law37_few F) c_law37_few (I_law37_few F) (J_law37_few F) 9) (show (fTs ti_law37_few q).1 = (fTs ti_law37_few [.b (atB (nth q 0)), .c (atC (nth q 1)), .n (atN (nth q 2)), .n (atN (nth q 3)), .i (atI (nth q 4)), .i (atI (nth q 5))]).1 by kernel_rfl)).trans (e_law37_few F (atB (nth q 0)) (atC (nth q 1)) (atN (nth q 2)) (atN (nth q 3)) (atI (nth q 4)) (atI (nth q 5))))
    (fun _ h => okT_fill' h (by kernel_rfl))

end Go.Xv
namespace Go.Xv

theorem cellsP_take : ∀ (zs : List Pt) (n : Nat), (cellsP zs).take (n * 2) = cellsP (zs.take n)
  | [], n => by simp [cellsP]
  | p :: r, 0 => by simp [cellsP]
  | p :: r, n + 1 => by
    rw [show (n + 1) * 2 = n * 2 + 2 by omega]
    simp [cellsP, cellsP_take r n]

theorem f_few (F : Nat) (kp : Bool) (zs : List Pt) (fl rf : Int) :
    f_law37_few F kp (cellsP zs) 0 zs.length fl rf = some (.agg [.v (.bool kp), .fs (cellsP (zs.take 20)) 0 (zs.take 20).length 2, .v (.int .i64 fl), .v (.int .i64 rf)]) := by
  unfold f_law37_few
  have e : (Int.toNat (if 20 < ((zs.length : Nat) : Int) then 20 else ((zs.length : Nat) : Int))) = (zs.take 20).length := by
    rw [List.length_take]; split <;> omega
  have hlen : (zs.take 20).length ≤ 20 := by rw [List.length_take]; omega
  have hlen2 : (zs.take 20).length ≤ zs.length := by rw [List.length_take]; omega
  have h0 : 0 ≤ (if 20 < ((zs.length : Nat) : Int) then 20 else ((zs.length : Nat) : Int)) := by split <;> omega
  simp only [e, List.drop_zero, cellsP_take, List.nil_append, Nat.zero_add, dt h0, Nat.zero_le, decide_true, Bool.and_self, Bool.true_and, dt hlen2, cond_true]
  refine bp ?_ ?_
  · rw [dt (by rw [cellsP_len]; omega), dt (by unfold bigger; omega)]; rfl
  · rw [show zs.take ((zs.take 20).length) = zs.take 20 by rw [List.length_take]; by_cases h : zs.length ≤ 20
                                                           · rw [Nat.min_eq_right h, List.take_length, List.take_of_length_le h]
                                                           · rw [Nat.min_eq_left (by omega)]]
theorem a_few (F : Nat) (kp : Bool) (zs : List Pt) (fl rf : Int) :
    ok_law37_few F kp (cellsP zs) 0 zs.length fl rf = true ∧ o_law37_few_0 F kp (cellsP zs) 0 zs.length fl rf = kp ∧ o_law37_few_1 F kp (cellsP zs) 0 zs.length fl rf = cellsP (zs.take 20) ∧ o_law37_few_2 F kp (cellsP zs) 0 zs.length fl rf = (zs.take 20).length ∧ o_law37_few_3 F kp (cellsP zs) 0 zs.length fl rf = fl ∧ o_law37_few_4 F kp (cellsP zs) 0 zs.length fl rf = rf :=
  k_law37_few F _ _ _ _ _ _ (f_few F kp zs fl rf)

end Go.Xv
set_option linter.unusedVariables false
namespace Go.Xv
/- 17 _law37_works -/
def c_law37_works : Cfg := ⟨[0, 1, 2, 3, 4, 6, 8], [], [], []⟩
def ti_law37_works : List TV := []
def to_law37_works : TV := .v (.bool)
def S_law37_works (F : Nat) : FuncId → List VV → Option (Bool × VV) := words [(8, s_fence_Within F), (13, s_fence_State F)]
def W_law37_works (F : Nat) : List LW := []
def I_law37_works (F : Nat) : Nat → VS → (Exit → VS → R) → R := tabI c_law37_works (W_law37_works F)
def WJ_law37_works (F : Nat) : List LJ := []
def J_law37_works (F : Nat) : Nat → Nat → VS → (Exit → VS → R) → R := tabJ (WJ_law37_works F)
def f_law37_works (F : Nat) : R :=
  bif (ok_fence_Within F true ([.v (.int .i64 0), .v (.int .i64 0), .v (.int .i64 10), .v (.int .i64 0), .v (.int .i64 10), .v (.int .i64 10), .v (.int .i64 0), .v (.int .i64 10)]) 0 4 0 9 5 5) then (
    bif (ok_fence_Within F true ([.v (.int .i64 0), .v (.int .i64 0), .v (.int .i64 10), .v (.int .i64 0), .v (.int .i64 10), .v (.int .i64 10), .v (.int .i64 0), .v (.int .i64 10)]) 0 4 0 9 0 5) then (
      bif (ok_fence_Within F true ([.v (.int .i64 0), .v (.int .i64 0), .v (.int .i64 10), .v (.int .i64 0), .v (.int .i64 10), .v (.int .i64 10), .v (.int .i64 0), .v (.int .i64 10)]) 0 4 0 9 11 5) then (
        bif (ok_fence_State F true ([.v (.int .i64 0), .v (.int .i64 0), .v (.int .i64 10), .v (.int .i64 0), .v (.int .i64 10), .v (.int .i64 10), .v (.int .i64 0), .v (.int .i64 10)]) 4 0 9 11 5 0 0) then (
          bif ((o_fence_Within_0 F true ([.v (.int .i64 0), .v (.int .i64 0), .v (.int .i64 10), .v (.int .i64 0), .v (.int .i64 10), .v (.int .i64 10), .v (.int .i64 0), .v (.int .i64 10)]) 0 4 0 9 5 5)) then (
            bif ((((o_fence_Within_1 F true ([.v (.int .i64 0), .v (.int .i64 0), .v (.int .i64 10), .v (.int .i64 0), .v (.int .i64 10), .v (.int .i64 10), .v (.int .i64 0), .v (.int .i64 10)]) 0 4 0 9 5 5)) == 0)) then (
              bif ((o_fence_Within_0 F true ([.v (.int .i64 0), .v (.int .i64 0), .v (.int .i64 10), .v (.int .i64 0), .v (.int .i64 10), .v (.int .i64 10), .v (.int .i64 0), .v (.int .i64 10)]) 0 4 0 9 0 5)) then (
                bif ((!((o_fence_Within_0 F true ([.v (.int .i64 0), .v (.int .i64 0), .v (.int .i64 10), .v (.int .i64 0), .v (.int .i64 10), .v (.int .i64 10), .v (.int .i64 0), .v (.int .i64 10)]) 0 4 0 9 11 5)))) then (
                  some (.v (.bool ((((o_fence_State_0 F true ([.v (.int .i64 0), .v (.int .i64 0), .v (.int .i64 10), .v (.int .i64 0), .v (.int .i64 10), .v (.int .i64 10), .v (.int .i64 0), .v (.int .i64 10)]) 4 0 9 11 5 0 0)) == 2)))))
                else (
                  some (.v (.bool false))))
              else (
                some (.v (.bool false))))
            else (
              some (.v (.bool false))))
          else (
            some (.v (.bool false))))
        else (
          none))
      else (
        none))
    else (
      none))
  else (
    none)
theorem e_law37_works (F : Nat) : funL PP (S_law37_works F) c_law37_works (I_law37_works F) (J_law37_works F) 17 (fTs ti_law37_works []).1 = f_law37_works F := by
  have h : ∀ (ok_fence_Within : Nat → Bool → List VV → Nat → Nat → Int → Int → Int → Int → Bool) (o_fence_Within_0 : Nat → Bool → List VV → Nat → Nat → Int → Int → Int → Int → Bool) (o_fence_Within_1 : Nat → Bool → List VV → Nat → Nat → Int → Int → Int → Int → Int) (ok_fence_State : Nat → Bool → List VV → Nat → Int → Int → Int → Int → Int → Int → Bool) (o_fence_State_0 : Nat → Bool → List VV → Nat → Int → Int → Int → Int → Int → Int → Int) (o_fence_State_1 : Nat → Bool → List VV → Nat → Int → Int → Int → Int → Int → Int → Int), funL PP (words [(8, spec ti_fence_Within to_fence_Within (fun q => (ok_fence_Within F (atB (nth q 0)) (atC (nth q 1)) (atN (nth q 2)) (atN (nth q 3)) (atI (nth q 4)) (atI (nth q 5)) (atI (nth q 6)) (atI (nth q 7)))) (fun q => [.b (o_fence_Within_0 F (atB (nth q 0)) (atC (nth q 1)) (atN (nth q 2)) (atN (nth q 3)) (atI (nth q 4)) (atI (nth q 5)) (atI (nth q 6)) (atI (nth q 7))), .i (o_fence_Within_1 F (atB (nth q 0)) (atC (nth q 1)) (atN (nth q 2)) (atN (nth q 3)) (atI (nth q 4)) (atI (nth q 5)) (atI (nth q 6)) (atI (nth q 7)))])), (13, spec ti_fence_State to_fence_State (fun q => (ok_fence_State F (atB (nth q 0)) (atC (nth q 1)) (atN (nth q 2)) (atI (nth q 3)) (atI (nth q 4)) (atI (nth q 5)) (atI (nth q 6)) (atI (nth q 7)) (atI (nth q 8)))) (fun q => [.i (o_fence_State_0 F (atB (nth q 0)) (atC (nth q 1)) (atN (nth q 2)) (atI (nth q 3)) (atI (nth q 4)) (atI (nth q 5)) (atI (nth q 6)) (atI (nth q 7)) (atI (nth q 8))), .i (o_fence_State_1 F (atB (nth q 0)) (atC (nth q 1)) (atN (nth q 2)) (atI (nth q 3)) (atI (nth q 4)) (atI (nth q 5)) (atI (nth q 6)) (atI (nth q 7)) (atI (nth q 8)))]))]) c_law37_works (tabI c_law37_works []) (tabJ []) 17 (fTs ti_law37_works []).1 = (
  bif (ok_fence_Within F true ([.v (.int .i64 0), .v (.int .i64 0), .v (.int .i64 10), .v (.int .i64 0), .v (.int .i64 10), .v (.int .i64 10), .v (.int .i64 0), .v (.int .i64 10)]) 0 4 0 9 5 5) then (
    bif (ok_fence_Within F true ([.v (.int .i64 0), .v (.int .i64 0), .v (.int .i64 10), .v (.int .i64 0), .v (.int .i64 10), .v (.int .i64 10), .v (.int .i64 0), .v (.int .i64 10)]) 0 4 0 9 0 5) then (
      bif (ok_fence_Within F true ([.v (.int .i64 0), .v (.int .i64 0), .v (.int .i64 10), .v (.int .i64 0), .v (.int .i64 10), .v (.int .i64 10), .v (.int .i64 0), .v (.int .i64 10)]) 0 4 0 9 11 5) then (
        bif (ok_fence_State F true ([.v (.int .i64 0), .v (.int .i64 0), .v (.int .i64 10), .v (.int .i64 0), .v (.int .i64 10), .v (.int .i64 10), .v (.int .i64 0), .v (.int .i64 10)]) 4 0 9 11 5 0 0) then (
          bif ((o_fence_Within_0 F true ([.v (.int .i64 0), .v (.int .i64 0), .v (.int .i64 10), .v (.int .i64 0), .v (.int .i64 10), .v (.int .i64 10), .v (.int .i64 0), .v (.int .i64 10)]) 0 4 0 9 5 5)) then (
            bif ((((o_fence_Within_1 F true ([.v (.int .i64 0), .v (.int .i64 0), .v (.int .i64 10), .v (.int .i64 0), .v (.int .i64 10), .v (.int .i64 10), .v (.int .i64 0), .v (.int .i64 10)]) 0 4 0 9 5 5)) == 0)) then (
              bif ((o_fence_Within_0 F true ([.v (.int .i64 0), .v (.int .i64 0), .v (.int .i64 10), .v (.int .i64 0), .v (.int .i64 10), .v (.int .i64 10), .v (.int .i64 0), .v (.int .i64 10)]) 0 4 0 9 0 5)) then (
                bif ((!((o_fence_Within_0 F true ([.v (.int .i64 0), .v (.int .i64 0), .v (.int .i64 10), .v (.int .i64 0), .v (.int .i64 10), .v (.int .i64 10), .v (.int .i64 0), .v (.int .i64 10)]) 0 4 0 9 11 5)))) then (
                  some (.v (.bool ((((o_fence_State_0 F true ([.v (.int .i64 0), .v (.int .i64 0), .v (.int .i64 10), .v (.int .i64 0), .v (.int .i64 10), .v (.int .i64 10), .v (.int .i64 0), .v (.int .i64 10)]) 4 0 9 11 5 0 0)) == 2)))))
                else (
                  some (.v (.bool false))))
              else (
                some (.v (.bool false))))
            else (
              some (.v (.bool false))))
          else (
            some (.v (.bool false))))
        else (
          none))
      else (
        none))
    else (
      none))
  else (
    none) : R) := by
    intros
    kernel_rfl
  exact (h ok_fence_Within o_fence_Within_0 o_fence_Within_1 ok_fence_State o_fence_State_0 o_fence_State_1).trans (by kernel_rfl)
def ok_law37_works (F : Nat) : Bool := okT to_law37_works (f_law37_works F)
def o_law37_works_0 (F : Nat) : Bool := atB (nth (outT to_law37_works (f_law37_works F)) 0)
theorem k_law37_works (F : Nat) {z0 : Bool} (h : f_law37_works F = some (.v (.bool z0))) : ok_law37_works F = true ∧ o_law37_works_0 F = z0 := by
  refine ⟨?_, ?_⟩
  · unfold ok_law37_works; rw [h]; kernel_rfl
  · unfold o_law37_works_0; rw [h]; kernel_rfl
def s_law37_works (F : Nat) : List VV → Option (Bool × VV) := spec ti_law37_works to_law37_works (fun q => (ok_law37_works F )) (fun q => [.b (o_law37_works_0 F )])
theorem hS_law37_works (F : Nat) : ∀ f, Good PP f (unS (S_law37_works F f)) := words_good fun p hp => by
  simp only [List.mem_cons, List.not_mem_nil, or_false] at hp
  rcases hp with rfl | rfl
  · exact g_fence_Within F
  · exact g_fence_State F
theorem hl_law37_works (F : Nat) : ∀ p ∈ loopsIn PP 17, LoopOK PP (S_law37_works F) c_law37_works F (I_law37_works F) (J_law37_works F) p :=
  loops_of [] (by kernel_rfl) all_nil
theorem hj_law37_works (F : Nat) : ∀ p ∈ joinsIn PP c_law37_works 17, JoinOK PP (S_law37_works F) c_law37_works (I_law37_works F) (J_law37_works F) p :=
  joins_of [] (by kernel_rfl) all_nil
theorem g_law37_works (F : Nat) : Good PP 17 (unS (s_law37_works F)) :=
  fun_spec (hS_law37_works F) (by kernel_rfl) (by kernel_rfl) (C := c_law37_works) (F := fun q => (f_law37_works F )) (fun _ => F) (fun _ => I_law37_works F) (fun _ => J_law37_works F) (fun _ => hl_law37_works F) (fun _ => hj_law37_works F)
    (fun q => (congrArg (funL PP (S_law37_works F) c_law37_works (I_law37_works F) (J_law37_works F) 17) (show (fTs ti_law37_works q).1 = (fTs ti_law37_works []).1 by kernel_rfl)).trans (e_law37_works F ))
    (fun _ h => okT_fill' h (by kernel_rfl))

end Go.Xv
namespace Go.Xv
def pairsOf : List Int → List Pt
  | x :: y :: r => (x, y) :: pairsOf r
  | _ => []
theorem pairs_cells : ∀ (n : Nat) (z : List Int), z.length = n * 2 → cellsP (pairsOf z) = z.map (fun n => VV.v (.int .i64 n)) ∧ (pairsOf z).length = n
  | 0, z, h => by
    have : z = [] := List.eq_nil_of_length_eq_zero (by omega)
    subst this; exact ⟨rfl, rfl⟩
  | n + 1, z, h => by
    match z, h with
    | x :: y :: r, h =>
      obtain ⟨h1, h2⟩ := pairs_cells n r (by simp at h; omega)
      simp [pairsOf, cellsP, h1, h2]
    | [x], h => simp at h; omega
    | [], h => simp at h
def sq10 : List Pt := [(0, 0), (10, 0), (10, 10), (0, 10)]
theorem a_works37 (F : Nat) : ok_law37_works F = true ∧ o_law37_works_0 F = true := by
  refine k_law37_works F ?_
  obtain ⟨h1, h2, h3⟩ := a_Within F true (zs := sq10) (by decide) 0 9 (5, 5)
  obtain ⟨j1, j2, j3⟩ := a_Within F true (zs := sq10) (by decide) 0 9 (0, 5)
  obtain ⟨k1, k2, k3⟩ := a_Within F true (zs := sq10) (by decide) 0 9 (11, 5)
  obtain ⟨s1, s2, s3⟩ := a_State F true sq10 (by decide) (fl := 0) (rf := 9) (by unfold I64; omega) (by unfold I64; omega) (11, 5) (h := 0) (r := 0) (by unfold I64; omega)
  have e1 : (mayB sq10 0 9 (5, 5) 0 && withinB sq10 (5, 5)) = true := by decide
  have e2 : (bif mayB sq10 0 9 (5, 5) 0 then (0 : Int) else 2) = 0 := by decide
  have e3 : (mayB sq10 0 9 (0, 5) 0 && withinB sq10 (0, 5)) = true := by decide
  have e4 : (mayB sq10 0 9 (11, 5) 0 && withinB sq10 (11, 5)) = false := by decide
  have e5 : (bif mayB sq10 0 9 (11, 5) 0 then stateOf true sq10 0 9 (11, 5) 0 0 else 0) = 2 := by decide
  rw [e1] at h2; rw [e2] at h3; rw [e3] at j2; rw [e4] at k2; rw [e5] at s2
  have hc : cellsP sq10 = [.v (.int .i64 0), .v (.int .i64 0), .v (.int .i64 10), .v (.int .i64 0), .v (.int .i64 10), .v (.int .i64 10), .v (.int .i64 0), .v (.int .i64 10)] := rfl
  have hl : sq10.length = 4 := rfl
  simp only [hc, hl] at h1 h2 h3 j1 j2 j3 k1 k2 k3 s1 s2 s3
  unfold f_law37_works
  rw [h1, h2, h3, j1, j2, k1, k2, s1, s2]
  rfl
end Go.Xv
namespace Go.Xv

theorem cntN_shift {f : Nat → Bool} : ∀ (k i : Nat), cntN f (i + 1) k = cntN (fun j => f (j + 1)) i k
  | 0, _ => rfl
  | k + 1, i => by simp only [cntN, cntN_shift k (i + 1)]
theorem cntN_rot1 (f : Nat → Bool) (n : Nat) : cntN (fun j => f ((j + 1) % n)) 0 n = cntN f 0 n := by
  cases n with
  | zero => rfl
  | succ n =>
    rw [cntN_snoc, cntN, cntN_shift n 0]
    rw [cntN_congr (f := fun j => f ((j + 1) % (n + 1))) (g := fun j => f (j + 1)) fun j _ hj => by rw [Nat.mod_eq_of_lt (by omega)]]
    rw [Nat.zero_add, Nat.mod_self]
    omega
def swapE (e : Pt × Pt) : Pt × Pt := (e.2, e.1)
/-- the same edges, either way, as often. -/
structure SameP (zs ys : List Pt) : Prop where
  len : ys.length = zs.length
  cnt : ∀ f : Pt × Pt → Bool, (∀ e, f (swapE e) = f e) → cntN (fun k => f (edge ys k)) 0 zs.length = cntN (fun k => f (edge zs k)) 0 zs.length
theorem SameP.trans {a b c : List Pt} (h : SameP a b) (k : SameP b c) : SameP a c :=
  ⟨k.len.trans h.len, fun f hf => by have := k.cnt f hf; rw [h.len] at this; exact this.trans (h.cnt f hf)⟩
theorem pos_swap (a b p : Pt) (r : Int) : posB b a p r = negB a b p r := by
  unfold posB negB
  simp only [cross_swap a b]
  simp only [show ∀ x : Int, (0 < -x) ↔ (x < 0) from fun x => by omega]
end Go.Xv
namespace Go.Xv

/-- within a square. -/
structure InSq (p : Pt) (r : Int) (q : Pt) : Prop where
  a : p.1 - r ≤ q.1
  b : q.1 ≤ p.1 + r
  c : p.2 - r ≤ q.2
  d : q.2 ≤ p.2 + r

theorem mul_nn {x y : Int} (h : (0 ≤ x ∧ 0 ≤ y) ∨ (x ≤ 0 ∧ y ≤ 0)) : 0 ≤ x * y := by
  rcases h with ⟨h1, h2⟩ | ⟨h1, h2⟩
  · exact Int.mul_nonneg h1 h2
  · exact Int.mul_nonneg_of_nonpos_of_nonpos h1 h2
theorem cross_pos {a b p q : Pt} {r : Int} (h : posB a b p r = true) (hq : InSq p r q) : 0 < cross a b q := by
  unfold posB at h
  simp only [Bool.and_eq_true, decide_eq_true_eq, cnr] at h
  obtain ⟨⟨⟨h0, h1⟩, h2⟩, h3⟩ := h
  obtain ⟨q1, q2, q3, q4⟩ := hq
  have key : ∀ c1 c2 : Int, 0 ≤ (b.1 - a.1) * (q.2 - c2) → 0 ≤ (b.2 - a.2) * (c1 - q.1) → 0 < cross a b (c1, c2) → 0 < cross a b q := by
    intro c1 c2 g1 g2 g3
    unfold cross at *
    simp only at g3
    have e : (b.1 - a.1) * (q.2 - a.2) - (b.2 - a.2) * (q.1 - a.1) = ((b.1 - a.1) * (c2 - a.2) - (b.2 - a.2) * (c1 - a.1)) + (b.1 - a.1) * (q.2 - c2) + (b.2 - a.2) * (c1 - q.1) := by grind
    omega
  rcases Int.le_total 0 (b.1 - a.1) with hA | hA <;> rcases Int.le_total 0 (b.2 - a.2) with hB | hB
  · exact key _ _ (mul_nn (.inl ⟨hA, by omega⟩)) (mul_nn (.inl ⟨hB, by omega⟩)) h2
  · exact key _ _ (mul_nn (.inl ⟨hA, by omega⟩)) (mul_nn (.inr ⟨hB, by omega⟩)) h0
  · exact key _ _ (mul_nn (.inr ⟨hA, by omega⟩)) (mul_nn (.inl ⟨hB, by omega⟩)) h3
  · exact key _ _ (mul_nn (.inr ⟨hA, by omega⟩)) (mul_nn (.inr ⟨hB, by omega⟩)) h1
theorem cross_neg {a b p q : Pt} {r : Int} (h : negB a b p r = true) (hq : InSq p r q) : cross a b q < 0 := by
  have := cross_pos (a := b) (b := a) (by rw [pos_swap]; exact h) hq
  rw [cross_swap a b] at this
  omega

/-- how an edge may lie that a square does not touch. -/
theorem untouched {a b p : Pt} {r : Int} (h : touchB a b p r = false) :
    (a.1 < p.1 - r ∧ b.1 < p.1 - r) ∨ (p.1 + r < a.1 ∧ p.1 + r < b.1) ∨ (a.2 < p.2 - r ∧ b.2 < p.2 - r) ∨ (p.2 + r < a.2 ∧ p.2 + r < b.2) ∨ posB a b p r = true ∨ negB a b p r = true := by
  unfold touchB apB at h
  cases hp : posB a b p r with
  | true => simp
  | false =>
    cases hn : negB a b p r with
    | true => simp
    | false =>
      rw [hp, hn] at h
      simp only [Bool.not_false, Bool.and_true, Bool.and_eq_false_iff, Bool.not_eq_false', Bool.or_eq_true, Bool.and_eq_true, decide_eq_true_eq] at h
      omega
theorem touch_in {a b p q : Pt} {r : Int} (h : touchB a b p r = false) (hq : InSq p r q) : touchB a b q 0 = false := by
  rw [touch0]
  obtain ⟨q1, q2, q3, q4⟩ := hq
  rcases untouched h with h | h | h | h | h | h
  · rw [show apB a.1 b.1 q.1 q.1 = true by unfold apB; rw [dt (show a.1 < q.1 by omega), dt (show b.1 < q.1 by omega)]; rfl]; rfl
  · rw [show apB a.1 b.1 q.1 q.1 = true by unfold apB; rw [dt (show q.1 < a.1 by omega), dt (show q.1 < b.1 by omega)]; simp]; rfl
  · rw [show apB a.2 b.2 q.2 q.2 = true by unfold apB; rw [dt (show a.2 < q.2 by omega), dt (show b.2 < q.2 by omega)]; rfl]; simp
  · rw [show apB a.2 b.2 q.2 q.2 = true by unfold apB; rw [dt (show q.2 < a.2 by omega), dt (show q.2 < b.2 by omega)]; simp]; simp
  · have := cross_pos h ⟨q1, q2, q3, q4⟩
    rw [df (show ¬ cross a b q = 0 by omega)]; simp
  · have := cross_neg h ⟨q1, q2, q3, q4⟩
    rw [df (show ¬ cross a b q = 0 by omega)]; simp

/-- an upward edge to the left of a point. -/
theorem up_left {a b q : Pt} (h1 : a.1 < q.1) (h2 : b.1 < q.1) (h3 : a.2 ≤ q.2) (h4 : q.2 < b.2) : cross a b q < 0 := by
  unfold cross
  have hB : 0 < (b.2 - a.2) * (q.1 - a.1) := Int.mul_pos (by omega) (by omega)
  rcases Int.le_total (b.1 - a.1) 0 with hA | hA
  · have : (b.1 - a.1) * (q.2 - a.2) ≤ 0 := Int.mul_nonpos_of_nonpos_of_nonneg hA (by omega)
    omega
  · have e1 : (b.1 - a.1) * (q.2 - a.2) ≤ (b.1 - a.1) * (b.2 - a.2) := Int.mul_le_mul_of_nonneg_left (by omega) hA
    have e2 : (b.2 - a.2) * (b.1 - a.1) < (b.2 - a.2) * (q.1 - a.1) := Int.mul_lt_mul_of_pos_left (by omega) (by omega)
    rw [Int.mul_comm (b.1 - a.1) (b.2 - a.2)] at e1
    omega
theorem up_right {a b q : Pt} (h1 : q.1 < a.1) (h2 : q.1 < b.1) (h3 : a.2 ≤ q.2) (h4 : q.2 < b.2) : 0 < cross a b q := by
  have := up_left (a := (-a.1, a.2)) (b := (-b.1, b.2)) (q := (-q.1, q.2)) (by simp only; omega) (by simp only; omega) h3 h4
  unfold cross at *
  simp only at this
  have e : (-b.1 - -a.1) * (q.2 - a.2) - (b.2 - a.2) * (-q.1 - -a.1) = -((b.1 - a.1) * (q.2 - a.2) - (b.2 - a.2) * (q.1 - a.1)) := by grind
  omega
theorem cross_left {a b q : Pt} (h1 : a.1 < q.1) (h2 : b.1 < q.1) : crossB a b q = false := by
  unfold crossB
  by_cases h3 : a.2 > q.2 <;> by_cases h4 : b.2 > q.2
  · rw [dt h3, dt h4]; rfl
  · have := up_left (a := b) (b := a) h2 h1 (by omega) (by omega)
    rw [cross_swap a b] at this
    rw [dt h3, df h4, dt (by omega)]; rfl
  · have := up_left h1 h2 (by omega) (by omega)
    rw [df h3, dt h4, df (by omega)]; rfl
  · rw [df h3, df h4]; rfl
theorem cross_right {a b q : Pt} (h1 : q.1 < a.1) (h2 : q.1 < b.1) : crossB a b q = (decide (a.2 > q.2) != decide (b.2 > q.2)) := by
  unfold crossB
  by_cases h3 : a.2 > q.2 <;> by_cases h4 : b.2 > q.2
  · rw [dt h3, dt h4]; rfl
  · have := up_right (a := b) (b := a) h2 h1 (by omega) (by omega)
    rw [cross_swap a b] at this
    rw [dt h3, df h4, df (by omega)]; rfl
  · have := up_right h1 h2 (by omega) (by omega)
    rw [df h3, dt h4, dt (by omega)]; rfl
  · rw [df h3, df h4]; rfl
theorem cross_flat {a b q : Pt} (h : (a.2 > q.2 ∧ b.2 > q.2) ∨ (a.2 ≤ q.2 ∧ b.2 ≤ q.2)) : crossB a b q = false := by
  unfold crossB
  rcases h with ⟨h1, h2⟩ | ⟨h1, h2⟩
  · rw [dt h1, dt h2]; rfl
  · rw [df (by omega), df (by omega)]; rfl

/-- along axis 0 nothing changes. -/
theorem cross_x {a b p q q' : Pt} {r : Int} (h : touchB a b p r = false) (hq : InSq p r q) (hq' : InSq p r q') (he : q.2 = q'.2) : crossB a b q = crossB a b q' := by
  have g := untouched h
  have e0 := hq.a; have e1 := hq.b; have e2 := hq.c; have e3 := hq.d
  have d0 := hq'.a; have d1 := hq'.b; have d2 := hq'.c; have d3 := hq'.d
  rcases g with g | g | g | g | g | g
  · rw [cross_left (by omega) (by omega), cross_left (by omega) (by omega)]
  · rw [cross_right (by omega) (by omega), cross_right (by omega) (by omega), he]
  · rw [cross_flat (.inr (by omega)), cross_flat (.inr (by omega))]
  · rw [cross_flat (.inl (by omega)), cross_flat (.inl (by omega))]
  · unfold crossB; rw [he, dt (cross_pos g hq), dt (cross_pos g hq')]
  · have h1 := cross_neg g hq
    have h2 := cross_neg g hq'
    unfold crossB; rw [he, df (show ¬ 0 < cross a b q by omega), df (show ¬ 0 < cross a b q' by omega)]

/-- a corner between two heights, to the right. -/
def cornR (x y y' : Int) (v : Pt) : Bool := (decide (v.2 > y) && !decide (v.2 > y')) && decide (v.1 > x)
theorem crossB_swap {a b q : Pt} (h : cross a b q ≠ 0) : crossB b a q = crossB a b q := by
  unfold crossB
  rw [cross_swap a b]
  by_cases h1 : a.2 > q.2 <;> by_cases h2 : b.2 > q.2 <;> by_cases h3 : 0 < cross a b q
  · rw [dt h1, dt h2]; rfl
  · rw [dt h1, dt h2]; rfl
  · rw [dt h1, df h2, dt h3, df (show ¬ 0 < -cross a b q by omega)]; rfl
  · rw [dt h1, df h2, df h3, dt (show 0 < -cross a b q by omega)]; rfl
  · rw [df h1, dt h2, dt h3, df (show ¬ 0 < -cross a b q by omega)]; rfl
  · rw [df h1, dt h2, df h3, dt (show 0 < -cross a b q by omega)]; rfl
  · rw [df h1, df h2]; rfl
  · rw [df h1, df h2]; rfl
theorem cross_y_pos {a b p : Pt} {r x y y' : Int} (g : posB a b p r = true) (hq : InSq p r (x, y)) (hq' : InSq p r (x, y')) (hy : y ≤ y') :
    (crossB a b (x, y) != crossB a b (x, y')) = (cornR x y y' a != cornR x y y' b) := by
  have e0 : p.1 - r ≤ x := hq.a
  have e1 : x ≤ p.1 + r := hq.b
  have e2 : p.2 - r ≤ y := hq.c
  have d3 : y' ≤ p.2 + r := hq'.d
  unfold cornR
  have ca : y < a.2 → a.2 ≤ y' → 0 < (b.2 - a.2) * (a.1 - x) := fun h1 h2 => by
    have := cross_pos g (q := (x, a.2)) ⟨e0, e1, by show _ ≤ a.2; omega, by show a.2 ≤ _; omega⟩
    unfold cross at this
    have e : (b.1 - a.1) * (a.2 - a.2) - (b.2 - a.2) * (x - a.1) = (b.2 - a.2) * (a.1 - x) := by grind
    simp only at this
    omega
  have cb : y < b.2 → b.2 ≤ y' → 0 < (b.2 - a.2) * (b.1 - x) := fun h1 h2 => by
    have := cross_pos g (q := (x, b.2)) ⟨e0, e1, by show _ ≤ b.2; omega, by show b.2 ≤ _; omega⟩
    unfold cross at this
    have e : (b.1 - a.1) * (b.2 - a.2) - (b.2 - a.2) * (x - a.1) = (b.2 - a.2) * (b.1 - x) := by grind
    simp only at this
    omega
  have p1 := cross_pos g hq
  have p2 := cross_pos g hq'
  unfold crossB
  rw [dt p1, dt p2]
  simp only
  rcases Int.lt_trichotomy b.2 a.2 with hb | hb | hb
  · have na : y < a.2 → a.2 ≤ y' → ¬ a.1 > x := fun h1 h2 h3 => by
      have := ca h1 h2
      have := Int.mul_neg_of_neg_of_pos (show b.2 - a.2 < 0 by omega) (show 0 < a.1 - x by omega)
      omega
    have nb : y < b.2 → b.2 ≤ y' → ¬ b.1 > x := fun h1 h2 h3 => by
      have := cb h1 h2
      have := Int.mul_neg_of_neg_of_pos (show b.2 - a.2 < 0 by omega) (show 0 < b.1 - x by omega)
      omega
    by_cases a1 : a.2 > y' <;> by_cases a2 : a.2 > y <;> by_cases b1 : b.2 > y' <;> by_cases b2 : b.2 > y <;> by_cases a3 : a.1 > x <;> by_cases b3 : b.1 > x <;>
      first
        | (exfalso; omega)
        | (exfalso; exact na (by omega) (by omega) a3)
        | (exfalso; exact nb (by omega) (by omega) b3)
        | simp [a1, a2, b1, b2, a3, b3]
  · have na : ¬ (y < a.2 ∧ a.2 ≤ y') := fun ⟨h1, h2⟩ => by
      have := ca h1 h2
      rw [hb, Int.sub_self, Int.zero_mul] at this
      omega
    rw [hb]
    by_cases a1 : a.2 > y' <;> by_cases a2 : a.2 > y <;>
      first
        | (exfalso; omega)
        | simp [a1, a2]
  · have na : y < a.2 → a.2 ≤ y' → a.1 > x := fun h1 h2 => by
      rcases Int.lt_or_le x a.1 with h3 | h3
      · exact h3
      · have := ca h1 h2
        have := Int.mul_nonpos_of_nonneg_of_nonpos (show 0 ≤ b.2 - a.2 by omega) (show a.1 - x ≤ 0 by omega)
        omega
    have nb : y < b.2 → b.2 ≤ y' → b.1 > x := fun h1 h2 => by
      rcases Int.lt_or_le x b.1 with h3 | h3
      · exact h3
      · have := cb h1 h2
        have := Int.mul_nonpos_of_nonneg_of_nonpos (show 0 ≤ b.2 - a.2 by omega) (show b.1 - x ≤ 0 by omega)
        omega
    by_cases a1 : a.2 > y' <;> by_cases a2 : a.2 > y <;> by_cases b1 : b.2 > y' <;> by_cases b2 : b.2 > y <;> by_cases a3 : a.1 > x <;> by_cases b3 : b.1 > x <;>
      first
        | (exfalso; omega)
        | (exfalso; exact a3 (na (by omega) (by omega)))
        | (exfalso; exact b3 (nb (by omega) (by omega)))
        | simp [a1, a2, b1, b2, a3, b3]

theorem cross_y {a b p : Pt} {r x y y' : Int} (h : touchB a b p r = false) (hq : InSq p r (x, y)) (hq' : InSq p r (x, y')) (hy : y ≤ y') :
    (crossB a b (x, y) != crossB a b (x, y')) = (cornR x y y' a != cornR x y y' b) := by
  have g := untouched h
  have e0 : p.1 - r ≤ x := hq.a
  have e1 : x ≤ p.1 + r := hq.b
  have e2 : p.2 - r ≤ y := hq.c
  have d3 : y' ≤ p.2 + r := hq'.d
  unfold cornR
  rcases g with g | g | g | g | g | g
  · rw [cross_left (show a.1 < x by omega) (show b.1 < x by omega), cross_left (show a.1 < x by omega) (show b.1 < x by omega), df (show ¬ a.1 > x by omega), df (show ¬ b.1 > x by omega)]
    simp
  · rw [cross_right (show x < a.1 by omega) (show x < b.1 by omega), cross_right (show x < a.1 by omega) (show x < b.1 by omega), dt (show a.1 > x by omega), dt (show b.1 > x by omega)]
    simp only [Bool.and_true]
    by_cases a1 : a.2 > y' <;> by_cases a2 : a.2 > y <;> by_cases b1 : b.2 > y' <;> by_cases b2 : b.2 > y <;>
      first
        | (exfalso; omega)
        | simp [a1, a2, b1, b2]
  · rw [cross_flat (.inr ⟨by show a.2 ≤ y; omega, by show b.2 ≤ y; omega⟩), cross_flat (.inr ⟨by show a.2 ≤ y'; omega, by show b.2 ≤ y'; omega⟩), df (show ¬ a.2 > y by omega), df (show ¬ b.2 > y by omega)]
    simp
  · rw [cross_flat (.inl ⟨by show a.2 > y; omega, by show b.2 > y; omega⟩), cross_flat (.inl ⟨by show a.2 > y'; omega, by show b.2 > y'; omega⟩), dt (show a.2 > y' by omega), dt (show b.2 > y' by omega)]
    simp
  · have := cross_y_pos g hq hq' hy
    unfold cornR at this
    exact this
  · have n1 := cross_neg g hq
    have n2 := cross_neg g hq'
    have := cross_y_pos (a := b) (b := a) (by rw [pos_swap]; exact g) hq hq' hy
    rw [crossB_swap (a := a) (b := b) (q := (x, y)) (by omega), crossB_swap (a := a) (b := b) (q := (x, y')) (by omega)] at this
    unfold cornR at this
    rw [this]
    generalize (decide (a.2 > y) && !decide (a.2 > y') && decide (a.1 > x)) = u
    generalize (decide (b.2 > y) && !decide (b.2 > y') && decide (b.1 > x)) = v
    cases u <;> cases v <;> rfl

def parN (f : Nat → Bool) (n : Nat) : Bool := decide (cntN f 0 n % 2 = 1)
theorem parN_succ (f : Nat → Bool) (n : Nat) : parN f (n + 1) = (parN f n != f n) := by
  unfold parN
  rw [cntN_snoc, Nat.zero_add]
  by_cases h : cntN f 0 n % 2 = 1 <;> cases hf : f n
  · rw [dt h, dt (by simp; omega)]; rfl
  · rw [dt h, df (by simp; omega)]; rfl
  · rw [df h, df (by simp; omega)]; rfl
  · rw [df h, dt (by simp; omega)]; rfl
theorem parN_xor (f g : Nat → Bool) : ∀ n, parN (fun k => f k != g k) n = (parN f n != parN g n)
  | 0 => rfl
  | n + 1 => by
    rw [parN_succ, parN_succ, parN_succ, parN_xor f g n]
    cases parN f n <;> cases parN g n <;> cases f n <;> cases g n <;> rfl
theorem parN_congr {f g : Nat → Bool} {n : Nat} (h : ∀ j, j < n → f j = g j) : parN f n = parN g n := by
  unfold parN; rw [cntN_congr fun j _ hj => h j (by omega)]
theorem par_x {zs : List Pt} {p q q' : Pt} {r : Int} (h : touchesB zs p r = false) (hq : InSq p r q) (hq' : InSq p r q') (he : q.2 = q'.2) :
    parN (fun k => crossB (edge zs k).1 (edge zs k).2 q) zs.length = parN (fun k => crossB (edge zs k).1 (edge zs k).2 q') zs.length :=
  parN_congr fun j hj => cross_x (by
    cases ht : touchB (edge zs j).1 (edge zs j).2 p r with
    | false => rfl
    | true =>
      have : touchesB zs p r = true := anyN_iff.2 ⟨j, by omega, by omega, ht⟩
      rw [h] at this; cases this) hq hq' he
theorem par_y {zs : List Pt} {p : Pt} {r x y y' : Int} (h : touchesB zs p r = false) (hq : InSq p r (x, y)) (hq' : InSq p r (x, y')) (hy : y ≤ y') :
    parN (fun k => crossB (edge zs k).1 (edge zs k).2 (x, y)) zs.length = parN (fun k => crossB (edge zs k).1 (edge zs k).2 (x, y')) zs.length := by
  have e1 := parN_xor (fun k => crossB (edge zs k).1 (edge zs k).2 (x, y)) (fun k => crossB (edge zs k).1 (edge zs k).2 (x, y')) zs.length
  have e2 : parN (fun k => crossB (edge zs k).1 (edge zs k).2 (x, y) != crossB (edge zs k).1 (edge zs k).2 (x, y')) zs.length = parN (fun k => cornR x y y' (at0 zs k) != cornR x y y' (at0 zs ((k + 1) % zs.length))) zs.length :=
    parN_congr fun j hj => cross_y (by
      cases ht : touchB (edge zs j).1 (edge zs j).2 p r with
      | false => rfl
      | true =>
        have : touchesB zs p r = true := anyN_iff.2 ⟨j, by omega, by omega, ht⟩
        rw [h] at this; cases this) hq hq' hy
  have e3 := parN_xor (fun k => cornR x y y' (at0 zs k)) (fun k => cornR x y y' (at0 zs ((k + 1) % zs.length))) zs.length
  have e4 : parN (fun k => cornR x y y' (at0 zs ((k + 1) % zs.length))) zs.length = parN (fun k => cornR x y y' (at0 zs k)) zs.length := by
    unfold parN; rw [cntN_rot1 (fun k => cornR x y y' (at0 zs k))]
  rw [e4, bne_self_eq_false] at e3
  rw [e2, e3] at e1
  cases h1 : parN (fun k => crossB (edge zs k).1 (edge zs k).2 (x, y)) zs.length <;> cases h2 : parN (fun k => crossB (edge zs k).1 (edge zs k).2 (x, y')) zs.length <;> rw [h1, h2] at e1 <;> first | rfl | cases e1

/-- **A square that touches no edge is all within, or all not.** -/
theorem within_same {zs : List Pt} {p q : Pt} {r : Int} (h : touchesB zs p r = false) (hr : 0 ≤ r) (hq : InSq p r q) : touchesB zs q 0 = false ∧ withinB zs q = withinB zs p := by
  have hin : ∀ q', InSq p r q' → touchesB zs q' 0 = false := fun q' hq' => by
    cases ht : touchesB zs q' 0 with
    | false => rfl
    | true =>
      obtain ⟨j, h1, h2, h3⟩ := anyN_iff.1 ht
      have : touchB (edge zs j).1 (edge zs j).2 p r = false := by
        cases ht : touchB (edge zs j).1 (edge zs j).2 p r with
        | false => rfl
        | true =>
          have : touchesB zs p r = true := anyN_iff.2 ⟨j, h1, h2, ht⟩
          rw [h] at this; cases this
      rw [touch_in this hq'] at h3; cases h3
  have hp : InSq p r p := ⟨by omega, by omega, by omega, by omega⟩
  have hm : InSq p r (q.1, p.2) := ⟨hq.a, hq.b, by show _ ≤ p.2; omega, by show p.2 ≤ _; omega⟩
  refine ⟨hin q hq, ?_⟩
  unfold withinB
  rw [hin q hq, hin p hp, Bool.false_or, Bool.false_or]
  show parN (fun k => crossB (edge zs k).1 (edge zs k).2 q) zs.length = parN (fun k => crossB (edge zs k).1 (edge zs k).2 p) zs.length
  rw [par_x h hp hm rfl]
  rcases Int.le_total p.2 q.2 with hy | hy
  · exact (par_y h hm (show InSq p r (q.1, q.2) from hq) hy).symm
  · exact par_y h (show InSq p r (q.1, q.2) from hq) hm hy
end Go.Xv
set_option linter.unusedVariables false
namespace Go.Xv
/- 4 _law37_FenceSure -/
def c_law37_FenceSure : Cfg := ⟨[0, 1, 2, 3, 4, 5, 7, 8, 9, 10, 11, 12, 13, 14, 15, 17, 32, 45, 52, 58, 87], [(0, [0, 1, 2, 3, 4, 5, 7, 8, 9, 10, 11, 12, 14, 15, 16, 17, 18, 19, 20, 21, 22, 23, 24, 25, 26, 27, 28, 29, 30, 31, 32, 33, 34, 35, 36, 37, 38, 39, 40, 41, 42, 43, 96, 97, 98, 99, 100, 101, 102, 103, 104, 105, 106, 107, 108])], [], [(7, [0, 1, 2, 3, 4, 5, 7, 8, 9, 10, 11, 12, 13, 14, 15, 17, 32, 45, 52, 58, 87]), (15, [0, 1, 2, 3, 4, 5, 7, 8, 9, 10, 11, 12, 13, 14, 15, 17, 32, 45, 52, 58, 87])]⟩
def ti_law37_FenceSure : List TV := [.agg [.v (.bool), .fs .hole .hole 2, .v (.int .i64), .v (.int .i64)], .v (.agg [.int .i64, .int .i64, .int .i64]), .v (.int .i64), .v (.agg [.int .i64, .int .i64, .int .i64])]
def to_law37_FenceSure : TV := .v (.bool)
def S_law37_FenceSure (F : Nat) : FuncId → List VV → Option (Bool × VV) := words [(17, s_law37_works F), (9, s_law37_few F), (13, s_fence_State F)]
def TN_law37_FenceSure_0 : TS := ⟨[(0, .agg [.v (.bool), .fs .hole .hole 2, .v (.int .i64), .v (.int .i64)]), (1, .v (.agg [.int .i64, .int .i64, .int .i64])), (2, .v (.int .i64)), (3, .v (.agg [.int .i64, .int .i64, .int .i64])), (4, .lp 0 (.lit 0)), (5, .lp 1 (.lit 0)), (7, .lp 2 (.lit 0)), (8, .v (.bool)), (9, .v (.int .i64)), (10, .v (.int .i64)), (11, .lp 3 (.lit 0)), (12, .v (.int .i64)), (13, .v (.int .i64))], [(0, ⟨(.ex [.v (.bool), .fs (.lit 0) .hole 2, .v (.int .i64), .v (.int .i64)]), false⟩), (1, ⟨(.ex [.v (.int .i64), .v (.int .i64), .v (.int .i64)]), true⟩), (2, ⟨(.ex [.v (.int .i64), .v (.int .i64), .v (.int .i64)]), true⟩), (3, ⟨.hole, true⟩)], 4⟩
def TN_law37_FenceSure_0_0 : TS := ⟨[(0, .agg [.v (.bool), .fs .hole .hole 2, .v (.int .i64), .v (.int .i64)]), (1, .v (.agg [.int .i64, .int .i64, .int .i64])), (2, .v (.int .i64)), (3, .v (.agg [.int .i64, .int .i64, .int .i64])), (4, .lp 0 (.lit 0)), (5, .lp 1 (.lit 0)), (7, .lp 2 (.lit 0)), (8, .v (.bool)), (9, .v (.int .i64)), (10, .v (.int .i64)), (11, .lp 3 (.lit 0)), (12, .v (.int .i64)), (13, .v (.int .i64))], [(0, ⟨(.ex [.v (.bool), .fs (.lit 0) .hole 2, .v (.int .i64), .v (.int .i64)]), false⟩), (1, ⟨(.ex [.v (.int .i64), .v (.int .i64), .v (.int .i64)]), true⟩), (2, ⟨(.ex [.v (.int .i64), .v (.int .i64), .v (.int .i64)]), true⟩), (3, ⟨.hole, true⟩)], 4⟩
def N_law37_FenceSure_0 (F : Nat) (ex0 : Bool → List VV → Nat → Nat → Int → Int → Int → Int → Int → Int → Int → Int → Int → Bool → Int → Int → Int → Int → Bool → List VV → Nat → Int → Int → Int → Int → Int → Int → Int → Int → List VV → R) (x0 : Bool) (x1 : List VV) (x2 : Nat) (x3 : Nat) (x4 : Int) (x5 : Int) (x6 : Int) (x7 : Int) (x8 : Int) (x9 : Int) (x10 : Int) (x11 : Int) (x12 : Int) (x13 : Bool) (x14 : Int) (x15 : Int) (x16 : Int) (x17 : Int) (x18 : Bool) (x19 : List VV) (x20 : Nat) (x21 : Int) (x22 : Int) (x23 : Int) (x24 : Int) (x25 : Int) (x26 : Int) (x27 : Int) (x28 : Int) (x29 : List VV) : R :=
  bif ((decide (x16 < 2))) then (
    bif ((decide (0 ≤ x16)) && (decide (x16 < 3))) then (
      let v2081 : Nat := (0 + ((Int.toNat x16) * 1))
      bif ((isI .i64 [.v (.int .i64 x23), .v (.int .i64 x24), .v (.int .i64 x25)][v2081]?) && true) then (
        let v2083 : Int := (IntKind.wrap .i64 (((iv [.v (.int .i64 x23), .v (.int .i64 x24), .v (.int .i64 x25)][v2081]?)) + x17))
        let v2084 : Int := (if (-2305843009213693952) > v2083 then (-2305843009213693952) else v2083)
        bif ((decide (0 ≤ x16)) && (decide (x16 < 3))) then (
          let v2086 : Nat := (0 + ((Int.toNat x16) * 1))
          bif (decide ((v2086 + 1) ≤ x29.length)) then (
            ex0 x0 x1 x2 x3 x4 x5 x6 x7 x8 x9 x10 x11 x12 x13 x14 x15 x16 x17 x18 x19 x20 x21 x22 x23 x24 x25 x26 x27 x28 ((x29.take v2086 ++ [.v (.int .i64 ((if 2305843009213693952 < v2084 then 2305843009213693952 else v2084)))] ++ x29.drop (v2086 + 1))))
          else (
            none))
        else (
          none))
      else (
        none))
    else (
      none))
  else (
    bif ((decide (x17 > 0))) then (
      bif ((decide (x25 > ((IntKind.wrap .i64 (9223372036854775807 - x17)))))) then (
        bif (decide (3 ≤ x29.length)) then (
          ex0 x0 x1 x2 x3 x4 x5 x6 x7 x8 x9 x10 x11 x12 x13 x14 x15 x16 x17 x18 x19 x20 x21 x22 x23 x24 x25 x26 x27 x28 ((x29.take 2 ++ [.v (.int .i64 x25)] ++ x29.drop 3)))
        else (
          none))
      else (
        bif ((decide (x17 < 0))) then (
          bif ((decide (x25 < ((IntKind.wrap .i64 ((-9223372036854775808) - x17)))))) then (
            bif (decide (3 ≤ x29.length)) then (
              ex0 x0 x1 x2 x3 x4 x5 x6 x7 x8 x9 x10 x11 x12 x13 x14 x15 x16 x17 x18 x19 x20 x21 x22 x23 x24 x25 x26 x27 x28 ((x29.take 2 ++ [.v (.int .i64 x25)] ++ x29.drop 3)))
            else (
              none))
          else (
            bif (decide (3 ≤ x29.length)) then (
              ex0 x0 x1 x2 x3 x4 x5 x6 x7 x8 x9 x10 x11 x12 x13 x14 x15 x16 x17 x18 x19 x20 x21 x22 x23 x24 x25 x26 x27 x28 ((x29.take 2 ++ [.v (.int .i64 ((IntKind.wrap .i64 (x25 + x17))))] ++ x29.drop 3)))
            else (
              none)))
        else (
          bif (decide (3 ≤ x29.length)) then (
            ex0 x0 x1 x2 x3 x4 x5 x6 x7 x8 x9 x10 x11 x12 x13 x14 x15 x16 x17 x18 x19 x20 x21 x22 x23 x24 x25 x26 x27 x28 ((x29.take 2 ++ [.v (.int .i64 ((IntKind.wrap .i64 (x25 + x17))))] ++ x29.drop 3)))
          else (
            none))))
    else (
      bif ((decide (x17 < 0))) then (
        bif ((decide (x25 < ((IntKind.wrap .i64 ((-9223372036854775808) - x17)))))) then (
          bif (decide (3 ≤ x29.length)) then (
            ex0 x0 x1 x2 x3 x4 x5 x6 x7 x8 x9 x10 x11 x12 x13 x14 x15 x16 x17 x18 x19 x20 x21 x22 x23 x24 x25 x26 x27 x28 ((x29.take 2 ++ [.v (.int .i64 x25)] ++ x29.drop 3)))
          else (
            none))
        else (
          bif (decide (3 ≤ x29.length)) then (
            ex0 x0 x1 x2 x3 x4 x5 x6 x7 x8 x9 x10 x11 x12 x13 x14 x15 x16 x17 x18 x19 x20 x21 x22 x23 x24 x25 x26 x27 x28 ((x29.take 2 ++ [.v (.int .i64 ((IntKind.wrap .i64 (x25 + x17))))] ++ x29.drop 3)))
          else (
            none)))
      else (
        bif (decide (3 ≤ x29.length)) then (
          ex0 x0 x1 x2 x3 x4 x5 x6 x7 x8 x9 x10 x11 x12 x13 x14 x15 x16 x17 x18 x19 x20 x21 x22 x23 x24 x25 x26 x27 x28 ((x29.take 2 ++ [.v (.int .i64 ((IntKind.wrap .i64 (x25 + x17))))] ++ x29.drop 3)))
        else (
          none))))
def T_law37_FenceSure_0 : TS := ⟨[(0, .agg [.v (.bool), .fs .hole .hole 2, .v (.int .i64), .v (.int .i64)]), (1, .v (.agg [.int .i64, .int .i64, .int .i64])), (2, .v (.int .i64)), (3, .v (.agg [.int .i64, .int .i64, .int .i64])), (4, .lp 0 (.lit 0)), (5, .lp 1 (.lit 0)), (7, .lp 2 (.lit 0)), (8, .v (.bool)), (9, .v (.int .i64)), (10, .v (.int .i64)), (11, .lp 3 (.lit 0)), (12, .v (.int .i64))], [(0, ⟨(.ex [.v (.bool), .fs (.lit 0) .hole 2, .v (.int .i64), .v (.int .i64)]), false⟩), (1, ⟨(.ex [.v (.int .i64), .v (.int .i64), .v (.int .i64)]), true⟩), (2, ⟨(.ex [.v (.int .i64), .v (.int .i64), .v (.int .i64)]), true⟩), (3, ⟨.hole, true⟩)], 4⟩
def T_law37_FenceSure_0_0 : TS := ⟨[(0, .agg [.v (.bool), .fs .hole .hole 2, .v (.int .i64), .v (.int .i64)]), (1, .v (.agg [.int .i64, .int .i64, .int .i64])), (2, .v (.int .i64)), (3, .v (.agg [.int .i64, .int .i64, .int .i64])), (4, .lp 0 (.lit 0)), (5, .lp 1 (.lit 0)), (7, .lp 2 (.lit 0)), (8, .v (.bool)), (9, .v (.int .i64)), (10, .v (.int .i64)), (11, .lp 3 (.lit 0)), (12, .v (.int .i64))], [(0, ⟨(.ex [.v (.bool), .fs (.lit 0) .hole 2, .v (.int .i64), .v (.int .i64)]), false⟩), (1, ⟨(.ex [.v (.int .i64), .v (.int .i64), .v (.int .i64)]), true⟩), (2, ⟨(.ex [.v (.int .i64), .v (.int .i64), .v (.int .i64)]), true⟩), (3, ⟨.hole, true⟩)], 4⟩
def B_law37_FenceSure_0 (F : Nat) (rc : Bool → List VV → Nat → Nat → Int → Int → Int → Int → Int → Int → Int → Int → Int → Bool → Int → Int → Int → Bool → List VV → Nat → Int → Int → Int → Int → Int → Int → Int → Int → List VV → R) (ex0 : Bool → List VV → Nat → Nat → Int → Int → Int → Int → Int → Int → Int → Int → Int → Bool → Int → Int → Int → Bool → List VV → Nat → Int → Int → Int → Int → Int → Int → Int → Int → List VV → R) (x0 : Bool) (x1 : List VV) (x2 : Nat) (x3 : Nat) (x4 : Int) (x5 : Int) (x6 : Int) (x7 : Int) (x8 : Int) (x9 : Int) (x10 : Int) (x11 : Int) (x12 : Int) (x13 : Bool) (x14 : Int) (x15 : Int) (x16 : Int) (x17 : Bool) (x18 : List VV) (x19 : Nat) (x20 : Int) (x21 : Int) (x22 : Int) (x23 : Int) (x24 : Int) (x25 : Int) (x26 : Int) (x27 : Int) (x28 : List VV) : R :=
  bif ((decide (x16 < 3))) then (
    bif ((decide (0 ≤ x16)) && (decide (x16 < 3))) then (
      let v2047 : Nat := (0 + ((Int.toNat x16) * 1))
      bif ((isI .i64 [.v (.int .i64 x25), .v (.int .i64 x26), .v (.int .i64 x27)][v2047]?) && true) then (
        bif ((x9 == 0)) then (
          N_law37_FenceSure_0 F (fun (v2108 : Bool) (v2109 : List VV) (v2110 : Nat) (v2111 : Nat) (v2112 : Int) (v2113 : Int) (v2114 : Int) (v2115 : Int) (v2116 : Int) (v2117 : Int) (v2118 : Int) (v2119 : Int) (v2120 : Int) (v2121 : Bool) (v2122 : Int) (v2123 : Int) (v2124 : Int) (v2125 : Int) (v2126 : Bool) (v2127 : List VV) (v2128 : Nat) (v2129 : Int) (v2130 : Int) (v2131 : Int) (v2132 : Int) (v2133 : Int) (v2134 : Int) (v2135 : Int) (v2136 : Int) (v2137 : List VV) =>
            rc v2108 v2109 v2110 v2111 v2112 v2113 v2114 v2115 v2116 v2117 v2118 v2119 v2120 v2121 v2122 v2123 ((IntKind.wrap .i64 (v2124 + 1))) v2126 v2127 v2128 v2129 v2130 v2131 v2132 v2133 v2134 v2135 v2136 v2137) x0 x1 x2 x3 x4 x5 x6 x7 x8 x9 x10 x11 x12 x13 x14 x15 x16 0 x17 x18 x19 x20 x21 x22 x23 x24 x25 x26 x27 x28)
        else (
          let v2139 : Int := (IntKind.wrap .i64 (x9 + 1))
          bif (!(decide (v2139 = 0))) then (
            N_law37_FenceSure_0 F (fun (v2141 : Bool) (v2142 : List VV) (v2143 : Nat) (v2144 : Nat) (v2145 : Int) (v2146 : Int) (v2147 : Int) (v2148 : Int) (v2149 : Int) (v2150 : Int) (v2151 : Int) (v2152 : Int) (v2153 : Int) (v2154 : Bool) (v2155 : Int) (v2156 : Int) (v2157 : Int) (v2158 : Int) (v2159 : Bool) (v2160 : List VV) (v2161 : Nat) (v2162 : Int) (v2163 : Int) (v2164 : Int) (v2165 : Int) (v2166 : Int) (v2167 : Int) (v2168 : Int) (v2169 : Int) (v2170 : List VV) =>
              rc v2141 v2142 v2143 v2144 v2145 v2146 v2147 v2148 v2149 v2150 v2151 v2152 v2153 v2154 v2155 v2156 ((IntKind.wrap .i64 (v2157 + 1))) v2159 v2160 v2161 v2162 v2163 v2164 v2165 v2166 v2167 v2168 v2169 v2170) x0 x1 x2 x3 x4 x5 x6 x7 x8 x9 x10 x11 x12 x13 x14 x15 x16 ((Int.tmod ((iv [.v (.int .i64 x25), .v (.int .i64 x26), .v (.int .i64 x27)][v2047]?)) v2139)) x17 x18 x19 x20 x21 x22 x23 x24 x25 x26 x27 x28)
          else (
            none)))
      else (
        none))
    else (
      none))
  else (
    ex0 x0 x1 x2 x3 x4 x5 x6 x7 x8 x9 x10 x11 x12 x13 x14 x15 x16 x17 x18 x19 x20 x21 x22 x23 x24 x25 x26 x27 x28)
def L_law37_FenceSure_0 (F : Nat) (ex0 : Bool → List VV → Nat → Nat → Int → Int → Int → Int → Int → Int → Int → Int → Int → Bool → Int → Int → Int → Bool → List VV → Nat → Int → Int → Int → Int → Int → Int → Int → Int → List VV → R) : Nat → Bool → List VV → Nat → Nat → Int → Int → Int → Int → Int → Int → Int → Int → Int → Bool → Int → Int → Int → Bool → List VV → Nat → Int → Int → Int → Int → Int → Int → Int → Int → List VV → R
  | 0, _, _, _, _, _, _, _, _, _, _, _, _, _, _, _, _, _, _, _, _, _, _, _, _, _, _, _, _, _ => none
  | n + 1, x0, x1, x2, x3, x4, x5, x6, x7, x8, x9, x10, x11, x12, x13, x14, x15, x16, x17, x18, x19, x20, x21, x22, x23, x24, x25, x26, x27, x28 => B_law37_FenceSure_0 F (L_law37_FenceSure_0 F ex0 n) ex0 x0 x1 x2 x3 x4 x5 x6 x7 x8 x9 x10 x11 x12 x13 x14 x15 x16 x17 x18 x19 x20 x21 x22 x23 x24 x25 x26 x27 x28
def TN_law37_FenceSure_1 : TS := ⟨[(0, .agg [.v (.bool), .fs .hole .hole 2, .v (.int .i64), .v (.int .i64)]), (1, .v (.agg [.int .i64, .int .i64, .int .i64])), (2, .v (.int .i64)), (3, .v (.agg [.int .i64, .int .i64, .int .i64])), (4, .lp 0 (.lit 0)), (5, .lp 1 (.lit 0)), (7, .lp 2 (.lit 0)), (8, .v (.bool)), (9, .v (.int .i64)), (10, .v (.int .i64))], [(0, ⟨(.ex [.v (.bool), .fs (.lit 0) .hole 2, .v (.int .i64), .v (.int .i64)]), false⟩), (1, ⟨(.ex [.v (.int .i64), .v (.int .i64), .v (.int .i64)]), true⟩), (2, ⟨(.ex [.v (.int .i64), .v (.int .i64), .v (.int .i64)]), true⟩)], 3⟩
def TN_law37_FenceSure_1_0 : TS := ⟨[(0, .agg [.v (.bool), .fs .hole .hole 2, .v (.int .i64), .v (.int .i64)]), (1, .v (.agg [.int .i64, .int .i64, .int .i64])), (2, .v (.int .i64)), (3, .v (.agg [.int .i64, .int .i64, .int .i64])), (4, .lp 0 (.lit 0)), (5, .lp 1 (.lit 0)), (7, .lp 2 (.lit 0)), (8, .v (.bool)), (9, .v (.int .i64)), (10, .v (.int .i64)), (11, .lp 3 (.lit 0)), (12, .v (.int .i64)), (14, .v (.int .i64)), (15, .v (.int .i64))], [(0, ⟨(.ex [.v (.bool), .fs (.lit 0) .hole 2, .v (.int .i64), .v (.int .i64)]), false⟩), (1, ⟨(.ex [.v (.int .i64), .v (.int .i64), .v (.int .i64)]), true⟩), (2, ⟨(.ex [.v (.int .i64), .v (.int .i64), .v (.int .i64)]), true⟩), (3, ⟨.hole, true⟩)], 4⟩
def N_law37_FenceSure_1 (F : Nat) (ex0 : Bool → List VV → Nat → Nat → Int → Int → Int → Int → Int → Int → Int → Int → Int → Bool → Int → Int → Int → Int → Int → Bool → List VV → Nat → Int → Int → Int → Int → Int → Int → Int → Int → List VV → R) (x0 : Bool) (x1 : List VV) (x2 : Nat) (x3 : Nat) (x4 : Int) (x5 : Int) (x6 : Int) (x7 : Int) (x8 : Int) (x9 : Int) (x10 : Int) (x11 : Int) (x12 : Int) (x13 : Bool) (x14 : Int) (x15 : Int) (x16 : Bool) (x17 : List VV) (x18 : Nat) (x19 : Int) (x20 : Int) (x21 : Int) (x22 : Int) (x23 : Int) (x24 : Int) (x25 : Int) (x26 : Int) : R :=
  L_law37_FenceSure_0 F (fun (v2172 : Bool) (v2173 : List VV) (v2174 : Nat) (v2175 : Nat) (v2176 : Int) (v2177 : Int) (v2178 : Int) (v2179 : Int) (v2180 : Int) (v2181 : Int) (v2182 : Int) (v2183 : Int) (v2184 : Int) (v2185 : Bool) (v2186 : Int) (v2187 : Int) (v2188 : Int) (v2189 : Bool) (v2190 : List VV) (v2191 : Nat) (v2192 : Int) (v2193 : Int) (v2194 : Int) (v2195 : Int) (v2196 : Int) (v2197 : Int) (v2198 : Int) (v2199 : Int) (v2200 : List VV) =>
    bif ((isI .i64 v2200[0]?) && ((isI .i64 v2200[1]?) && ((isI .i64 v2200[2]?) && true))) then (
      let v2201 : Int := (iv v2200[0]?)
      let v2202 : Int := (iv v2200[1]?)
      let v2203 : Int := (iv v2200[2]?)
      bif (ok_fence_State F v2189 v2190 v2191 v2192 v2193 v2201 v2202 v2203 0) then (
        let v2204 : Int := (o_fence_State_0 F v2189 v2190 v2191 v2192 v2193 v2201 v2202 v2203 0)
        let v2205 : Int := (o_fence_State_1 F v2189 v2190 v2191 v2192 v2193 v2201 v2202 v2203 0)
        bif ((v2205 == 0)) then (
          ex0 v2172 v2173 v2174 v2175 v2176 v2177 v2178 v2179 v2180 v2181 v2182 v2183 v2184 ((v2204 == v2186)) v2186 v2187 v2188 v2204 v2205 v2189 v2190 v2191 v2192 v2193 v2194 v2195 v2196 v2197 v2198 v2199 v2200)
        else (
          ex0 v2172 v2173 v2174 v2175 v2176 v2177 v2178 v2179 v2180 v2181 v2182 v2183 v2184 false v2186 v2187 v2188 v2204 v2205 v2189 v2190 v2191 v2192 v2193 v2194 v2195 v2196 v2197 v2198 v2199 v2200))
      else (
        none))
    else (
      none)) F x0 x1 x2 x3 x4 x5 x6 x7 x8 x9 x10 x11 x12 x13 x14 x15 0 x16 x17 x18 x19 x20 x21 x22 x23 x24 x25 x26 ([.v (.int .i64 x21), .v (.int .i64 x22), .v (.int .i64 x23)])
def W_law37_FenceSure (F : Nat) : List LW := [⟨0, T_law37_FenceSure_0, fun k q => L_law37_FenceSure_0 F (fun (z0 : Bool) (z1 : List VV) (z2 : Nat) (z3 : Nat) (z4 : Int) (z5 : Int) (z6 : Int) (z7 : Int) (z8 : Int) (z9 : Int) (z10 : Int) (z11 : Int) (z12 : Int) (z13 : Bool) (z14 : Int) (z15 : Int) (z16 : Int) (z17 : Bool) (z18 : List VV) (z19 : Nat) (z20 : Int) (z21 : Int) (z22 : Int) (z23 : Int) (z24 : Int) (z25 : Int) (z26 : Int) (z27 : Int) (z28 : List VV) => k (.exit 0) (fS T_law37_FenceSure_0_0 [.b z0, .c z1, .n z2, .n z3, .i z4, .i z5, .i z6, .i z7, .i z8, .i z9, .i z10, .i z11, .i z12, .b z13, .i z14, .i z15, .i z16, .b z17, .c z18, .n z19, .i z20, .i z21, .i z22, .i z23, .i z24, .i z25, .i z26, .i z27, .c z28])) F (atB (nth q 0)) (atC (nth q 1)) (atN (nth q 2)) (atN (nth q 3)) (atI (nth q 4)) (atI (nth q 5)) (atI (nth q 6)) (atI (nth q 7)) (atI (nth q 8)) (atI (nth q 9)) (atI (nth q 10)) (atI (nth q 11)) (atI (nth q 12)) (atB (nth q 13)) (atI (nth q 14)) (atI (nth q 15)) (atI (nth q 16)) (atB (nth q 17)) (atC (nth q 18)) (atN (nth q 19)) (atI (nth q 20)) (atI (nth q 21)) (atI (nth q 22)) (atI (nth q 23)) (atI (nth q 24)) (atI (nth q 25)) (atI (nth q 26)) (atI (nth q 27)) (atC (nth q 28))⟩]
def I_law37_FenceSure (F : Nat) : Nat → VS → (Exit → VS → R) → R := tabI c_law37_FenceSure (W_law37_FenceSure F)
def WJ_law37_FenceSure (F : Nat) : List LJ := [⟨15, 1, TN_law37_FenceSure_0, fun k q => N_law37_FenceSure_0 F (fun (z0 : Bool) (z1 : List VV) (z2 : Nat) (z3 : Nat) (z4 : Int) (z5 : Int) (z6 : Int) (z7 : Int) (z8 : Int) (z9 : Int) (z10 : Int) (z11 : Int) (z12 : Int) (z13 : Bool) (z14 : Int) (z15 : Int) (z16 : Int) (z17 : Int) (z18 : Bool) (z19 : List VV) (z20 : Nat) (z21 : Int) (z22 : Int) (z23 : Int) (z24 : Int) (z25 : Int) (z26 : Int) (z27 : Int) (z28 : Int) (z29 : List VV) => k .normal (fS TN_law37_FenceSure_0_0 [.b z0, .c z1, .n z2, .n z3, .i z4, .i z5, .i z6, .i z7, .i z8, .i z9, .i z10, .i z11, .i z12, .b z13, .i z14, .i z15, .i z16, .i z17, .b z18, .c z19, .n z20, .i z21, .i z22, .i z23, .i z24, .i z25, .i z26, .i z27, .i z28, .c z29])) (atB (nth q 0)) (atC (nth q 1)) (atN (nth q 2)) (atN (nth q 3)) (atI (nth q 4)) (atI (nth q 5)) (atI (nth q 6)) (atI (nth q 7)) (atI (nth q 8)) (atI (nth q 9)) (atI (nth q 10)) (atI (nth q 11)) (atI (nth q 12)) (atB (nth q 13)) (atI (nth q 14)) (atI (nth q 15)) (atI (nth q 16)) (atI (nth q 17)) (atB (nth q 18)) (atC (nth q 19)) (atN (nth q 20)) (atI (nth q 21)) (atI (nth q 22)) (atI (nth q 23)) (atI (nth q 24)) (atI (nth q 25)) (atI (nth q 26)) (atI (nth q 27)) (atI (nth q 28)) (atC (nth q 29))⟩, ⟨7, 0, TN_law37_FenceSure_1, fun k q => N_law37_FenceSure_1 F (fun (z0 : Bool) (z1 : List VV) (z2 : Nat) (z3 : Nat) (z4 : Int) (z5 : Int) (z6 : Int) (z7 : Int) (z8 : Int) (z9 : Int) (z10 : Int) (z11 : Int) (z12 : Int) (z13 : Bool) (z14 : Int) (z15 : Int) (z16 : Int) (z17 : Int) (z18 : Int) (z19 : Bool) (z20 : List VV) (z21 : Nat) (z22 : Int) (z23 : Int) (z24 : Int) (z25 : Int) (z26 : Int) (z27 : Int) (z28 : Int) (z29 : Int) (z30 : List VV) => k .ret (fS TN_law37_FenceSure_1_0 [.b z0, .c z1, .n z2, .n z3, .i z4, .i z5, .i z6, .i z7, .i z8, .i z9, .i z10, .i z11, .i z12, .b z13, .i z14, .i z15, .i z16, .i z17, .i z18, .b z19, .c z20, .n z21, .i z22, .i z23, .i z24, .i z25, .i z26, .i z27, .i z28, .i z29, .c z30])) (atB (nth q 0)) (atC (nth q 1)) (atN (nth q 2)) (atN (nth q 3)) (atI (nth q 4)) (atI (nth q 5)) (atI (nth q 6)) (atI (nth q 7)) (atI (nth q 8)) (atI (nth q 9)) (atI (nth q 10)) (atI (nth q 11)) (atI (nth q 12)) (atB (nth q 13)) (atI (nth q 14)) (atI (nth q 15)) (atB (nth q 16)) (atC (nth q 17)) (atN (nth q 18)) (atI (nth q 19)) (atI (nth q 20)) (atI (nth q 21)) (atI (nth q 22)) (atI (nth q 23)) (atI (nth q 24)) (atI (nth q 25)) (atI (nth q 26))⟩]
def J_law37_FenceSure (F : Nat) : Nat → Nat → VS → (Exit → VS → R) → R := tabJ (WJ_law37_FenceSure F)
theorem nN_law37_FenceSure_0 (F : Nat) (k : Exit → VS → R) (x0 : Bool) (x1 : List VV) (x2 : Nat) (x3 : Nat) (x4 : Int) (x5 : Int) (x6 : Int) (x7 : Int) (x8 : Int) (x9 : Int) (x10 : Int) (x11 : Int) (x12 : Int) (x13 : Bool) (x14 : Int) (x15 : Int) (x16 : Int) (x17 : Int) (x18 : Bool) (x19 : List VV) (x20 : Nat) (x21 : Int) (x22 : Int) (x23 : Int) (x24 : Int) (x25 : Int) (x26 : Int) (x27 : Int) (x28 : Int) (x29 : List VV) : codeL PP (S_law37_FenceSure F) c_law37_FenceSure (I_law37_FenceSure F) (J_law37_FenceSure F) (joinAt PP c_law37_FenceSure 4 1) 1 (fS TN_law37_FenceSure_0 [.b x0, .c x1, .n x2, .n x3, .i x4, .i x5, .i x6, .i x7, .i x8, .i x9, .i x10, .i x11, .i x12, .b x13, .i x14, .i x15, .i x16, .i x17, .b x18, .c x19, .n x20, .i x21, .i x22, .i x23, .i x24, .i x25, .i x26, .i x27, .i x28, .c x29]) k = N_law37_FenceSure_0 F (fun (z0 : Bool) (z1 : List VV) (z2 : Nat) (z3 : Nat) (z4 : Int) (z5 : Int) (z6 : Int) (z7 : Int) (z8 : Int) (z9 : Int) (z10 : Int) (z11 : Int) (z12 : Int) (z13 : Bool) (z14 : Int) (z15 : Int) (z16 : Int) (z17 : Int) (z18 : Bool) (z19 : List VV) (z20 : Nat) (z21 : Int) (z22 : Int) (z23 : Int) (z24 : Int) (z25 : Int) (z26 : Int) (z27 : Int) (z28 : Int) (z29 : List VV) => k .normal (fS TN_law37_FenceSure_0_0 [.b z0, .c z1, .n z2, .n z3, .i z4, .i z5, .i z6, .i z7, .i z8, .i z9, .i z10, .i z11, .i z12, .b z13, .i z14, .i z15, .i z16, .i z17, .b z18, .c z19, .n z20, .i z21, .i z22, .i z23, .i z24, .i z25, .i z26, .i z27, .i z28, .c z29])) x0 x1 x2 x3 x4 x5 x6 x7 x8 x9 x10 x11 x12 x13 x14 x15 x16 x17 x18 x19 x20 x21 x22 x23 x24 x25 x26 x27 x28 x29 := by
  have h0 : ∀ (ok_law37_works : Nat → Bool) (o_law37_works_0 : Nat → Bool) (ok_law37_few : Nat → Bool → List VV → Nat → Nat → Int → Int → Bool) (o_law37_few_0 : Nat → Bool → List VV → Nat → Nat → Int → Int → Bool) (o_law37_few_1 : Nat → Bool → List VV → Nat → Nat → Int → Int → List VV) (o_law37_few_2 : Nat → Bool → List VV → Nat → Nat → Int → Int → Nat) (o_law37_few_3 : Nat → Bool → List VV → Nat → Nat → Int → Int → Int) (o_law37_few_4 : Nat → Bool → List VV → Nat → Nat → Int → Int → Int) (ok_fence_State : Nat → Bool → List VV → Nat → Int → Int → Int → Int → Int → Int → Bool) (o_fence_State_0 : Nat → Bool → List VV → Nat → Int → Int → Int → Int → Int → Int → Int) (o_fence_State_1 : Nat → Bool → List VV → Nat → Int → Int → Int → Int → Int → Int → Int) (L_law37_FenceSure_0 : Nat → (Bool → List VV → Nat → Nat → Int → Int → Int → Int → Int → Int → Int → Int → Int → Bool → Int → Int → Int → Bool → List VV → Nat → Int → Int → Int → Int → Int → Int → Int → Int → List VV → R) → Nat → Bool → List VV → Nat → Nat → Int → Int → Int → Int → Int → Int → Int → Int → Int → Bool → Int → Int → Int → Bool → List VV → Nat → Int → Int → Int → Int → Int → Int → Int → Int → List VV → R) (N_law37_FenceSure_0 : Nat → (Bool → List VV → Nat → Nat → Int → Int → Int → Int → Int → Int → Int → Int → Int → Bool → Int → Int → Int → Int → Bool → List VV → Nat → Int → Int → Int → Int → Int → Int → Int → Int → List VV → R) → Bool → List VV → Nat → Nat → Int → Int → Int → Int → Int → Int → Int → Int → Int → Bool → Int → Int → Int → Int → Bool → List VV → Nat → Int → Int → Int → Int → Int → Int → Int → Int → List VV → R) (N_law37_FenceSure_1 : Nat → (Bool → List VV → Nat → Nat → Int → Int → Int → Int → Int → Int → Int → Int → Int → Bool → Int → Int → Int → Int → Int → Bool → List VV → Nat → Int → Int → Int → Int → Int → Int → Int → Int → List VV → R) → Bool → List VV → Nat → Nat → Int → Int → Int → Int → Int → Int → Int → Int → Int → Bool → Int → Int → Bool → List VV → Nat → Int → Int → Int → Int → Int → Int → Int → Int → R), codeL PP (words [(17, spec ti_law37_works to_law37_works (fun q => (ok_law37_works F )) (fun q => [.b (o_law37_works_0 F )])), (9, spec ti_law37_few to_law37_few (fun q => (ok_law37_few F (atB (nth q 0)) (atC (nth q 1)) (atN (nth q 2)) (atN (nth q 3)) (atI (nth q 4)) (atI (nth q 5)))) (fun q => [.b (o_law37_few_0 F (atB (nth q 0)) (atC (nth q 1)) (atN (nth q 2)) (atN (nth q 3)) (atI (nth q 4)) (atI (nth q 5))), .c (o_law37_few_1 F (atB (nth q 0)) (atC (nth q 1)) (atN (nth q 2)) (atN (nth q 3)) (atI (nth q 4)) (atI (nth q 5))), .n (o_law37_few_2 F (atB (nth q 0)) (atC (nth q 1)) (atN (nth q 2)) (atN (nth q 3)) (atI (nth q 4)) (atI (nth q 5))), .i (o_law37_few_3 F (atB (nth q 0)) (atC (nth q 1)) (atN (nth q 2)) (atN (nth q 3)) (atI (nth q 4)) (atI (nth q 5))), .i (o_law37_few_4 F (atB (nth q 0)) (atC (nth q 1)) (atN (nth q 2)) (atN (nth q 3)) (atI (nth q 4)) (atI (nth q 5)))])), (13, spec ti_fence_State to_fence_State (fun q => (ok_fence_State F (atB (nth q 0)) (atC (nth q 1)) (atN (nth q 2)) (atI (nth q 3)) (atI (nth q 4)) (atI (nth q 5)) (atI (nth q 6)) (atI (nth q 7)) (atI (nth q 8)))) (fun q => [.i (o_fence_State_0 F (atB (nth q 0)) (atC (nth q 1)) (atN (nth q 2)) (atI (nth q 3)) (atI (nth q 4)) (atI (nth q 5)) (atI (nth q 6)) (atI (nth q 7)) (atI (nth q 8))), .i (o_fence_State_1 F (atB (nth q 0)) (atC (nth q 1)) (atN (nth q 2)) (atI (nth q 3)) (atI (nth q 4)) (atI (nth q 5)) (atI (nth q 6)) (atI (nth q 7)) (atI (nth q 8)))]))]) c_law37_FenceSure (tabI c_law37_FenceSure [⟨0, T_law37_FenceSure_0, fun k q => L_law37_FenceSure_0 F (fun (z0 : Bool) (z1 : List VV) (z2 : Nat) (z3 : Nat) (z4 : Int) (z5 : Int) (z6 : Int) (z7 : Int) (z8 : Int) (z9 : Int) (z10 : Int) (z11 : Int) (z12 : Int) (z13 : Bool) (z14 : Int) (z15 : Int) (z16 : Int) (z17 : Bool) (z18 : List VV) (z19 : Nat) (z20 : Int) (z21 : Int) (z22 : Int) (z23 : Int) (z24 : Int) (z25 : Int) (z26 : Int) (z27 : Int) (z28 : List VV) => k (.exit 0) (fS T_law37_FenceSure_0_0 [.b z0, .c z1, .n z2, .n z3, .i z4, .i z5, .i z6, .i z7, .i z8, .i z9, .i z10, .i z11, .i z12, .b z13, .i z14, .i z15, .i z16, .b z17, .c z18, .n z19, .i z20, .i z21, .i z22, .i z23, .i z24, .i z25, .i z26, .i z27, .c z28])) F (atB (nth q 0)) (atC (nth q 1)) (atN (nth q 2)) (atN (nth q 3)) (atI (nth q 4)) (atI (nth q 5)) (atI (nth q 6)) (atI (nth q 7)) (atI (nth q 8)) (atI (nth q 9)) (atI (nth q 10)) (atI (nth q 11)) (atI (nth q 12)) (atB (nth q 13)) (atI (nth q 14)) (atI (nth q 15)) (atI (nth q 16)) (atB (nth q 17)) (atC (nth q 18)) (atN (nth q 19)) (atI (nth q 20)) (atI (nth q 21)) (atI (nth q 22)) (atI (nth q 23)) (atI (nth q 24)) (atI (nth q 25)) (atI (nth q 26)) (atI (nth q 27)) (atC (nth q 28))⟩]) (tabJ [⟨15, 1, TN_law37_FenceSure_0, fun k q => N_law37_FenceSure_0 F (fun (z0 : Bool) (z1 : List VV) (z2 : Nat) (z3 : Nat) (z4 : Int) (z5 : Int) (z6 : Int) (z7 : Int) (z8 : Int) (z9 : Int) (z10 : Int) (z11 : Int) (z12 : Int) (z13 : Bool) (z14 : Int) (z15 : Int) (z16 : Int) (z17 : Int) (z18 : Bool) (z19 : List VV) (z20 : Nat) (z21 : Int) (z22 : Int) (z23 : Int) (z24 : Int) (z25 : Int) (z26 : Int) (z27 : Int) (z28 : Int) (z29 : List VV) => k .normal (fS TN_law37_FenceSure_0_0 [.b z0, .c z1, .n z2, .n z3, .i z4, .i z5, .i z6, .i z7, .i z8, .i z9, .i z10, .i z11, .i z12, .b z13, .i z14, .i z15, .i z16, .i z17, .b z18, .c z19, .n z20, .i z21, .i z22, .i z23, .i z24, .i z25, .i z26, .i z27, .i z28, .c z29])) (atB (nth q 0)) (atC (nth q 1)) (atN (nth q 2)) (atN (nth q 3)) (atI (nth q 4)) (atI (nth q 5)) (atI (nth q 6)) (atI (nth q 7)) (atI (nth q 8)) (atI (nth q 9)) (atI (nth q 10)) (atI (nth q 11)) (atI (nth q 12)) (atB (nth q 13)) (atI (nth q 14)) (atI (nth q 15)) (atI (nth q 16)) (atI (nth q 17)) (atB (nth q 18)) (atC (nth q 19)) (atN (nth q 20)) (atI (nth q 21)) (atI (nth q 22)) (atI (nth q 23)) (atI (nth q 24)) (atI (nth q 25)) (atI (nth q 26)) (atI (nth q 27)) (atI (nth q 28)) (atC (nth q 29))⟩, ⟨7, 0, TN_law37_FenceSure_1, fun k q => N_law37_FenceSure_1 F (fun (z0 : Bool) (z1 : List VV) (z2 : Nat) (z3 : Nat) (z4 : Int) (z5 : Int) (z6 : Int) (z7 : Int) (z8 : Int) (z9 : Int) (z10 : Int) (z11 : Int) (z12 : Int) (z13 : Bool) (z14 : Int) (z15 : Int) (z16 : Int) (z17 : Int) (z18 : Int) (z19 : Bool) (z20 : List VV) (z21 : Nat) (z22 : Int) (z23 : Int) (z24 : Int) (z25 : Int) (z26 : Int) (z27 : Int) (z28 : Int) (z29 : Int) (z30 : List VV) => k .ret (fS TN_law37_FenceSure_1_0 [.b z0, .c z1, .n z2, .n z3, .i z4, .i z5, .i z6, .i z7, .i z8, .i z9, .i z10, .i z11, .i z12, .b z13, .i z14, .i z15, .i z16, .i z17, .i z18, .b z19, .c z20, .n z21, .i z22, .i z23, .i z24, .i z25, .i z26, .i z27, .i z28, .i z29, .c z30])) (atB (nth q 0)) (atC (nth q 1)) (atN (nth q 2)) (atN (nth q 3)) (atI (nth q 4)) (atI (nth q 5)) (atI (nth q 6)) (atI (nth q 7)) (atI (nth q 8)) (atI (nth q 9)) (atI (nth q 10)) (atI (nth q 11)) (atI (nth q 12)) (atB (nth q 13)) (atI (nth q 14)) (atI (nth q 15)) (atB (nth q 16)) (atC (nth q 17)) (atN (nth q 18)) (atI (nth q 19)) (atI (nth q 20)) (atI (nth q 21)) (atI (nth q 22)) (atI (nth q 23)) (atI (nth q 24)) (atI (nth q 25)) (atI (nth q 26))⟩]) (joinAt PP c_law37_FenceSure 4 1) 1 (fS TN_law37_FenceSure_0 [.b x0, .c x1, .n x2, .n x3, .i x4, .i x5, .i x6, .i x7, .i x8, .i x9, .i x10, .i x11, .i x12, .b x13, .i x14, .i x15, .i x16, .i x17, .b x18, .c x19, .n x20, .i x21, .i x22, .i x23, .i x24, .i x25, .i x26, .i x27, .i x28, .c x29]) k = (fun (ex0 : Bool → List VV → Nat → Nat → Int → Int → Int → Int → Int → Int → Int → Int → Int → Bool → Int → Int → Int → Int → Bool → List VV → Nat → Int → Int → Int → Int → Int → Int → Int → Int → List VV → R) => (
  bif ((decide (x16 < 2))) then (
    bif ((decide (0 ≤ x16)) && (decide (x16 < 3))) then (
      let v2081 : Nat := (0 + ((Int.toNat x16) * 1))
      bif ((isI .i64 [.v (.int .i64 x23), .v (.int .i64 x24), .v (.int .i64 x25)][v2081]?) && true) then (
        let v2083 : Int := (IntKind.wrap .i64 (((iv [.v (.int .i64 x23), .v (.int .i64 x24), .v (.int .i64 x25)][v2081]?)) + x17))
        let v2084 : Int := (if (-2305843009213693952) > v2083 then (-2305843009213693952) else v2083)
        bif ((decide (0 ≤ x16)) && (decide (x16 < 3))) then (
          let v2086 : Nat := (0 + ((Int.toNat x16) * 1))
          bif (decide ((v2086 + 1) ≤ x29.length)) then (
            ex0 x0 x1 x2 x3 x4 x5 x6 x7 x8 x9 x10 x11 x12 x13 x14 x15 x16 x17 x18 x19 x20 x21 x22 x23 x24 x25 x26 x27 x28 ((x29.take v2086 ++ [.v (.int .i64 ((if 2305843009213693952 < v2084 then 2305843009213693952 else v2084)))] ++ x29.drop (v2086 + 1))))
          else (
            none))
        else (
          none))
      else (
        none))
    else (
      none))
  else (
    bif ((decide (x17 > 0))) then (
      bif ((decide (x25 > ((IntKind.wrap .i64 (9223372036854775807 - x17)))))) then (
        bif (decide (3 ≤ x29.length)) then (
          ex0 x0 x1 x2 x3 x4 x5 x6 x7 x8 x9 x10 x11 x12 x13 x14 x15 x16 x17 x18 x19 x20 x21 x22 x23 x24 x25 x26 x27 x28 ((x29.take 2 ++ [.v (.int .i64 x25)] ++ x29.drop 3)))
        else (
          none))
      else (
        bif ((decide (x17 < 0))) then (
          bif ((decide (x25 < ((IntKind.wrap .i64 ((-9223372036854775808) - x17)))))) then (
            bif (decide (3 ≤ x29.length)) then (
              ex0 x0 x1 x2 x3 x4 x5 x6 x7 x8 x9 x10 x11 x12 x13 x14 x15 x16 x17 x18 x19 x20 x21 x22 x23 x24 x25 x26 x27 x28 ((x29.take 2 ++ [.v (.int .i64 x25)] ++ x29.drop 3)))
            else (
              none))
          else (
            bif (decide (3 ≤ x29.length)) then (
              ex0 x0 x1 x2 x3 x4 x5 x6 x7 x8 x9 x10 x11 x12 x13 x14 x15 x16 x17 x18 x19 x20 x21 x22 x23 x24 x25 x26 x27 x28 ((x29.take 2 ++ [.v (.int .i64 ((IntKind.wrap .i64 (x25 + x17))))] ++ x29.drop 3)))
            else (
              none)))
        else (
          bif (decide (3 ≤ x29.length)) then (
            ex0 x0 x1 x2 x3 x4 x5 x6 x7 x8 x9 x10 x11 x12 x13 x14 x15 x16 x17 x18 x19 x20 x21 x22 x23 x24 x25 x26 x27 x28 ((x29.take 2 ++ [.v (.int .i64 ((IntKind.wrap .i64 (x25 + x17))))] ++ x29.drop 3)))
          else (
            none))))
    else (
      bif ((decide (x17 < 0))) then (
        bif ((decide (x25 < ((IntKind.wrap .i64 ((-9223372036854775808) - x17)))))) then (
          bif (decide (3 ≤ x29.length)) then (
            ex0 x0 x1 x2 x3 x4 x5 x6 x7 x8 x9 x10 x11 x12 x13 x14 x15 x16 x17 x18 x19 x20 x21 x22 x23 x24 x25 x26 x27 x28 ((x29.take 2 ++ [.v (.int .i64 x25)] ++ x29.drop 3)))
          else (
            none))
        else (
          bif (decide (3 ≤ x29.length)) then (
            ex0 x0 x1 x2 x3 x4 x5 x6 x7 x8 x9 x10 x11 x12 x13 x14 x15 x16 x17 x18 x19 x20 x21 x22 x23 x24 x25 x26 x27 x28 ((x29.take 2 ++ [.v (.int .i64 ((IntKind.wrap .i64 (x25 + x17))))] ++ x29.drop 3)))
          else (
            none)))
      else (
        bif (decide (3 ≤ x29.length)) then (
          ex0 x0 x1 x2 x3 x4 x5 x6 x7 x8 x9 x10 x11 x12 x13 x14 x15 x16 x17 x18 x19 x20 x21 x22 x23 x24 x25 x26 x27 x28 ((x29.take 2 ++ [.v (.int .i64 ((IntKind.wrap .i64 (x25 + x17))))] ++ x29.drop 3)))
        else (
          none)))) : R)) (fun (z0 : Bool) (z1 : List VV) (z2 : Nat) (z3 : Nat) (z4 : Int) (z5 : Int) (z6 : Int) (z7 : Int) (z8 : Int) (z9 : Int) (z10 : Int) (z11 : Int) (z12 : Int) (z13 : Bool) (z14 : Int) (z15 : Int) (z16 : Int) (z17 : Int) (z18 : Bool) (z19 : List VV) (z20 : Nat) (z21 : Int) (z22 : Int) (z23 : Int) (z24 : Int) (z25 : Int) (z26 : Int) (z27 : Int) (z28 : Int) (z29 : List VV) => k .normal (fS TN_law37_FenceSure_0_0 [.b z0, .c z1, .n z2, .n z3, .i z4, .i z5, .i z6, .i z7, .i z8, .i z9, .i z10, .i z11, .i z12, .b z13, .i z14, .i z15, .i z16, .i z17, .b z18, .c z19, .n z20, .i z21, .i z22, .i z23, .i z24, .i z25, .i z26, .i z27, .i z28, .c z29])) := by
    intros
    kernel_rfl
  exact (h0 ok_law37_works o_law37_works_0 ok_law37_few o_law37_few_0 o_law37_few_1 o_law37_few_2 o_law37_few_3 o_law37_few_4 ok_fence_State o_fence_State_0 o_fence_State_1 L_law37_FenceSure_0 N_law37_FenceSure_0 N_law37_FenceSure_1).trans (by kernel_rfl)
theorem lL_law37_FenceSure_0 (F : Nat) (k : Exit → VS → R) : ∀ (n : Nat) (x0 : Bool) (x1 : List VV) (x2 : Nat) (x3 : Nat) (x4 : Int) (x5 : Int) (x6 : Int) (x7 : Int) (x8 : Int) (x9 : Int) (x10 : Int) (x11 : Int) (x12 : Int) (x13 : Bool) (x14 : Int) (x15 : Int) (x16 : Int) (x17 : Bool) (x18 : List VV) (x19 : Nat) (x20 : Int) (x21 : Int) (x22 : Int) (x23 : Int) (x24 : Int) (x25 : Int) (x26 : Int) (x27 : Int) (x28 : List VV), iterC (codeL PP (S_law37_FenceSure F) c_law37_FenceSure (I_law37_FenceSure F) (J_law37_FenceSure F) (loopAt PP 4 0) 0) (headOf c_law37_FenceSure 0) k n (fS T_law37_FenceSure_0 [.b x0, .c x1, .n x2, .n x3, .i x4, .i x5, .i x6, .i x7, .i x8, .i x9, .i x10, .i x11, .i x12, .b x13, .i x14, .i x15, .i x16, .b x17, .c x18, .n x19, .i x20, .i x21, .i x22, .i x23, .i x24, .i x25, .i x26, .i x27, .c x28]) = L_law37_FenceSure_0 F (fun (z0 : Bool) (z1 : List VV) (z2 : Nat) (z3 : Nat) (z4 : Int) (z5 : Int) (z6 : Int) (z7 : Int) (z8 : Int) (z9 : Int) (z10 : Int) (z11 : Int) (z12 : Int) (z13 : Bool) (z14 : Int) (z15 : Int) (z16 : Int) (z17 : Bool) (z18 : List VV) (z19 : Nat) (z20 : Int) (z21 : Int) (z22 : Int) (z23 : Int) (z24 : Int) (z25 : Int) (z26 : Int) (z27 : Int) (z28 : List VV) => k (.exit 0) (fS T_law37_FenceSure_0_0 [.b z0, .c z1, .n z2, .n z3, .i z4, .i z5, .i z6, .i z7, .i z8, .i z9, .i z10, .i z11, .i z12, .b z13, .i z14, .i z15, .i z16, .b z17, .c z18, .n z19, .i z20, .i z21, .i z22, .i z23, .i z24, .i z25, .i z26, .i z27, .c z28])) n x0 x1 x2 x3 x4 x5 x6 x7 x8 x9 x10 x11 x12 x13 x14 x15 x16 x17 x18 x19 x20 x21 x22 x23 x24 x25 x26 x27 x28
  | 0, _, _, _, _, _, _, _, _, _, _, _, _, _, _, _, _, _, _, _, _, _, _, _, _, _, _, _, _, _ => rfl
  | n + 1, x0, x1, x2, x3, x4, x5, x6, x7, x8, x9, x10, x11, x12, x13, x14, x15, x16, x17, x18, x19, x20, x21, x22, x23, x24, x25, x26, x27, x28 => by
    have h0 : ∀ (ok_law37_works : Nat → Bool) (o_law37_works_0 : Nat → Bool) (ok_law37_few : Nat → Bool → List VV → Nat → Nat → Int → Int → Bool) (o_law37_few_0 : Nat → Bool → List VV → Nat → Nat → Int → Int → Bool) (o_law37_few_1 : Nat → Bool → List VV → Nat → Nat → Int → Int → List VV) (o_law37_few_2 : Nat → Bool → List VV → Nat → Nat → Int → Int → Nat) (o_law37_few_3 : Nat → Bool → List VV → Nat → Nat → Int → Int → Int) (o_law37_few_4 : Nat → Bool → List VV → Nat → Nat → Int → Int → Int) (ok_fence_State : Nat → Bool → List VV → Nat → Int → Int → Int → Int → Int → Int → Bool) (o_fence_State_0 : Nat → Bool → List VV → Nat → Int → Int → Int → Int → Int → Int → Int) (o_fence_State_1 : Nat → Bool → List VV → Nat → Int → Int → Int → Int → Int → Int → Int) (L_law37_FenceSure_0 : Nat → (Bool → List VV → Nat → Nat → Int → Int → Int → Int → Int → Int → Int → Int → Int → Bool → Int → Int → Int → Bool → List VV → Nat → Int → Int → Int → Int → Int → Int → Int → Int → List VV → R) → Nat → Bool → List VV → Nat → Nat → Int → Int → Int → Int → Int → Int → Int → Int → Int → Bool → Int → Int → Int → Bool → List VV → Nat → Int → Int → Int → Int → Int → Int → Int → Int → List VV → R) (N_law37_FenceSure_0 : Nat → (Bool → List VV → Nat → Nat → Int → Int → Int → Int → Int → Int → Int → Int → Int → Bool → Int → Int → Int → Int → Bool → List VV → Nat → Int → Int → Int → Int → Int → Int → Int → Int → List VV → R) → Bool → List VV → Nat → Nat → Int → Int → Int → Int → Int → Int → Int → Int → Int → Bool → Int → Int → Int → Int → Bool → List VV → Nat → Int → Int → Int → Int → Int → Int → Int → Int → List VV → R) (N_law37_FenceSure_1 : Nat → (Bool → List VV → Nat → Nat → Int → Int → Int → Int → Int → Int → Int → Int → Int → Bool → Int → Int → Int → Int → Int → Bool → List VV → Nat → Int → Int → Int → Int → Int → Int → Int → Int → List VV → R) → Bool → List VV → Nat → Nat → Int → Int → Int → Int → Int → Int → Int → Int → Int → Bool → Int → Int → Bool → List VV → Nat → Int → Int → Int → Int → Int → Int → Int → Int → R), iterC (codeL PP (words [(17, spec ti_law37_works to_law37_works (fun q => (ok_law37_works F )) (fun q => [.b (o_law37_works_0 F )])), (9, spec ti_law37_few to_law37_few (fun q => (ok_law37_few F (atB (nth q 0)) (atC (nth q 1)) (atN (nth q 2)) (atN (nth q 3)) (atI (nth q 4)) (atI (nth q 5)))) (fun q => [.b (o_law37_few_0 F (atB (nth q 0)) (atC (nth q 1)) (atN (nth q 2)) (atN (nth q 3)) (atI (nth q 4)) (atI (nth q 5))), .c (o_law37_few_1 F (atB (nth q 0)) (atC (nth q 1)) (atN (nth q 2)) (atN (nth q 3)) (atI (nth q 4)) (atI (nth q 5))), .n (o_law37_few_2 F (atB (nth q 0)) (atC (nth q 1)) (atN (nth q 2)) (atN (nth q 3)) (atI (nth q 4)) (atI (nth q 5))), .i (o_law37_few_3 F (atB (nth q 0)) (atC (nth q 1)) (atN (nth q 2)) (atN (nth q 3)) (atI (nth q 4)) (atI (nth q 5))), .i (o_law37_few_4 F (atB (nth q 0)) (atC (nth q 1)) (atN (nth q 2)) (atN (nth q 3)) (atI (nth q 4)) (atI (nth q 5)))])), (13, spec ti_fence_State to_fence_State (fun q => (ok_fence_State F (atB (nth q 0)) (atC (nth q 1)) (atN (nth q 2)) (atI (nth q 3)) (atI (nth q 4)) (atI (nth q 5)) (atI (nth q 6)) (atI (nth q 7)) (atI (nth q 8)))) (fun q => [.i (o_fence_State_0 F (atB (nth q 0)) (atC (nth q 1)) (atN (nth q 2)) (atI (nth q 3)) (atI (nth q 4)) (atI (nth q 5)) (atI (nth q 6)) (atI (nth q 7)) (atI (nth q 8))), .i (o_fence_State_1 F (atB (nth q 0)) (atC (nth q 1)) (atN (nth q 2)) (atI (nth q 3)) (atI (nth q 4)) (atI (nth q 5)) (atI (nth q 6)) (atI (nth q 7)) (atI (nth q 8)))]))]) c_law37_FenceSure (tabI c_law37_FenceSure [⟨0, T_law37_FenceSure_0, fun k q => L_law37_FenceSure_0 F (fun (z0 : Bool) (z1 : List VV) (z2 : Nat) (z3 : Nat) (z4 : Int) (z5 : Int) (z6 : Int) (z7 : Int) (z8 : Int) (z9 : Int) (z10 : Int) (z11 : Int) (z12 : Int) (z13 : Bool) (z14 : Int) (z15 : Int) (z16 : Int) (z17 : Bool) (z18 : List VV) (z19 : Nat) (z20 : Int) (z21 : Int) (z22 : Int) (z23 : Int) (z24 : Int) (z25 : Int) (z26 : Int) (z27 : Int) (z28 : List VV) => k (.exit 0) (fS T_law37_FenceSure_0_0 [.b z0, .c z1, .n z2, .n z3, .i z4, .i z5, .i z6, .i z7, .i z8, .i z9, .i z10, .i z11, .i z12, .b z13, .i z14, .i z15, .i z16, .b z17, .c z18, .n z19, .i z20, .i z21, .i z22, .i z23, .i z24, .i z25, .i z26, .i z27, .c z28])) F (atB (nth q 0)) (atC (nth q 1)) (atN (nth q 2)) (atN (nth q 3)) (atI (nth q 4)) (atI (nth q 5)) (atI (nth q 6)) (atI (nth q 7)) (atI (nth q 8)) (atI (nth q 9)) (atI (nth q 10)) (atI (nth q 11)) (atI (nth q 12)) (atB (nth q 13)) (atI (nth q 14)) (atI (nth q 15)) (atI (nth q 16)) (atB (nth q 17)) (atC (nth q 18)) (atN (nth q 19)) (atI (nth q 20)) (atI (nth q 21)) (atI (nth q 22)) (atI (nth q 23)) (atI (nth q 24)) (atI (nth q 25)) (atI (nth q 26)) (atI (nth q 27)) (atC (nth q 28))⟩]) (tabJ [⟨15, 1, TN_law37_FenceSure_0, fun k q => N_law37_FenceSure_0 F (fun (z0 : Bool) (z1 : List VV) (z2 : Nat) (z3 : Nat) (z4 : Int) (z5 : Int) (z6 : Int) (z7 : Int) (z8 : Int) (z9 : Int) (z10 : Int) (z11 : Int) (z12 : Int) (z13 : Bool) (z14 : Int) (z15 : Int) (z16 : Int) (z17 : Int) (z18 : Bool) (z19 : List VV) (z20 : Nat) (z21 : Int) (z22 : Int) (z23 : Int) (z24 : Int) (z25 : Int) (z26 : Int) (z27 : Int) (z28 : Int) (z29 : List VV) => k .normal (fS TN_law37_FenceSure_0_0 [.b z0, .c z1, .n z2, .n z3, .i z4, .i z5, .i z6, .i z7, .i z8, .i z9, .i z10, .i z11, .i z12, .b z13, .i z14, .i z15, .i z16, .i z17, .b z18, .c z19, .n z20, .i z21, .i z22, .i z23, .i z24, .i z25, .i z26, .i z27, .i z28, .c z29])) (atB (nth q 0)) (atC (nth q 1)) (atN (nth q 2)) (atN (nth q 3)) (atI (nth q 4)) (atI (nth q 5)) (atI (nth q 6)) (atI (nth q 7)) (atI (nth q 8)) (atI (nth q 9)) (atI (nth q 10)) (atI (nth q 11)) (atI (nth q 12)) (atB (nth q 13)) (atI (nth q 14)) (atI (nth q 15)) (atI (nth q 16)) (atI (nth q 17)) (atB (nth q 18)) (atC (nth q 19)) (atN (nth q 20)) (atI (nth q 21)) (atI (nth q 22)) (atI (nth q 23)) (atI (nth q 24)) (atI (nth q 25)) (atI (nth q 26)) (atI (nth q 27)) (atI (nth q 28)) (atC (nth q 29))⟩, ⟨7, 0, TN_law37_FenceSure_1, fun k q => N_law37_FenceSure_1 F (fun (z0 : Bool) (z1 : List VV) (z2 : Nat) (z3 : Nat) (z4 : Int) (z5 : Int) (z6 : Int) (z7 : Int) (z8 : Int) (z9 : Int) (z10 : Int) (z11 : Int) (z12 : Int) (z13 : Bool) (z14 : Int) (z15 : Int) (z16 : Int) (z17 : Int) (z18 : Int) (z19 : Bool) (z20 : List VV) (z21 : Nat) (z22 : Int) (z23 : Int) (z24 : Int) (z25 : Int) (z26 : Int) (z27 : Int) (z28 : Int) (z29 : Int) (z30 : List VV) => k .ret (fS TN_law37_FenceSure_1_0 [.b z0, .c z1, .n z2, .n z3, .i z4, .i z5, .i z6, .i z7, .i z8, .i z9, .i z10, .i z11, .i z12, .b z13, .i z14, .i z15, .i z16, .i z17, .i z18, .b z19, .c z20, .n z21, .i z22, .i z23, .i z24, .i z25, .i z26, .i z27, .i z28, .i z29, .c z30])) (atB (nth q 0)) (atC (nth q 1)) (atN (nth q 2)) (atN (nth q 3)) (atI (nth q 4)) (atI (nth q 5)) (atI (nth q 6)) (atI (nth q 7)) (atI (nth q 8)) (atI (nth q 9)) (atI (nth q 10)) (atI (nth q 11)) (atI (nth q 12)) (atB (nth q 13)) (atI (nth q 14)) (atI (nth q 15)) (atB (nth q 16)) (atC (nth q 17)) (atN (nth q 18)) (atI (nth q 19)) (atI (nth q 20)) (atI (nth q 21)) (atI (nth q 22)) (atI (nth q 23)) (atI (nth q 24)) (atI (nth q 25)) (atI (nth q 26))⟩]) (loopAt PP 4 0) 0) (headOf c_law37_FenceSure 0) k (n + 1) (fS T_law37_FenceSure_0 [.b x0, .c x1, .n x2, .n x3, .i x4, .i x5, .i x6, .i x7, .i x8, .i x9, .i x10, .i x11, .i x12, .b x13, .i x14, .i x15, .i x16, .b x17, .c x18, .n x19, .i x20, .i x21, .i x22, .i x23, .i x24, .i x25, .i x26, .i x27, .c x28]) = (fun (rc : Bool → List VV → Nat → Nat → Int → Int → Int → Int → Int → Int → Int → Int → Int → Bool → Int → Int → Int → Bool → List VV → Nat → Int → Int → Int → Int → Int → Int → Int → Int → List VV → R) (ex0 : Bool → List VV → Nat → Nat → Int → Int → Int → Int → Int → Int → Int → Int → Int → Bool → Int → Int → Int → Bool → List VV → Nat → Int → Int → Int → Int → Int → Int → Int → Int → List VV → R) (x0 : Bool) (x1 : List VV) (x2 : Nat) (x3 : Nat) (x4 : Int) (x5 : Int) (x6 : Int) (x7 : Int) (x8 : Int) (x9 : Int) (x10 : Int) (x11 : Int) (x12 : Int) (x13 : Bool) (x14 : Int) (x15 : Int) (x16 : Int) (x17 : Bool) (x18 : List VV) (x19 : Nat) (x20 : Int) (x21 : Int) (x22 : Int) (x23 : Int) (x24 : Int) (x25 : Int) (x26 : Int) (x27 : Int) (x28 : List VV) => (
  bif ((decide (x16 < 3))) then (
    bif ((decide (0 ≤ x16)) && (decide (x16 < 3))) then (
      let v2047 : Nat := (0 + ((Int.toNat x16) * 1))
      bif ((isI .i64 [.v (.int .i64 x25), .v (.int .i64 x26), .v (.int .i64 x27)][v2047]?) && true) then (
        bif ((x9 == 0)) then (
          N_law37_FenceSure_0 F (fun (v2108 : Bool) (v2109 : List VV) (v2110 : Nat) (v2111 : Nat) (v2112 : Int) (v2113 : Int) (v2114 : Int) (v2115 : Int) (v2116 : Int) (v2117 : Int) (v2118 : Int) (v2119 : Int) (v2120 : Int) (v2121 : Bool) (v2122 : Int) (v2123 : Int) (v2124 : Int) (v2125 : Int) (v2126 : Bool) (v2127 : List VV) (v2128 : Nat) (v2129 : Int) (v2130 : Int) (v2131 : Int) (v2132 : Int) (v2133 : Int) (v2134 : Int) (v2135 : Int) (v2136 : Int) (v2137 : List VV) =>
            rc v2108 v2109 v2110 v2111 v2112 v2113 v2114 v2115 v2116 v2117 v2118 v2119 v2120 v2121 v2122 v2123 ((IntKind.wrap .i64 (v2124 + 1))) v2126 v2127 v2128 v2129 v2130 v2131 v2132 v2133 v2134 v2135 v2136 v2137) x0 x1 x2 x3 x4 x5 x6 x7 x8 x9 x10 x11 x12 x13 x14 x15 x16 0 x17 x18 x19 x20 x21 x22 x23 x24 x25 x26 x27 x28)
        else (
          let v2139 : Int := (IntKind.wrap .i64 (x9 + 1))
          bif (!(decide (v2139 = 0))) then (
            N_law37_FenceSure_0 F (fun (v2141 : Bool) (v2142 : List VV) (v2143 : Nat) (v2144 : Nat) (v2145 : Int) (v2146 : Int) (v2147 : Int) (v2148 : Int) (v2149 : Int) (v2150 : Int) (v2151 : Int) (v2152 : Int) (v2153 : Int) (v2154 : Bool) (v2155 : Int) (v2156 : Int) (v2157 : Int) (v2158 : Int) (v2159 : Bool) (v2160 : List VV) (v2161 : Nat) (v2162 : Int) (v2163 : Int) (v2164 : Int) (v2165 : Int) (v2166 : Int) (v2167 : Int) (v2168 : Int) (v2169 : Int) (v2170 : List VV) =>
              rc v2141 v2142 v2143 v2144 v2145 v2146 v2147 v2148 v2149 v2150 v2151 v2152 v2153 v2154 v2155 v2156 ((IntKind.wrap .i64 (v2157 + 1))) v2159 v2160 v2161 v2162 v2163 v2164 v2165 v2166 v2167 v2168 v2169 v2170) x0 x1 x2 x3 x4 x5 x6 x7 x8 x9 x10 x11 x12 x13 x14 x15 x16 ((Int.tmod ((iv [.v (.int .i64 x25), .v (.int .i64 x26), .v (.int .i64 x27)][v2047]?)) v2139)) x17 x18 x19 x20 x21 x22 x23 x24 x25 x26 x27 x28)
          else (
            none)))
      else (
        none))
    else (
      none))
  else (
    ex0 x0 x1 x2 x3 x4 x5 x6 x7 x8 x9 x10 x11 x12 x13 x14 x15 x16 x17 x18 x19 x20 x21 x22 x23 x24 x25 x26 x27 x28) : R)) (fun (y0 : Bool) (y1 : List VV) (y2 : Nat) (y3 : Nat) (y4 : Int) (y5 : Int) (y6 : Int) (y7 : Int) (y8 : Int) (y9 : Int) (y10 : Int) (y11 : Int) (y12 : Int) (y13 : Bool) (y14 : Int) (y15 : Int) (y16 : Int) (y17 : Bool) (y18 : List VV) (y19 : Nat) (y20 : Int) (y21 : Int) (y22 : Int) (y23 : Int) (y24 : Int) (y25 : Int) (y26 : Int) (y27 : Int) (y28 : List VV) => iterC (codeL PP (words [(17, spec ti_law37_works to_law37_works (fun q => (ok_law37_works F )) (fun q => [.b (o_law37_works_0 F )])), (9, spec ti_law37_few to_law37_few (fun q => (ok_law37_few F (atB (nth q 0)) (atC (nth q 1)) (atN (nth q 2)) (atN (nth q 3)) (atI (nth q 4)) (atI (nth q 5)))) (fun q => [.b (o_law37_few_0 F (atB (nth q 0)) (atC (nth q 1)) (atN (nth q 2)) (atN (nth q 3)) (atI (nth q 4)) (atI (nth q 5))), .c (o_law37_few_1 F (atB (nth q 0)) (atC (nth q 1)) (atN (nth q 2)) (atN (nth q 3)) (atI (nth q 4)) (atI (nth q 5))), .n (o_law37_few_2 F (atB (nth q 0)) (atC (nth q 1)) (atN (nth q 2)) (atN (nth q 3)) (atI (nth q 4)) (atI (nth q 5))), .i (o_law37_few_3 F (atB (nth q 0)) (atC (nth q 1)) (atN (nth q 2)) (atN (nth q 3)) (atI (nth q 4)) (atI (nth q 5))), .i (o_law37_few_4 F (atB (nth q 0)) (atC (nth q 1)) (atN (nth q 2)) (atN (nth q 3)) (atI (nth q 4)) (atI (nth q 5)))])), (13, spec ti_fence_State to_fence_State (fun q => (ok_fence_State F (atB (nth q 0)) (atC (nth q 1)) (atN (nth q 2)) (atI (nth q 3)) (atI (nth q 4)) (atI (nth q 5)) (atI (nth q 6)) (atI (nth q 7)) (atI (nth q 8)))) (fun q => [.i (o_fence_State_0 F (atB (nth q 0)) (atC (nth q 1)) (atN (nth q 2)) (atI (nth q 3)) (atI (nth q 4)) (atI (nth q 5)) (atI (nth q 6)) (atI (nth q 7)) (atI (nth q 8))), .i (o_fence_State_1 F (atB (nth q 0)) (atC (nth q 1)) (atN (nth q 2)) (atI (nth q 3)) (atI (nth q 4)) (atI (nth q 5)) (atI (nth q 6)) (atI (nth q 7)) (atI (nth q 8)))]))]) c_law37_FenceSure (tabI c_law37_FenceSure [⟨0, T_law37_FenceSure_0, fun k q => L_law37_FenceSure_0 F (fun (z0 : Bool) (z1 : List VV) (z2 : Nat) (z3 : Nat) (z4 : Int) (z5 : Int) (z6 : Int) (z7 : Int) (z8 : Int) (z9 : Int) (z10 : Int) (z11 : Int) (z12 : Int) (z13 : Bool) (z14 : Int) (z15 : Int) (z16 : Int) (z17 : Bool) (z18 : List VV) (z19 : Nat) (z20 : Int) (z21 : Int) (z22 : Int) (z23 : Int) (z24 : Int) (z25 : Int) (z26 : Int) (z27 : Int) (z28 : List VV) => k (.exit 0) (fS T_law37_FenceSure_0_0 [.b z0, .c z1, .n z2, .n z3, .i z4, .i z5, .i z6, .i z7, .i z8, .i z9, .i z10, .i z11, .i z12, .b z13, .i z14, .i z15, .i z16, .b z17, .c z18, .n z19, .i z20, .i z21, .i z22, .i z23, .i z24, .i z25, .i z26, .i z27, .c z28])) F (atB (nth q 0)) (atC (nth q 1)) (atN (nth q 2)) (atN (nth q 3)) (atI (nth q 4)) (atI (nth q 5)) (atI (nth q 6)) (atI (nth q 7)) (atI (nth q 8)) (atI (nth q 9)) (atI (nth q 10)) (atI (nth q 11)) (atI (nth q 12)) (atB (nth q 13)) (atI (nth q 14)) (atI (nth q 15)) (atI (nth q 16)) (atB (nth q 17)) (atC (nth q 18)) (atN (nth q 19)) (atI (nth q 20)) (atI (nth q 21)) (atI (nth q 22)) (atI (nth q 23)) (atI (nth q 24)) (atI (nth q 25)) (atI (nth q 26)) (atI (nth q 27)) (atC (nth q 28))⟩]) (tabJ [⟨15, 1, TN_law37_FenceSure_0, fun k q => N_law37_FenceSure_0 F (fun (z0 : Bool) (z1 : List VV) (z2 : Nat) (z3 : Nat) (z4 : Int) (z5 : Int) (z6 : Int) (z7 : Int) (z8 : Int) (z9 : Int) (z10 : Int) (z11 : Int) (z12 : Int) (z13 : Bool) (z14 : Int) (z15 : Int) (z16 : Int) (z17 : Int) (z18 : Bool) (z19 : List VV) (z20 : Nat) (z21 : Int) (z22 : Int) (z23 : Int) (z24 : Int) (z25 : Int) (z26 : Int) (z27 : Int) (z28 : Int) (z29 : List VV) => k .normal (fS TN_law37_FenceSure_0_0 [.b z0, .c z1, .n z2, .n z3, .i z4, .i z5, .i z6, .i z7, .i z8, .i z9, .i z10, .i z11, .i z12, .b z13, .i z14, .i z15, .i z16, .i z17, .b z18, .c z19, .n z20, .i z21, .i z22, .i z23, .i z24, .i z25, .i z26, .i z27, .i z28, .c z29])) (atB (nth q 0)) (atC (nth q 1)) (atN (nth q 2)) (atN (nth q 3)) (atI (nth q 4)) (atI (nth q 5)) (atI (nth q 6)) (atI (nth q 7)) (atI (nth q 8)) (atI (nth q 9)) (atI (nth q 10)) (atI (nth q 11)) (atI (nth q 12)) (atB (nth q 13)) (atI (nth q 14)) (atI (nth q 15)) (atI (nth q 16)) (atI (nth q 17)) (atB (nth q 18)) (atC (nth q 19)) (atN (nth q 20)) (atI (nth q 21)) (atI (nth q 22)) (atI (nth q 23)) (atI (nth q 24)) (atI (nth q 25)) (atI (nth q 26)) (atI (nth q 27)) (atI (nth q 28)) (atC (nth q 29))⟩, ⟨7, 0, TN_law37_FenceSure_1, fun k q => N_law37_FenceSure_1 F (fun (z0 : Bool) (z1 : List VV) (z2 : Nat) (z3 : Nat) (z4 : Int) (z5 : Int) (z6 : Int) (z7 : Int) (z8 : Int) (z9 : Int) (z10 : Int) (z11 : Int) (z12 : Int) (z13 : Bool) (z14 : Int) (z15 : Int) (z16 : Int) (z17 : Int) (z18 : Int) (z19 : Bool) (z20 : List VV) (z21 : Nat) (z22 : Int) (z23 : Int) (z24 : Int) (z25 : Int) (z26 : Int) (z27 : Int) (z28 : Int) (z29 : Int) (z30 : List VV) => k .ret (fS TN_law37_FenceSure_1_0 [.b z0, .c z1, .n z2, .n z3, .i z4, .i z5, .i z6, .i z7, .i z8, .i z9, .i z10, .i z11, .i z12, .b z13, .i z14, .i z15, .i z16, .i z17, .i z18, .b z19, .c z20, .n z21, .i z22, .i z23, .i z24, .i z25, .i z26, .i z27, .i z28, .i z29, .c z30])) (atB (nth q 0)) (atC (nth q 1)) (atN (nth q 2)) (atN (nth q 3)) (atI (nth q 4)) (atI (nth q 5)) (atI (nth q 6)) (atI (nth q 7)) (atI (nth q 8)) (atI (nth q 9)) (atI (nth q 10)) (atI (nth q 11)) (atI (nth q 12)) (atB (nth q 13)) (atI (nth q 14)) (atI (nth q 15)) (atB (nth q 16)) (atC (nth q 17)) (atN (nth q 18)) (atI (nth q 19)) (atI (nth q 20)) (atI (nth q 21)) (atI (nth q 22)) (atI (nth q 23)) (atI (nth q 24)) (atI (nth q 25)) (atI (nth q 26))⟩]) (loopAt PP 4 0) 0) (headOf c_law37_FenceSure 0) k n (fS T_law37_FenceSure_0 [.b y0, .c y1, .n y2, .n y3, .i y4, .i y5, .i y6, .i y7, .i y8, .i y9, .i y10, .i y11, .i y12, .b y13, .i y14, .i y15, .i y16, .b y17, .c y18, .n y19, .i y20, .i y21, .i y22, .i y23, .i y24, .i y25, .i y26, .i y27, .c y28])) (fun (z0 : Bool) (z1 : List VV) (z2 : Nat) (z3 : Nat) (z4 : Int) (z5 : Int) (z6 : Int) (z7 : Int) (z8 : Int) (z9 : Int) (z10 : Int) (z11 : Int) (z12 : Int) (z13 : Bool) (z14 : Int) (z15 : Int) (z16 : Int) (z17 : Bool) (z18 : List VV) (z19 : Nat) (z20 : Int) (z21 : Int) (z22 : Int) (z23 : Int) (z24 : Int) (z25 : Int) (z26 : Int) (z27 : Int) (z28 : List VV) => k (.exit 0) (fS T_law37_FenceSure_0_0 [.b z0, .c z1, .n z2, .n z3, .i z4, .i z5, .i z6, .i z7, .i z8, .i z9, .i z10, .i z11, .i z12, .b z13, .i z14, .i z15, .i z16, .b z17, .c z18, .n z19, .i z20, .i z21, .i z22, .i z23, .i z24, .i z25, .i z26, .i z27, .c z28])) x0 x1 x2 x3 x4 x5 x6 x7 x8 x9 x10 x11 x12 x13 x14 x15 x16 x17 x18 x19 x20 x21 x22 x23 x24 x25 x26 x27 x28 := by
      intros
      kernel_rfl
    have h : iterC (codeL PP (S_law37_FenceSure F) c_law37_FenceSure (I_law37_FenceSure F) (J_law37_FenceSure F) (loopAt PP 4 0) 0) (headOf c_law37_FenceSure 0) k (n + 1) (fS T_law37_FenceSure_0 [.b x0, .c x1, .n x2, .n x3, .i x4, .i x5, .i x6, .i x7, .i x8, .i x9, .i x10, .i x11, .i x12, .b x13, .i x14, .i x15, .i x16, .b x17, .c x18, .n x19, .i x20, .i x21, .i x22, .i x23, .i x24, .i x25, .i x26, .i x27, .c x28]) = B_law37_FenceSure_0 F (fun (y0 : Bool) (y1 : List VV) (y2 : Nat) (y3 : Nat) (y4 : Int) (y5 : Int) (y6 : Int) (y7 : Int) (y8 : Int) (y9 : Int) (y10 : Int) (y11 : Int) (y12 : Int) (y13 : Bool) (y14 : Int) (y15 : Int) (y16 : Int) (y17 : Bool) (y18 : List VV) (y19 : Nat) (y20 : Int) (y21 : Int) (y22 : Int) (y23 : Int) (y24 : Int) (y25 : Int) (y26 : Int) (y27 : Int) (y28 : List VV) => iterC (codeL PP (S_law37_FenceSure F) c_law37_FenceSure (I_law37_FenceSure F) (J_law37_FenceSure F) (loopAt PP 4 0) 0) (headOf c_law37_FenceSure 0) k n (fS T_law37_FenceSure_0 [.b y0, .c y1, .n y2, .n y3, .i y4, .i y5, .i y6, .i y7, .i y8, .i y9, .i y10, .i y11, .i y12, .b y13, .i y14, .i y15, .i y16, .b y17, .c y18, .n y19, .i y20, .i y21, .i y22, .i y23, .i y24, .i y25, .i y26, .i y27, .c y28])) (fun (z0 : Bool) (z1 : List VV) (z2 : Nat) (z3 : Nat) (z4 : Int) (z5 : Int) (z6 : Int) (z7 : Int) (z8 : Int) (z9 : Int) (z10 : Int) (z11 : Int) (z12 : Int) (z13 : Bool) (z14 : Int) (z15 : Int) (z16 : Int) (z17 : Bool) (z18 : List VV) (z19 : Nat) (z20 : Int) (z21 : Int) (z22 : Int) (z23 : Int) (z24 : Int) (z25 : Int) (z26 : Int) (z27 : Int) (z28 : List VV) => k (.exit 0) (fS T_law37_FenceSure_0_0 [.b z0, .c z1, .n z2, .n z3, .i z4, .i z5, .i z6, .i z7, .i z8, .i z9, .i z10, .i z11, .i z12, .b z13, .i z14, .i z15, .i z16, .b z17, .c z18, .n z19, .i z20, .i z21, .i z22, .i z23, .i z24, .i z25, .i z26, .i z27, .c z28])) x0 x1 x2 x3 x4 x5 x6 x7 x8 x9 x10 x11 x12 x13 x14 x15 x16 x17 x18 x19 x20 x21 x22 x23 x24 x25 x26 x27 x28 := (h0 ok_law37_works o_law37_works_0 ok_law37_few o_law37_few_0 o_law37_few_1 o_law37_few_2 o_law37_few_3 o_law37_few_4 ok_fence_State o_fence_State_0 o_fence_State_1 L_law37_FenceSure_0 N_law37_FenceSure_0 N_law37_FenceSure_1).trans (by kernel_rfl)
    rw [h]
    simp only [lL_law37_FenceSure_0 F k n]
    rfl
theorem nN_law37_FenceSure_1 (F : Nat) (k : Exit → VS → R) (x0 : Bool) (x1 : List VV) (x2 : Nat) (x3 : Nat) (x4 : Int) (x5 : Int) (x6 : Int) (x7 : Int) (x8 : Int) (x9 : Int) (x10 : Int) (x11 : Int) (x12 : Int) (x13 : Bool) (x14 : Int) (x15 : Int) (x16 : Bool) (x17 : List VV) (x18 : Nat) (x19 : Int) (x20 : Int) (x21 : Int) (x22 : Int) (x23 : Int) (x24 : Int) (x25 : Int) (x26 : Int) : codeL PP (S_law37_FenceSure F) c_law37_FenceSure (I_law37_FenceSure F) (J_law37_FenceSure F) (joinAt PP c_law37_FenceSure 4 0) 0 (fS TN_law37_FenceSure_1 [.b x0, .c x1, .n x2, .n x3, .i x4, .i x5, .i x6, .i x7, .i x8, .i x9, .i x10, .i x11, .i x12, .b x13, .i x14, .i x15, .b x16, .c x17, .n x18, .i x19, .i x20, .i x21, .i x22, .i x23, .i x24, .i x25, .i x26]) k = N_law37_FenceSure_1 F (fun (z0 : Bool) (z1 : List VV) (z2 : Nat) (z3 : Nat) (z4 : Int) (z5 : Int) (z6 : Int) (z7 : Int) (z8 : Int) (z9 : Int) (z10 : Int) (z11 : Int) (z12 : Int) (z13 : Bool) (z14 : Int) (z15 : Int) (z16 : Int) (z17 : Int) (z18 : Int) (z19 : Bool) (z20 : List VV) (z21 : Nat) (z22 : Int) (z23 : Int) (z24 : Int) (z25 : Int) (z26 : Int) (z27 : Int) (z28 : Int) (z29 : Int) (z30 : List VV) => k .ret (fS TN_law37_FenceSure_1_0 [.b z0, .c z1, .n z2, .n z3, .i z4, .i z5, .i z6, .i z7, .i z8, .i z9, .i z10, .i z11, .i z12, .b z13, .i z14, .i z15, .i z16, .i z17, .i z18, .b z19, .c z20, .n z21, .i z22, .i z23, .i z24, .i z25, .i z26, .i z27, .i z28, .i z29, .c z30])) x0 x1 x2 x3 x4 x5 x6 x7 x8 x9 x10 x11 x12 x13 x14 x15 x16 x17 x18 x19 x20 x21 x22 x23 x24 x25 x26 := by
  have h0 : ∀ (ok_law37_works : Nat → Bool) (o_law37_works_0 : Nat → Bool) (ok_law37_few : Nat → Bool → List VV → Nat → Nat → Int → Int → Bool) (o_law37_few_0 : Nat → Bool → List VV → Nat → Nat → Int → Int → Bool) (o_law37_few_1 : Nat → Bool → List VV → Nat → Nat → Int → Int → List VV) (o_law37_few_2 : Nat → Bool → List VV → Nat → Nat → Int → Int → Nat) (o_law37_few_3 : Nat → Bool → List VV → Nat → Nat → Int → Int → Int) (o_law37_few_4 : Nat → Bool → List VV → Nat → Nat → Int → Int → Int) (ok_fence_State : Nat → Bool → List VV → Nat → Int → Int → Int → Int → Int → Int → Bool) (o_fence_State_0 : Nat → Bool → List VV → Nat → Int → Int → Int → Int → Int → Int → Int) (o_fence_State_1 : Nat → Bool → List VV → Nat → Int → Int → Int → Int → Int → Int → Int) (L_law37_FenceSure_0 : Nat → (Bool → List VV → Nat → Nat → Int → Int → Int → Int → Int → Int → Int → Int → Int → Bool → Int → Int → Int → Bool → List VV → Nat → Int → Int → Int → Int → Int → Int → Int → Int → List VV → R) → Nat → Bool → List VV → Nat → Nat → Int → Int → Int → Int → Int → Int → Int → Int → Int → Bool → Int → Int → Int → Bool → List VV → Nat → Int → Int → Int → Int → Int → Int → Int → Int → List VV → R) (N_law37_FenceSure_0 : Nat → (Bool → List VV → Nat → Nat → Int → Int → Int → Int → Int → Int → Int → Int → Int → Bool → Int → Int → Int → Int → Bool → List VV → Nat → Int → Int → Int → Int → Int → Int → Int → Int → List VV → R) → Bool → List VV → Nat → Nat → Int → Int → Int → Int → Int → Int → Int → Int → Int → Bool → Int → Int → Int → Int → Bool → List VV → Nat → Int → Int → Int → Int → Int → Int → Int → Int → List VV → R) (N_law37_FenceSure_1 : Nat → (Bool → List VV → Nat → Nat → Int → Int → Int → Int → Int → Int → Int → Int → Int → Bool → Int → Int → Int → Int → Int → Bool → List VV → Nat → Int → Int → Int → Int → Int → Int → Int → Int → List VV → R) → Bool → List VV → Nat → Nat → Int → Int → Int → Int → Int → Int → Int → Int → Int → Bool → Int → Int → Bool → List VV → Nat → Int → Int → Int → Int → Int → Int → Int → Int → R), codeL PP (words [(17, spec ti_law37_works to_law37_works (fun q => (ok_law37_works F )) (fun q => [.b (o_law37_works_0 F )])), (9, spec ti_law37_few to_law37_few (fun q => (ok_law37_few F (atB (nth q 0)) (atC (nth q 1)) (atN (nth q 2)) (atN (nth q 3)) (atI (nth q 4)) (atI (nth q 5)))) (fun q => [.b (o_law37_few_0 F (atB (nth q 0)) (atC (nth q 1)) (atN (nth q 2)) (atN (nth q 3)) (atI (nth q 4)) (atI (nth q 5))), .c (o_law37_few_1 F (atB (nth q 0)) (atC (nth q 1)) (atN (nth q 2)) (atN (nth q 3)) (atI (nth q 4)) (atI (nth q 5))), .n (o_law37_few_2 F (atB (nth q 0)) (atC (nth q 1)) (atN (nth q 2)) (atN (nth q 3)) (atI (nth q 4)) (atI (nth q 5))), .i (o_law37_few_3 F (atB (nth q 0)) (atC (nth q 1)) (atN (nth q 2)) (atN (nth q 3)) (atI (nth q 4)) (atI (nth q 5))), .i (o_law37_few_4 F (atB (nth q 0)) (atC (nth q 1)) (atN (nth q 2)) (atN (nth q 3)) (atI (nth q 4)) (atI (nth q 5)))])), (13, spec ti_fence_State to_fence_State (fun q => (ok_fence_State F (atB (nth q 0)) (atC (nth q 1)) (atN (nth q 2)) (atI (nth q 3)) (atI (nth q 4)) (atI (nth q 5)) (atI (nth q 6)) (atI (nth q 7)) (atI (nth q 8)))) (fun q => [.i (o_fence_State_0 F (atB (nth q 0)) (atC (nth q 1)) (atN (nth q 2)) (atI (nth q 3)) (atI (nth q 4)) (atI (nth q 5)) (atI (nth q 6)) (atI (nth q 7)) (atI (nth q 8))), .i (o_fence_State_1 F (atB (nth q 0)) (atC (nth q 1)) (atN (nth q 2)) (atI (nth q 3)) (atI (nth q 4)) (atI (nth q 5)) (atI (nth q 6)) (atI (nth q 7)) (atI (nth q 8)))]))]) c_law37_FenceSure (tabI c_law37_FenceSure [⟨0, T_law37_FenceSure_0, fun k q => L_law37_FenceSure_0 F (fun (z0 : Bool) (z1 : List VV) (z2 : Nat) (z3 : Nat) (z4 : Int) (z5 : Int) (z6 : Int) (z7 : Int) (z8 : Int) (z9 : Int) (z10 : Int) (z11 : Int) (z12 : Int) (z13 : Bool) (z14 : Int) (z15 : Int) (z16 : Int) (z17 : Bool) (z18 : List VV) (z19 : Nat) (z20 : Int) (z21 : Int) (z22 : Int) (z23 : Int) (z24 : Int) (z25 : Int) (z26 : Int) (z27 : Int) (z28 : List VV) => k (.exit 0) (fS T_law37_FenceSure_0_0 [.b z0, .c z1, .n z2, .n z3, .i z4, .i z5, .i z6, .i z7, .i z8, .i z9, .i z10, .i z11, .i z12, .b z13, .i z14, .i z15, .i z16, .b z17, .c z18, .n z19, .i z20, .i z21, .i z22, .i z23, .i z24, .i z25, .i z26, .i z27, .c z28])) F (atB (nth q 0)) (atC (nth q 1)) (atN (nth q 2)) (atN (nth q 3)) (atI (nth q 4)) (atI (nth q 5)) (atI (nth q 6)) (atI (nth q 7)) (atI (nth q 8)) (atI (nth q 9)) (atI (nth q 10)) (atI (nth q 11)) (atI (nth q 12)) (atB (nth q 13)) (atI (nth q 14)) (atI (nth q 15)) (atI (nth q 16)) (atB (nth q 17)) (atC (nth q 18)) (atN (nth q 19)) (atI (nth q 20)) (atI (nth q 21)) (atI (nth q 22)) (atI (nth q 23)) (atI (nth q 24)) (atI (nth q 25)) (atI (nth q 26)) (atI (nth q 27)) (atC (nth q 28))⟩]) (tabJ [⟨15, 1, TN_law37_FenceSure_0, fun k q => N_law37_FenceSure_0 F (fun (z0 : Bool) (z1 : List VV) (z2 : Nat) (z3 : Nat) (z4 : Int) (z5 : Int) (z6 : Int) (z7 : Int) (z8 : Int) (z9 : Int) (z10 : Int) (z11 : Int) (z12 : Int) (z13 : Bool) (z14 : Int) (z15 : Int) (z16 : Int) (z17 : Int) (z18 : Bool) (z19 : List VV) (z20 : Nat) (z21 : Int) (z22 : Int) (z23 : Int) (z24 : Int) (z25 : Int) (z26 : Int) (z27 : Int) (z28 : Int) (z29 : List VV) => k .normal (fS TN_law37_FenceSure_0_0 [.b z0, .c z1, .n z2, .n z3, .i z4, .i z5, .i z6, .i z7, .i z8, .i z9, .i z10, .i z11, .i z12, .b z13, .i z14, .i z15, .i z16, .i z17, .b z18, .c z19, .n z20, .i z21, .i z22, .i z23, .i z24, .i z25, .i z26, .i z27, .i z28, .c z29])) (atB (nth q 0)) (atC (nth q 1)) (atN (nth q 2)) (atN (nth q 3)) (atI (nth q 4)) (atI (nth q 5)) (atI (nth q 6)) (atI (nth q 7)) (atI (nth q 8)) (atI (nth q 9)) (atI (nth q 10)) (atI (nth q 11)) (atI (nth q 12)) (atB (nth q 13)) (atI (nth q 14)) (atI (nth q 15)) (atI (nth q 16)) (atI (nth q 17)) (atB (nth q 18)) (atC (nth q 19)) (atN (nth q 20)) (atI (nth q 21)) (atI (nth q 22)) (atI (nth q 23)) (atI (nth q 24)) (atI (nth q 25)) (atI (nth q 26)) (atI (nth q 27)) (atI (nth q 28)) (atC (nth q 29))⟩, ⟨7, 0, TN_law37_FenceSure_1, fun k q => N_law37_FenceSure_1 F (fun (z0 : Bool) (z1 : List VV) (z2 : Nat) (z3 : Nat) (z4 : Int) (z5 : Int) (z6 : Int) (z7 : Int) (z8 : Int) (z9 : Int) (z10 : Int) (z11 : Int) (z12 : Int) (z13 : Bool) (z14 : Int) (z15 : Int) (z16 : Int) (z17 : Int) (z18 : Int) (z19 : Bool) (z20 : List VV) (z21 : Nat) (z22 : Int) (z23 : Int) (z24 : Int) (z25 : Int) (z26 : Int) (z27 : Int) (z28 : Int) (z29 : Int) (z30 : List VV) => k .ret (fS TN_law37_FenceSure_1_0 [.b z0, .c z1, .n z2, .n z3, .i z4, .i z5, .i z6, .i z7, .i z8, .i z9, .i z10, .i z11, .i z12, .b z13, .i z14, .i z15, .i z16, .i z17, .i z18, .b z19, .c z20, .n z21, .i z22, .i z23, .i z24, .i z25, .i z26, .i z27, .i z28, .i z29, .c z30])) (atB (nth q 0)) (atC (nth q 1)) (atN (nth q 2)) (atN (nth q 3)) (atI (nth q 4)) (atI (nth q 5)) (atI (nth q 6)) (atI (nth q 7)) (atI (nth q 8)) (atI (nth q 9)) (atI (nth q 10)) (atI (nth q 11)) (atI (nth q 12)) (atB (nth q 13)) (atI (nth q 14)) (atI (nth q 15)) (atB (nth q 16)) (atC (nth q 17)) (atN (nth q 18)) (atI (nth q 19)) (atI (nth q 20)) (atI (nth q 21)) (atI (nth q 22)) (atI (nth q 23)) (atI (nth q 24)) (atI (nth q 25)) (atI (nth q 26))⟩]) (joinAt PP c_law37_FenceSure 4 0) 0 (fS TN_law37_FenceSure_1 [.b x0, .c x1, .n x2, .n x3, .i x4, .i x5, .i x6, .i x7, .i x8, .i x9, .i x10, .i x11, .i x12, .b x13, .i x14, .i x15, .b x16, .c x17, .n x18, .i x19, .i x20, .i x21, .i x22, .i x23, .i x24, .i x25, .i x26]) k = (fun (ex0 : Bool → List VV → Nat → Nat → Int → Int → Int → Int → Int → Int → Int → Int → Int → Bool → Int → Int → Int → Int → Int → Bool → List VV → Nat → Int → Int → Int → Int → Int → Int → Int → Int → List VV → R) => (
  L_law37_FenceSure_0 F (fun (v2172 : Bool) (v2173 : List VV) (v2174 : Nat) (v2175 : Nat) (v2176 : Int) (v2177 : Int) (v2178 : Int) (v2179 : Int) (v2180 : Int) (v2181 : Int) (v2182 : Int) (v2183 : Int) (v2184 : Int) (v2185 : Bool) (v2186 : Int) (v2187 : Int) (v2188 : Int) (v2189 : Bool) (v2190 : List VV) (v2191 : Nat) (v2192 : Int) (v2193 : Int) (v2194 : Int) (v2195 : Int) (v2196 : Int) (v2197 : Int) (v2198 : Int) (v2199 : Int) (v2200 : List VV) =>
    bif ((isI .i64 v2200[0]?) && ((isI .i64 v2200[1]?) && ((isI .i64 v2200[2]?) && true))) then (
      let v2201 : Int := (iv v2200[0]?)
      let v2202 : Int := (iv v2200[1]?)
      let v2203 : Int := (iv v2200[2]?)
      bif (ok_fence_State F v2189 v2190 v2191 v2192 v2193 v2201 v2202 v2203 0) then (
        let v2204 : Int := (o_fence_State_0 F v2189 v2190 v2191 v2192 v2193 v2201 v2202 v2203 0)
        let v2205 : Int := (o_fence_State_1 F v2189 v2190 v2191 v2192 v2193 v2201 v2202 v2203 0)
        bif ((v2205 == 0)) then (
          ex0 v2172 v2173 v2174 v2175 v2176 v2177 v2178 v2179 v2180 v2181 v2182 v2183 v2184 ((v2204 == v2186)) v2186 v2187 v2188 v2204 v2205 v2189 v2190 v2191 v2192 v2193 v2194 v2195 v2196 v2197 v2198 v2199 v2200)
        else (
          ex0 v2172 v2173 v2174 v2175 v2176 v2177 v2178 v2179 v2180 v2181 v2182 v2183 v2184 false v2186 v2187 v2188 v2204 v2205 v2189 v2190 v2191 v2192 v2193 v2194 v2195 v2196 v2197 v2198 v2199 v2200))
      else (
        none))
    else (
      none)) F x0 x1 x2 x3 x4 x5 x6 x7 x8 x9 x10 x11 x12 x13 x14 x15 0 x16 x17 x18 x19 x20 x21 x22 x23 x24 x25 x26 ([.v (.int .i64 x21), .v (.int .i64 x22), .v (.int .i64 x23)]) : R)) (fun (z0 : Bool) (z1 : List VV) (z2 : Nat) (z3 : Nat) (z4 : Int) (z5 : Int) (z6 : Int) (z7 : Int) (z8 : Int) (z9 : Int) (z10 : Int) (z11 : Int) (z12 : Int) (z13 : Bool) (z14 : Int) (z15 : Int) (z16 : Int) (z17 : Int) (z18 : Int) (z19 : Bool) (z20 : List VV) (z21 : Nat) (z22 : Int) (z23 : Int) (z24 : Int) (z25 : Int) (z26 : Int) (z27 : Int) (z28 : Int) (z29 : Int) (z30 : List VV) => k .ret (fS TN_law37_FenceSure_1_0 [.b z0, .c z1, .n z2, .n z3, .i z4, .i z5, .i z6, .i z7, .i z8, .i z9, .i z10, .i z11, .i z12, .b z13, .i z14, .i z15, .i z16, .i z17, .i z18, .b z19, .c z20, .n z21, .i z22, .i z23, .i z24, .i z25, .i z26, .i z27, .i z28, .i z29, .c z30])) := by
    intros
    kernel_rfl
  exact (h0 ok_law37_works o_law37_works_0 ok_law37_few o_law37_few_0 o_law37_few_1 o_law37_few_2 o_law37_few_3 o_law37_few_4 ok_fence_State o_fence_State_0 o_fence_State_1 L_law37_FenceSure_0 N_law37_FenceSure_0 N_law37_FenceSure_1).trans (by kernel_rfl)
def f_law37_FenceSure (F : Nat) (a0 : Bool) (a1 : List VV) (a2 : Nat) (a3 : Nat) (a4 : Int) (a5 : Int) (a6 : Int) (a7 : Int) (a8 : Int) (a9 : Int) (a10 : Int) (a11 : Int) (a12 : Int) : R :=
  bif (ok_law37_works F) then (
    bif ((!((o_law37_works_0 F)))) then (
      some (.v (.bool false)))
    else (
      bif (ok_law37_few F a0 a1 a2 a3 a4 a5) then (
        let v1973 : Bool := (o_law37_few_0 F a0 a1 a2 a3 a4 a5)
        let v1974 : List VV := (o_law37_few_1 F a0 a1 a2 a3 a4 a5)
        let v1975 : Nat := (o_law37_few_2 F a0 a1 a2 a3 a4 a5)
        let v1976 : Int := (o_law37_few_3 F a0 a1 a2 a3 a4 a5)
        let v1977 : Int := (o_law37_few_4 F a0 a1 a2 a3 a4 a5)
        bif (ok_fence_State F v1973 v1974 v1975 v1976 v1977 a6 a7 a8 a9) then (
          let v1978 : Int := (o_fence_State_0 F v1973 v1974 v1975 v1976 v1977 a6 a7 a8 a9)
          let v1979 : Int := (o_fence_State_1 F v1973 v1974 v1975 v1976 v1977 a6 a7 a8 a9)
          bif ((v1979 != 0)) then (
            bif ((v1979 == 2)) then (
              bif ((v1978 == 0)) then (
                some (.v (.bool true)))
              else (
                some (.v (.bool ((v1979 == 0))))))
            else (
              some (.v (.bool ((v1979 == 0))))))
          else (
            bif ((v1978 == 1)) then (
              bif ((v1979 == 2)) then (
                bif ((v1978 == 0)) then (
                  some (.v (.bool true)))
                else (
                  some (.v (.bool ((v1979 == 0))))))
              else (
                some (.v (.bool ((v1979 == 0))))))
            else (
              N_law37_FenceSure_1 F (fun (v2208 : Bool) (v2209 : List VV) (v2210 : Nat) (v2211 : Nat) (v2212 : Int) (v2213 : Int) (v2214 : Int) (v2215 : Int) (v2216 : Int) (v2217 : Int) (v2218 : Int) (v2219 : Int) (v2220 : Int) (v2221 : Bool) (v2222 : Int) (v2223 : Int) (v2224 : Int) (v2225 : Int) (v2226 : Int) (v2227 : Bool) (v2228 : List VV) (v2229 : Nat) (v2230 : Int) (v2231 : Int) (v2232 : Int) (v2233 : Int) (v2234 : Int) (v2235 : Int) (v2236 : Int) (v2237 : Int) (v2238 : List VV) =>
                some (.v (.bool v2221))) a0 a1 a2 a3 a4 a5 a6 a7 a8 a9 a10 a11 a12 false v1978 v1979 v1973 v1974 v1975 v1976 v1977 a6 a7 a8 a10 a11 a12)))
        else (
          none))
      else (
        none)))
  else (
    none)
theorem e_law37_FenceSure (F : Nat) (a0 : Bool) (a1 : List VV) (a2 : Nat) (a3 : Nat) (a4 : Int) (a5 : Int) (a6 : Int) (a7 : Int) (a8 : Int) (a9 : Int) (a10 : Int) (a11 : Int) (a12 : Int) : funL PP (S_law37_FenceSure F) c_law37_FenceSure (I_law37_FenceSure F) (J_law37_FenceSure F) 4 (fTs ti_law37_FenceSure [.b a0, .c a1, .n a2, .n a3, .i a4, .i a5, .i a6, .i a7, .i a8, .i a9, .i a10, .i a11, .i a12]).1 = f_law37_FenceSure F a0 a1 a2 a3 a4 a5 a6 a7 a8 a9 a10 a11 a12 := by
  have h : ∀ (ok_law37_works : Nat → Bool) (o_law37_works_0 : Nat → Bool) (ok_law37_few : Nat → Bool → List VV → Nat → Nat → Int → Int → Bool) (o_law37_few_0 : Nat → Bool → List VV → Nat → Nat → Int → Int → Bool) (o_law37_few_1 : Nat → Bool → List VV → Nat → Nat → Int → Int → List VV) (o_law37_few_2 : Nat → Bool → List VV → Nat → Nat → Int → Int → Nat) (o_law37_few_3 : Nat → Bool → List VV → Nat → Nat → Int → Int → Int) (o_law37_few_4 : Nat → Bool → List VV → Nat → Nat → Int → Int → Int) (ok_fence_State : Nat → Bool → List VV → Nat → Int → Int → Int → Int → Int → Int → Bool) (o_fence_State_0 : Nat → Bool → List VV → Nat → Int → Int → Int → Int → Int → Int → Int) (o_fence_State_1 : Nat → Bool → List VV → Nat → Int → Int → Int → Int → Int → Int → Int) (L_law37_FenceSure_0 : Nat → (Bool → List VV → Nat → Nat → Int → Int → Int → Int → Int → Int → Int → Int → Int → Bool → Int → Int → Int → Bool → List VV → Nat → Int → Int → Int → Int → Int → Int → Int → Int → List VV → R) → Nat → Bool → List VV → Nat → Nat → Int → Int → Int → Int → Int → Int → Int → Int → Int → Bool → Int → Int → Int → Bool → List VV → Nat → Int → Int → Int → Int → Int → Int → Int → Int → List VV → R) (N_law37_FenceSure_0 : Nat → (Bool → List VV → Nat → Nat → Int → Int → Int → Int → Int → Int → Int → Int → Int → Bool → Int → Int → Int → Int → Bool → List VV → Nat → Int → Int → Int → Int → Int → Int → Int → Int → List VV → R) → Bool → List VV → Nat → Nat → Int → Int → Int → Int → Int → Int → Int → Int → Int → Bool → Int → Int → Int → Int → Bool → List VV → Nat → Int → Int → Int → Int → Int → Int → Int → Int → List VV → R) (N_law37_FenceSure_1 : Nat → (Bool → List VV → Nat → Nat → Int → Int → Int → Int → Int → Int → Int → Int → Int → Bool → Int → Int → Int → Int → Int → Bool → List VV → Nat → Int → Int → Int → Int → Int → Int → Int → Int → List VV → R) → Bool → List VV → Nat → Nat → Int → Int → Int → Int → Int → Int → Int → Int → Int → Bool → Int → Int → Bool → List VV → Nat → Int → Int → Int → Int → Int → Int → Int → Int → R), funL PP (words [(17, spec ti_law37_works to_law37_works (fun q => (ok_law37_works F )) (fun q => [.b (o_law37_works_0 F )])), (9, spec ti_law37_few to_law37_few (fun q => (ok_law37_few F (atB (nth q 0)) (atC (nth q 1)) (atN (nth q 2)) (atN (nth q 3)) (atI (nth q 4)) (atI (nth q 5)))) (fun q => [.b (o_law37_few_0 F (atB (nth q 0)) (atC (nth q 1)) (atN (nth q 2)) (atN (nth q 3)) (atI (nth q 4)) (atI (nth q 5))), .c (o_law37_few_1 F (atB (nth q 0)) (atC (nth q 1)) (atN (nth q 2)) (atN (nth q 3)) (atI (nth q 4)) (atI (nth q 5))), .n (o_law37_few_2 F (atB (nth q 0)) (atC (nth q 1)) (atN (nth q 2)) (atN (nth q 3)) (atI (nth q 4)) (atI (nth q 5))), .i (o_law37_few_3 F (atB (nth q 0)) (atC (nth q 1)) (atN (nth q 2)) (atN (nth q 3)) (atI (nth q 4)) (atI (nth q 5))), .i (o_law37_few_4 F (atB (nth q 0)) (atC (nth q 1)) (atN (nth q 2)) (atN (nth q 3)) (atI (nth q 4)) (atI (nth q 5)))])), (13, spec ti_fence_State to_fence_State (fun q => (ok_fence_State F (atB (nth q 0)) (atC (nth q 1)) (atN (nth q 2)) (atI (nth q 3)) (atI (nth q 4)) (atI (nth q 5)) (atI (nth q 6)) (atI (nth q 7)) (atI (nth q 8)))) (fun q => [.i (o_fence_State_0 F (atB (nth q 0)) (atC (nth q 1)) (atN (nth q 2)) (atI (nth q 3)) (atI (nth q 4)) (atI (nth q 5)) (atI (nth q 6)) (atI (nth q 7)) (atI (nth q 8))), .i (o_fence_State_1 F (atB (nth q 0)) (atC (nth q 1)) (atN (nth q 2)) (atI (nth q 3)) (atI (nth q 4)) (atI (nth q 5)) (atI (nth q 6)) (atI (nth q 7)) (atI (nth q 8)))]))]) c_law37_FenceSure (tabI c_law37_FenceSure [⟨0, T_law37_FenceSure_0, fun k q => L_law37_FenceSure_0 F (fun (z0 : Bool) (z1 : List VV) (z2 : Nat) (z3 : Nat) (z4 : Int) (z5 : Int) (z6 : Int) (z7 : Int) (z8 : Int) (z9 : Int) (z10 : Int) (z11 : Int) (z12 : Int) (z13 : Bool) (z14 : Int) (z15 : Int) (z16 : Int) (z17 : Bool) (z18 : List VV) (z19 : Nat) (z20 : Int) (z21 : Int) (z22 : Int) (z23 : Int) (z24 : Int) (z25 : Int) (z26 : Int) (z27 : Int) (z28 : List VV) => k (.exit 0) (fS T_law37_FenceSure_0_0 [.b z0, .c z1, .n z2, .n z3, .i z4, .i z5, .i z6, .i z7, .i z8, .i z9, .i z10, .i z11, .i z12, .b z13, .i z14, .i z15, .i z16, .b z17, .c z18, .n z19, .i z20, .i z21, .i z22, .i z23, .i z24, .i z25, .i z26, .i z27, .c z28])) F (atB (nth q 0)) (atC (nth q 1)) (atN (nth q 2)) (atN (nth q 3)) (atI (nth q 4)) (atI (nth q 5)) (atI (nth q 6)) (atI (nth q 7)) (atI (nth q 8)) (atI (nth q 9)) (atI (nth q 10)) (atI (nth q 11)) (atI (nth q 12)) (atB (nth q 13)) (atI (nth q 14)) (atI (nth q 15)) (atI (nth q 16)) (atB (nth q 17)) (atC (nth q 18)) (atN (nth q 19)) (atI (nth q 20)) (atI (nth q 21)) (atI (nth q 22)) (atI (nth q 23)) (atI (nth q 24)) (atI (nth q 25)) (atI (nth q 26)) (atI (nth q 27)) (atC (nth q 28))⟩]) (tabJ [⟨15, 1, TN_law37_FenceSure_0, fun k q => N_law37_FenceSure_0 F (fun (z0 : Bool) (z1 : List VV) (z2 : Nat) (z3 : Nat) (z4 : Int) (z5 : Int) (z6 : Int) (z7 : Int) (z8 : Int) (z9 : Int) (z10 : Int) (z11 : Int) (z12 : Int) (z13 : Bool) (z14 : Int) (z15 : Int) (z16 : Int) (z17 : Int) (z18 : Bool) (z19 : List VV) (z20 : Nat) (z21 : Int) (z22 : Int) (z23 : Int) (z24 : Int) (z25 : Int) (z26 : Int) (z27 : Int) (z28 : Int) (z29 : List VV) => k .normal (fS TN_law37_FenceSure_0_0 [.b z0, .c z1, .n z2, .n z3, .i z4, .i z5, .i z6, .i z7, .i z8, .i z9, .i z10, .i z11, .i z12, .b z13, .i z14, .i z15, .i z16, .i z17, .b z18, .c z19, .n z20, .i z21, .i z22, .i z23, .i z24, .i z25, .i z26, .i z27, .i z28, .c z29])) (atB (nth q 0)) (atC (nth q 1)) (atN (nth q 2)) (atN (nth q 3)) (atI (nth q 4)) (atI (nth q 5)) (atI (nth q 6)) (atI (nth q 7)) (atI (nth q 8)) (atI (nth q 9)) (atI (nth q 10)) (atI (nth q 11)) (atI (nth q 12)) (atB (nth q 13)) (atI (nth q 14)) (atI (nth q 15)) (atI (nth q 16)) (atI (nth q 17)) (atB (nth q 18)) (atC (nth q 19)) (atN (nth q 20)) (atI (nth q 21)) (atI (nth q 22)) (atI (nth q 23)) (atI (nth q 24)) (atI (nth q 25)) (atI (nth q 26)) (atI (nth q 27)) (atI (nth q 28)) (atC (nth q 29))⟩, ⟨7, 0, TN_law37_FenceSure_1, fun k q => N_law37_FenceSure_1 F (fun (z0 : Bool) (z1 : List VV) (z2 : Nat) (z3 : Nat) (z4 : Int) (z5 : Int) (z6 : Int) (z7 : Int) (z8 : Int) (z9 : Int) (z10 : Int) (z11 : Int) (z12 : Int) (z13 : Bool) (z14 : Int) (z15 : Int) (z16 : Int) (z17 : Int) (z18 : Int) (z19 : Bool) (z20 : List VV) (z21 : Nat) (z22 : Int) (z23 : Int) (z24 : Int) (z25 : Int) (z26 : Int) (z27 : Int) (z28 : Int) (z29 : Int) (z30 : List VV) => k .ret (fS TN_law37_FenceSure_1_0 [.b z0, .c z1, .n z2, .n z3, .i z4, .i z5, .i z6, .i z7, .i z8, .i z9, .i z10, .i z11, .i z12, .b z13, .i z14, .i z15, .i z16, .i z17, .i z18, .b z19, .c z20, .n z21, .i z22, .i z23, .i z24, .i z25, .i z26, .i z27, .i z28, .i z29, .c z30])) (atB (nth q 0)) (atC (nth q 1)) (atN (nth q 2)) (atN (nth q 3)) (atI (nth q 4)) (atI (nth q 5)) (atI (nth q 6)) (atI (nth q 7)) (atI (nth q 8)) (atI (nth q 9)) (atI (nth q 10)) (atI (nth q 11)) (atI (nth q 12)) (atB (nth q 13)) (atI (nth q 14)) (atI (nth q 15)) (atB (nth q 16)) (atC (nth q 17)) (atN (nth q 18)) (atI (nth q 19)) (atI (nth q 20)) (atI (nth q 21)) (atI (nth q 22)) (atI (nth q 23)) (atI (nth q 24)) (atI (nth q 25)) (atI (nth q 26))⟩]) 4 (fTs ti_law37_FenceSure [.b a0, .c a1, .n a2, .n a3, .i a4, .i a5, .i a6, .i a7, .i a8, .i a9, .i a10, .i a11, .i a12]).1 = (
  bif (ok_law37_works F) then (
    bif ((!((o_law37_works_0 F)))) then (
      some (.v (.bool false)))
    else (
      bif (ok_law37_few F a0 a1 a2 a3 a4 a5) then (
        let v1973 : Bool := (o_law37_few_0 F a0 a1 a2 a3 a4 a5)
        let v1974 : List VV := (o_law37_few_1 F a0 a1 a2 a3 a4 a5)
        let v1975 : Nat := (o_law37_few_2 F a0 a1 a2 a3 a4 a5)
        let v1976 : Int := (o_law37_few_3 F a0 a1 a2 a3 a4 a5)
        let v1977 : Int := (o_law37_few_4 F a0 a1 a2 a3 a4 a5)
        bif (ok_fence_State F v1973 v1974 v1975 v1976 v1977 a6 a7 a8 a9) then (
          let v1978 : Int := (o_fence_State_0 F v1973 v1974 v1975 v1976 v1977 a6 a7 a8 a9)
          let v1979 : Int := (o_fence_State_1 F v1973 v1974 v1975 v1976 v1977 a6 a7 a8 a9)
          bif ((v1979 != 0)) then (
            bif ((v1979 == 2)) then (
              bif ((v1978 == 0)) then (
                some (.v (.bool true)))
              else (
                some (.v (.bool ((v1979 == 0))))))
            else (
              some (.v (.bool ((v1979 == 0))))))
          else (
            bif ((v1978 == 1)) then (
              bif ((v1979 == 2)) then (
                bif ((v1978 == 0)) then (
                  some (.v (.bool true)))
                else (
                  some (.v (.bool ((v1979 == 0))))))
              else (
                some (.v (.bool ((v1979 == 0))))))
            else (
              N_law37_FenceSure_1 F (fun (v2208 : Bool) (v2209 : List VV) (v2210 : Nat) (v2211 : Nat) (v2212 : Int) (v2213 : Int) (v2214 : Int) (v2215 : Int) (v2216 : Int) (v2217 : Int) (v2218 : Int) (v2219 : Int) (v2220 : Int) (v2221 : Bool) (v2222 : Int) (v2223 : Int) (v2224 : Int) (v2225 : Int) (v2226 : Int) (v2227 : Bool) (v2228 : List VV) (v2229 : Nat) (v2230 : Int) (v2231 : Int) (v2232 : Int) (v2233 : Int) (v2234 : Int) (v2235 : Int) (v2236 : Int) (v2237 : Int) (v2238 : List VV) =>
                some (.v (.bool v2221))) a0 a1 a2 a3 a4 a5 a6 a7 a8 a9 a10 a11 a12 false v1978 v1979 v1973 v1974 v1975 v1976 v1977 a6 a7 a8 a10 a11 a12)))
        else (
          none))
      else (
        none)))
  else (
    none) : R) := by
    intros
    kernel_rfl
  exact (h ok_law37_works o_law37_works_0 ok_law37_few o_law37_few_0 o_law37_few_1 o_law37_few_2 o_law37_few_3 o_law37_few_4 ok_fence_State o_fence_State_0 o_fence_State_1 L_law37_FenceSure_0 N_law37_FenceSure_0 N_law37_FenceSure_1).trans (by kernel_rfl)
def ok_law37_FenceSure (F : Nat) (a0 : Bool) (a1 : List VV) (a2 : Nat) (a3 : Nat) (a4 : Int) (a5 : Int) (a6 : Int) (a7 : Int) (a8 : Int) (a9 : Int) (a10 : Int) (a11 : Int) (a12 : Int) : Bool := okT to_law37_FenceSure (f_law37_FenceSure F a0 a1 a2 a3 a4 a5 a6 a7 a8 a9 a10 a11 a12)
def o_law37_FenceSure_0 (F : Nat) (a0 : Bool) (a1 : List VV) (a2 : Nat) (a3 : Nat) (a4 : Int) (a5 : Int) (a6 : Int) (a7 : Int) (a8 : Int) (a9 : Int) (a10 : Int) (a11 : Int) (a12 : Int) : Bool := atB (nth (outT to_law37_FenceSure (f_law37_FenceSure F a0 a1 a2 a3 a4 a5 a6 a7 a8 a9 a10 a11 a12)) 0)
theorem k_law37_FenceSure (F : Nat) (a0 : Bool) (a1 : List VV) (a2 : Nat) (a3 : Nat) (a4 : Int) (a5 : Int) (a6 : Int) (a7 : Int) (a8 : Int) (a9 : Int) (a10 : Int) (a11 : Int) (a12 : Int) {z0 : Bool} (h : f_law37_FenceSure F a0 a1 a2 a3 a4 a5 a6 a7 a8 a9 a10 a11 a12 = some (.v (.bool z0))) : ok_law37_FenceSure F a0 a1 a2 a3 a4 a5 a6 a7 a8 a9 a10 a11 a12 = true ∧ o_law37_FenceSure_0 F a0 a1 a2 a3 a4 a5 a6 a7 a8 a9 a10 a11 a12 = z0 := by
  refine ⟨?_, ?_⟩
  · unfold ok_law37_FenceSure; rw [h]; kernel_rfl
  · unfold o_law37_FenceSure_0; rw [h]; kernel_rfl
def s_law37_FenceSure (F : Nat) : List VV → Option (Bool × VV) := spec ti_law37_FenceSure to_law37_FenceSure (fun q => (ok_law37_FenceSure F (atB (nth q 0)) (atC (nth q 1)) (atN (nth q 2)) (atN (nth q 3)) (atI (nth q 4)) (atI (nth q 5)) (atI (nth q 6)) (atI (nth q 7)) (atI (nth q 8)) (atI (nth q 9)) (atI (nth q 10)) (atI (nth q 11)) (atI (nth q 12)))) (fun q => [.b (o_law37_FenceSure_0 F (atB (nth q 0)) (atC (nth q 1)) (atN (nth q 2)) (atN (nth q 3)) (atI (nth q 4)) (atI (nth q 5)) (atI (nth q 6)) (atI (nth q 7)) (atI (nth q 8)) (atI (nth q 9)) (atI (nth q 10)) (atI (nth q 11)) (atI (nth q 12)))])
theorem hS_law37_FenceSure (F : Nat) : ∀ f, Good PP f (unS (S_law37_FenceSure F f)) := words_good fun p hp => by
  simp only [List.mem_cons, List.not_mem_nil, or_false] at hp
  rcases hp with rfl | rfl | rfl
  · exact g_law37_works F
  · exact g_law37_few F
  · exact g_fence_State F
theorem hl_law37_FenceSure (F : Nat) : ∀ p ∈ loopsIn PP 4, LoopOK PP (S_law37_FenceSure F) c_law37_FenceSure F (I_law37_FenceSure F) (J_law37_FenceSure F) p :=
  loops_of [(0, loopAt PP 4 0)] (by kernel_rfl) (all_cons
    (loop_ok (W_law37_FenceSure F) rfl (tab_cons (fun _ k q => Le.ofEq ((lL_law37_FenceSure_0 F k F (atB (nth q 0)) (atC (nth q 1)) (atN (nth q 2)) (atN (nth q 3)) (atI (nth q 4)) (atI (nth q 5)) (atI (nth q 6)) (atI (nth q 7)) (atI (nth q 8)) (atI (nth q 9)) (atI (nth q 10)) (atI (nth q 11)) (atI (nth q 12)) (atB (nth q 13)) (atI (nth q 14)) (atI (nth q 15)) (atI (nth q 16)) (atB (nth q 17)) (atC (nth q 18)) (atN (nth q 19)) (atI (nth q 20)) (atI (nth q 21)) (atI (nth q 22)) (atI (nth q 23)) (atI (nth q 24)) (atI (nth q 25)) (atI (nth q 26)) (atI (nth q 27)) (atC (nth q 28))).symm.trans (congrArg (iterC (codeL PP (S_law37_FenceSure F) c_law37_FenceSure (I_law37_FenceSure F) (J_law37_FenceSure F) (loopAt PP 4 0) 0) (headOf c_law37_FenceSure 0) k F) (show fS T_law37_FenceSure_0 [.b (atB (nth q 0)), .c (atC (nth q 1)), .n (atN (nth q 2)), .n (atN (nth q 3)), .i (atI (nth q 4)), .i (atI (nth q 5)), .i (atI (nth q 6)), .i (atI (nth q 7)), .i (atI (nth q 8)), .i (atI (nth q 9)), .i (atI (nth q 10)), .i (atI (nth q 11)), .i (atI (nth q 12)), .b (atB (nth q 13)), .i (atI (nth q 14)), .i (atI (nth q 15)), .i (atI (nth q 16)), .b (atB (nth q 17)), .c (atC (nth q 18)), .n (atN (nth q 19)), .i (atI (nth q 20)), .i (atI (nth q 21)), .i (atI (nth q 22)), .i (atI (nth q 23)), .i (atI (nth q 24)), .i (atI (nth q 25)), .i (atI (nth q 26)), .i (atI (nth q 27)), .c (atC (nth q 28))] = fS T_law37_FenceSure_0 q by kernel_rfl)))) tab_nil)) all_nil)
theorem hj_law37_FenceSure (F : Nat) : ∀ p ∈ joinsIn PP c_law37_FenceSure 4, JoinOK PP (S_law37_FenceSure F) c_law37_FenceSure (I_law37_FenceSure F) (J_law37_FenceSure F) p :=
  joins_of [(7, 0, joinAt PP c_law37_FenceSure 4 0), (15, 1, joinAt PP c_law37_FenceSure 4 1)] (by kernel_rfl) (all_cons
    (join_ok (WJ_law37_FenceSure F) rfl (jtab_cons (fun h _ => absurd h (by decide)) (jtab_cons (fun _ _ k q => Le.ofEq ((nN_law37_FenceSure_1 F k (atB (nth q 0)) (atC (nth q 1)) (atN (nth q 2)) (atN (nth q 3)) (atI (nth q 4)) (atI (nth q 5)) (atI (nth q 6)) (atI (nth q 7)) (atI (nth q 8)) (atI (nth q 9)) (atI (nth q 10)) (atI (nth q 11)) (atI (nth q 12)) (atB (nth q 13)) (atI (nth q 14)) (atI (nth q 15)) (atB (nth q 16)) (atC (nth q 17)) (atN (nth q 18)) (atI (nth q 19)) (atI (nth q 20)) (atI (nth q 21)) (atI (nth q 22)) (atI (nth q 23)) (atI (nth q 24)) (atI (nth q 25)) (atI (nth q 26))).symm.trans (congrArg (fun s => codeL PP (S_law37_FenceSure F) c_law37_FenceSure (I_law37_FenceSure F) (J_law37_FenceSure F) (joinAt PP c_law37_FenceSure 4 0) 0 s k) (show fS TN_law37_FenceSure_1 [.b (atB (nth q 0)), .c (atC (nth q 1)), .n (atN (nth q 2)), .n (atN (nth q 3)), .i (atI (nth q 4)), .i (atI (nth q 5)), .i (atI (nth q 6)), .i (atI (nth q 7)), .i (atI (nth q 8)), .i (atI (nth q 9)), .i (atI (nth q 10)), .i (atI (nth q 11)), .i (atI (nth q 12)), .b (atB (nth q 13)), .i (atI (nth q 14)), .i (atI (nth q 15)), .b (atB (nth q 16)), .c (atC (nth q 17)), .n (atN (nth q 18)), .i (atI (nth q 19)), .i (atI (nth q 20)), .i (atI (nth q 21)), .i (atI (nth q 22)), .i (atI (nth q 23)), .i (atI (nth q 24)), .i (atI (nth q 25)), .i (atI (nth q 26))] = fS TN_law37_FenceSure_1 q by kernel_rfl)))) jtab_nil))) (all_cons
    (join_ok (WJ_law37_FenceSure F) rfl (jtab_cons (fun _ _ k q => Le.ofEq ((nN_law37_FenceSure_0 F k (atB (nth q 0)) (atC (nth q 1)) (atN (nth q 2)) (atN (nth q 3)) (atI (nth q 4)) (atI (nth q 5)) (atI (nth q 6)) (atI (nth q 7)) (atI (nth q 8)) (atI (nth q 9)) (atI (nth q 10)) (atI (nth q 11)) (atI (nth q 12)) (atB (nth q 13)) (atI (nth q 14)) (atI (nth q 15)) (atI (nth q 16)) (atI (nth q 17)) (atB (nth q 18)) (atC (nth q 19)) (atN (nth q 20)) (atI (nth q 21)) (atI (nth q 22)) (atI (nth q 23)) (atI (nth q 24)) (atI (nth q 25)) (atI (nth q 26)) (atI (nth q 27)) (atI (nth q 28)) (atC (nth q 29))).symm.trans (congrArg (fun s => codeL PP (S_law37_FenceSure F) c_law37_FenceSure (I_law37_FenceSure F) (J_law37_FenceSure F) (joinAt PP c_law37_FenceSure 4 1) 1 s k) (show fS TN_law37_FenceSure_0 [.b (atB (nth q 0)), .c (atC (nth q 1)), .n (atN (nth q 2)), .n (atN (nth q 3)), .i (atI (nth q 4)), .i (atI (nth q 5)), .i (atI (nth q 6)), .i (atI (nth q 7)), .i (atI (nth q 8)), .i (atI (nth q 9)), .i (atI (nth q 10)), .i (atI (nth q 11)), .i (atI (nth q 12)), .b (atB (nth q 13)), .i (atI (nth q 14)), .i (atI (nth q 15)), .i (atI (nth q 16)), .i (atI (nth q 17)), .b (atB (nth q 18)), .c (atC (nth q 19)), .n (atN (nth q 20)), .i (atI (nth q 21)), .i (atI (nth q 22)), .i (atI (nth q 23)), .i (atI (nth q 24)), .i (atI (nth q 25)), .i (atI (nth q 26)), .i (atI (nth q 27)), .i (atI (nth q 28)), .c (atC (nth q 29))] = fS TN_law37_FenceSure_0 q by kernel_rfl)))) (jtab_cons (fun h _ => absurd h (by decide)) jtab_nil))) all_nil))
theorem g_law37_FenceSure (F : Nat) : Good PP 4 (unS (s_law37_FenceSure F)) :=
  fun_spec (hS_law37_FenceSure F) (by kernel_rfl) (by kernel_rfl) (C := c_law37_FenceSure) (F := fun q => (f_law37_FenceSure F (atB (nth q 0)) (atC (nth q 1)) (atN (nth q 2)) (atN (nth q 3)) (atI (nth q 4)) (atI (nth q 5)) (atI (nth q 6)) (atI (nth q 7)) (atI (nth q 8)) (atI (nth q 9)) (atI (nth q 10)) (atI (nth q 11)) (atI (nth q 12)))) (fun _ => F) (fun _ => I_law37_FenceSure F) (fun _ => J_law37_FenceSure F) (fun _ => hl_law37_FenceSure F) (fun _ => hj_law37_FenceSure F)
    (fun q => (congrArg (funL PP (S_law37_FenceSure F) c_law37_FenceSure (I_law37_FenceSure F) (J_law37_FenceSure F) 4) (show (fTs ti_law37_FenceSure q).1 = (fTs ti_law37_FenceSure [.b (atB (nth q 0)), .c (atC (nth q 1)), .n (atN (nth q 2)), .n (atN (nth q 3)), .i (atI (nth q 4)), .i (atI (nth q 5)), .i (atI (nth q 6)), .i (atI (nth q 7)), .i (atI (nth q 8)), .i (atI (nth q 9)), .i (atI (nth q 10)), .i (atI (nth q 11)), .i (atI (nth q 12))]).1 by kernel_rfl)).trans (e_law37_FenceSure F (atB (nth q 0)) (atC (nth q 1)) (atN (nth q 2)) (atN (nth q 3)) (atI (nth q 4)) (atI (nth q 5)) (atI (nth q 6)) (atI (nth q 7)) (atI (nth q 8)) (atI (nth q 9)) (atI (nth q 10)) (atI (nth q 11)) (atI (nth q 12))))
    (fun _ h => okT_fill' h (by kernel_rfl))

end Go.Xv
namespace Go.Xv
def dOf (r b : Int) : Int := if r = 0 then 0 else Int.tmod b (r + 1)
theorem dOf_bd {r b : Int} (hr : OkR r) : -r ≤ dOf r b ∧ dOf r b ≤ r := by
  unfold dOf
  have h0 := hr.a
  split
  · omega
  · have h1 := Int.tmod_lt_of_pos b (show 0 < r + 1 by omega)
    have h2 : -(r + 1) < Int.tmod b (r + 1) := by
      rcases Int.le_total 0 b with hb | hb
      · have := Int.tmod_nonneg (r + 1) hb; omega
      · have e := Int.neg_tmod (a := -b) (b := r + 1)
        rw [Int.neg_neg] at e
        have := Int.tmod_lt_of_pos (-b) (show 0 < r + 1 by omega)
        omega
    omega
/-- a place's axis 0 or 1, moved; its axis 2, moved. -/
def nx (v d : Int) : Int := if 2305843009213693952 < (if -2305843009213693952 > v + d then -2305843009213693952 else v + d) then 2305843009213693952 else (if -2305843009213693952 > v + d then -2305843009213693952 else v + d)
def nz (h d : Int) : Int := if d > 0 ∧ h > 9223372036854775807 - d then h else if d < 0 ∧ h < -9223372036854775808 - d then h else h + d
theorem nx_bd {v d r : Int} (hv : -2305843009213693952 ≤ v ∧ v ≤ 2305843009213693952) (hd : -r ≤ d ∧ d ≤ r) : (v - r ≤ nx v d ∧ nx v d ≤ v + r) ∧ (-2305843009213693952 ≤ nx v d ∧ nx v d ≤ 2305843009213693952) := by
  unfold nx
  split <;> split at * <;> omega
theorem nz_bd {h d r : Int} (hd : -r ≤ d ∧ d ≤ r) (hh : I64 h) : (h - r ≤ nz h d ∧ nz h d ≤ h + r) ∧ I64 (nz h d) := by
  unfold nz; unfold I64 at *
  split
  · omega
  · split <;> omega

theorem nn0 (F : Nat) (ex0) (x0 : Bool) (x1 : List VV) (x2 : Nat) (x3 : Nat) (x4 : Int) (x5 : Int) (x6 : Int) (x7 : Int) (x8 : Int) (x9 : Int) (x10 : Int) (x11 : Int) (x12 : Int) (x13 : Bool) (x14 : Int) (x15 : Int) (x17 : Int) (x18 : Bool) (x19 : List VV) (x20 : Nat) (x21 : Int) (x22 : Int) (x23 : Int) (x24 : Int) (x25 : Int) (x26 : Int) (x27 : Int) (x28 : Int) (c0 c1 c2 : Int) (hr : I64 (x23 + x17)) : N_law37_FenceSure_0 F ex0 x0 x1 x2 x3 x4 x5 x6 x7 x8 x9 x10 x11 x12 x13 x14 x15 0 x17 x18 x19 x20 x21 x22 x23 x24 x25 x26 x27 x28 [.v (.int .i64 c0), .v (.int .i64 c1), .v (.int .i64 c2)] = ex0 x0 x1 x2 x3 x4 x5 x6 x7 x8 x9 x10 x11 x12 x13 x14 x15 0 x17 x18 x19 x20 x21 x22 x23 x24 x25 x26 x27 x28 [.v (.int .i64 (nx x23 x17)), .v (.int .i64 c1), .v (.int .i64 c2)] := by
  have e : IntKind.wrap .i64 (x23 + x17) = x23 + x17 := wi64_in hr
  have h : N_law37_FenceSure_0 F ex0 x0 x1 x2 x3 x4 x5 x6 x7 x8 x9 x10 x11 x12 x13 x14 x15 0 x17 x18 x19 x20 x21 x22 x23 x24 x25 x26 x27 x28 [.v (.int .i64 c0), .v (.int .i64 c1), .v (.int .i64 c2)] = ex0 x0 x1 x2 x3 x4 x5 x6 x7 x8 x9 x10 x11 x12 x13 x14 x15 0 x17 x18 x19 x20 x21 x22 x23 x24 x25 x26 x27 x28 [.v (.int .i64 (if 2305843009213693952 < (if -2305843009213693952 > IntKind.wrap .i64 (x23 + x17) then -2305843009213693952 else IntKind.wrap .i64 (x23 + x17)) then 2305843009213693952 else (if -2305843009213693952 > IntKind.wrap .i64 (x23 + x17) then -2305843009213693952 else IntKind.wrap .i64 (x23 + x17)))), .v (.int .i64 c1), .v (.int .i64 c2)] := by kernel_rfl
  rw [h, e]
  rfl

theorem nn1 (F : Nat) (ex0) (x0 : Bool) (x1 : List VV) (x2 : Nat) (x3 : Nat) (x4 : Int) (x5 : Int) (x6 : Int) (x7 : Int) (x8 : Int) (x9 : Int) (x10 : Int) (x11 : Int) (x12 : Int) (x13 : Bool) (x14 : Int) (x15 : Int) (x17 : Int) (x18 : Bool) (x19 : List VV) (x20 : Nat) (x21 : Int) (x22 : Int) (x23 : Int) (x24 : Int) (x25 : Int) (x26 : Int) (x27 : Int) (x28 : Int) (c0 c1 c2 : Int) (hr : I64 (x24 + x17)) : N_law37_FenceSure_0 F ex0 x0 x1 x2 x3 x4 x5 x6 x7 x8 x9 x10 x11 x12 x13 x14 x15 1 x17 x18 x19 x20 x21 x22 x23 x24 x25 x26 x27 x28 [.v (.int .i64 c0), .v (.int .i64 c1), .v (.int .i64 c2)] = ex0 x0 x1 x2 x3 x4 x5 x6 x7 x8 x9 x10 x11 x12 x13 x14 x15 1 x17 x18 x19 x20 x21 x22 x23 x24 x25 x26 x27 x28 [.v (.int .i64 c0), .v (.int .i64 (nx x24 x17)), .v (.int .i64 c2)] := by
  have e : IntKind.wrap .i64 (x24 + x17) = x24 + x17 := wi64_in hr
  have h : N_law37_FenceSure_0 F ex0 x0 x1 x2 x3 x4 x5 x6 x7 x8 x9 x10 x11 x12 x13 x14 x15 1 x17 x18 x19 x20 x21 x22 x23 x24 x25 x26 x27 x28 [.v (.int .i64 c0), .v (.int .i64 c1), .v (.int .i64 c2)] = ex0 x0 x1 x2 x3 x4 x5 x6 x7 x8 x9 x10 x11 x12 x13 x14 x15 1 x17 x18 x19 x20 x21 x22 x23 x24 x25 x26 x27 x28 [.v (.int .i64 c0), .v (.int .i64 (if 2305843009213693952 < (if -2305843009213693952 > IntKind.wrap .i64 (x24 + x17) then -2305843009213693952 else IntKind.wrap .i64 (x24 + x17)) then 2305843009213693952 else (if -2305843009213693952 > IntKind.wrap .i64 (x24 + x17) then -2305843009213693952 else IntKind.wrap .i64 (x24 + x17)))), .v (.int .i64 c2)] := by kernel_rfl
  rw [h, e]
  rfl

theorem nn2 (F : Nat) (ex0) (x0 : Bool) (x1 : List VV) (x2 : Nat) (x3 : Nat) (x4 : Int) (x5 : Int) (x6 : Int) (x7 : Int) (x8 : Int) (x9 : Int) (x10 : Int) (x11 : Int) (x12 : Int) (x13 : Bool) (x14 : Int) (x15 : Int) (x17 : Int) (x18 : Bool) (x19 : List VV) (x20 : Nat) (x21 : Int) (x22 : Int) (x23 : Int) (x24 : Int) (x25 : Int) (x26 : Int) (x27 : Int) (x28 : Int) (c0 c1 c2 : Int) (h25 : I64 x25) (hd : -1152921504606846976 ≤ x17 ∧ x17 ≤ 1152921504606846976) : N_law37_FenceSure_0 F ex0 x0 x1 x2 x3 x4 x5 x6 x7 x8 x9 x10 x11 x12 x13 x14 x15 2 x17 x18 x19 x20 x21 x22 x23 x24 x25 x26 x27 x28 [.v (.int .i64 c0), .v (.int .i64 c1), .v (.int .i64 c2)] = ex0 x0 x1 x2 x3 x4 x5 x6 x7 x8 x9 x10 x11 x12 x13 x14 x15 2 x17 x18 x19 x20 x21 x22 x23 x24 x25 x26 x27 x28 [.v (.int .i64 c0), .v (.int .i64 c1), .v (.int .i64 (nz x25 x17))] := by
  have h : N_law37_FenceSure_0 F ex0 x0 x1 x2 x3 x4 x5 x6 x7 x8 x9 x10 x11 x12 x13 x14 x15 2 x17 x18 x19 x20 x21 x22 x23 x24 x25 x26 x27 x28 [.v (.int .i64 c0), .v (.int .i64 c1), .v (.int .i64 c2)] =
      bif decide (x17 > 0) then (bif decide (x25 > IntKind.wrap .i64 (9223372036854775807 - x17)) then ex0 x0 x1 x2 x3 x4 x5 x6 x7 x8 x9 x10 x11 x12 x13 x14 x15 2 x17 x18 x19 x20 x21 x22 x23 x24 x25 x26 x27 x28 [.v (.int .i64 c0), .v (.int .i64 c1), .v (.int .i64 x25)] else (bif decide (x17 < 0) then (bif decide (x25 < IntKind.wrap .i64 ((-9223372036854775808) - x17)) then ex0 x0 x1 x2 x3 x4 x5 x6 x7 x8 x9 x10 x11 x12 x13 x14 x15 2 x17 x18 x19 x20 x21 x22 x23 x24 x25 x26 x27 x28 [.v (.int .i64 c0), .v (.int .i64 c1), .v (.int .i64 x25)] else ex0 x0 x1 x2 x3 x4 x5 x6 x7 x8 x9 x10 x11 x12 x13 x14 x15 2 x17 x18 x19 x20 x21 x22 x23 x24 x25 x26 x27 x28 [.v (.int .i64 c0), .v (.int .i64 c1), .v (.int .i64 (IntKind.wrap .i64 (x25 + x17)))]) else ex0 x0 x1 x2 x3 x4 x5 x6 x7 x8 x9 x10 x11 x12 x13 x14 x15 2 x17 x18 x19 x20 x21 x22 x23 x24 x25 x26 x27 x28 [.v (.int .i64 c0), .v (.int .i64 c1), .v (.int .i64 (IntKind.wrap .i64 (x25 + x17)))]))
      else (bif decide (x17 < 0) then (bif decide (x25 < IntKind.wrap .i64 ((-9223372036854775808) - x17)) then ex0 x0 x1 x2 x3 x4 x5 x6 x7 x8 x9 x10 x11 x12 x13 x14 x15 2 x17 x18 x19 x20 x21 x22 x23 x24 x25 x26 x27 x28 [.v (.int .i64 c0), .v (.int .i64 c1), .v (.int .i64 x25)] else ex0 x0 x1 x2 x3 x4 x5 x6 x7 x8 x9 x10 x11 x12 x13 x14 x15 2 x17 x18 x19 x20 x21 x22 x23 x24 x25 x26 x27 x28 [.v (.int .i64 c0), .v (.int .i64 c1), .v (.int .i64 (IntKind.wrap .i64 (x25 + x17)))]) else ex0 x0 x1 x2 x3 x4 x5 x6 x7 x8 x9 x10 x11 x12 x13 x14 x15 2 x17 x18 x19 x20 x21 x22 x23 x24 x25 x26 x27 x28 [.v (.int .i64 c0), .v (.int .i64 c1), .v (.int .i64 (IntKind.wrap .i64 (x25 + x17)))]) := by kernel_rfl
  rw [h]
  unfold I64 at h25
  unfold nz
  by_cases h1 : x17 > 0
  · rw [dt h1, cond_true, wi64_in (by unfold I64; omega), df (show ¬ x17 < 0 by omega), cond_false]
    by_cases h2 : x25 > 9223372036854775807 - x17
    · rw [dt h2, if_pos ⟨h1, h2⟩]; rfl
    · rw [df h2, if_neg (by omega), if_neg (by omega), wi64_in (by unfold I64; omega)]; rfl
  · rw [df h1, cond_false, if_neg (by omega)]
    by_cases h3 : x17 < 0
    · rw [dt h3, cond_true, wi64_in (x := -9223372036854775808 - x17) (by unfold I64; omega)]
      by_cases h2 : x25 < -9223372036854775808 - x17
      · rw [dt h2, if_pos ⟨h3, h2⟩]; rfl
      · rw [df h2, if_neg (by omega), wi64_in (by unfold I64; omega)]; rfl
    · rw [df h3, cond_false, if_neg (by omega), wi64_in (by unfold I64; omega)]

theorem st0 (F : Nat) (ex0) (n : Nat) (x0 : Bool) (x1 : List VV) (x2 : Nat) (x3 : Nat) (x4 : Int) (x5 : Int) (x6 : Int) (x7 : Int) (x8 : Int) (x9 : Int) (x10 : Int) (x11 : Int) (x12 : Int) (x13 : Bool) (x14 : Int) (x15 : Int) (x17 : Bool) (x18 : List VV) (x19 : Nat) (x20 : Int) (x21 : Int) (x22 : Int) (x23 : Int) (x24 : Int) (x25 : Int) (x26 : Int) (x27 : Int) (c0 c1 c2 : Int) (h9 : OkR x9) (ha : -2305843009213693952 ≤ x22 ∧ x22 ≤ 2305843009213693952) : L_law37_FenceSure_0 F ex0 (n + 1) x0 x1 x2 x3 x4 x5 x6 x7 x8 x9 x10 x11 x12 x13 x14 x15 0 x17 x18 x19 x20 x21 x22 x23 x24 x25 x26 x27 [.v (.int .i64 c0), .v (.int .i64 c1), .v (.int .i64 c2)] = L_law37_FenceSure_0 F ex0 n x0 x1 x2 x3 x4 x5 x6 x7 x8 x9 x10 x11 x12 x13 x14 x15 1 x17 x18 x19 x20 x21 x22 x23 x24 x25 x26 x27 [.v (.int .i64 (nx x22 (dOf x9 x25))), .v (.int .i64 c1), .v (.int .i64 c2)] := by
  have h := h9.a
  have h' := h9.b
  have hd := dOf_bd (b := x25) h9
  have hb : L_law37_FenceSure_0 F ex0 (n + 1) x0 x1 x2 x3 x4 x5 x6 x7 x8 x9 x10 x11 x12 x13 x14 x15 0 x17 x18 x19 x20 x21 x22 x23 x24 x25 x26 x27 [.v (.int .i64 c0), .v (.int .i64 c1), .v (.int .i64 c2)] = bif (x9 == 0) then N_law37_FenceSure_0 F (fun v0 v1 v2 v3 v4 v5 v6 v7 v8 v9 v10 v11 v12 v13 v14 v15 v16 v17 v18 v19 v20 v21 v22 v23 v24 v25 v26 v27 v28 v29 => L_law37_FenceSure_0 F ex0 n v0 v1 v2 v3 v4 v5 v6 v7 v8 v9 v10 v11 v12 v13 v14 v15 (IntKind.wrap .i64 (v16 + 1)) v18 v19 v20 v21 v22 v23 v24 v25 v26 v27 v28 v29) x0 x1 x2 x3 x4 x5 x6 x7 x8 x9 x10 x11 x12 x13 x14 x15 0 0 x17 x18 x19 x20 x21 x22 x23 x24 x25 x26 x27 [.v (.int .i64 c0), .v (.int .i64 c1), .v (.int .i64 c2)]
      else bif !(decide (IntKind.wrap .i64 (x9 + 1) = 0)) then N_law37_FenceSure_0 F (fun v0 v1 v2 v3 v4 v5 v6 v7 v8 v9 v10 v11 v12 v13 v14 v15 v16 v17 v18 v19 v20 v21 v22 v23 v24 v25 v26 v27 v28 v29 => L_law37_FenceSure_0 F ex0 n v0 v1 v2 v3 v4 v5 v6 v7 v8 v9 v10 v11 v12 v13 v14 v15 (IntKind.wrap .i64 (v16 + 1)) v18 v19 v20 v21 v22 v23 v24 v25 v26 v27 v28 v29) x0 x1 x2 x3 x4 x5 x6 x7 x8 x9 x10 x11 x12 x13 x14 x15 0 (Int.tmod x25 (IntKind.wrap .i64 (x9 + 1))) x17 x18 x19 x20 x21 x22 x23 x24 x25 x26 x27 [.v (.int .i64 c0), .v (.int .i64 c1), .v (.int .i64 c2)] else none := by kernel_rfl
  rw [hb, wi64_in (x := x9 + 1) (by unfold I64; omega), df (show ¬ x9 + 1 = 0 by omega)]
  by_cases e : x9 = 0
  · have e9 : dOf x9 x25 = 0 := by unfold dOf; rw [if_pos e]
    rw [e9]
    refine (bp (by rw [e]; rfl) ?_)
    exact nn0 F _ _ _ _ _ _ _ _ _ _ _ _ _ _ _ _ _ _ _ _ _ _ _ _ _ _ _ _ _ c0 c1 c2 (by unfold I64; omega)
  · have e9 : dOf x9 x25 = Int.tmod x25 (x9 + 1) := by unfold dOf; rw [if_neg e]
    rw [e9] at hd
    rw [e9]
    refine (bn (by simpa using e) (bp (by rfl) ?_))
    exact nn0 F _ _ _ _ _ _ _ _ _ _ _ _ _ _ _ _ _ _ _ _ _ _ _ _ _ _ _ _ _ c0 c1 c2 (by unfold I64; omega)

theorem st1 (F : Nat) (ex0) (n : Nat) (x0 : Bool) (x1 : List VV) (x2 : Nat) (x3 : Nat) (x4 : Int) (x5 : Int) (x6 : Int) (x7 : Int) (x8 : Int) (x9 : Int) (x10 : Int) (x11 : Int) (x12 : Int) (x13 : Bool) (x14 : Int) (x15 : Int) (x17 : Bool) (x18 : List VV) (x19 : Nat) (x20 : Int) (x21 : Int) (x22 : Int) (x23 : Int) (x24 : Int) (x25 : Int) (x26 : Int) (x27 : Int) (c0 c1 c2 : Int) (h9 : OkR x9) (ha : -2305843009213693952 ≤ x23 ∧ x23 ≤ 2305843009213693952) : L_law37_FenceSure_0 F ex0 (n + 1) x0 x1 x2 x3 x4 x5 x6 x7 x8 x9 x10 x11 x12 x13 x14 x15 1 x17 x18 x19 x20 x21 x22 x23 x24 x25 x26 x27 [.v (.int .i64 c0), .v (.int .i64 c1), .v (.int .i64 c2)] = L_law37_FenceSure_0 F ex0 n x0 x1 x2 x3 x4 x5 x6 x7 x8 x9 x10 x11 x12 x13 x14 x15 2 x17 x18 x19 x20 x21 x22 x23 x24 x25 x26 x27 [.v (.int .i64 c0), .v (.int .i64 (nx x23 (dOf x9 x26))), .v (.int .i64 c2)] := by
  have h := h9.a
  have h' := h9.b
  have hd := dOf_bd (b := x26) h9
  have hb : L_law37_FenceSure_0 F ex0 (n + 1) x0 x1 x2 x3 x4 x5 x6 x7 x8 x9 x10 x11 x12 x13 x14 x15 1 x17 x18 x19 x20 x21 x22 x23 x24 x25 x26 x27 [.v (.int .i64 c0), .v (.int .i64 c1), .v (.int .i64 c2)] = bif (x9 == 0) then N_law37_FenceSure_0 F (fun v0 v1 v2 v3 v4 v5 v6 v7 v8 v9 v10 v11 v12 v13 v14 v15 v16 v17 v18 v19 v20 v21 v22 v23 v24 v25 v26 v27 v28 v29 => L_law37_FenceSure_0 F ex0 n v0 v1 v2 v3 v4 v5 v6 v7 v8 v9 v10 v11 v12 v13 v14 v15 (IntKind.wrap .i64 (v16 + 1)) v18 v19 v20 v21 v22 v23 v24 v25 v26 v27 v28 v29) x0 x1 x2 x3 x4 x5 x6 x7 x8 x9 x10 x11 x12 x13 x14 x15 1 0 x17 x18 x19 x20 x21 x22 x23 x24 x25 x26 x27 [.v (.int .i64 c0), .v (.int .i64 c1), .v (.int .i64 c2)]
      else bif !(decide (IntKind.wrap .i64 (x9 + 1) = 0)) then N_law37_FenceSure_0 F (fun v0 v1 v2 v3 v4 v5 v6 v7 v8 v9 v10 v11 v12 v13 v14 v15 v16 v17 v18 v19 v20 v21 v22 v23 v24 v25 v26 v27 v28 v29 => L_law37_FenceSure_0 F ex0 n v0 v1 v2 v3 v4 v5 v6 v7 v8 v9 v10 v11 v12 v13 v14 v15 (IntKind.wrap .i64 (v16 + 1)) v18 v19 v20 v21 v22 v23 v24 v25 v26 v27 v28 v29) x0 x1 x2 x3 x4 x5 x6 x7 x8 x9 x10 x11 x12 x13 x14 x15 1 (Int.tmod x26 (IntKind.wrap .i64 (x9 + 1))) x17 x18 x19 x20 x21 x22 x23 x24 x25 x26 x27 [.v (.int .i64 c0), .v (.int .i64 c1), .v (.int .i64 c2)] else none := by kernel_rfl
  rw [hb, wi64_in (x := x9 + 1) (by unfold I64; omega), df (show ¬ x9 + 1 = 0 by omega)]
  by_cases e : x9 = 0
  · have e9 : dOf x9 x26 = 0 := by unfold dOf; rw [if_pos e]
    rw [e9]
    refine (bp (by rw [e]; rfl) ?_)
    exact nn1 F _ _ _ _ _ _ _ _ _ _ _ _ _ _ _ _ _ _ _ _ _ _ _ _ _ _ _ _ _ c0 c1 c2 (by unfold I64; omega)
  · have e9 : dOf x9 x26 = Int.tmod x26 (x9 + 1) := by unfold dOf; rw [if_neg e]
    rw [e9] at hd
    rw [e9]
    refine (bn (by simpa using e) (bp (by rfl) ?_))
    exact nn1 F _ _ _ _ _ _ _ _ _ _ _ _ _ _ _ _ _ _ _ _ _ _ _ _ _ _ _ _ _ c0 c1 c2 (by unfold I64; omega)

theorem st2 (F : Nat) (ex0) (n : Nat) (x0 : Bool) (x1 : List VV) (x2 : Nat) (x3 : Nat) (x4 : Int) (x5 : Int) (x6 : Int) (x7 : Int) (x8 : Int) (x9 : Int) (x10 : Int) (x11 : Int) (x12 : Int) (x13 : Bool) (x14 : Int) (x15 : Int) (x17 : Bool) (x18 : List VV) (x19 : Nat) (x20 : Int) (x21 : Int) (x22 : Int) (x23 : Int) (x24 : Int) (x25 : Int) (x26 : Int) (x27 : Int) (c0 c1 c2 : Int) (h9 : OkR x9) (h24 : I64 x24) : L_law37_FenceSure_0 F ex0 (n + 1) x0 x1 x2 x3 x4 x5 x6 x7 x8 x9 x10 x11 x12 x13 x14 x15 2 x17 x18 x19 x20 x21 x22 x23 x24 x25 x26 x27 [.v (.int .i64 c0), .v (.int .i64 c1), .v (.int .i64 c2)] = L_law37_FenceSure_0 F ex0 n x0 x1 x2 x3 x4 x5 x6 x7 x8 x9 x10 x11 x12 x13 x14 x15 3 x17 x18 x19 x20 x21 x22 x23 x24 x25 x26 x27 [.v (.int .i64 c0), .v (.int .i64 c1), .v (.int .i64 (nz x24 (dOf x9 x27)))] := by
  have h := h9.a
  have h' := h9.b
  have hd := dOf_bd (b := x27) h9
  have hb : L_law37_FenceSure_0 F ex0 (n + 1) x0 x1 x2 x3 x4 x5 x6 x7 x8 x9 x10 x11 x12 x13 x14 x15 2 x17 x18 x19 x20 x21 x22 x23 x24 x25 x26 x27 [.v (.int .i64 c0), .v (.int .i64 c1), .v (.int .i64 c2)] = bif (x9 == 0) then N_law37_FenceSure_0 F (fun v0 v1 v2 v3 v4 v5 v6 v7 v8 v9 v10 v11 v12 v13 v14 v15 v16 v17 v18 v19 v20 v21 v22 v23 v24 v25 v26 v27 v28 v29 => L_law37_FenceSure_0 F ex0 n v0 v1 v2 v3 v4 v5 v6 v7 v8 v9 v10 v11 v12 v13 v14 v15 (IntKind.wrap .i64 (v16 + 1)) v18 v19 v20 v21 v22 v23 v24 v25 v26 v27 v28 v29) x0 x1 x2 x3 x4 x5 x6 x7 x8 x9 x10 x11 x12 x13 x14 x15 2 0 x17 x18 x19 x20 x21 x22 x23 x24 x25 x26 x27 [.v (.int .i64 c0), .v (.int .i64 c1), .v (.int .i64 c2)]
      else bif !(decide (IntKind.wrap .i64 (x9 + 1) = 0)) then N_law37_FenceSure_0 F (fun v0 v1 v2 v3 v4 v5 v6 v7 v8 v9 v10 v11 v12 v13 v14 v15 v16 v17 v18 v19 v20 v21 v22 v23 v24 v25 v26 v27 v28 v29 => L_law37_FenceSure_0 F ex0 n v0 v1 v2 v3 v4 v5 v6 v7 v8 v9 v10 v11 v12 v13 v14 v15 (IntKind.wrap .i64 (v16 + 1)) v18 v19 v20 v21 v22 v23 v24 v25 v26 v27 v28 v29) x0 x1 x2 x3 x4 x5 x6 x7 x8 x9 x10 x11 x12 x13 x14 x15 2 (Int.tmod x27 (IntKind.wrap .i64 (x9 + 1))) x17 x18 x19 x20 x21 x22 x23 x24 x25 x26 x27 [.v (.int .i64 c0), .v (.int .i64 c1), .v (.int .i64 c2)] else none := by kernel_rfl
  rw [hb, wi64_in (x := x9 + 1) (by unfold I64; omega), df (show ¬ x9 + 1 = 0 by omega)]
  by_cases e : x9 = 0
  · have e9 : dOf x9 x27 = 0 := by unfold dOf; rw [if_pos e]
    rw [e9]
    refine (bp (by rw [e]; rfl) ?_)
    exact nn2 F _ _ _ _ _ _ _ _ _ _ _ _ _ _ _ _ _ _ _ _ _ _ _ _ _ _ _ _ _ c0 c1 c2 h24 (by omega)
  · have e9 : dOf x9 x27 = Int.tmod x27 (x9 + 1) := by unfold dOf; rw [if_neg e]
    rw [e9] at hd
    rw [e9]
    refine (bn (by simpa using e) (bp (by rfl) ?_))
    exact nn2 F _ _ _ _ _ _ _ _ _ _ _ _ _ _ _ _ _ _ _ _ _ _ _ _ _ _ _ _ _ c0 c1 c2 h24 (by omega)

end Go.Xv
namespace Go.Xv
theorem sure_state {kp : Bool} {zs : List Pt} {fl rf x y h r x' y' h' : Int} (hm : mayB zs fl rf (x, y) r = true) (hs : stateOf kp zs fl rf (x, y) h r ≠ 1)
    (hq : InSq (x, y) r (x', y')) (hok : OkP (x', y')) (hh : h - r ≤ h' ∧ h' ≤ h + r) : mayB zs fl rf (x', y') 0 = true ∧ stateOf kp zs fl rf (x', y') h' 0 = stateOf kp zs fl rf (x, y) h r := by
  obtain ⟨m1, m2, m3, m4⟩ := mayB_sound hm
  refine ⟨mayB_of m1 m2 hok ⟨by decide, by decide⟩, ?_⟩
  have hin : inH fl rf h r = true → inH fl rf h' 0 = true := fun h1 => by
    unfold inH at *
    simp only [Bool.and_eq_true, Bool.not_eq_true', decide_eq_false_iff_not] at *
    omega
  have hout : outH fl rf h r = true → outH fl rf h' 0 = true := fun h1 => by
    unfold outH at *
    simp only [Bool.or_eq_true, decide_eq_true_eq] at *
    omega
  have hno : inH fl rf h' 0 = true → outH fl rf h' 0 = false := fun h1 => by
    unfold inH at h1; unfold outH
    simp only [Bool.and_eq_true, Bool.not_eq_true', decide_eq_false_iff_not] at h1
    rw [Bool.or_eq_false_iff, decide_eq_false_iff_not, decide_eq_false_iff_not]
    omega
  have hno' : inH fl rf h r = true → outH fl rf h r = false := fun h1 => by
    have := m4.a
    unfold inH at h1; unfold outH
    simp only [Bool.and_eq_true, Bool.not_eq_true', decide_eq_false_iff_not] at h1
    rw [Bool.or_eq_false_iff, decide_eq_false_iff_not, decide_eq_false_iff_not]
    omega
  unfold stateOf at hs ⊢
  cases ht : touchesB zs (x, y) r with
  | true =>
    rw [ht] at hs
    -- not clear: only a height that is all out
    cases ho : outH fl rf h r with
    | false =>
      rw [ho] at hs
      exfalso
      apply hs
      cases kp <;> cases withinB zs (x, y) <;> cases inH fl rf h r <;> rfl
    | true =>
      have ho' := hout ho
      have hi' : inH fl rf h' 0 = false := by
        cases hi : inH fl rf h' 0 with
        | false => rfl
        | true => rw [hno hi] at ho'; cases ho'
      rw [ho', hi']
      cases kp <;> cases withinB zs (x, y) <;> cases inH fl rf h r <;> cases touchesB zs (x', y') 0 <;> cases withinB zs (x', y') <;> rfl
  | false =>
    obtain ⟨t1, t2⟩ := within_same ht m4.a hq
    rw [t1, t2]
    rw [ht] at hs
    cases hi : inH fl rf h r with
    | true =>
      rw [hin hi, hno (hin hi), hno' hi]
    | false =>
      rw [hi] at hs
      cases ho : outH fl rf h r with
      | true =>
        have hi' : inH fl rf h' 0 = false := by
          cases hi : inH fl rf h' 0 with
          | false => rfl
          | true => have := hout ho; rw [hno hi] at this; cases this
        rw [hout ho, hi']
      | false =>
        rw [ho] at hs
        cases hw : withinB zs (x, y) with
        | true =>
          rw [hw] at hs
          exfalso
          apply hs
          cases kp <;> rfl
        | false => cases kp <;> cases inH fl rf h' 0 <;> cases outH fl rf h' 0 <;> rfl

theorem f_FenceSure (F : Nat) (hF : 200 ≤ F) {kp : Bool} {z : List Int} {len : Nat} {fl rf x y h r b0 b1 b2 : Int} (hw : ∀ n ∈ z, I64 n) (hl : z.length = len * 2) (hfl : I64 fl) (hrf : I64 rf) (hx : I64 x) (hy : I64 y) (hh : I64 h) (hr : I64 r) (h0 : I64 b0) (h1 : I64 b1) (h2 : I64 b2) :
    f_law37_FenceSure F kp (z.map fun n => .v (.int .i64 n)) 0 len fl rf x y h r b0 b1 b2 = some (.v (.bool true)) := by
  obtain ⟨e1, e2⟩ := pairs_cells len z hl
  rw [← e1, ← e2]
  generalize pairsOf z = zs0
  have hb : (zs0.take 20).length ≤ 20 := by rw [List.length_take]; omega
  obtain ⟨q1, q2, q3, q4, q5, q6⟩ := a_few F kp zs0 fl rf
  obtain ⟨k1, k2⟩ := a_works37 F
  obtain ⟨s1, s2, s3⟩ := a_State F kp (zs0.take 20) (by omega) hfl hrf (x, y) (r := r) hh
  unfold f_law37_FenceSure
  simp only [q1, q2, q3, q4, q5, q6, k1, k2, s1, s2, s3, cond_true, Bool.not_true, cond_false]
  generalize zs0.take 20 = zs at *
  cases hm : mayB zs fl rf (x, y) r with
  | false => rfl
  | true =>
    simp only [cond_true]
    by_cases hs : stateOf kp zs fl rf (x, y) h r = 1
    · rw [hs]; rfl
    · rw [show (stateOf kp zs fl rf (x, y) h r == 1) = false by simpa using hs]
      refine bn (by rfl) (bn (by rfl) ?_)
      obtain ⟨m1, m2, m3, m4⟩ := mayB_sound hm
      obtain ⟨n, hn⟩ : ∃ n, F = n + 4 := ⟨F - 4, by omega⟩
      have d0 := dOf_bd (b := b0) m4
      have d1 := dOf_bd (b := b1) m4
      have d2 := dOf_bd (b := b2) m4
      have x0 := nx_bd (v := x) ⟨m3.a, m3.b⟩ d0
      have x1 := nx_bd (v := y) ⟨m3.c, m3.d⟩ d1
      have x2 := nz_bd d2 hh
      obtain ⟨g1, g2⟩ := sure_state hm hs (x' := nx x (dOf r b0)) (y' := nx y (dOf r b1)) (h' := nz h (dOf r b2)) ⟨x0.1.1, x0.1.2, x1.1.1, x1.1.2⟩ ⟨x0.2.1, x0.2.2, x1.2.1, x1.2.2⟩ x2.1
      obtain ⟨t1, t2, t3⟩ := a_State F kp zs (by omega) hfl hrf (nx x (dOf r b0), nx y (dOf r b1)) (h := nz h (dOf r b2)) (r := 0) x2.2
      rw [g1, g2] at t2
      rw [g1] at t3
      unfold N_law37_FenceSure_1
      rw [show ∀ a, L_law37_FenceSure_0 F a F = L_law37_FenceSure_0 F a (n + 1 + 1 + 1 + 1) by intro a; rw [hn]]
      rw [st0 F _ (n + 1 + 1 + 1) (h9 := m4) (ha := ⟨m3.a, m3.b⟩), st1 F _ (n + 1 + 1) (h9 := m4) (ha := ⟨m3.c, m3.d⟩), st2 F _ (n + 1) (h9 := m4) (h24 := hh)]
      rw [L_law37_FenceSure_0, B_law37_FenceSure_0]
      refine bn (by rfl) ?_
      refine bp (by rfl) ?_
      show (bif ok_fence_State F kp (cellsP zs) zs.length fl rf (nx x (dOf r b0)) (nx y (dOf r b1)) (nz h (dOf r b2)) 0 then _ else _) = _
      refine bp t1 ?_
      show (bif (o_fence_State_1 F kp (cellsP zs) zs.length fl rf (nx x (dOf r b0)) (nx y (dOf r b1)) (nz h (dOf r b2)) 0 == 0) then (some (VV.v (.bool (o_fence_State_0 F kp (cellsP zs) zs.length fl rf (nx x (dOf r b0)) (nx y (dOf r b1)) (nz h (dOf r b2)) 0 == stateOf kp zs fl rf (x, y) h r))) : R) else some (.v (.bool false))) = _
      simp only at t2 t3
      rw [t2, t3]
      simp
end Go.Xv
namespace Go.Proofs.Ytjhnmpfaemhnhaa.fenceSure
open Go.ChangeShapes Go.WideShapes Go.ChangeAt Go.RowKit Go.Xv Go.Proofs.Ytjhnmpfaemhnhaa.base
set_option linter.unusedVariables false
set_option maxRecDepth 100000 in
theorem lifted (os : Os) (started : os.Started) (H : Type) (enc : TypeId × Value → H) :
    ReturnsInHanded {} Try.checked os 4 .any (Rows.fenceSureSpec.pre6 enc Try.prog Try.f4 Rows.fenceSureRow.domain false) (Rows.fenceSureSpec.post enc Try.prog Try.f4 false true false false) := by
  refine returnsInHanded_of_change (C := Try.checked) own started (by kernel_rfl) Try.func4
    (ChangeSpec.witness6 (enc := enc) (C := Try.checked) false ⟨#[], #[.agg #[.bool false, .slice none 0 0, .int .i64 0, .int .i64 0], .agg #[.int .i64 0, .int .i64 0, .int .i64 0], .int .i64 0, .agg #[.int .i64 0, .int .i64 0, .int .i64 0]], []⟩ 8 (by kernel_rfl) (by kernel_rfl) (by kernel_rfl) (by kernel_rfl)) ?_
  intro W base args ds gs before hval0 hW hcnd _
  have hval : ∀ (j : Nat) t v, Try.f4.params[j]? = some t → args[j]? = some v → Value.okWide Try.prog W .any base t v := hval0
  have hW' := hW
  obtain ⟨p, q, hA0, hV, rfl, hfz, hnd⟩ := hW
  have hA : DataW.TrodAll enc Try.prog W 0 (fun _ => true) true Try.f4.params.toList args.toList ds p := hA0
  rw [Try.params4] at hA hval
  obtain ⟨v0, vs0, d0, ds0, p0, q0, hargs, rfl, rfl, h0, r0⟩ := trodAll_cons hA
  obtain ⟨v1, vs1, d1, ds1, p1, q1, rfl, rfl, rfl, h1, r1⟩ := trodAll_cons r0
  obtain ⟨v2, vs2, d2, ds2, p2, q2, rfl, rfl, rfl, h2, r2⟩ := trodAll_cons r1
  obtain ⟨v3, vs3, d3, ds3, p3, q3, rfl, rfl, rfl, h3, r3⟩ := trodAll_cons r2
  obtain ⟨rfl, rfl, rfl⟩ := trodAll_nil r3
  obtain rfl : args = #[v0, v1, v2, v3] := by cases args; simp_all
  obtain ⟨a0, z0, len0, cap0, p0, a1, a2, rfl, hl0, _, hw0, wa1, wa2, hr0⟩ := open_zone (by kernel_rfl) (hval 0 25 v0 rfl rfl) h0
  obtain ⟨l1, rfl, f1⟩ := open_flat (ks := [some .i64, some .i64, some .i64]) (by kernel_rfl) (by kernel_rfl) (hval 1 27 v1 rfl rfl) h1
  obtain ⟨a3, l1, rfl, wa3, f1⟩ := fitW_some f1
  obtain ⟨a4, l1, rfl, wa4, f1⟩ := fitW_some f1
  obtain ⟨a5, l1, rfl, wa5, f1⟩ := fitW_some f1
  obtain rfl := fitW_nil f1
  obtain ⟨a6, rfl, wa6⟩ := open_num (k := .i64) (by kernel_rfl) (hval 2 23 v2 rfl rfl) h2
  obtain ⟨l3, rfl, f3⟩ := open_flat (ks := [some .i64, some .i64, some .i64]) (by kernel_rfl) (by kernel_rfl) (hval 3 49 v3 rfl rfl) h3
  obtain ⟨a7, l3, rfl, wa7, f3⟩ := fitW_some f3
  obtain ⟨a8, l3, rfl, wa8, f3⟩ := fitW_some f3
  obtain ⟨a9, l3, rfl, wa9, f3⟩ := fitW_some f3
  obtain rfl := fitW_nil f3
  refine law_contract laidOut (g_law37_FenceSure fuel0) (bt := 4) (by kernel_rfl) (by kernel_rfl) (by kernel_rfl) (by kernel_rfl) rfl hW' ?_
  refine ⟨[.agg [.v (.bool a0), .fs (z0.map fun n => .v (.int .i64 n)) 0 len0 2, .v (.int .i64 a1), .v (.int .i64 a2)], .v (.agg #[.int .i64 a3, .int .i64 a4, .int .i64 a5]), .v (.int .i64 a6), .v (.agg #[.int .i64 a7, .int .i64 a8, .int .i64 a9])], rfl, fun i x hx => ?_, unS_of ?_⟩
  · match i, hx with
    | 0, hx => exact ⟨_, rfl, by cases hx; exact hr0 _⟩
    | 1, hx => exact ⟨_, rfl, by cases hx; exact Rel.v _ _⟩
    | 2, hx => exact ⟨_, rfl, by cases hx; exact Rel.v _ _⟩
    | 3, hx => exact ⟨_, rfl, by cases hx; exact Rel.v _ _⟩
    | _ + 4, hx => cases hx
  · obtain ⟨y1, y2⟩ := k_law37_FenceSure fuel0 a0 (z0.map fun n => .v (.int .i64 n)) 0 len0 a1 a2 a3 a4 a5 a6 a7 a8 a9 (f_FenceSure fuel0 (by unfold fuel0; omega) (fun n hn => wf_i64 (hw0 n hn)) hl0 (wf_i64 wa1) (wf_i64 wa2) (wf_i64 wa3) (wf_i64 wa4) (wf_i64 wa5) (wf_i64 wa6) (wf_i64 wa7) (wf_i64 wa8) (wf_i64 wa9))
    have e : s_law37_FenceSure fuel0 [.agg [.v (.bool a0), .fs (z0.map fun n => .v (.int .i64 n)) 0 len0 2, .v (.int .i64 a1), .v (.int .i64 a2)], .v (.agg #[.int .i64 a3, .int .i64 a4, .int .i64 a5]), .v (.int .i64 a6), .v (.agg #[.int .i64 a7, .int .i64 a8, .int .i64 a9])] = some (ok_law37_FenceSure fuel0 a0 (z0.map fun n => .v (.int .i64 n)) 0 len0 a1 a2 a3 a4 a5 a6 a7 a8 a9, .v (.bool (o_law37_FenceSure_0 fuel0 a0 (z0.map fun n => .v (.int .i64 n)) 0 len0 a1 a2 a3 a4 a5 a6 a7 a8 a9))) := by kernel_rfl
    rw [e, y1, y2]
theorem over : Rows.fenceSureRow.holds Try.pinned (OpenSpec.ofChange Rows.fenceSureSpec) :=
  OpenClaim.holds_of_wide 4 Try.f4 rfl rfl rfl rfl rfl rfl rfl ⟨rfl, rfl, rfl, rfl, rfl⟩ rfl rfl rfl rfl rfl (by kernel_rfl) Try.func4 (joined_of (P := Try.prog) behind enter_ rfl rfl ⟨rfl, rfl⟩ (by kernel_rfl))
    (of_decide_eq_true (by kernel_rfl)) (by unfold Func.isWrapper; first | (rw [if_pos (by decide +kernel)]; kernel_rfl) | (rw [if_neg (by decide +kernel)]; exact ⟨rfl, rfl⟩))
    (fun os started H enc _ => lifted os started H enc)
/-- The statement. -/
theorem proved : Rows.FenceSureSaid := over
#print axioms proved
end Go.Proofs.Ytjhnmpfaemhnhaa.fenceSure
