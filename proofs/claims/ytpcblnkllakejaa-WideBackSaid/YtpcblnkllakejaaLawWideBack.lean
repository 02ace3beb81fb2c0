/- A quotient times the divisor, and the rest, come to the number, and the rest is less than the divisor and has the number's sign, or is 0: the law returns true for every input, and leaves its arguments as they were. -/
import Derived.Test.YtpcblnkllakejaaW2
import Derived.Test.YtpcblnkllakejaaProg
import Derived.KernelRfl
set_option linter.unusedVariables false
namespace Go.Xv
/- 22 _law01_WideBack -/
def c_law01_WideBack : Cfg := ⟨[0, 1, 2, 6, 9, 10, 11, 12, 13, 14, 15, 16, 17, 18, 20, 22, 44], [], [25, 47, 63, 65], [(10, [0, 1, 2, 6, 9, 10, 11, 12, 13, 14, 15, 16, 17, 18, 20, 22, 44]), (14, [0, 1, 2, 6, 9, 10, 11, 12, 13, 14, 15, 16, 17, 18, 20, 22, 44])]⟩
def ti_law01_WideBack : List TV := [.v (.int .i64), .v (.int .i64), .v (.int .i64)]
def to_law01_WideBack : TV := .v (.bool)
def S_law01_WideBack (F : Nat) : FuncId → List VV → Option (Bool × VV) := words [(42, s_law01_works F), (57, s_wide_Of F), (83, s_wide_Div F), (40, s_wide_Mul F), (53, s_wide_Sign F), (43, s_wide_Add F), (85, s_wide_Clip F)]
def TN_law01_WideBack_0 : TS := ⟨[(0, .v (.int .i64)), (1, .v (.int .i64)), (2, .v (.int .i64)), (6, .v (.bool)), (10, .lp 0 (.lit 0)), (11, .v (.int .i64)), (12, .lp 1 (.lit 0)), (13, .v (.int .i64)), (14, .v (.bool)), (15, .v (.int .i64)), (16, .v (.bool)), (17, .lp 2 (.lit 0)), (18, .v (.bool))], [(0, ⟨(.ex [.v (.int .i64), .v (.int .u64)]), true⟩), (1, ⟨(.ex [.v (.int .i64), .v (.int .u64)]), true⟩), (2, ⟨(.ex [.v (.int .i64), .v (.int .u64)]), true⟩)], 3⟩
def TN_law01_WideBack_0_0 : TS := ⟨[(0, .v (.int .i64)), (1, .v (.int .i64)), (2, .v (.int .i64)), (6, .v (.bool)), (10, .lp 0 (.lit 0)), (11, .v (.int .i64)), (12, .lp 1 (.lit 0)), (13, .v (.int .i64)), (14, .v (.bool)), (15, .v (.int .i64)), (16, .v (.bool)), (17, .lp 2 (.lit 0)), (18, .v (.bool))], [(0, ⟨(.ex [.v (.int .i64), .v (.int .u64)]), true⟩), (1, ⟨(.ex [.v (.int .i64), .v (.int .u64)]), true⟩), (2, ⟨(.ex [.v (.int .i64), .v (.int .u64)]), true⟩)], 3⟩
def N_law01_WideBack_0 (F : Nat) (ex0 : Int → Int → Int → Bool → Int → Int → Bool → Int → Bool → Bool → Int → Int → Int → Int → Int → Int → R) (x0 : Int) (x1 : Int) (x2 : Int) (x3 : Bool) (x4 : Int) (x5 : Int) (x6 : Bool) (x7 : Int) (x8 : Bool) (x9 : Bool) (x10 : Int) (x11 : Int) (x12 : Int) (x13 : Int) (x14 : Int) (x15 : Int) : R :=
  bif x6 then (
    bif x8 then (
      bif x9 then (
        bif ((x5 == 0)) then (
          ex0 x0 x1 x2 true x4 x5 x6 x7 x8 x9 x10 x11 x12 x13 x14 x15)
        else (
          bif (ok_wide_Sign F x10 x11) then (
            ex0 x0 x1 x2 ((((decide (x5 < 0))) == ((decide (((o_wide_Sign_0 F x10 x11)) < 0))))) x4 x5 x6 x7 x8 x9 x10 x11 x12 x13 x14 x15)
          else (
            none)))
      else (
        ex0 x0 x1 x2 false x4 x5 x6 x7 x8 x9 x10 x11 x12 x13 x14 x15))
    else (
      bif (((x14 == x10) && (x15 == x11))) then (
        bif x9 then (
          bif ((x5 == 0)) then (
            ex0 x0 x1 x2 true x4 x5 x6 x7 x8 x9 x10 x11 x12 x13 x14 x15)
          else (
            bif (ok_wide_Sign F x10 x11) then (
              ex0 x0 x1 x2 ((((decide (x5 < 0))) == ((decide (((o_wide_Sign_0 F x10 x11)) < 0))))) x4 x5 x6 x7 x8 x9 x10 x11 x12 x13 x14 x15)
            else (
              none)))
        else (
          ex0 x0 x1 x2 false x4 x5 x6 x7 x8 x9 x10 x11 x12 x13 x14 x15))
      else (
        ex0 x0 x1 x2 false x4 x5 x6 x7 x8 x9 x10 x11 x12 x13 x14 x15)))
  else (
    ex0 x0 x1 x2 false x4 x5 x6 x7 x8 x9 x10 x11 x12 x13 x14 x15)
def TN_law01_WideBack_1 : TS := ⟨[(0, .v (.int .i64)), (1, .v (.int .i64)), (2, .v (.int .i64)), (6, .v (.bool)), (10, .lp 0 (.lit 0)), (11, .v (.int .i64))], [(0, ⟨(.ex [.v (.int .i64), .v (.int .u64)]), true⟩)], 1⟩
def TN_law01_WideBack_1_0 : TS := ⟨[(0, .v (.int .i64)), (1, .v (.int .i64)), (2, .v (.int .i64)), (6, .v (.bool)), (10, .lp 0 (.lit 0)), (11, .v (.int .i64)), (12, .lp 1 (.lit 0)), (13, .v (.int .i64)), (14, .v (.bool)), (15, .v (.int .i64)), (16, .v (.bool)), (17, .lp 2 (.lit 0)), (18, .v (.bool))], [(0, ⟨(.ex [.v (.int .i64), .v (.int .u64)]), true⟩), (1, ⟨(.ex [.v (.int .i64), .v (.int .u64)]), true⟩), (2, ⟨(.ex [.v (.int .i64), .v (.int .u64)]), true⟩)], 3⟩
def N_law01_WideBack_1 (F : Nat) (ex0 : Int → Int → Int → Bool → Int → Int → Bool → Int → Bool → Bool → Int → Int → Int → Int → Int → Int → R) (x0 : Int) (x1 : Int) (x2 : Int) (x3 : Bool) (x4 : Int) (x5 : Int) (x6 : Int) : R :=
  bif (ok_wide_Div F x5 x6 x1) then (
    let v850 : Int := (o_wide_Div_0 F x5 x6 x1)
    let v851 : Int := (o_wide_Div_1 F x5 x6 x1)
    let v852 : Int := (o_wide_Div_2 F x5 x6 x1)
    let v853 : Bool := (o_wide_Div_3 F x5 x6 x1)
    bif (ok_wide_Clip F v850 v851) then (
      let v854 : Int := (o_wide_Clip_0 F v850 v851)
      let v855 : Bool := (o_wide_Clip_1 F v850 v851)
      bif (ok_wide_Mul F v854 x1) then (
        let v856 : Int := (o_wide_Mul_0 F v854 x1)
        let v857 : Int := (o_wide_Mul_1 F v854 x1)
        bif (ok_wide_Of F v852) then (
          let v858 : Int := (o_wide_Of_0 F v852)
          let v859 : Int := (o_wide_Of_1 F v852)
          bif (ok_wide_Add F v856 v857 v858 v859) then (
            let v860 : Int := (o_wide_Add_0 F v856 v857 v858 v859)
            let v861 : Int := (o_wide_Add_1 F v856 v857 v858 v859)
            bif ((decide (v852 < 0))) then (
              bif ((decide (x1 < 0))) then (
                bif ((decide (v852 > x1))) then (
                  N_law01_WideBack_0 F (fun (v892 : Int) (v893 : Int) (v894 : Int) (v895 : Bool) (v896 : Int) (v897 : Int) (v898 : Bool) (v899 : Int) (v900 : Bool) (v901 : Bool) (v902 : Int) (v903 : Int) (v904 : Int) (v905 : Int) (v906 : Int) (v907 : Int) =>
                    ex0 v892 v893 v894 v895 v896 v897 v898 v899 v900 v901 v902 v903 v904 v905 v906 v907) x0 x1 x2 x3 x4 v852 v853 v854 v855 true x5 x6 v850 v851 v860 v861)
                else (
                  bif ((decide (x1 > 0))) then (
                    bif ((decide (((IntKind.wrap .i64 (0 - v852))) < x1))) then (
                      N_law01_WideBack_0 F (fun (v911 : Int) (v912 : Int) (v913 : Int) (v914 : Bool) (v915 : Int) (v916 : Int) (v917 : Bool) (v918 : Int) (v919 : Bool) (v920 : Bool) (v921 : Int) (v922 : Int) (v923 : Int) (v924 : Int) (v925 : Int) (v926 : Int) =>
                        ex0 v911 v912 v913 v914 v915 v916 v917 v918 v919 v920 v921 v922 v923 v924 v925 v926) x0 x1 x2 x3 x4 v852 v853 v854 v855 true x5 x6 v850 v851 v860 v861)
                    else (
                      bif ((decide (v852 ≥ 0))) then (
                        bif ((decide (x1 > 0))) then (
                          bif ((decide (v852 < x1))) then (
                            N_law01_WideBack_0 F (fun (v930 : Int) (v931 : Int) (v932 : Int) (v933 : Bool) (v934 : Int) (v935 : Int) (v936 : Bool) (v937 : Int) (v938 : Bool) (v939 : Bool) (v940 : Int) (v941 : Int) (v942 : Int) (v943 : Int) (v944 : Int) (v945 : Int) =>
                              ex0 v930 v931 v932 v933 v934 v935 v936 v937 v938 v939 v940 v941 v942 v943 v944 v945) x0 x1 x2 x3 x4 v852 v853 v854 v855 true x5 x6 v850 v851 v860 v861)
                          else (
                            bif ((decide (x1 < 0))) then (
                              N_law01_WideBack_0 F (fun (v949 : Int) (v950 : Int) (v951 : Int) (v952 : Bool) (v953 : Int) (v954 : Int) (v955 : Bool) (v956 : Int) (v957 : Bool) (v958 : Bool) (v959 : Int) (v960 : Int) (v961 : Int) (v962 : Int) (v963 : Int) (v964 : Int) =>
                                ex0 v949 v950 v951 v952 v953 v954 v955 v956 v957 v958 v959 v960 v961 v962 v963 v964) x0 x1 x2 x3 x4 v852 v853 v854 v855 ((decide (((IntKind.wrap .i64 (0 - v852))) > x1))) x5 x6 v850 v851 v860 v861)
                            else (
                              N_law01_WideBack_0 F (fun (v965 : Int) (v966 : Int) (v967 : Int) (v968 : Bool) (v969 : Int) (v970 : Int) (v971 : Bool) (v972 : Int) (v973 : Bool) (v974 : Bool) (v975 : Int) (v976 : Int) (v977 : Int) (v978 : Int) (v979 : Int) (v980 : Int) =>
                                ex0 v965 v966 v967 v968 v969 v970 v971 v972 v973 v974 v975 v976 v977 v978 v979 v980) x0 x1 x2 x3 x4 v852 v853 v854 v855 false x5 x6 v850 v851 v860 v861)))
                        else (
                          bif ((decide (x1 < 0))) then (
                            N_law01_WideBack_0 F (fun (v984 : Int) (v985 : Int) (v986 : Int) (v987 : Bool) (v988 : Int) (v989 : Int) (v990 : Bool) (v991 : Int) (v992 : Bool) (v993 : Bool) (v994 : Int) (v995 : Int) (v996 : Int) (v997 : Int) (v998 : Int) (v999 : Int) =>
                              ex0 v984 v985 v986 v987 v988 v989 v990 v991 v992 v993 v994 v995 v996 v997 v998 v999) x0 x1 x2 x3 x4 v852 v853 v854 v855 ((decide (((IntKind.wrap .i64 (0 - v852))) > x1))) x5 x6 v850 v851 v860 v861)
                          else (
                            N_law01_WideBack_0 F (fun (v1000 : Int) (v1001 : Int) (v1002 : Int) (v1003 : Bool) (v1004 : Int) (v1005 : Int) (v1006 : Bool) (v1007 : Int) (v1008 : Bool) (v1009 : Bool) (v1010 : Int) (v1011 : Int) (v1012 : Int) (v1013 : Int) (v1014 : Int) (v1015 : Int) =>
                              ex0 v1000 v1001 v1002 v1003 v1004 v1005 v1006 v1007 v1008 v1009 v1010 v1011 v1012 v1013 v1014 v1015) x0 x1 x2 x3 x4 v852 v853 v854 v855 false x5 x6 v850 v851 v860 v861)))
                      else (
                        N_law01_WideBack_0 F (fun (v1016 : Int) (v1017 : Int) (v1018 : Int) (v1019 : Bool) (v1020 : Int) (v1021 : Int) (v1022 : Bool) (v1023 : Int) (v1024 : Bool) (v1025 : Bool) (v1026 : Int) (v1027 : Int) (v1028 : Int) (v1029 : Int) (v1030 : Int) (v1031 : Int) =>
                          ex0 v1016 v1017 v1018 v1019 v1020 v1021 v1022 v1023 v1024 v1025 v1026 v1027 v1028 v1029 v1030 v1031) x0 x1 x2 x3 x4 v852 v853 v854 v855 false x5 x6 v850 v851 v860 v861)))
                  else (
                    bif ((decide (v852 ≥ 0))) then (
                      bif ((decide (x1 > 0))) then (
                        bif ((decide (v852 < x1))) then (
                          N_law01_WideBack_0 F (fun (v1035 : Int) (v1036 : Int) (v1037 : Int) (v1038 : Bool) (v1039 : Int) (v1040 : Int) (v1041 : Bool) (v1042 : Int) (v1043 : Bool) (v1044 : Bool) (v1045 : Int) (v1046 : Int) (v1047 : Int) (v1048 : Int) (v1049 : Int) (v1050 : Int) =>
                            ex0 v1035 v1036 v1037 v1038 v1039 v1040 v1041 v1042 v1043 v1044 v1045 v1046 v1047 v1048 v1049 v1050) x0 x1 x2 x3 x4 v852 v853 v854 v855 true x5 x6 v850 v851 v860 v861)
                        else (
                          bif ((decide (x1 < 0))) then (
                            N_law01_WideBack_0 F (fun (v1054 : Int) (v1055 : Int) (v1056 : Int) (v1057 : Bool) (v1058 : Int) (v1059 : Int) (v1060 : Bool) (v1061 : Int) (v1062 : Bool) (v1063 : Bool) (v1064 : Int) (v1065 : Int) (v1066 : Int) (v1067 : Int) (v1068 : Int) (v1069 : Int) =>
                              ex0 v1054 v1055 v1056 v1057 v1058 v1059 v1060 v1061 v1062 v1063 v1064 v1065 v1066 v1067 v1068 v1069) x0 x1 x2 x3 x4 v852 v853 v854 v855 ((decide (((IntKind.wrap .i64 (0 - v852))) > x1))) x5 x6 v850 v851 v860 v861)
                          else (
                            N_law01_WideBack_0 F (fun (v1070 : Int) (v1071 : Int) (v1072 : Int) (v1073 : Bool) (v1074 : Int) (v1075 : Int) (v1076 : Bool) (v1077 : Int) (v1078 : Bool) (v1079 : Bool) (v1080 : Int) (v1081 : Int) (v1082 : Int) (v1083 : Int) (v1084 : Int) (v1085 : Int) =>
                              ex0 v1070 v1071 v1072 v1073 v1074 v1075 v1076 v1077 v1078 v1079 v1080 v1081 v1082 v1083 v1084 v1085) x0 x1 x2 x3 x4 v852 v853 v854 v855 false x5 x6 v850 v851 v860 v861)))
                      else (
                        bif ((decide (x1 < 0))) then (
                          N_law01_WideBack_0 F (fun (v1089 : Int) (v1090 : Int) (v1091 : Int) (v1092 : Bool) (v1093 : Int) (v1094 : Int) (v1095 : Bool) (v1096 : Int) (v1097 : Bool) (v1098 : Bool) (v1099 : Int) (v1100 : Int) (v1101 : Int) (v1102 : Int) (v1103 : Int) (v1104 : Int) =>
                            ex0 v1089 v1090 v1091 v1092 v1093 v1094 v1095 v1096 v1097 v1098 v1099 v1100 v1101 v1102 v1103 v1104) x0 x1 x2 x3 x4 v852 v853 v854 v855 ((decide (((IntKind.wrap .i64 (0 - v852))) > x1))) x5 x6 v850 v851 v860 v861)
                        else (
                          N_law01_WideBack_0 F (fun (v1105 : Int) (v1106 : Int) (v1107 : Int) (v1108 : Bool) (v1109 : Int) (v1110 : Int) (v1111 : Bool) (v1112 : Int) (v1113 : Bool) (v1114 : Bool) (v1115 : Int) (v1116 : Int) (v1117 : Int) (v1118 : Int) (v1119 : Int) (v1120 : Int) =>
                            ex0 v1105 v1106 v1107 v1108 v1109 v1110 v1111 v1112 v1113 v1114 v1115 v1116 v1117 v1118 v1119 v1120) x0 x1 x2 x3 x4 v852 v853 v854 v855 false x5 x6 v850 v851 v860 v861)))
                    else (
                      N_law01_WideBack_0 F (fun (v1121 : Int) (v1122 : Int) (v1123 : Int) (v1124 : Bool) (v1125 : Int) (v1126 : Int) (v1127 : Bool) (v1128 : Int) (v1129 : Bool) (v1130 : Bool) (v1131 : Int) (v1132 : Int) (v1133 : Int) (v1134 : Int) (v1135 : Int) (v1136 : Int) =>
                        ex0 v1121 v1122 v1123 v1124 v1125 v1126 v1127 v1128 v1129 v1130 v1131 v1132 v1133 v1134 v1135 v1136) x0 x1 x2 x3 x4 v852 v853 v854 v855 false x5 x6 v850 v851 v860 v861))))
              else (
                bif ((decide (x1 > 0))) then (
                  bif ((decide (((IntKind.wrap .i64 (0 - v852))) < x1))) then (
                    N_law01_WideBack_0 F (fun (v1140 : Int) (v1141 : Int) (v1142 : Int) (v1143 : Bool) (v1144 : Int) (v1145 : Int) (v1146 : Bool) (v1147 : Int) (v1148 : Bool) (v1149 : Bool) (v1150 : Int) (v1151 : Int) (v1152 : Int) (v1153 : Int) (v1154 : Int) (v1155 : Int) =>
                      ex0 v1140 v1141 v1142 v1143 v1144 v1145 v1146 v1147 v1148 v1149 v1150 v1151 v1152 v1153 v1154 v1155) x0 x1 x2 x3 x4 v852 v853 v854 v855 true x5 x6 v850 v851 v860 v861)
                  else (
                    bif ((decide (v852 ≥ 0))) then (
                      bif ((decide (x1 > 0))) then (
                        bif ((decide (v852 < x1))) then (
                          N_law01_WideBack_0 F (fun (v1159 : Int) (v1160 : Int) (v1161 : Int) (v1162 : Bool) (v1163 : Int) (v1164 : Int) (v1165 : Bool) (v1166 : Int) (v1167 : Bool) (v1168 : Bool) (v1169 : Int) (v1170 : Int) (v1171 : Int) (v1172 : Int) (v1173 : Int) (v1174 : Int) =>
                            ex0 v1159 v1160 v1161 v1162 v1163 v1164 v1165 v1166 v1167 v1168 v1169 v1170 v1171 v1172 v1173 v1174) x0 x1 x2 x3 x4 v852 v853 v854 v855 true x5 x6 v850 v851 v860 v861)
                        else (
                          bif ((decide (x1 < 0))) then (
                            N_law01_WideBack_0 F (fun (v1178 : Int) (v1179 : Int) (v1180 : Int) (v1181 : Bool) (v1182 : Int) (v1183 : Int) (v1184 : Bool) (v1185 : Int) (v1186 : Bool) (v1187 : Bool) (v1188 : Int) (v1189 : Int) (v1190 : Int) (v1191 : Int) (v1192 : Int) (v1193 : Int) =>
                              ex0 v1178 v1179 v1180 v1181 v1182 v1183 v1184 v1185 v1186 v1187 v1188 v1189 v1190 v1191 v1192 v1193) x0 x1 x2 x3 x4 v852 v853 v854 v855 ((decide (((IntKind.wrap .i64 (0 - v852))) > x1))) x5 x6 v850 v851 v860 v861)
                          else (
                            N_law01_WideBack_0 F (fun (v1194 : Int) (v1195 : Int) (v1196 : Int) (v1197 : Bool) (v1198 : Int) (v1199 : Int) (v1200 : Bool) (v1201 : Int) (v1202 : Bool) (v1203 : Bool) (v1204 : Int) (v1205 : Int) (v1206 : Int) (v1207 : Int) (v1208 : Int) (v1209 : Int) =>
                              ex0 v1194 v1195 v1196 v1197 v1198 v1199 v1200 v1201 v1202 v1203 v1204 v1205 v1206 v1207 v1208 v1209) x0 x1 x2 x3 x4 v852 v853 v854 v855 false x5 x6 v850 v851 v860 v861)))
                      else (
                        bif ((decide (x1 < 0))) then (
                          N_law01_WideBack_0 F (fun (v1213 : Int) (v1214 : Int) (v1215 : Int) (v1216 : Bool) (v1217 : Int) (v1218 : Int) (v1219 : Bool) (v1220 : Int) (v1221 : Bool) (v1222 : Bool) (v1223 : Int) (v1224 : Int) (v1225 : Int) (v1226 : Int) (v1227 : Int) (v1228 : Int) =>
                            ex0 v1213 v1214 v1215 v1216 v1217 v1218 v1219 v1220 v1221 v1222 v1223 v1224 v1225 v1226 v1227 v1228) x0 x1 x2 x3 x4 v852 v853 v854 v855 ((decide (((IntKind.wrap .i64 (0 - v852))) > x1))) x5 x6 v850 v851 v860 v861)
                        else (
                          N_law01_WideBack_0 F (fun (v1229 : Int) (v1230 : Int) (v1231 : Int) (v1232 : Bool) (v1233 : Int) (v1234 : Int) (v1235 : Bool) (v1236 : Int) (v1237 : Bool) (v1238 : Bool) (v1239 : Int) (v1240 : Int) (v1241 : Int) (v1242 : Int) (v1243 : Int) (v1244 : Int) =>
                            ex0 v1229 v1230 v1231 v1232 v1233 v1234 v1235 v1236 v1237 v1238 v1239 v1240 v1241 v1242 v1243 v1244) x0 x1 x2 x3 x4 v852 v853 v854 v855 false x5 x6 v850 v851 v860 v861)))
                    else (
                      N_law01_WideBack_0 F (fun (v1245 : Int) (v1246 : Int) (v1247 : Int) (v1248 : Bool) (v1249 : Int) (v1250 : Int) (v1251 : Bool) (v1252 : Int) (v1253 : Bool) (v1254 : Bool) (v1255 : Int) (v1256 : Int) (v1257 : Int) (v1258 : Int) (v1259 : Int) (v1260 : Int) =>
                        ex0 v1245 v1246 v1247 v1248 v1249 v1250 v1251 v1252 v1253 v1254 v1255 v1256 v1257 v1258 v1259 v1260) x0 x1 x2 x3 x4 v852 v853 v854 v855 false x5 x6 v850 v851 v860 v861)))
                else (
                  bif ((decide (v852 ≥ 0))) then (
                    bif ((decide (x1 > 0))) then (
                      bif ((decide (v852 < x1))) then (
                        N_law01_WideBack_0 F (fun (v1264 : Int) (v1265 : Int) (v1266 : Int) (v1267 : Bool) (v1268 : Int) (v1269 : Int) (v1270 : Bool) (v1271 : Int) (v1272 : Bool) (v1273 : Bool) (v1274 : Int) (v1275 : Int) (v1276 : Int) (v1277 : Int) (v1278 : Int) (v1279 : Int) =>
                          ex0 v1264 v1265 v1266 v1267 v1268 v1269 v1270 v1271 v1272 v1273 v1274 v1275 v1276 v1277 v1278 v1279) x0 x1 x2 x3 x4 v852 v853 v854 v855 true x5 x6 v850 v851 v860 v861)
                      else (
                        bif ((decide (x1 < 0))) then (
                          N_law01_WideBack_0 F (fun (v1283 : Int) (v1284 : Int) (v1285 : Int) (v1286 : Bool) (v1287 : Int) (v1288 : Int) (v1289 : Bool) (v1290 : Int) (v1291 : Bool) (v1292 : Bool) (v1293 : Int) (v1294 : Int) (v1295 : Int) (v1296 : Int) (v1297 : Int) (v1298 : Int) =>
                            ex0 v1283 v1284 v1285 v1286 v1287 v1288 v1289 v1290 v1291 v1292 v1293 v1294 v1295 v1296 v1297 v1298) x0 x1 x2 x3 x4 v852 v853 v854 v855 ((decide (((IntKind.wrap .i64 (0 - v852))) > x1))) x5 x6 v850 v851 v860 v861)
                        else (
                          N_law01_WideBack_0 F (fun (v1299 : Int) (v1300 : Int) (v1301 : Int) (v1302 : Bool) (v1303 : Int) (v1304 : Int) (v1305 : Bool) (v1306 : Int) (v1307 : Bool) (v1308 : Bool) (v1309 : Int) (v1310 : Int) (v1311 : Int) (v1312 : Int) (v1313 : Int) (v1314 : Int) =>
                            ex0 v1299 v1300 v1301 v1302 v1303 v1304 v1305 v1306 v1307 v1308 v1309 v1310 v1311 v1312 v1313 v1314) x0 x1 x2 x3 x4 v852 v853 v854 v855 false x5 x6 v850 v851 v860 v861)))
                    else (
                      bif ((decide (x1 < 0))) then (
                        N_law01_WideBack_0 F (fun (v1318 : Int) (v1319 : Int) (v1320 : Int) (v1321 : Bool) (v1322 : Int) (v1323 : Int) (v1324 : Bool) (v1325 : Int) (v1326 : Bool) (v1327 : Bool) (v1328 : Int) (v1329 : Int) (v1330 : Int) (v1331 : Int) (v1332 : Int) (v1333 : Int) =>
                          ex0 v1318 v1319 v1320 v1321 v1322 v1323 v1324 v1325 v1326 v1327 v1328 v1329 v1330 v1331 v1332 v1333) x0 x1 x2 x3 x4 v852 v853 v854 v855 ((decide (((IntKind.wrap .i64 (0 - v852))) > x1))) x5 x6 v850 v851 v860 v861)
                      else (
                        N_law01_WideBack_0 F (fun (v1334 : Int) (v1335 : Int) (v1336 : Int) (v1337 : Bool) (v1338 : Int) (v1339 : Int) (v1340 : Bool) (v1341 : Int) (v1342 : Bool) (v1343 : Bool) (v1344 : Int) (v1345 : Int) (v1346 : Int) (v1347 : Int) (v1348 : Int) (v1349 : Int) =>
                          ex0 v1334 v1335 v1336 v1337 v1338 v1339 v1340 v1341 v1342 v1343 v1344 v1345 v1346 v1347 v1348 v1349) x0 x1 x2 x3 x4 v852 v853 v854 v855 false x5 x6 v850 v851 v860 v861)))
                  else (
                    N_law01_WideBack_0 F (fun (v1350 : Int) (v1351 : Int) (v1352 : Int) (v1353 : Bool) (v1354 : Int) (v1355 : Int) (v1356 : Bool) (v1357 : Int) (v1358 : Bool) (v1359 : Bool) (v1360 : Int) (v1361 : Int) (v1362 : Int) (v1363 : Int) (v1364 : Int) (v1365 : Int) =>
                      ex0 v1350 v1351 v1352 v1353 v1354 v1355 v1356 v1357 v1358 v1359 v1360 v1361 v1362 v1363 v1364 v1365) x0 x1 x2 x3 x4 v852 v853 v854 v855 false x5 x6 v850 v851 v860 v861))))
            else (
              bif ((decide (v852 ≥ 0))) then (
                bif ((decide (x1 > 0))) then (
                  bif ((decide (v852 < x1))) then (
                    N_law01_WideBack_0 F (fun (v1369 : Int) (v1370 : Int) (v1371 : Int) (v1372 : Bool) (v1373 : Int) (v1374 : Int) (v1375 : Bool) (v1376 : Int) (v1377 : Bool) (v1378 : Bool) (v1379 : Int) (v1380 : Int) (v1381 : Int) (v1382 : Int) (v1383 : Int) (v1384 : Int) =>
                      ex0 v1369 v1370 v1371 v1372 v1373 v1374 v1375 v1376 v1377 v1378 v1379 v1380 v1381 v1382 v1383 v1384) x0 x1 x2 x3 x4 v852 v853 v854 v855 true x5 x6 v850 v851 v860 v861)
                  else (
                    bif ((decide (x1 < 0))) then (
                      N_law01_WideBack_0 F (fun (v1388 : Int) (v1389 : Int) (v1390 : Int) (v1391 : Bool) (v1392 : Int) (v1393 : Int) (v1394 : Bool) (v1395 : Int) (v1396 : Bool) (v1397 : Bool) (v1398 : Int) (v1399 : Int) (v1400 : Int) (v1401 : Int) (v1402 : Int) (v1403 : Int) =>
                        ex0 v1388 v1389 v1390 v1391 v1392 v1393 v1394 v1395 v1396 v1397 v1398 v1399 v1400 v1401 v1402 v1403) x0 x1 x2 x3 x4 v852 v853 v854 v855 ((decide (((IntKind.wrap .i64 (0 - v852))) > x1))) x5 x6 v850 v851 v860 v861)
                    else (
                      N_law01_WideBack_0 F (fun (v1404 : Int) (v1405 : Int) (v1406 : Int) (v1407 : Bool) (v1408 : Int) (v1409 : Int) (v1410 : Bool) (v1411 : Int) (v1412 : Bool) (v1413 : Bool) (v1414 : Int) (v1415 : Int) (v1416 : Int) (v1417 : Int) (v1418 : Int) (v1419 : Int) =>
                        ex0 v1404 v1405 v1406 v1407 v1408 v1409 v1410 v1411 v1412 v1413 v1414 v1415 v1416 v1417 v1418 v1419) x0 x1 x2 x3 x4 v852 v853 v854 v855 false x5 x6 v850 v851 v860 v861)))
                else (
                  bif ((decide (x1 < 0))) then (
                    N_law01_WideBack_0 F (fun (v1423 : Int) (v1424 : Int) (v1425 : Int) (v1426 : Bool) (v1427 : Int) (v1428 : Int) (v1429 : Bool) (v1430 : Int) (v1431 : Bool) (v1432 : Bool) (v1433 : Int) (v1434 : Int) (v1435 : Int) (v1436 : Int) (v1437 : Int) (v1438 : Int) =>
                      ex0 v1423 v1424 v1425 v1426 v1427 v1428 v1429 v1430 v1431 v1432 v1433 v1434 v1435 v1436 v1437 v1438) x0 x1 x2 x3 x4 v852 v853 v854 v855 ((decide (((IntKind.wrap .i64 (0 - v852))) > x1))) x5 x6 v850 v851 v860 v861)
                  else (
                    N_law01_WideBack_0 F (fun (v1439 : Int) (v1440 : Int) (v1441 : Int) (v1442 : Bool) (v1443 : Int) (v1444 : Int) (v1445 : Bool) (v1446 : Int) (v1447 : Bool) (v1448 : Bool) (v1449 : Int) (v1450 : Int) (v1451 : Int) (v1452 : Int) (v1453 : Int) (v1454 : Int) =>
                      ex0 v1439 v1440 v1441 v1442 v1443 v1444 v1445 v1446 v1447 v1448 v1449 v1450 v1451 v1452 v1453 v1454) x0 x1 x2 x3 x4 v852 v853 v854 v855 false x5 x6 v850 v851 v860 v861)))
              else (
                N_law01_WideBack_0 F (fun (v1455 : Int) (v1456 : Int) (v1457 : Int) (v1458 : Bool) (v1459 : Int) (v1460 : Int) (v1461 : Bool) (v1462 : Int) (v1463 : Bool) (v1464 : Bool) (v1465 : Int) (v1466 : Int) (v1467 : Int) (v1468 : Int) (v1469 : Int) (v1470 : Int) =>
                  ex0 v1455 v1456 v1457 v1458 v1459 v1460 v1461 v1462 v1463 v1464 v1465 v1466 v1467 v1468 v1469 v1470) x0 x1 x2 x3 x4 v852 v853 v854 v855 false x5 x6 v850 v851 v860 v861)))
          else (
            none))
        else (
          none))
      else (
        none))
    else (
      none))
  else (
    none)
def W_law01_WideBack (F : Nat) : List LW := []
def I_law01_WideBack (F : Nat) : Nat → VS → (Exit → VS → R) → R := tabI c_law01_WideBack (W_law01_WideBack F)
def WJ_law01_WideBack (F : Nat) : List LJ := [⟨14, 0, TN_law01_WideBack_0, fun k q => N_law01_WideBack_0 F (fun (z0 : Int) (z1 : Int) (z2 : Int) (z3 : Bool) (z4 : Int) (z5 : Int) (z6 : Bool) (z7 : Int) (z8 : Bool) (z9 : Bool) (z10 : Int) (z11 : Int) (z12 : Int) (z13 : Int) (z14 : Int) (z15 : Int) => k .ret (fS TN_law01_WideBack_0_0 [.i z0, .i z1, .i z2, .b z3, .i z4, .i z5, .b z6, .i z7, .b z8, .b z9, .i z10, .i z11, .i z12, .i z13, .i z14, .i z15])) (atI (nth q 0)) (atI (nth q 1)) (atI (nth q 2)) (atB (nth q 3)) (atI (nth q 4)) (atI (nth q 5)) (atB (nth q 6)) (atI (nth q 7)) (atB (nth q 8)) (atB (nth q 9)) (atI (nth q 10)) (atI (nth q 11)) (atI (nth q 12)) (atI (nth q 13)) (atI (nth q 14)) (atI (nth q 15))⟩, ⟨10, 0, TN_law01_WideBack_1, fun k q => N_law01_WideBack_1 F (fun (z0 : Int) (z1 : Int) (z2 : Int) (z3 : Bool) (z4 : Int) (z5 : Int) (z6 : Bool) (z7 : Int) (z8 : Bool) (z9 : Bool) (z10 : Int) (z11 : Int) (z12 : Int) (z13 : Int) (z14 : Int) (z15 : Int) => k .ret (fS TN_law01_WideBack_1_0 [.i z0, .i z1, .i z2, .b z3, .i z4, .i z5, .b z6, .i z7, .b z8, .b z9, .i z10, .i z11, .i z12, .i z13, .i z14, .i z15])) (atI (nth q 0)) (atI (nth q 1)) (atI (nth q 2)) (atB (nth q 3)) (atI (nth q 4)) (atI (nth q 5)) (atI (nth q 6))⟩]
def J_law01_WideBack (F : Nat) : Nat → Nat → VS → (Exit → VS → R) → R := tabJ (WJ_law01_WideBack F)
theorem nN_law01_WideBack_0 (F : Nat) (k : Exit → VS → R) (x0 : Int) (x1 : Int) (x2 : Int) (x3 : Bool) (x4 : Int) (x5 : Int) (x6 : Bool) (x7 : Int) (x8 : Bool) (x9 : Bool) (x10 : Int) (x11 : Int) (x12 : Int) (x13 : Int) (x14 : Int) (x15 : Int) : codeL PP (S_law01_WideBack F) c_law01_WideBack (I_law01_WideBack F) (J_law01_WideBack F) (joinAt PP c_law01_WideBack 22 1) 0 (fS TN_law01_WideBack_0 [.i x0, .i x1, .i x2, .b x3, .i x4, .i x5, .b x6, .i x7, .b x8, .b x9, .i x10, .i x11, .i x12, .i x13, .i x14, .i x15]) k = N_law01_WideBack_0 F (fun (z0 : Int) (z1 : Int) (z2 : Int) (z3 : Bool) (z4 : Int) (z5 : Int) (z6 : Bool) (z7 : Int) (z8 : Bool) (z9 : Bool) (z10 : Int) (z11 : Int) (z12 : Int) (z13 : Int) (z14 : Int) (z15 : Int) => k .ret (fS TN_law01_WideBack_0_0 [.i z0, .i z1, .i z2, .b z3, .i z4, .i z5, .b z6, .i z7, .b z8, .b z9, .i z10, .i z11, .i z12, .i z13, .i z14, .i z15])) x0 x1 x2 x3 x4 x5 x6 x7 x8 x9 x10 x11 x12 x13 x14 x15 := by
  have h0 : ∀ (ok_law01_works : Nat → Bool) (o_law01_works_0 : Nat → Bool) (ok_wide_Of : Nat → Int → Bool) (o_wide_Of_0 : Nat → Int → Int) (o_wide_Of_1 : Nat → Int → Int) (ok_wide_Div : Nat → Int → Int → Int → Bool) (o_wide_Div_0 : Nat → Int → Int → Int → Int) (o_wide_Div_1 : Nat → Int → Int → Int → Int) (o_wide_Div_2 : Nat → Int → Int → Int → Int) (o_wide_Div_3 : Nat → Int → Int → Int → Bool) (ok_wide_Mul : Nat → Int → Int → Bool) (o_wide_Mul_0 : Nat → Int → Int → Int) (o_wide_Mul_1 : Nat → Int → Int → Int) (ok_wide_Sign : Nat → Int → Int → Bool) (o_wide_Sign_0 : Nat → Int → Int → Int) (ok_wide_Add : Nat → Int → Int → Int → Int → Bool) (o_wide_Add_0 : Nat → Int → Int → Int → Int → Int) (o_wide_Add_1 : Nat → Int → Int → Int → Int → Int) (ok_wide_Clip : Nat → Int → Int → Bool) (o_wide_Clip_0 : Nat → Int → Int → Int) (o_wide_Clip_1 : Nat → Int → Int → Bool) (N_law01_WideBack_0 : Nat → (Int → Int → Int → Bool → Int → Int → Bool → Int → Bool → Bool → Int → Int → Int → Int → Int → Int → R) → Int → Int → Int → Bool → Int → Int → Bool → Int → Bool → Bool → Int → Int → Int → Int → Int → Int → R) (N_law01_WideBack_1 : Nat → (Int → Int → Int → Bool → Int → Int → Bool → Int → Bool → Bool → Int → Int → Int → Int → Int → Int → R) → Int → Int → Int → Bool → Int → Int → Int → R), codeL PP (words [(42, spec ti_law01_works to_law01_works (fun q => (ok_law01_works F )) (fun q => [.b (o_law01_works_0 F )])), (57, spec ti_wide_Of to_wide_Of (fun q => (ok_wide_Of F (atI (nth q 0)))) (fun q => [.i (o_wide_Of_0 F (atI (nth q 0))), .i (o_wide_Of_1 F (atI (nth q 0)))])), (83, spec ti_wide_Div to_wide_Div (fun q => (ok_wide_Div F (atI (nth q 0)) (atI (nth q 1)) (atI (nth q 2)))) (fun q => [.i (o_wide_Div_0 F (atI (nth q 0)) (atI (nth q 1)) (atI (nth q 2))), .i (o_wide_Div_1 F (atI (nth q 0)) (atI (nth q 1)) (atI (nth q 2))), .i (o_wide_Div_2 F (atI (nth q 0)) (atI (nth q 1)) (atI (nth q 2))), .b (o_wide_Div_3 F (atI (nth q 0)) (atI (nth q 1)) (atI (nth q 2)))])), (40, spec ti_wide_Mul to_wide_Mul (fun q => (ok_wide_Mul F (atI (nth q 0)) (atI (nth q 1)))) (fun q => [.i (o_wide_Mul_0 F (atI (nth q 0)) (atI (nth q 1))), .i (o_wide_Mul_1 F (atI (nth q 0)) (atI (nth q 1)))])), (53, spec ti_wide_Sign to_wide_Sign (fun q => (ok_wide_Sign F (atI (nth q 0)) (atI (nth q 1)))) (fun q => [.i (o_wide_Sign_0 F (atI (nth q 0)) (atI (nth q 1)))])), (43, spec ti_wide_Add to_wide_Add (fun q => (ok_wide_Add F (atI (nth q 0)) (atI (nth q 1)) (atI (nth q 2)) (atI (nth q 3)))) (fun q => [.i (o_wide_Add_0 F (atI (nth q 0)) (atI (nth q 1)) (atI (nth q 2)) (atI (nth q 3))), .i (o_wide_Add_1 F (atI (nth q 0)) (atI (nth q 1)) (atI (nth q 2)) (atI (nth q 3)))])), (85, spec ti_wide_Clip to_wide_Clip (fun q => (ok_wide_Clip F (atI (nth q 0)) (atI (nth q 1)))) (fun q => [.i (o_wide_Clip_0 F (atI (nth q 0)) (atI (nth q 1))), .b (o_wide_Clip_1 F (atI (nth q 0)) (atI (nth q 1)))]))]) c_law01_WideBack (tabI c_law01_WideBack []) (tabJ [⟨14, 0, TN_law01_WideBack_0, fun k q => N_law01_WideBack_0 F (fun (z0 : Int) (z1 : Int) (z2 : Int) (z3 : Bool) (z4 : Int) (z5 : Int) (z6 : Bool) (z7 : Int) (z8 : Bool) (z9 : Bool) (z10 : Int) (z11 : Int) (z12 : Int) (z13 : Int) (z14 : Int) (z15 : Int) => k .ret (fS TN_law01_WideBack_0_0 [.i z0, .i z1, .i z2, .b z3, .i z4, .i z5, .b z6, .i z7, .b z8, .b z9, .i z10, .i z11, .i z12, .i z13, .i z14, .i z15])) (atI (nth q 0)) (atI (nth q 1)) (atI (nth q 2)) (atB (nth q 3)) (atI (nth q 4)) (atI (nth q 5)) (atB (nth q 6)) (atI (nth q 7)) (atB (nth q 8)) (atB (nth q 9)) (atI (nth q 10)) (atI (nth q 11)) (atI (nth q 12)) (atI (nth q 13)) (atI (nth q 14)) (atI (nth q 15))⟩, ⟨10, 0, TN_law01_WideBack_1, fun k q => N_law01_WideBack_1 F (fun (z0 : Int) (z1 : Int) (z2 : Int) (z3 : Bool) (z4 : Int) (z5 : Int) (z6 : Bool) (z7 : Int) (z8 : Bool) (z9 : Bool) (z10 : Int) (z11 : Int) (z12 : Int) (z13 : Int) (z14 : Int) (z15 : Int) => k .ret (fS TN_law01_WideBack_1_0 [.i z0, .i z1, .i z2, .b z3, .i z4, .i z5, .b z6, .i z7, .b z8, .b z9, .i z10, .i z11, .i z12, .i z13, .i z14, .i z15])) (atI (nth q 0)) (atI (nth q 1)) (atI (nth q 2)) (atB (nth q 3)) (atI (nth q 4)) (atI (nth q 5)) (atI (nth q 6))⟩]) (joinAt PP c_law01_WideBack 22 1) 0 (fS TN_law01_WideBack_0 [.i x0, .i x1, .i x2, .b x3, .i x4, .i x5, .b x6, .i x7, .b x8, .b x9, .i x10, .i x11, .i x12, .i x13, .i x14, .i x15]) k = (fun (ex0 : Int → Int → Int → Bool → Int → Int → Bool → Int → Bool → Bool → Int → Int → Int → Int → Int → Int → R) => (
  bif x6 then (
    bif x8 then (
      bif x9 then (
        bif ((x5 == 0)) then (
          ex0 x0 x1 x2 true x4 x5 x6 x7 x8 x9 x10 x11 x12 x13 x14 x15)
        else (
          bif (ok_wide_Sign F x10 x11) then (
            ex0 x0 x1 x2 ((((decide (x5 < 0))) == ((decide (((o_wide_Sign_0 F x10 x11)) < 0))))) x4 x5 x6 x7 x8 x9 x10 x11 x12 x13 x14 x15)
          else (
            none)))
      else (
        ex0 x0 x1 x2 false x4 x5 x6 x7 x8 x9 x10 x11 x12 x13 x14 x15))
    else (
      bif (((x14 == x10) && (x15 == x11))) then (
        bif x9 then (
          bif ((x5 == 0)) then (
            ex0 x0 x1 x2 true x4 x5 x6 x7 x8 x9 x10 x11 x12 x13 x14 x15)
          else (
            bif (ok_wide_Sign F x10 x11) then (
              ex0 x0 x1 x2 ((((decide (x5 < 0))) == ((decide (((o_wide_Sign_0 F x10 x11)) < 0))))) x4 x5 x6 x7 x8 x9 x10 x11 x12 x13 x14 x15)
            else (
              none)))
        else (
          ex0 x0 x1 x2 false x4 x5 x6 x7 x8 x9 x10 x11 x12 x13 x14 x15))
      else (
        ex0 x0 x1 x2 false x4 x5 x6 x7 x8 x9 x10 x11 x12 x13 x14 x15)))
  else (
    ex0 x0 x1 x2 false x4 x5 x6 x7 x8 x9 x10 x11 x12 x13 x14 x15) : R)) (fun (z0 : Int) (z1 : Int) (z2 : Int) (z3 : Bool) (z4 : Int) (z5 : Int) (z6 : Bool) (z7 : Int) (z8 : Bool) (z9 : Bool) (z10 : Int) (z11 : Int) (z12 : Int) (z13 : Int) (z14 : Int) (z15 : Int) => k .ret (fS TN_law01_WideBack_0_0 [.i z0, .i z1, .i z2, .b z3, .i z4, .i z5, .b z6, .i z7, .b z8, .b z9, .i z10, .i z11, .i z12, .i z13, .i z14, .i z15])) := by
    intros
    kernel_rfl
  exact (h0 ok_law01_works o_law01_works_0 ok_wide_Of o_wide_Of_0 o_wide_Of_1 ok_wide_Div o_wide_Div_0 o_wide_Div_1 o_wide_Div_2 o_wide_Div_3 ok_wide_Mul o_wide_Mul_0 o_wide_Mul_1 ok_wide_Sign o_wide_Sign_0 ok_wide_Add o_wide_Add_0 o_wide_Add_1 ok_wide_Clip o_wide_Clip_0 o_wide_Clip_1 N_law01_WideBack_0 N_law01_WideBack_1).trans (by kernel_rfl)
theorem nN_law01_WideBack_1 (F : Nat) (k : Exit → VS → R) (x0 : Int) (x1 : Int) (x2 : Int) (x3 : Bool) (x4 : Int) (x5 : Int) (x6 : Int) : codeL PP (S_law01_WideBack F) c_law01_WideBack (I_law01_WideBack F) (J_law01_WideBack F) (joinAt PP c_law01_WideBack 22 0) 0 (fS TN_law01_WideBack_1 [.i x0, .i x1, .i x2, .b x3, .i x4, .i x5, .i x6]) k = N_law01_WideBack_1 F (fun (z0 : Int) (z1 : Int) (z2 : Int) (z3 : Bool) (z4 : Int) (z5 : Int) (z6 : Bool) (z7 : Int) (z8 : Bool) (z9 : Bool) (z10 : Int) (z11 : Int) (z12 : Int) (z13 : Int) (z14 : Int) (z15 : Int) => k .ret (fS TN_law01_WideBack_1_0 [.i z0, .i z1, .i z2, .b z3, .i z4, .i z5, .b z6, .i z7, .b z8, .b z9, .i z10, .i z11, .i z12, .i z13, .i z14, .i z15])) x0 x1 x2 x3 x4 x5 x6 := by
  have h0 : ∀ (ok_law01_works : Nat → Bool) (o_law01_works_0 : Nat → Bool) (ok_wide_Of : Nat → Int → Bool) (o_wide_Of_0 : Nat → Int → Int) (o_wide_Of_1 : Nat → Int → Int) (ok_wide_Div : Nat → Int → Int → Int → Bool) (o_wide_Div_0 : Nat → Int → Int → Int → Int) (o_wide_Div_1 : Nat → Int → Int → Int → Int) (o_wide_Div_2 : Nat → Int → Int → Int → Int) (o_wide_Div_3 : Nat → Int → Int → Int → Bool) (ok_wide_Mul : Nat → Int → Int → Bool) (o_wide_Mul_0 : Nat → Int → Int → Int) (o_wide_Mul_1 : Nat → Int → Int → Int) (ok_wide_Sign : Nat → Int → Int → Bool) (o_wide_Sign_0 : Nat → Int → Int → Int) (ok_wide_Add : Nat → Int → Int → Int → Int → Bool) (o_wide_Add_0 : Nat → Int → Int → Int → Int → Int) (o_wide_Add_1 : Nat → Int → Int → Int → Int → Int) (ok_wide_Clip : Nat → Int → Int → Bool) (o_wide_Clip_0 : Nat → Int → Int → Int) (o_wide_Clip_1 : Nat → Int → Int → Bool) (N_law01_WideBack_0 : Nat → (Int → Int → Int → Bool → Int → Int → Bool → Int → Bool → Bool → Int → Int → Int → Int → Int → Int → R) → Int → Int → Int → Bool → Int → Int → Bool → Int → Bool → Bool → Int → Int → Int → Int → Int → Int → R) (N_law01_WideBack_1 : Nat → (Int → Int → Int → Bool → Int → Int → Bool → Int → Bool → Bool → Int → Int → Int → Int → Int → Int → R) → Int → Int → Int → Bool → Int → Int → Int → R), codeL PP (words [(42, spec ti_law01_works to_law01_works (fun q => (ok_law01_works F )) (fun q => [.b (o_law01_works_0 F )])), (57, spec ti_wide_Of to_wide_Of (fun q => (ok_wide_Of F (atI (nth q 0)))) (fun q => [.i (o_wide_Of_0 F (atI (nth q 0))), .i (o_wide_Of_1 F (atI (nth q 0)))])), (83, spec ti_wide_Div to_wide_Div (fun q => (ok_wide_Div F (atI (nth q 0)) (atI (nth q 1)) (atI (nth q 2)))) (fun q => [.i (o_wide_Div_0 F (atI (nth q 0)) (atI (nth q 1)) (atI (nth q 2))), .i (o_wide_Div_1 F (atI (nth q 0)) (atI (nth q 1)) (atI (nth q 2))), .i (o_wide_Div_2 F (atI (nth q 0)) (atI (nth q 1)) (atI (nth q 2))), .b (o_wide_Div_3 F (atI (nth q 0)) (atI (nth q 1)) (atI (nth q 2)))])), (40, spec ti_wide_Mul to_wide_Mul (fun q => (ok_wide_Mul F (atI (nth q 0)) (atI (nth q 1)))) (fun q => [.i (o_wide_Mul_0 F (atI (nth q 0)) (atI (nth q 1))), .i (o_wide_Mul_1 F (atI (nth q 0)) (atI (nth q 1)))])), (53, spec ti_wide_Sign to_wide_Sign (fun q => (ok_wide_Sign F (atI (nth q 0)) (atI (nth q 1)))) (fun q => [.i (o_wide_Sign_0 F (atI (nth q 0)) (atI (nth q 1)))])), (43, spec ti_wide_Add to_wide_Add (fun q => (ok_wide_Add F (atI (nth q 0)) (atI (nth q 1)) (atI (nth q 2)) (atI (nth q 3)))) (fun q => [.i (o_wide_Add_0 F (atI (nth q 0)) (atI (nth q 1)) (atI (nth q 2)) (atI (nth q 3))), .i (o_wide_Add_1 F (atI (nth q 0)) (atI (nth q 1)) (atI (nth q 2)) (atI (nth q 3)))])), (85, spec ti_wide_Clip to_wide_Clip (fun q => (ok_wide_Clip F (atI (nth q 0)) (atI (nth q 1)))) (fun q => [.i (o_wide_Clip_0 F (atI (nth q 0)) (atI (nth q 1))), .b (o_wide_Clip_1 F (atI (nth q 0)) (atI (nth q 1)))]))]) c_law01_WideBack (tabI c_law01_WideBack []) (tabJ [⟨14, 0, TN_law01_WideBack_0, fun k q => N_law01_WideBack_0 F (fun (z0 : Int) (z1 : Int) (z2 : Int) (z3 : Bool) (z4 : Int) (z5 : Int) (z6 : Bool) (z7 : Int) (z8 : Bool) (z9 : Bool) (z10 : Int) (z11 : Int) (z12 : Int) (z13 : Int) (z14 : Int) (z15 : Int) => k .ret (fS TN_law01_WideBack_0_0 [.i z0, .i z1, .i z2, .b z3, .i z4, .i z5, .b z6, .i z7, .b z8, .b z9, .i z10, .i z11, .i z12, .i z13, .i z14, .i z15])) (atI (nth q 0)) (atI (nth q 1)) (atI (nth q 2)) (atB (nth q 3)) (atI (nth q 4)) (atI (nth q 5)) (atB (nth q 6)) (atI (nth q 7)) (atB (nth q 8)) (atB (nth q 9)) (atI (nth q 10)) (atI (nth q 11)) (atI (nth q 12)) (atI (nth q 13)) (atI (nth q 14)) (atI (nth q 15))⟩, ⟨10, 0, TN_law01_WideBack_1, fun k q => N_law01_WideBack_1 F (fun (z0 : Int) (z1 : Int) (z2 : Int) (z3 : Bool) (z4 : Int) (z5 : Int) (z6 : Bool) (z7 : Int) (z8 : Bool) (z9 : Bool) (z10 : Int) (z11 : Int) (z12 : Int) (z13 : Int) (z14 : Int) (z15 : Int) => k .ret (fS TN_law01_WideBack_1_0 [.i z0, .i z1, .i z2, .b z3, .i z4, .i z5, .b z6, .i z7, .b z8, .b z9, .i z10, .i z11, .i z12, .i z13, .i z14, .i z15])) (atI (nth q 0)) (atI (nth q 1)) (atI (nth q 2)) (atB (nth q 3)) (atI (nth q 4)) (atI (nth q 5)) (atI (nth q 6))⟩]) (joinAt PP c_law01_WideBack 22 0) 0 (fS TN_law01_WideBack_1 [.i x0, .i x1, .i x2, .b x3, .i x4, .i x5, .i x6]) k = (fun (ex0 : Int → Int → Int → Bool → Int → Int → Bool → Int → Bool → Bool → Int → Int → Int → Int → Int → Int → R) => (
  bif (ok_wide_Div F x5 x6 x1) then (
    let v850 : Int := (o_wide_Div_0 F x5 x6 x1)
    let v851 : Int := (o_wide_Div_1 F x5 x6 x1)
    let v852 : Int := (o_wide_Div_2 F x5 x6 x1)
    let v853 : Bool := (o_wide_Div_3 F x5 x6 x1)
    bif (ok_wide_Clip F v850 v851) then (
      let v854 : Int := (o_wide_Clip_0 F v850 v851)
      let v855 : Bool := (o_wide_Clip_1 F v850 v851)
      bif (ok_wide_Mul F v854 x1) then (
        let v856 : Int := (o_wide_Mul_0 F v854 x1)
        let v857 : Int := (o_wide_Mul_1 F v854 x1)
        bif (ok_wide_Of F v852) then (
          let v858 : Int := (o_wide_Of_0 F v852)
          let v859 : Int := (o_wide_Of_1 F v852)
          bif (ok_wide_Add F v856 v857 v858 v859) then (
            let v860 : Int := (o_wide_Add_0 F v856 v857 v858 v859)
            let v861 : Int := (o_wide_Add_1 F v856 v857 v858 v859)
            bif ((decide (v852 < 0))) then (
              bif ((decide (x1 < 0))) then (
                bif ((decide (v852 > x1))) then (
                  N_law01_WideBack_0 F (fun (v892 : Int) (v893 : Int) (v894 : Int) (v895 : Bool) (v896 : Int) (v897 : Int) (v898 : Bool) (v899 : Int) (v900 : Bool) (v901 : Bool) (v902 : Int) (v903 : Int) (v904 : Int) (v905 : Int) (v906 : Int) (v907 : Int) =>
                    ex0 v892 v893 v894 v895 v896 v897 v898 v899 v900 v901 v902 v903 v904 v905 v906 v907) x0 x1 x2 x3 x4 v852 v853 v854 v855 true x5 x6 v850 v851 v860 v861)
                else (
                  bif ((decide (x1 > 0))) then (
                    bif ((decide (((IntKind.wrap .i64 (0 - v852))) < x1))) then (
                      N_law01_WideBack_0 F (fun (v911 : Int) (v912 : Int) (v913 : Int) (v914 : Bool) (v915 : Int) (v916 : Int) (v917 : Bool) (v918 : Int) (v919 : Bool) (v920 : Bool) (v921 : Int) (v922 : Int) (v923 : Int) (v924 : Int) (v925 : Int) (v926 : Int) =>
                        ex0 v911 v912 v913 v914 v915 v916 v917 v918 v919 v920 v921 v922 v923 v924 v925 v926) x0 x1 x2 x3 x4 v852 v853 v854 v855 true x5 x6 v850 v851 v860 v861)
                    else (
                      bif ((decide (v852 ≥ 0))) then (
                        bif ((decide (x1 > 0))) then (
                          bif ((decide (v852 < x1))) then (
                            N_law01_WideBack_0 F (fun (v930 : Int) (v931 : Int) (v932 : Int) (v933 : Bool) (v934 : Int) (v935 : Int) (v936 : Bool) (v937 : Int) (v938 : Bool) (v939 : Bool) (v940 : Int) (v941 : Int) (v942 : Int) (v943 : Int) (v944 : Int) (v945 : Int) =>
                              ex0 v930 v931 v932 v933 v934 v935 v936 v937 v938 v939 v940 v941 v942 v943 v944 v945) x0 x1 x2 x3 x4 v852 v853 v854 v855 true x5 x6 v850 v851 v860 v861)
                          else (
                            bif ((decide (x1 < 0))) then (
                              N_law01_WideBack_0 F (fun (v949 : Int) (v950 : Int) (v951 : Int) (v952 : Bool) (v953 : Int) (v954 : Int) (v955 : Bool) (v956 : Int) (v957 : Bool) (v958 : Bool) (v959 : Int) (v960 : Int) (v961 : Int) (v962 : Int) (v963 : Int) (v964 : Int) =>
                                ex0 v949 v950 v951 v952 v953 v954 v955 v956 v957 v958 v959 v960 v961 v962 v963 v964) x0 x1 x2 x3 x4 v852 v853 v854 v855 ((decide (((IntKind.wrap .i64 (0 - v852))) > x1))) x5 x6 v850 v851 v860 v861)
                            else (
                              N_law01_WideBack_0 F (fun (v965 : Int) (v966 : Int) (v967 : Int) (v968 : Bool) (v969 : Int) (v970 : Int) (v971 : Bool) (v972 : Int) (v973 : Bool) (v974 : Bool) (v975 : Int) (v976 : Int) (v977 : Int) (v978 : Int) (v979 : Int) (v980 : Int) =>
                                ex0 v965 v966 v967 v968 v969 v970 v971 v972 v973 v974 v975 v976 v977 v978 v979 v980) x0 x1 x2 x3 x4 v852 v853 v854 v855 false x5 x6 v850 v851 v860 v861)))
                        else (
                          bif ((decide (x1 < 0))) then (
                            N_law01_WideBack_0 F (fun (v984 : Int) (v985 : Int) (v986 : Int) (v987 : Bool) (v988 : Int) (v989 : Int) (v990 : Bool) (v991 : Int) (v992 : Bool) (v993 : Bool) (v994 : Int) (v995 : Int) (v996 : Int) (v997 : Int) (v998 : Int) (v999 : Int) =>
                              ex0 v984 v985 v986 v987 v988 v989 v990 v991 v992 v993 v994 v995 v996 v997 v998 v999) x0 x1 x2 x3 x4 v852 v853 v854 v855 ((decide (((IntKind.wrap .i64 (0 - v852))) > x1))) x5 x6 v850 v851 v860 v861)
                          else (
                            N_law01_WideBack_0 F (fun (v1000 : Int) (v1001 : Int) (v1002 : Int) (v1003 : Bool) (v1004 : Int) (v1005 : Int) (v1006 : Bool) (v1007 : Int) (v1008 : Bool) (v1009 : Bool) (v1010 : Int) (v1011 : Int) (v1012 : Int) (v1013 : Int) (v1014 : Int) (v1015 : Int) =>
                              ex0 v1000 v1001 v1002 v1003 v1004 v1005 v1006 v1007 v1008 v1009 v1010 v1011 v1012 v1013 v1014 v1015) x0 x1 x2 x3 x4 v852 v853 v854 v855 false x5 x6 v850 v851 v860 v861)))
                      else (
                        N_law01_WideBack_0 F (fun (v1016 : Int) (v1017 : Int) (v1018 : Int) (v1019 : Bool) (v1020 : Int) (v1021 : Int) (v1022 : Bool) (v1023 : Int) (v1024 : Bool) (v1025 : Bool) (v1026 : Int) (v1027 : Int) (v1028 : Int) (v1029 : Int) (v1030 : Int) (v1031 : Int) =>
                          ex0 v1016 v1017 v1018 v1019 v1020 v1021 v1022 v1023 v1024 v1025 v1026 v1027 v1028 v1029 v1030 v1031) x0 x1 x2 x3 x4 v852 v853 v854 v855 false x5 x6 v850 v851 v860 v861)))
                  else (
                    bif ((decide (v852 ≥ 0))) then (
                      bif ((decide (x1 > 0))) then (
                        bif ((decide (v852 < x1))) then (
                          N_law01_WideBack_0 F (fun (v1035 : Int) (v1036 : Int) (v1037 : Int) (v1038 : Bool) (v1039 : Int) (v1040 : Int) (v1041 : Bool) (v1042 : Int) (v1043 : Bool) (v1044 : Bool) (v1045 : Int) (v1046 : Int) (v1047 : Int) (v1048 : Int) (v1049 : Int) (v1050 : Int) =>
                            ex0 v1035 v1036 v1037 v1038 v1039 v1040 v1041 v1042 v1043 v1044 v1045 v1046 v1047 v1048 v1049 v1050) x0 x1 x2 x3 x4 v852 v853 v854 v855 true x5 x6 v850 v851 v860 v861)
                        else (
                          bif ((decide (x1 < 0))) then (
                            N_law01_WideBack_0 F (fun (v1054 : Int) (v1055 : Int) (v1056 : Int) (v1057 : Bool) (v1058 : Int) (v1059 : Int) (v1060 : Bool) (v1061 : Int) (v1062 : Bool) (v1063 : Bool) (v1064 : Int) (v1065 : Int) (v1066 : Int) (v1067 : Int) (v1068 : Int) (v1069 : Int) =>
                              ex0 v1054 v1055 v1056 v1057 v1058 v1059 v1060 v1061 v1062 v1063 v1064 v1065 v1066 v1067 v1068 v1069) x0 x1 x2 x3 x4 v852 v853 v854 v855 ((decide (((IntKind.wrap .i64 (0 - v852))) > x1))) x5 x6 v850 v851 v860 v861)
                          else (
                            N_law01_WideBack_0 F (fun (v1070 : Int) (v1071 : Int) (v1072 : Int) (v1073 : Bool) (v1074 : Int) (v1075 : Int) (v1076 : Bool) (v1077 : Int) (v1078 : Bool) (v1079 : Bool) (v1080 : Int) (v1081 : Int) (v1082 : Int) (v1083 : Int) (v1084 : Int) (v1085 : Int) =>
                              ex0 v1070 v1071 v1072 v1073 v1074 v1075 v1076 v1077 v1078 v1079 v1080 v1081 v1082 v1083 v1084 v1085) x0 x1 x2 x3 x4 v852 v853 v854 v855 false x5 x6 v850 v851 v860 v861)))
                      else (
                        bif ((decide (x1 < 0))) then (
                          N_law01_WideBack_0 F (fun (v1089 : Int) (v1090 : Int) (v1091 : Int) (v1092 : Bool) (v1093 : Int) (v1094 : Int) (v1095 : Bool) (v1096 : Int) (v1097 : Bool) (v1098 : Bool) (v1099 : Int) (v1100 : Int) (v1101 : Int) (v1102 : Int) (v1103 : Int) (v1104 : Int) =>
                            ex0 v1089 v1090 v1091 v1092 v1093 v1094 v1095 v1096 v1097 v1098 v1099 v1100 v1101 v1102 v1103 v1104) x0 x1 x2 x3 x4 v852 v853 v854 v855 ((decide (((IntKind.wrap .i64 (0 - v852))) > x1))) x5 x6 v850 v851 v860 v861)
                        else (
                          N_law01_WideBack_0 F (fun (v1105 : Int) (v1106 : Int) (v1107 : Int) (v1108 : Bool) (v1109 : Int) (v1110 : Int) (v1111 : Bool) (v1112 : Int) (v1113 : Bool) (v1114 : Bool) (v1115 : Int) (v1116 : Int) (v1117 : Int) (v1118 : Int) (v1119 : Int) (v1120 : Int) =>
                            ex0 v1105 v1106 v1107 v1108 v1109 v1110 v1111 v1112 v1113 v1114 v1115 v1116 v1117 v1118 v1119 v1120) x0 x1 x2 x3 x4 v852 v853 v854 v855 false x5 x6 v850 v851 v860 v861)))
                    else (
                      N_law01_WideBack_0 F (fun (v1121 : Int) (v1122 : Int) (v1123 : Int) (v1124 : Bool) (v1125 : Int) (v1126 : Int) (v1127 : Bool) (v1128 : Int) (v1129 : Bool) (v1130 : Bool) (v1131 : Int) (v1132 : Int) (v1133 : Int) (v1134 : Int) (v1135 : Int) (v1136 : Int) =>
                        ex0 v1121 v1122 v1123 v1124 v1125 v1126 v1127 v1128 v1129 v1130 v1131 v1132 v1133 v1134 v1135 v1136) x0 x1 x2 x3 x4 v852 v853 v854 v855 false x5 x6 v850 v851 v860 v861))))
              else (
                bif ((decide (x1 > 0))) then (
                  bif ((decide (((IntKind.wrap .i64 (0 - v852))) < x1))) then (
                    N_law01_WideBack_0 F (fun (v1140 : Int) (v1141 : Int) (v1142 : Int) (v1143 : Bool) (v1144 : Int) (v1145 : Int) (v1146 : Bool) (v1147 : Int) (v1148 : Bool) (v1149 : Bool) (v1150 : Int) (v1151 : Int) (v1152 : Int) (v1153 : Int) (v1154 : Int) (v1155 : Int) =>
                      ex0 v1140 v1141 v1142 v1143 v1144 v1145 v1146 v1147 v1148 v1149 v1150 v1151 v1152 v1153 v1154 v1155) x0 x1 x2 x3 x4 v852 v853 v854 v855 true x5 x6 v850 v851 v860 v861)
                  else (
                    bif ((decide (v852 ≥ 0))) then (
                      bif ((decide (x1 > 0))) then (
                        bif ((decide (v852 < x1))) then (
                          N_law01_WideBack_0 F (fun (v1159 : Int) (v1160 : Int) (v1161 : Int) (v1162 : Bool) (v1163 : Int) (v1164 : Int) (v1165 : Bool) (v1166 : Int) (v1167 : Bool) (v1168 : Bool) (v1169 : Int) (v1170 : Int) (v1171 : Int) (v1172 : Int) (v1173 : Int) (v1174 : Int) =>
                            ex0 v1159 v1160 v1161 v1162 v1163 v1164 v1165 v1166 v1167 v1168 v1169 v1170 v1171 v1172 v1173 v1174) x0 x1 x2 x3 x4 v852 v853 v854 v855 true x5 x6 v850 v851 v860 v861)
                        else (
                          bif ((decide (x1 < 0))) then (
                            N_law01_WideBack_0 F (fun (v1178 : Int) (v1179 : Int) (v1180 : Int) (v1181 : Bool) (v1182 : Int) (v1183 : Int) (v1184 : Bool) (v1185 : Int) (v1186 : Bool) (v1187 : Bool) (v1188 : Int) (v1189 : Int) (v1190 : Int) (v1191 : Int) (v1192 : Int) (v1193 : Int) =>
                              ex0 v1178 v1179 v1180 v1181 v1182 v1183 v1184 v1185 v1186 v1187 v1188 v1189 v1190 v1191 v1192 v1193) x0 x1 x2 x3 x4 v852 v853 v854 v855 ((decide (((IntKind.wrap .i64 (0 - v852))) > x1))) x5 x6 v850 v851 v860 v861)
                          else (
                            N_law01_WideBack_0 F (fun (v1194 : Int) (v1195 : Int) (v1196 : Int) (v1197 : Bool) (v1198 : Int) (v1199 : Int) (v1200 : Bool) (v1201 : Int) (v1202 : Bool) (v1203 : Bool) (v1204 : Int) (v1205 : Int) (v1206 : Int) (v1207 : Int) (v1208 : Int) (v1209 : Int) =>
                              ex0 v1194 v1195 v1196 v1197 v1198 v1199 v1200 v1201 v1202 v1203 v1204 v1205 v1206 v1207 v1208 v1209) x0 x1 x2 x3 x4 v852 v853 v854 v855 false x5 x6 v850 v851 v860 v861)))
                      else (
                        bif ((decide (x1 < 0))) then (
                          N_law01_WideBack_0 F (fun (v1213 : Int) (v1214 : Int) (v1215 : Int) (v1216 : Bool) (v1217 : Int) (v1218 : Int) (v1219 : Bool) (v1220 : Int) (v1221 : Bool) (v1222 : Bool) (v1223 : Int) (v1224 : Int) (v1225 : Int) (v1226 : Int) (v1227 : Int) (v1228 : Int) =>
                            ex0 v1213 v1214 v1215 v1216 v1217 v1218 v1219 v1220 v1221 v1222 v1223 v1224 v1225 v1226 v1227 v1228) x0 x1 x2 x3 x4 v852 v853 v854 v855 ((decide (((IntKind.wrap .i64 (0 - v852))) > x1))) x5 x6 v850 v851 v860 v861)
                        else (
                          N_law01_WideBack_0 F (fun (v1229 : Int) (v1230 : Int) (v1231 : Int) (v1232 : Bool) (v1233 : Int) (v1234 : Int) (v1235 : Bool) (v1236 : Int) (v1237 : Bool) (v1238 : Bool) (v1239 : Int) (v1240 : Int) (v1241 : Int) (v1242 : Int) (v1243 : Int) (v1244 : Int) =>
                            ex0 v1229 v1230 v1231 v1232 v1233 v1234 v1235 v1236 v1237 v1238 v1239 v1240 v1241 v1242 v1243 v1244) x0 x1 x2 x3 x4 v852 v853 v854 v855 false x5 x6 v850 v851 v860 v861)))
                    else (
                      N_law01_WideBack_0 F (fun (v1245 : Int) (v1246 : Int) (v1247 : Int) (v1248 : Bool) (v1249 : Int) (v1250 : Int) (v1251 : Bool) (v1252 : Int) (v1253 : Bool) (v1254 : Bool) (v1255 : Int) (v1256 : Int) (v1257 : Int) (v1258 : Int) (v1259 : Int) (v1260 : Int) =>
                        ex0 v1245 v1246 v1247 v1248 v1249 v1250 v1251 v1252 v1253 v1254 v1255 v1256 v1257 v1258 v1259 v1260) x0 x1 x2 x3 x4 v852 v853 v854 v855 false x5 x6 v850 v851 v860 v861)))
                else (
                  bif ((decide (v852 ≥ 0))) then (
                    bif ((decide (x1 > 0))) then (
                      bif ((decide (v852 < x1))) then (
                        N_law01_WideBack_0 F (fun (v1264 : Int) (v1265 : Int) (v1266 : Int) (v1267 : Bool) (v1268 : Int) (v1269 : Int) (v1270 : Bool) (v1271 : Int) (v1272 : Bool) (v1273 : Bool) (v1274 : Int) (v1275 : Int) (v1276 : Int) (v1277 : Int) (v1278 : Int) (v1279 : Int) =>
                          ex0 v1264 v1265 v1266 v1267 v1268 v1269 v1270 v1271 v1272 v1273 v1274 v1275 v1276 v1277 v1278 v1279) x0 x1 x2 x3 x4 v852 v853 v854 v855 true x5 x6 v850 v851 v860 v861)
                      else (
                        bif ((decide (x1 < 0))) then (
                          N_law01_WideBack_0 F (fun (v1283 : Int) (v1284 : Int) (v1285 : Int) (v1286 : Bool) (v1287 : Int) (v1288 : Int) (v1289 : Bool) (v1290 : Int) (v1291 : Bool) (v1292 : Bool) (v1293 : Int) (v1294 : Int) (v1295 : Int) (v1296 : Int) (v1297 : Int) (v1298 : Int) =>
                            ex0 v1283 v1284 v1285 v1286 v1287 v1288 v1289 v1290 v1291 v1292 v1293 v1294 v1295 v1296 v1297 v1298) x0 x1 x2 x3 x4 v852 v853 v854 v855 ((decide (((IntKind.wrap .i64 (0 - v852))) > x1))) x5 x6 v850 v851 v860 v861)
                        else (
                          N_law01_WideBack_0 F (fun (v1299 : Int) (v1300 : Int) (v1301 : Int) (v1302 : Bool) (v1303 : Int) (v1304 : Int) (v1305 : Bool) (v1306 : Int) (v1307 : Bool) (v1308 : Bool) (v1309 : Int) (v1310 : Int) (v1311 : Int) (v1312 : Int) (v1313 : Int) (v1314 : Int) =>
                            ex0 v1299 v1300 v1301 v1302 v1303 v1304 v1305 v1306 v1307 v1308 v1309 v1310 v1311 v1312 v1313 v1314) x0 x1 x2 x3 x4 v852 v853 v854 v855 false x5 x6 v850 v851 v860 v861)))
                    else (
                      bif ((decide (x1 < 0))) then (
                        N_law01_WideBack_0 F (fun (v1318 : Int) (v1319 : Int) (v1320 : Int) (v1321 : Bool) (v1322 : Int) (v1323 : Int) (v1324 : Bool) (v1325 : Int) (v1326 : Bool) (v1327 : Bool) (v1328 : Int) (v1329 : Int) (v1330 : Int) (v1331 : Int) (v1332 : Int) (v1333 : Int) =>
                          ex0 v1318 v1319 v1320 v1321 v1322 v1323 v1324 v1325 v1326 v1327 v1328 v1329 v1330 v1331 v1332 v1333) x0 x1 x2 x3 x4 v852 v853 v854 v855 ((decide (((IntKind.wrap .i64 (0 - v852))) > x1))) x5 x6 v850 v851 v860 v861)
                      else (
                        N_law01_WideBack_0 F (fun (v1334 : Int) (v1335 : Int) (v1336 : Int) (v1337 : Bool) (v1338 : Int) (v1339 : Int) (v1340 : Bool) (v1341 : Int) (v1342 : Bool) (v1343 : Bool) (v1344 : Int) (v1345 : Int) (v1346 : Int) (v1347 : Int) (v1348 : Int) (v1349 : Int) =>
                          ex0 v1334 v1335 v1336 v1337 v1338 v1339 v1340 v1341 v1342 v1343 v1344 v1345 v1346 v1347 v1348 v1349) x0 x1 x2 x3 x4 v852 v853 v854 v855 false x5 x6 v850 v851 v860 v861)))
                  else (
                    N_law01_WideBack_0 F (fun (v1350 : Int) (v1351 : Int) (v1352 : Int) (v1353 : Bool) (v1354 : Int) (v1355 : Int) (v1356 : Bool) (v1357 : Int) (v1358 : Bool) (v1359 : Bool) (v1360 : Int) (v1361 : Int) (v1362 : Int) (v1363 : Int) (v1364 : Int) (v1365 : Int) =>
                      ex0 v1350 v1351 v1352 v1353 v1354 v1355 v1356 v1357 v1358 v1359 v1360 v1361 v1362 v1363 v1364 v1365) x0 x1 x2 x3 x4 v852 v853 v854 v855 false x5 x6 v850 v851 v860 v861))))
            else (
              bif ((decide (v852 ≥ 0))) then (
                bif ((decide (x1 > 0))) then (
                  bif ((decide (v852 < x1))) then (
                    N_law01_WideBack_0 F (fun (v1369 : Int) (v1370 : Int) (v1371 : Int) (v1372 : Bool) (v1373 : Int) (v1374 : Int) (v1375 : Bool) (v1376 : Int) (v1377 : Bool) (v1378 : Bool) (v1379 : Int) (v1380 : Int) (v1381 : Int) (v1382 : Int) (v1383 : Int) (v1384 : Int) =>
                      ex0 v1369 v1370 v1371 v1372 v1373 v1374 v1375 v1376 v1377 v1378 v1379 v1380 v1381 v1382 v1383 v1384) x0 x1 x2 x3 x4 v852 v853 v854 v855 true x5 x6 v850 v851 v860 v861)
                  else (
                    bif ((decide (x1 < 0))) then (
                      N_law01_WideBack_0 F (fun (v1388 : Int) (v1389 : Int) (v1390 : Int) (v1391 : Bool) (v1392 : Int) (v1393 : Int) (v1394 : Bool) (v1395 : Int) (v1396 : Bool) (v1397 : Bool) (v1398 : Int) (v1399 : Int) (v1400 : Int) (v1401 : Int) (v1402 : Int) (v1403 : Int) =>
                        ex0 v1388 v1389 v1390 v1391 v1392 v1393 v1394 v1395 v1396 v1397 v1398 v1399 v1400 v1401 v1402 v1403) x0 x1 x2 x3 x4 v852 v853 v854 v855 ((decide (((IntKind.wrap .i64 (0 - v852))) > x1))) x5 x6 v850 v851 v860 v861)
                    else (
                      N_law01_WideBack_0 F (fun (v1404 : Int) (v1405 : Int) (v1406 : Int) (v1407 : Bool) (v1408 : Int) (v1409 : Int) (v1410 : Bool) (v1411 : Int) (v1412 : Bool) (v1413 : Bool) (v1414 : Int) (v1415 : Int) (v1416 : Int) (v1417 : Int) (v1418 : Int) (v1419 : Int) =>
                        ex0 v1404 v1405 v1406 v1407 v1408 v1409 v1410 v1411 v1412 v1413 v1414 v1415 v1416 v1417 v1418 v1419) x0 x1 x2 x3 x4 v852 v853 v854 v855 false x5 x6 v850 v851 v860 v861)))
                else (
                  bif ((decide (x1 < 0))) then (
                    N_law01_WideBack_0 F (fun (v1423 : Int) (v1424 : Int) (v1425 : Int) (v1426 : Bool) (v1427 : Int) (v1428 : Int) (v1429 : Bool) (v1430 : Int) (v1431 : Bool) (v1432 : Bool) (v1433 : Int) (v1434 : Int) (v1435 : Int) (v1436 : Int) (v1437 : Int) (v1438 : Int) =>
                      ex0 v1423 v1424 v1425 v1426 v1427 v1428 v1429 v1430 v1431 v1432 v1433 v1434 v1435 v1436 v1437 v1438) x0 x1 x2 x3 x4 v852 v853 v854 v855 ((decide (((IntKind.wrap .i64 (0 - v852))) > x1))) x5 x6 v850 v851 v860 v861)
                  else (
                    N_law01_WideBack_0 F (fun (v1439 : Int) (v1440 : Int) (v1441 : Int) (v1442 : Bool) (v1443 : Int) (v1444 : Int) (v1445 : Bool) (v1446 : Int) (v1447 : Bool) (v1448 : Bool) (v1449 : Int) (v1450 : Int) (v1451 : Int) (v1452 : Int) (v1453 : Int) (v1454 : Int) =>
                      ex0 v1439 v1440 v1441 v1442 v1443 v1444 v1445 v1446 v1447 v1448 v1449 v1450 v1451 v1452 v1453 v1454) x0 x1 x2 x3 x4 v852 v853 v854 v855 false x5 x6 v850 v851 v860 v861)))
              else (
                N_law01_WideBack_0 F (fun (v1455 : Int) (v1456 : Int) (v1457 : Int) (v1458 : Bool) (v1459 : Int) (v1460 : Int) (v1461 : Bool) (v1462 : Int) (v1463 : Bool) (v1464 : Bool) (v1465 : Int) (v1466 : Int) (v1467 : Int) (v1468 : Int) (v1469 : Int) (v1470 : Int) =>
                  ex0 v1455 v1456 v1457 v1458 v1459 v1460 v1461 v1462 v1463 v1464 v1465 v1466 v1467 v1468 v1469 v1470) x0 x1 x2 x3 x4 v852 v853 v854 v855 false x5 x6 v850 v851 v860 v861)))
          else (
            none))
        else (
          none))
      else (
        none))
    else (
      none))
  else (
    none) : R)) (fun (z0 : Int) (z1 : Int) (z2 : Int) (z3 : Bool) (z4 : Int) (z5 : Int) (z6 : Bool) (z7 : Int) (z8 : Bool) (z9 : Bool) (z10 : Int) (z11 : Int) (z12 : Int) (z13 : Int) (z14 : Int) (z15 : Int) => k .ret (fS TN_law01_WideBack_1_0 [.i z0, .i z1, .i z2, .b z3, .i z4, .i z5, .b z6, .i z7, .b z8, .b z9, .i z10, .i z11, .i z12, .i z13, .i z14, .i z15])) := by
    intros
    kernel_rfl
  exact (h0 ok_law01_works o_law01_works_0 ok_wide_Of o_wide_Of_0 o_wide_Of_1 ok_wide_Div o_wide_Div_0 o_wide_Div_1 o_wide_Div_2 o_wide_Div_3 ok_wide_Mul o_wide_Mul_0 o_wide_Mul_1 ok_wide_Sign o_wide_Sign_0 ok_wide_Add o_wide_Add_0 o_wide_Add_1 ok_wide_Clip o_wide_Clip_0 o_wide_Clip_1 N_law01_WideBack_0 N_law01_WideBack_1).trans (by kernel_rfl)
def f_law01_WideBack (F : Nat) (a0 : Int) (a1 : Int) (a2 : Int) : R :=
  bif (ok_law01_works F) then (
    bif ((!((o_law01_works_0 F)))) then (
      some (.v (.bool false)))
    else (
      bif ((a1 == 0)) then (
        bif (ok_wide_Of F a0) then (
          let v825 : Int := (o_wide_Of_0 F a0)
          let v826 : Int := (o_wide_Of_1 F a0)
          bif (ok_wide_Div F v825 v826 a1) then (
            some (.v (.bool ((!((o_wide_Div_3 F v825 v826 a1)))))))
          else (
            none))
        else (
          none))
      else (
        bif (ok_wide_Mul F a0 a1) then (
          let v832 : Int := (o_wide_Mul_0 F a0 a1)
          let v833 : Int := (o_wide_Mul_1 F a0 a1)
          bif (!(decide (a1 = 0))) then (
            let v834 : Int := (Int.tmod a2 a1)
            bif (ok_wide_Sign F v832 v833) then (
              bif ((((decide (v834 < 0))) == ((decide (((o_wide_Sign_0 F v832 v833)) < 0))))) then (
                bif (ok_wide_Of F v834) then (
                  let v839 : Int := (o_wide_Of_0 F v834)
                  let v840 : Int := (o_wide_Of_1 F v834)
                  bif (ok_wide_Add F v832 v833 v839 v840) then (
                    N_law01_WideBack_1 F (fun (v1471 : Int) (v1472 : Int) (v1473 : Int) (v1474 : Bool) (v1475 : Int) (v1476 : Int) (v1477 : Bool) (v1478 : Int) (v1479 : Bool) (v1480 : Bool) (v1481 : Int) (v1482 : Int) (v1483 : Int) (v1484 : Int) (v1485 : Int) (v1486 : Int) =>
                      some (.v (.bool v1474))) a0 a1 a2 false v834 ((o_wide_Add_0 F v832 v833 v839 v840)) ((o_wide_Add_1 F v832 v833 v839 v840)))
                  else (
                    none))
                else (
                  none))
              else (
                N_law01_WideBack_1 F (fun (v1487 : Int) (v1488 : Int) (v1489 : Int) (v1490 : Bool) (v1491 : Int) (v1492 : Int) (v1493 : Bool) (v1494 : Int) (v1495 : Bool) (v1496 : Bool) (v1497 : Int) (v1498 : Int) (v1499 : Int) (v1500 : Int) (v1501 : Int) (v1502 : Int) =>
                  some (.v (.bool v1490))) a0 a1 a2 false v834 v832 v833))
            else (
              none))
          else (
            none))
        else (
          none))))
  else (
    none)
theorem e_law01_WideBack (F : Nat) (a0 : Int) (a1 : Int) (a2 : Int) : funL PP (S_law01_WideBack F) c_law01_WideBack (I_law01_WideBack F) (J_law01_WideBack F) 22 (fTs ti_law01_WideBack [.i a0, .i a1, .i a2]).1 = f_law01_WideBack F a0 a1 a2 := by
  have h : ∀ (ok_law01_works : Nat → Bool) (o_law01_works_0 : Nat → Bool) (ok_wide_Of : Nat → Int → Bool) (o_wide_Of_0 : Nat → Int → Int) (o_wide_Of_1 : Nat → Int → Int) (ok_wide_Div : Nat → Int → Int → Int → Bool) (o_wide_Div_0 : Nat → Int → Int → Int → Int) (o_wide_Div_1 : Nat → Int → Int → Int → Int) (o_wide_Div_2 : Nat → Int → Int → Int → Int) (o_wide_Div_3 : Nat → Int → Int → Int → Bool) (ok_wide_Mul : Nat → Int → Int → Bool) (o_wide_Mul_0 : Nat → Int → Int → Int) (o_wide_Mul_1 : Nat → Int → Int → Int) (ok_wide_Sign : Nat → Int → Int → Bool) (o_wide_Sign_0 : Nat → Int → Int → Int) (ok_wide_Add : Nat → Int → Int → Int → Int → Bool) (o_wide_Add_0 : Nat → Int → Int → Int → Int → Int) (o_wide_Add_1 : Nat → Int → Int → Int → Int → Int) (ok_wide_Clip : Nat → Int → Int → Bool) (o_wide_Clip_0 : Nat → Int → Int → Int) (o_wide_Clip_1 : Nat → Int → Int → Bool) (N_law01_WideBack_0 : Nat → (Int → Int → Int → Bool → Int → Int → Bool → Int → Bool → Bool → Int → Int → Int → Int → Int → Int → R) → Int → Int → Int → Bool → Int → Int → Bool → Int → Bool → Bool → Int → Int → Int → Int → Int → Int → R) (N_law01_WideBack_1 : Nat → (Int → Int → Int → Bool → Int → Int → Bool → Int → Bool → Bool → Int → Int → Int → Int → Int → Int → R) → Int → Int → Int → Bool → Int → Int → Int → R), funL PP (words [(42, spec ti_law01_works to_law01_works (fun q => (ok_law01_works F )) (fun q => [.b (o_law01_works_0 F )])), (57, spec ti_wide_Of to_wide_Of (fun q => (ok_wide_Of F (atI (nth q 0)))) (fun q => [.i (o_wide_Of_0 F (atI (nth q 0))), .i (o_wide_Of_1 F (atI (nth q 0)))])), (83, spec ti_wide_Div to_wide_Div (fun q => (ok_wide_Div F (atI (nth q 0)) (atI (nth q 1)) (atI (nth q 2)))) (fun q => [.i (o_wide_Div_0 F (atI (nth q 0)) (atI (nth q 1)) (atI (nth q 2))), .i (o_wide_Div_1 F (atI (nth q 0)) (atI (nth q 1)) (atI (nth q 2))), .i (o_wide_Div_2 F (atI (nth q 0)) (atI (nth q 1)) (atI (nth q 2))), .b (o_wide_Div_3 F (atI (nth q 0)) (atI (nth q 1)) (atI (nth q 2)))])), (40, spec ti_wide_Mul to_wide_Mul (fun q => (ok_wide_Mul F (atI (nth q 0)) (atI (nth q 1)))) (fun q => [.i (o_wide_Mul_0 F (atI (nth q 0)) (atI (nth q 1))), .i (o_wide_Mul_1 F (atI (nth q 0)) (atI (nth q 1)))])), (53, spec ti_wide_Sign to_wide_Sign (fun q => (ok_wide_Sign F (atI (nth q 0)) (atI (nth q 1)))) (fun q => [.i (o_wide_Sign_0 F (atI (nth q 0)) (atI (nth q 1)))])), (43, spec ti_wide_Add to_wide_Add (fun q => (ok_wide_Add F (atI (nth q 0)) (atI (nth q 1)) (atI (nth q 2)) (atI (nth q 3)))) (fun q => [.i (o_wide_Add_0 F (atI (nth q 0)) (atI (nth q 1)) (atI (nth q 2)) (atI (nth q 3))), .i (o_wide_Add_1 F (atI (nth q 0)) (atI (nth q 1)) (atI (nth q 2)) (atI (nth q 3)))])), (85, spec ti_wide_Clip to_wide_Clip (fun q => (ok_wide_Clip F (atI (nth q 0)) (atI (nth q 1)))) (fun q => [.i (o_wide_Clip_0 F (atI (nth q 0)) (atI (nth q 1))), .b (o_wide_Clip_1 F (atI (nth q 0)) (atI (nth q 1)))]))]) c_law01_WideBack (tabI c_law01_WideBack []) (tabJ [⟨14, 0, TN_law01_WideBack_0, fun k q => N_law01_WideBack_0 F (fun (z0 : Int) (z1 : Int) (z2 : Int) (z3 : Bool) (z4 : Int) (z5 : Int) (z6 : Bool) (z7 : Int) (z8 : Bool) (z9 : Bool) (z10 : Int) (z11 : Int) (z12 : Int) (z13 : Int) (z14 : Int) (z15 : Int) => k .ret (fS TN_law01_WideBack_0_0 [.i z0, .i z1, .i z2, .b z3, .i z4, .i z5, .b z6, .i z7, .b z8, .b z9, .i z10, .i z11, .i z12, .i z13, .i z14, .i z15])) (atI (nth q 0)) (atI (nth q 1)) (atI (nth q 2)) (atB (nth q 3)) (atI (nth q 4)) (atI (nth q 5)) (atB (nth q 6)) (atI (nth q 7)) (atB (nth q 8)) (atB (nth q 9)) (atI (nth q 10)) (atI (nth q 11)) (atI (nth q 12)) (atI (nth q 13)) (atI (nth q 14)) (atI (nth q 15))⟩, ⟨10, 0, TN_law01_WideBack_1, fun k q => N_law01_WideBack_1 F (fun (z0 : Int) (z1 : Int) (z2 : Int) (z3 : Bool) (z4 : Int) (z5 : Int) (z6 : Bool) (z7 : Int) (z8 : Bool) (z9 : Bool) (z10 : Int) (z11 : Int) (z12 : Int) (z13 : Int) (z14 : Int) (z15 : Int) => k .ret (fS TN_law01_WideBack_1_0 [.i z0, .i z1, .i z2, .b z3, .i z4, .i z5, .b z6, .i z7, .b z8, .b z9, .i z10, .i z11, .i z12, .i z13, .i z14, .i z15])) (atI (nth q 0)) (atI (nth q 1)) (atI (nth q 2)) (atB (nth q 3)) (atI (nth q 4)) (atI (nth q 5)) (atI (nth q 6))⟩]) 22 (fTs ti_law01_WideBack [.i a0, .i a1, .i a2]).1 = (
  bif (ok_law01_works F) then (
    bif ((!((o_law01_works_0 F)))) then (
      some (.v (.bool false)))
    else (
      bif ((a1 == 0)) then (
        bif (ok_wide_Of F a0) then (
          let v825 : Int := (o_wide_Of_0 F a0)
          let v826 : Int := (o_wide_Of_1 F a0)
          bif (ok_wide_Div F v825 v826 a1) then (
            some (.v (.bool ((!((o_wide_Div_3 F v825 v826 a1)))))))
          else (
            none))
        else (
          none))
      else (
        bif (ok_wide_Mul F a0 a1) then (
          let v832 : Int := (o_wide_Mul_0 F a0 a1)
          let v833 : Int := (o_wide_Mul_1 F a0 a1)
          bif (!(decide (a1 = 0))) then (
            let v834 : Int := (Int.tmod a2 a1)
            bif (ok_wide_Sign F v832 v833) then (
              bif ((((decide (v834 < 0))) == ((decide (((o_wide_Sign_0 F v832 v833)) < 0))))) then (
                bif (ok_wide_Of F v834) then (
                  let v839 : Int := (o_wide_Of_0 F v834)
                  let v840 : Int := (o_wide_Of_1 F v834)
                  bif (ok_wide_Add F v832 v833 v839 v840) then (
                    N_law01_WideBack_1 F (fun (v1471 : Int) (v1472 : Int) (v1473 : Int) (v1474 : Bool) (v1475 : Int) (v1476 : Int) (v1477 : Bool) (v1478 : Int) (v1479 : Bool) (v1480 : Bool) (v1481 : Int) (v1482 : Int) (v1483 : Int) (v1484 : Int) (v1485 : Int) (v1486 : Int) =>
                      some (.v (.bool v1474))) a0 a1 a2 false v834 ((o_wide_Add_0 F v832 v833 v839 v840)) ((o_wide_Add_1 F v832 v833 v839 v840)))
                  else (
                    none))
                else (
                  none))
              else (
                N_law01_WideBack_1 F (fun (v1487 : Int) (v1488 : Int) (v1489 : Int) (v1490 : Bool) (v1491 : Int) (v1492 : Int) (v1493 : Bool) (v1494 : Int) (v1495 : Bool) (v1496 : Bool) (v1497 : Int) (v1498 : Int) (v1499 : Int) (v1500 : Int) (v1501 : Int) (v1502 : Int) =>
                  some (.v (.bool v1490))) a0 a1 a2 false v834 v832 v833))
            else (
              none))
          else (
            none))
        else (
          none))))
  else (
    none) : R) := by
    intros
    kernel_rfl
  exact (h ok_law01_works o_law01_works_0 ok_wide_Of o_wide_Of_0 o_wide_Of_1 ok_wide_Div o_wide_Div_0 o_wide_Div_1 o_wide_Div_2 o_wide_Div_3 ok_wide_Mul o_wide_Mul_0 o_wide_Mul_1 ok_wide_Sign o_wide_Sign_0 ok_wide_Add o_wide_Add_0 o_wide_Add_1 ok_wide_Clip o_wide_Clip_0 o_wide_Clip_1 N_law01_WideBack_0 N_law01_WideBack_1).trans (by kernel_rfl)
def ok_law01_WideBack (F : Nat) (a0 : Int) (a1 : Int) (a2 : Int) : Bool := okT to_law01_WideBack (f_law01_WideBack F a0 a1 a2)
def o_law01_WideBack_0 (F : Nat) (a0 : Int) (a1 : Int) (a2 : Int) : Bool := atB (nth (outT to_law01_WideBack (f_law01_WideBack F a0 a1 a2)) 0)
theorem k_law01_WideBack (F : Nat) (a0 : Int) (a1 : Int) (a2 : Int) {z0 : Bool} (h : f_law01_WideBack F a0 a1 a2 = some (.v (.bool z0))) : ok_law01_WideBack F a0 a1 a2 = true ∧ o_law01_WideBack_0 F a0 a1 a2 = z0 := by
  refine ⟨?_, ?_⟩
  · unfold ok_law01_WideBack; rw [h]; kernel_rfl
  · unfold o_law01_WideBack_0; rw [h]; kernel_rfl
def s_law01_WideBack (F : Nat) : List VV → Option (Bool × VV) := spec ti_law01_WideBack to_law01_WideBack (fun q => (ok_law01_WideBack F (atI (nth q 0)) (atI (nth q 1)) (atI (nth q 2)))) (fun q => [.b (o_law01_WideBack_0 F (atI (nth q 0)) (atI (nth q 1)) (atI (nth q 2)))])
theorem hS_law01_WideBack (F : Nat) : ∀ f, Good PP f (unS (S_law01_WideBack F f)) := words_good fun p hp => by
  simp only [List.mem_cons, List.not_mem_nil, or_false] at hp
  rcases hp with rfl | rfl | rfl | rfl | rfl | rfl | rfl
  · exact g_law01_works F
  · exact g_wide_Of F
  · exact g_wide_Div F
  · exact g_wide_Mul F
  · exact g_wide_Sign F
  · exact g_wide_Add F
  · exact g_wide_Clip F
theorem hl_law01_WideBack (F : Nat) : ∀ p ∈ loopsIn PP 22, LoopOK PP (S_law01_WideBack F) c_law01_WideBack F (I_law01_WideBack F) (J_law01_WideBack F) p :=
  loops_of [] (by kernel_rfl) all_nil
theorem hj_law01_WideBack (F : Nat) : ∀ p ∈ joinsIn PP c_law01_WideBack 22, JoinOK PP (S_law01_WideBack F) c_law01_WideBack (I_law01_WideBack F) (J_law01_WideBack F) p :=
  joins_of [(10, 0, joinAt PP c_law01_WideBack 22 0), (14, 0, joinAt PP c_law01_WideBack 22 1)] (by kernel_rfl) (all_cons
    (join_ok (WJ_law01_WideBack F) rfl (jtab_cons (fun h _ => absurd h (by decide)) (jtab_cons (fun _ _ k q => Le.ofEq ((nN_law01_WideBack_1 F k (atI (nth q 0)) (atI (nth q 1)) (atI (nth q 2)) (atB (nth q 3)) (atI (nth q 4)) (atI (nth q 5)) (atI (nth q 6))).symm.trans (congrArg (fun s => codeL PP (S_law01_WideBack F) c_law01_WideBack (I_law01_WideBack F) (J_law01_WideBack F) (joinAt PP c_law01_WideBack 22 0) 0 s k) (show fS TN_law01_WideBack_1 [.i (atI (nth q 0)), .i (atI (nth q 1)), .i (atI (nth q 2)), .b (atB (nth q 3)), .i (atI (nth q 4)), .i (atI (nth q 5)), .i (atI (nth q 6))] = fS TN_law01_WideBack_1 q by kernel_rfl)))) jtab_nil))) (all_cons
    (join_ok (WJ_law01_WideBack F) rfl (jtab_cons (fun _ _ k q => Le.ofEq ((nN_law01_WideBack_0 F k (atI (nth q 0)) (atI (nth q 1)) (atI (nth q 2)) (atB (nth q 3)) (atI (nth q 4)) (atI (nth q 5)) (atB (nth q 6)) (atI (nth q 7)) (atB (nth q 8)) (atB (nth q 9)) (atI (nth q 10)) (atI (nth q 11)) (atI (nth q 12)) (atI (nth q 13)) (atI (nth q 14)) (atI (nth q 15))).symm.trans (congrArg (fun s => codeL PP (S_law01_WideBack F) c_law01_WideBack (I_law01_WideBack F) (J_law01_WideBack F) (joinAt PP c_law01_WideBack 22 1) 0 s k) (show fS TN_law01_WideBack_0 [.i (atI (nth q 0)), .i (atI (nth q 1)), .i (atI (nth q 2)), .b (atB (nth q 3)), .i (atI (nth q 4)), .i (atI (nth q 5)), .b (atB (nth q 6)), .i (atI (nth q 7)), .b (atB (nth q 8)), .b (atB (nth q 9)), .i (atI (nth q 10)), .i (atI (nth q 11)), .i (atI (nth q 12)), .i (atI (nth q 13)), .i (atI (nth q 14)), .i (atI (nth q 15))] = fS TN_law01_WideBack_0 q by kernel_rfl)))) (jtab_cons (fun h _ => absurd h (by decide)) jtab_nil))) all_nil))
theorem g_law01_WideBack (F : Nat) : Good PP 22 (unS (s_law01_WideBack F)) :=
  fun_spec (hS_law01_WideBack F) (by kernel_rfl) (by kernel_rfl) (C := c_law01_WideBack) (F := fun q => (f_law01_WideBack F (atI (nth q 0)) (atI (nth q 1)) (atI (nth q 2)))) (fun _ => F) (fun _ => I_law01_WideBack F) (fun _ => J_law01_WideBack F) (fun _ => hl_law01_WideBack F) (fun _ => hj_law01_WideBack F)
    (fun q => (congrArg (funL PP (S_law01_WideBack F) c_law01_WideBack (I_law01_WideBack F) (J_law01_WideBack F) 22) (show (fTs ti_law01_WideBack q).1 = (fTs ti_law01_WideBack [.i (atI (nth q 0)), .i (atI (nth q 1)), .i (atI (nth q 2))]).1 by kernel_rfl)).trans (e_law01_WideBack F (atI (nth q 0)) (atI (nth q 1)) (atI (nth q 2))))
    (fun _ h => (okT_fill h).trans (congrArg some (by kernel_rfl)))

end Go.Xv
namespace Go.Xv
theorem tm_facts (A : Int) {b : Int} (h0 : b ≠ 0) : (0 ≤ A → 0 ≤ Int.tmod A b ∧ Int.tmod A b < (if b < 0 then -b else b)) ∧ (A < 0 → Int.tmod A b ≤ 0 ∧ -(if b < 0 then -b else b) < Int.tmod A b) := by
  have hb : 0 < (if b < 0 then -b else b) := by split <;> omega
  have key : ∀ x : Int, 0 ≤ x → Int.tmod x b = x % (if b < 0 then -b else b) := by
    intro x hx
    by_cases hn : b < 0
    · rw [if_pos hn, ← Int.tmod_eq_emod_of_nonneg hx, Int.tmod_neg]
    · rw [if_neg hn, Int.tmod_eq_emod_of_nonneg hx]
  constructor
  · intro h
    rw [key A h]
    exact ⟨Int.emod_nonneg _ (by omega), Int.emod_lt_of_pos _ hb⟩
  · intro h
    have e : Int.tmod A b = -Int.tmod (-A) b := by rw [Int.neg_tmod, Int.neg_neg]
    rw [e, key (-A) (by omega)]
    have h1 := Int.emod_nonneg (-A) (show (if b < 0 then -b else b) ≠ 0 by omega)
    have h2 := Int.emod_lt_of_pos (-A) hb
    omega
theorem sign_dec (A : Int) : decide ((if A < 0 then (-1 : Int) else if A = 0 then 0 else 1) < 0) = decide (A < 0) := by
  rw [decide_eq_decide]; split <;> (try split) <;> omega
theorem tdiv_W' {z b : Int} (hz : -170141183460469231731687303715884105728 < z ∧ z < 170141183460469231731687303715884105728) : W128 (Int.tdiv z b) := by
  have h : (Int.tdiv z b).natAbs ≤ z.natAbs := by
    rw [Int.natAbs_tdiv]
    exact Nat.div_le_self _ _
  unfold W128; omega
theorem N0_ok (F : Nat) (ex : Int → Int → Int → Bool → Int → Int → Bool → Int → Bool → Bool → Int → Int → Int → Int → Int → Int → R) (X : R) (hex : ∀ a b c d e f g h i j k l m n o, ex a b c true d e f g h i j k l m n o = X) {A s : Int} (hA : W128 A) (hs : s = 0 ∨ (s < 0 ↔ A < 0)) (c : Bool) (p q : Int) (hc : c = true ∨ (p = hi A ∧ q = lo A)) (x0 x1 x2 : Int) (x3 : Bool) (x4 x7 x12 x13 : Int) :
    N_law01_WideBack_0 F ex x0 x1 x2 x3 x4 s true x7 c true (hi A) (lo A) x12 x13 p q = X := by
  unfold N_law01_WideBack_0
  obtain ⟨k1, k2⟩ := k_wide_Sign F _ _ (f_Sign F (a := hi A) (lo_U A))
  rw [val_hl, W_in hA] at k2
  have tail : (bif (s == 0) then ex x0 x1 x2 true x4 s true x7 c true (hi A) (lo A) x12 x13 p q else (bif ok_wide_Sign F (hi A) (lo A) then ex x0 x1 x2 (decide (s < 0) == decide (o_wide_Sign_0 F (hi A) (lo A) < 0)) x4 s true x7 c true (hi A) (lo A) x12 x13 p q else none)) = X := by
    by_cases h0 : s = 0
    · exact bp (by simp [h0]) (hex ..)
    · refine bn (by simp [h0]) (bp k1 ?_)
      have e : (decide (s < 0) == decide (o_wide_Sign_0 F (hi A) (lo A) < 0)) = true := by
        rw [k2, sign_dec, beq_iff_eq, decide_eq_decide]
        rcases hs with h | h
        · exact absurd h h0
        · exact h
      rw [e]
      exact hex ..
  refine bp rfl ?_
  cases c with
  | true => exact bp rfl (bp rfl tail)
  | false =>
    rcases hc with h | ⟨rfl, rfl⟩
    · cases h
    · exact bn rfl (bp (by simp) (bp rfl tail))
theorem N1_ok (F : Nat) (hF : 200 ≤ F) (ex : Int → Int → Int → Bool → Int → Int → Bool → Int → Bool → Bool → Int → Int → Int → Int → Int → Int → R) (X : R) (hex : ∀ a b c d e f g h i j k l m n o, ex a b c true d e f g h i j k l m n o = X) {A b : Int} (hA : -170141183460469231731687303715884105728 < A ∧ A < 170141183460469231731687303715884105728) (hb : I64 b) (h0 : b ≠ 0) (x0 x2 : Int) (x3 : Bool) (x4 : Int) :
    N_law01_WideBack_1 F ex x0 b x2 x3 x4 (hi A) (lo A) = X := by
  have hW : W128 A := by unfold W128; omega
  have hd := f_Div F hF (hi_I A) (lo_U A) hb
  rw [val_hl, W_in hW] at hd
  unfold divR at hd
  rw [if_neg h0] at hd
  obtain ⟨d1, d2, d3, d4, d5⟩ := k_wide_Div F _ _ _ hd
  have hQ := tdiv_W' (b := b) hA
  obtain ⟨c1, c2, c3⟩ := a_Clip F hQ
  obtain ⟨m1, m2, m3⟩ := a_Mul F (clipV_I (Int.tdiv A b)) hb
  have ht := tmod_I (z := A) hb h0
  obtain ⟨o1, o2, o3⟩ := a_Of F (n := Int.tmod A b) (by unfold I64; omega)
  obtain ⟨s1, s2, s3⟩ := a_Add F (clipV (Int.tdiv A b) * b) (Int.tmod A b)
  obtain ⟨t1, t2⟩ := tm_facts A h0
  unfold N_law01_WideBack_1
  dsimp only
  rw [d2, d3, d4, d5]
  refine bp d1 (bp c1 ?_)
  rw [c2, c3]
  refine bp m1 ?_
  rw [m2, m3]
  refine bp o1 ?_
  rw [o2, o3]
  refine bp s1 ?_
  rw [s2, s3]
  have hs : Int.tmod A b = 0 ∨ (Int.tmod A b < 0 ↔ A < 0) := by omega
  have hc : clipC (Int.tdiv A b) = true ∨ (hi (clipV (Int.tdiv A b) * b + Int.tmod A b) = hi A ∧ lo (clipV (Int.tdiv A b) * b + Int.tmod A b) = lo A) := by
    by_cases h : clipC (Int.tdiv A b) = true
    · exact .inl h
    · refine .inr ?_
      have hI : clipV (Int.tdiv A b) = Int.tdiv A b := by
        have h2 : ¬ (Int.tdiv A b < -9223372036854775808 ∨ 9223372036854775807 < Int.tdiv A b) := fun hx => h (by unfold clipC; exact dt hx)
        unfold clipV
        rw [if_neg (by omega), if_neg (by omega)]
      have e : clipV (Int.tdiv A b) * b + Int.tmod A b = A := by
        rw [hI, Int.mul_comm]
        exact Int.mul_tdiv_add_tmod A b
      rw [e]
      exact ⟨rfl, rfl⟩
  have fin : ∀ (l : Bool) (x0 x1 x2 : Int) (x3 : Bool) (x4 x7 x12 x13 : Int), l = true → N_law01_WideBack_0 F ex x0 x1 x2 x3 x4 (Int.tmod A b) true x7 (clipC (Int.tdiv A b)) l (hi A) (lo A) x12 x13 (hi (clipV (Int.tdiv A b) * b + Int.tmod A b)) (lo (clipV (Int.tdiv A b) * b + Int.tmod A b)) = X := by
    intro l x0 x1 x2 x3 x4 x7 x12 x13 hl
    subst hl
    exact N0_ok F ex X hex hW hs (clipC (Int.tdiv A b)) _ _ hc x0 x1 x2 x3 x4 x7 x12 x13
  have wn : IntKind.wrap .i64 (0 - Int.tmod A b) = -Int.tmod A b := by rw [wi64]; omega
  rw [wn]
  clear hd d1 d2 d3 d4 d5 c1 c2 c3 m1 m2 m3 o1 o2 o3 s1 s2 s3
  generalize Int.tmod A b = s at *
  have hlt : (b < 0 → b < s ∧ s < -b) ∧ (0 < b → -b < s ∧ s < b) := by
    constructor
    · intro h; rw [if_pos h] at t1 t2; omega
    · intro h; rw [if_neg (by omega)] at t1 t2; omega
  clear t1 t2
  rcases Int.lt_or_le s 0 with h1 | h1 <;> rcases Int.lt_or_le b 0 with h2 | h2 <;>
    (repeat (first | (refine bp (dt (by omega)) ?_) | (refine bn (df (by omega)) ?_))) <;> (refine fin _ _ _ _ _ _ _ _ _ ?_) <;> (first | rfl | exact dt (by omega))
theorem f_WideBack (F : Nat) (hF : 200 ≤ F) {q b r : Int} (hq : I64 q) (hb : I64 b) (_hr : I64 r) : f_law01_WideBack F q b r = some (.v (.bool true)) := by
  unfold f_law01_WideBack
  dsimp only
  obtain ⟨w1, w2⟩ := a_works01 F
  obtain ⟨o1, o2, o3⟩ := a_Of F hq
  refine bp w1 (bn (by rw [w2]; rfl) ?_)
  by_cases h0 : b = 0
  · have hd := f_Div F hF (hi_I q) (lo_U q) hb
    unfold divR at hd
    rw [if_pos h0] at hd
    obtain ⟨d1, d2, d3, d4, d5⟩ := k_wide_Div F _ _ _ hd
    refine bp (by simp [h0]) (bp o1 ?_)
    rw [o2, o3]
    refine bp d1 ?_
    rw [d5]; rfl
  · obtain ⟨m1, m2, m3⟩ := a_Mul F hq hb
    have hbd : -85070591730234615865843651857942052864 ≤ q * b ∧ q * b ≤ 85070591730234615865843651857942052864 := by
      unfold I64 at hq hb
      have h : (q * b).natAbs ≤ 9223372036854775808 * 9223372036854775808 := by
        rw [Int.natAbs_mul]
        exact Nat.mul_le_mul (by omega) (by omega)
      omega
    have hW : W128 (q * b) := by unfold W128; omega
    obtain ⟨k1, k2⟩ := k_wide_Sign F _ _ (f_Sign F (a := hi (q * b)) (lo_U (q * b)))
    have ht := tmod_I (z := r) hb h0
    obtain ⟨p1, p2, p3⟩ := a_Of F (n := Int.tmod r b) (by unfold I64; omega)
    obtain ⟨s1, s2, s3⟩ := a_Add F (q * b) (Int.tmod r b)
    refine bn (by simp [h0]) (bp m1 ?_)
    rw [m2, m3]
    refine bp (by simp [h0]) (bp k1 ?_)
    by_cases hc : (decide (Int.tmod r b < 0) == decide (o_wide_Sign_0 F (hi (q * b)) (lo (q * b)) < 0)) = true
    · refine bp hc (bp p1 ?_)
      rw [p2, p3]
      refine bp s1 ?_
      rw [s2, s3]
      exact N1_ok F hF _ _ (fun _ _ _ _ _ _ _ _ _ _ _ _ _ _ _ => rfl) (by omega) hb h0 _ _ _ _
    · refine bn (by simpa using hc) ?_
      exact N1_ok F hF _ _ (fun _ _ _ _ _ _ _ _ _ _ _ _ _ _ _ => rfl) (by omega) hb h0 _ _ _ _
end Go.Xv
namespace Go.Proofs.Ytpcblnkllakejaa.wideBack
open Go.ChangeShapes Go.WideShapes Go.ChangeAt Go.RowKit Go.Xv Go.Proofs.Ytpcblnkllakejaa.base
set_option linter.unusedVariables false
set_option maxRecDepth 100000 in
theorem lifted (os : Os) (started : os.Started) (H : Type) (enc : TypeId × Value → H) :
    ReturnsInHanded {} Try.checked os 22 .any (Rows.wideBackSpec.pre6 enc Try.prog Try.f22 Rows.wideBackRow.domain false) (Rows.wideBackSpec.post enc Try.prog Try.f22 false true false false) := by
  refine returnsInHanded_of_change (C := Try.checked) own started (by kernel_rfl) Try.func22
    (ChangeSpec.witness6 (enc := enc) (C := Try.checked) false ⟨#[], #[.int .i64 0, .int .i64 0, .int .i64 0], []⟩ 8 (by kernel_rfl) (by kernel_rfl) (by kernel_rfl) (by kernel_rfl)) ?_
  intro W base args ds gs before hval0 hW hcnd _
  have hval : ∀ (j : Nat) t v, Try.f22.params[j]? = some t → args[j]? = some v → Value.okWide Try.prog W .any base t v := hval0
  have hW' := hW
  obtain ⟨p, q, hA0, hV, rfl, hfz, hnd⟩ := hW
  have hA : DataW.TrodAll enc Try.prog W 0 (fun _ => true) true Try.f22.params.toList args.toList ds p := hA0
  rw [Try.params22] at hA hval
  obtain ⟨v0, vs0, d0, ds0, p0, q0, hargs, rfl, rfl, h0, r0⟩ := trodAll_cons hA
  obtain ⟨v1, vs1, d1, ds1, p1, q1, rfl, rfl, rfl, h1, r1⟩ := trodAll_cons r0
  obtain ⟨v2, vs2, d2, ds2, p2, q2, rfl, rfl, rfl, h2, r2⟩ := trodAll_cons r1
  obtain ⟨rfl, rfl, rfl⟩ := trodAll_nil r2
  obtain rfl : args = #[v0, v1, v2] := by cases args; simp_all
  obtain ⟨a0, rfl, wa0⟩ := open_num (k := .i64) (by kernel_rfl) (hval 0 2 v0 rfl rfl) h0
  obtain ⟨a1, rfl, wa1⟩ := open_num (k := .i64) (by kernel_rfl) (hval 1 2 v1 rfl rfl) h1
  obtain ⟨a2, rfl, wa2⟩ := open_num (k := .i64) (by kernel_rfl) (hval 2 2 v2 rfl rfl) h2
  refine law_contract laidOut (g_law01_WideBack fuel0) (bt := 4) (by kernel_rfl) (by kernel_rfl) (by kernel_rfl) (by kernel_rfl) rfl hW' ?_
  refine ⟨[.v (.int .i64 a0), .v (.int .i64 a1), .v (.int .i64 a2)], rfl, fun i x hx => ?_, unS_of ?_⟩
  · match i, hx with
    | 0, hx => exact ⟨_, rfl, by cases hx; exact Rel.v _ _⟩
    | 1, hx => exact ⟨_, rfl, by cases hx; exact Rel.v _ _⟩
    | 2, hx => exact ⟨_, rfl, by cases hx; exact Rel.v _ _⟩
    | _ + 3, hx => cases hx
  · obtain ⟨y1, y2⟩ := k_law01_WideBack fuel0 a0 a1 a2 (f_WideBack fuel0 (by unfold fuel0; omega) (wf_i64 wa0) (wf_i64 wa1) (wf_i64 wa2))
    have e : s_law01_WideBack fuel0 [.v (.int .i64 a0), .v (.int .i64 a1), .v (.int .i64 a2)] = some (ok_law01_WideBack fuel0 a0 a1 a2, .v (.bool (o_law01_WideBack_0 fuel0 a0 a1 a2))) := by kernel_rfl
    rw [e, y1, y2]
theorem over : Rows.wideBackRow.holds Try.pinned (OpenSpec.ofChange Rows.wideBackSpec) :=
  OpenClaim.holds_of_wide 22 Try.f22 rfl rfl rfl rfl rfl rfl rfl ⟨rfl, rfl, rfl, rfl, rfl⟩ rfl rfl rfl rfl rfl (by kernel_rfl) Try.func22 (joined_of (P := Try.prog) behind enter_ rfl rfl ⟨rfl, rfl⟩ (by kernel_rfl))
    (of_decide_eq_true (by kernel_rfl)) (by unfold Func.isWrapper; first | (rw [if_pos (by decide +kernel)]; kernel_rfl) | (rw [if_neg (by decide +kernel)]; exact ⟨rfl, rfl⟩))
    (fun os started H enc _ => lifted os started H enc)
/-- The statement. -/
theorem proved : Rows.WideBackSaid := over
#print axioms proved
end Go.Proofs.Ytpcblnkllakejaa.wideBack
