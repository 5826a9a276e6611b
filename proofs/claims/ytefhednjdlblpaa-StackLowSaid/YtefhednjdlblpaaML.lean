/- What the functions come to that L reaches, as plain functions; written by a program of this work, each told by Lean. -/
import Derived.Test.YtefhednjdlblpaaML1
namespace Go.Proofs.Ytefhednjdlblpaa.l
open Go.AX
set_option linter.unusedVariables false
set_option maxRecDepth 100000
set_option maxHeartbeats 4000000
/-- function 6: the loop in block 0 -/
noncomputable def law39_StackLow_L0v1.body (law39_StackLow_L0v1 : Tc0 → Int → Int → Bool → (List Int) → Int → Int → Int → Int → Int → Int → Int → (Bool → Option Bool) → (Option Bool) → Option Bool) (stack_Stack_SPv1 : Int → Int → Int → Int → Int → Int → Int → Bool → (List Int) → (Int → Int → Int → Int → Int → Int → Int → Int → Bool → (List Int) → Option Bool) → Option Bool) (stack_Stack_Segv1 : Int → Int → Int → Int → Int → Int → Int → Bool → (List Int) → ((Int × Int × Int × Unit) → Int → Int → Int → Int → Int → Int → Int → Bool → (List Int) → Option Bool) → Option Bool) (stack_Stack_Pushv1 : Int → Int → Int → Int → Int → Int → Int → Int → Bool → (List Int) → (Bool → Int → Int → Int → Int → Int → Int → Int → Bool → (List Int) → Option Bool) → Option Bool) (stack_Stack_Lowv1 : Int → Int → Int → Int → Int → Int → Int → Bool → (List Int) → (Int → Int → Int → Int → Int → Int → Int → Int → Bool → (List Int) → Option Bool) → Option Bool) (memory_Memory_Size : Bool → (List Int) → (Int → Bool → (List Int) → Option Bool) → Option Bool) (stack_Stack_Popv1 : Int → Int → Int → Int → Int → Int → Int → Bool → (List Int) → (Int → Bool → Int → Int → Int → Int → Int → Int → Int → Bool → (List Int) → Option Bool) → Option Bool) (stack_Stack_Downv1 : Int → Int → Int → Int → Int → Int → Int → Int → Bool → (List Int) → (Bool → Int → Int → Int → Int → Int → Int → Int → Bool → (List Int) → Option Bool) → Option Bool) (stack_Stack_Upv1 : Int → Int → Int → Int → Int → Int → Int → Int → Bool → (List Int) → (Bool → Int → Int → Int → Int → Int → Int → Int → Bool → (List Int) → Option Bool) → Option Bool) (stack_Stack_Setv1 : Int → Int → Int → Int → Int → Int → Int → Int → Int → Bool → (List Int) → (Bool → Int → Int → Int → Int → Int → Int → Int → Bool → (List Int) → Option Bool) → Option Bool) (stack_Stack_Spillv1 : Int → Int → Int → Int → Int → Int → Int → Bool → (List Int) → (Bool → Int → Int → Int → Int → Int → Int → Int → Bool → (List Int) → Option Bool) → Option Bool) (stack_Stack_Growv1 : Int → Int → Int → Int → Int → Int → Int → Int → Bool → (List Int) → (Bool → Int → Int → Int → Int → Int → Int → Int → Bool → (List Int) → Option Bool) → (Bool → Int → Int → Int → Int → Int → Int → Int → Bool → (List Int) → Option Bool) → Option Bool) (ts265 : Tc0) (n266 : Int) (n267 : Int) (b268 : Bool) (ns269 : List Int) (n270 : Int) (n271 : Int) (n272 : Int) (n273 : Int) (n274 : Int) (n275 : Int) (n276 : Int) (k1 : Bool → Option Bool) (k2 : Option Bool) : Option Bool :=
  (cond_ (decide (n267 < (((List.length ts265) : Nat) : Int))) (cond_ ((decide ((0 : Int) ≤ n267)) && (decide (n267 < (((List.length ts265) : Nat) : Int)))) (stack_Stack_SPv1 n270 n271 n272 n273 n274 n275 n276 b268 ns269
  (fun n296 n297 n298 n299 n300 n301 n302 n303 b304 ns305 => (stack_Stack_Segv1 n297 n298 n299 n300 n301 n302 n303 b304 ns305
  (fun t325 n326 n327 n328 n329 n330 n331 n332 b333 ns334 => (cond_ ((List.getD ts265 (Int.toNat n267) ((0 : Int), ((0 : Int), ((0 : Int), ())))).1 == (0 : Int)) (stack_Stack_Pushv1 (List.getD ts265 (Int.toNat n267) ((0 : Int), ((0 : Int), ((0 : Int), ())))).2.2.1 n326 n327 n328 n329 n330 n331 n332 b333 ns334
  (fun b429 n430 n431 n432 n433 n434 n435 n436 b437 ns438 => (stack_Stack_Lowv1 n430 n431 n432 n433 n434 n435 n436 b437 ns438
  (fun n439 n440 n441 n442 n443 n444 n445 n446 b447 ns448 => (cond_ (! (decide (n439 > n266))) (stack_Stack_Lowv1 n440 n441 n442 n443 n444 n445 n446 b447 ns448
  (fun n449 n450 n451 n452 n453 n454 n455 n456 b457 ns458 => (cond_ (! (decide (n449 < (0 : Int)))) (cond_ (! b429) (stack_Stack_SPv1 n450 n451 n452 n453 n454 n455 n456 b457 ns458
  (fun n459 n460 n461 n462 n463 n464 n465 n466 b467 ns468 => (cond_ (! (n459 != n296)) (stack_Stack_Segv1 n460 n461 n462 n463 n464 n465 n466 b467 ns468
  (fun t469 n470 n471 n472 n473 n474 n475 n476 b477 ns478 => (cond_ (! (! ((t469.1 == t325.1) && ((t469.2.1 == t325.2.1) && ((t469.2.2.1 == t325.2.2.1) && true))))) (stack_Stack_Lowv1 n470 n471 n472 n473 n474 n475 n476 b477 ns478
  (fun n479 n480 n481 n482 n483 n484 n485 n486 b487 ns488 => (cond_ (n479 != n266) (k1 false) (stack_Stack_Lowv1 n480 n481 n482 n483 n484 n485 n486 b487 ns488
  (fun n489 n490 n491 n492 n493 n494 n495 n496 b497 ns498 => (stack_Stack_Segv1 n490 n491 n492 n493 n494 n495 n496 b497 ns498
  (fun t499 n500 n501 n502 n503 n504 n505 n506 b507 ns508 => (stack_Stack_SPv1 n500 n501 n502 n503 n504 n505 n506 b507 ns508
  (fun n509 n510 n511 n512 n513 n514 n515 n516 b517 ns518 => (cond_ (! (decide (n509 < t499.1))) (stack_Stack_SPv1 n510 n511 n512 n513 n514 n515 n516 b517 ns518
  (fun n519 n520 n521 n522 n523 n524 n525 n526 b527 ns528 => (cond_ (! (decide (n519 > t499.2.2.1))) (cond_ (! (t499.2.1 != (IntKind.wrap .i64 (t499.1 + (64 : Int))))) (memory_Memory_Size b527 ns528
  (fun n529 b530 ns531 => (cond_ (decide (t499.2.2.1 > n529)) (k1 false) (law39_StackLow_L0v1 ts265 n489 (IntKind.wrap .i64 (n267 + (1 : Int))) b530 ns531 n520 n521 n522 n523 n524 n525 n526 k1 k2)))) (k1 false)) (k1 false)))) (k1 false))))))))))) (k1 false)))) (k1 false)))) (stack_Stack_Lowv1 n450 n451 n452 n453 n454 n455 n456 b457 ns458
  (fun n532 n533 n534 n535 n536 n537 n538 n539 b540 ns541 => (stack_Stack_Segv1 n533 n534 n535 n536 n537 n538 n539 b540 ns541
  (fun t542 n543 n544 n545 n546 n547 n548 n549 b550 ns551 => (stack_Stack_SPv1 n543 n544 n545 n546 n547 n548 n549 b550 ns551
  (fun n552 n553 n554 n555 n556 n557 n558 n559 b560 ns561 => (cond_ (! (decide (n552 < t542.1))) (stack_Stack_SPv1 n553 n554 n555 n556 n557 n558 n559 b560 ns561
  (fun n562 n563 n564 n565 n566 n567 n568 n569 b570 ns571 => (cond_ (! (decide (n562 > t542.2.2.1))) (cond_ (! (t542.2.1 != (IntKind.wrap .i64 (t542.1 + (64 : Int))))) (memory_Memory_Size b570 ns571
  (fun n572 b573 ns574 => (cond_ (decide (t542.2.2.1 > n572)) (k1 false) (law39_StackLow_L0v1 ts265 n532 (IntKind.wrap .i64 (n267 + (1 : Int))) b573 ns574 n563 n564 n565 n566 n567 n568 n569 k1 k2)))) (k1 false)) (k1 false)))) (k1 false))))))))) (k1 false)))) (k1 false)))))) (cond_ ((List.getD ts265 (Int.toNat n267) ((0 : Int), ((0 : Int), ((0 : Int), ())))).1 == (1 : Int)) (stack_Stack_Popv1 n326 n327 n328 n329 n330 n331 n332 b333 ns334
  (fun n687 b688 n689 n690 n691 n692 n693 n694 n695 b696 ns697 => (stack_Stack_Lowv1 n689 n690 n691 n692 n693 n694 n695 b696 ns697
  (fun n698 n699 n700 n701 n702 n703 n704 n705 b706 ns707 => (cond_ (! (decide (n698 > n266))) (stack_Stack_Lowv1 n699 n700 n701 n702 n703 n704 n705 b706 ns707
  (fun n708 n709 n710 n711 n712 n713 n714 n715 b716 ns717 => (cond_ (! (decide (n708 < (0 : Int)))) (cond_ (! b688) (stack_Stack_SPv1 n709 n710 n711 n712 n713 n714 n715 b716 ns717
  (fun n718 n719 n720 n721 n722 n723 n724 n725 b726 ns727 => (cond_ (! (n718 != n296)) (stack_Stack_Segv1 n719 n720 n721 n722 n723 n724 n725 b726 ns727
  (fun t728 n729 n730 n731 n732 n733 n734 n735 b736 ns737 => (cond_ (! (! ((t728.1 == t325.1) && ((t728.2.1 == t325.2.1) && ((t728.2.2.1 == t325.2.2.1) && true))))) (stack_Stack_Lowv1 n729 n730 n731 n732 n733 n734 n735 b736 ns737
  (fun n738 n739 n740 n741 n742 n743 n744 n745 b746 ns747 => (cond_ (n738 != n266) (k1 false) (stack_Stack_Lowv1 n739 n740 n741 n742 n743 n744 n745 b746 ns747
  (fun n748 n749 n750 n751 n752 n753 n754 n755 b756 ns757 => (stack_Stack_Segv1 n749 n750 n751 n752 n753 n754 n755 b756 ns757
  (fun t758 n759 n760 n761 n762 n763 n764 n765 b766 ns767 => (stack_Stack_SPv1 n759 n760 n761 n762 n763 n764 n765 b766 ns767
  (fun n768 n769 n770 n771 n772 n773 n774 n775 b776 ns777 => (cond_ (! (decide (n768 < t758.1))) (stack_Stack_SPv1 n769 n770 n771 n772 n773 n774 n775 b776 ns777
  (fun n778 n779 n780 n781 n782 n783 n784 n785 b786 ns787 => (cond_ (! (decide (n778 > t758.2.2.1))) (cond_ (! (t758.2.1 != (IntKind.wrap .i64 (t758.1 + (64 : Int))))) (memory_Memory_Size b786 ns787
  (fun n788 b789 ns790 => (cond_ (decide (t758.2.2.1 > n788)) (k1 false) (law39_StackLow_L0v1 ts265 n748 (IntKind.wrap .i64 (n267 + (1 : Int))) b789 ns790 n779 n780 n781 n782 n783 n784 n785 k1 k2)))) (k1 false)) (k1 false)))) (k1 false))))))))))) (k1 false)))) (k1 false)))) (stack_Stack_Lowv1 n709 n710 n711 n712 n713 n714 n715 b716 ns717
  (fun n791 n792 n793 n794 n795 n796 n797 n798 b799 ns800 => (stack_Stack_Segv1 n792 n793 n794 n795 n796 n797 n798 b799 ns800
  (fun t801 n802 n803 n804 n805 n806 n807 n808 b809 ns810 => (stack_Stack_SPv1 n802 n803 n804 n805 n806 n807 n808 b809 ns810
  (fun n811 n812 n813 n814 n815 n816 n817 n818 b819 ns820 => (cond_ (! (decide (n811 < t801.1))) (stack_Stack_SPv1 n812 n813 n814 n815 n816 n817 n818 b819 ns820
  (fun n821 n822 n823 n824 n825 n826 n827 n828 b829 ns830 => (cond_ (! (decide (n821 > t801.2.2.1))) (cond_ (! (t801.2.1 != (IntKind.wrap .i64 (t801.1 + (64 : Int))))) (memory_Memory_Size b829 ns830
  (fun n831 b832 ns833 => (cond_ (decide (t801.2.2.1 > n831)) (k1 false) (law39_StackLow_L0v1 ts265 n791 (IntKind.wrap .i64 (n267 + (1 : Int))) b832 ns833 n822 n823 n824 n825 n826 n827 n828 k1 k2)))) (k1 false)) (k1 false)))) (k1 false))))))))) (k1 false)))) (k1 false)))))) (cond_ ((List.getD ts265 (Int.toNat n267) ((0 : Int), ((0 : Int), ((0 : Int), ())))).1 == (2 : Int)) (stack_Stack_Downv1 (List.getD ts265 (Int.toNat n267) ((0 : Int), ((0 : Int), ((0 : Int), ())))).2.1 n326 n327 n328 n329 n330 n331 n332 b333 ns334
  (fun b895 n896 n897 n898 n899 n900 n901 n902 b903 ns904 => (stack_Stack_Lowv1 n896 n897 n898 n899 n900 n901 n902 b903 ns904
  (fun n905 n906 n907 n908 n909 n910 n911 n912 b913 ns914 => (cond_ (! (decide (n905 > n266))) (stack_Stack_Lowv1 n906 n907 n908 n909 n910 n911 n912 b913 ns914
  (fun n915 n916 n917 n918 n919 n920 n921 n922 b923 ns924 => (cond_ (! (decide (n915 < (0 : Int)))) (cond_ (! b895) (stack_Stack_SPv1 n916 n917 n918 n919 n920 n921 n922 b923 ns924
  (fun n925 n926 n927 n928 n929 n930 n931 n932 b933 ns934 => (cond_ (! (n925 != n296)) (stack_Stack_Segv1 n926 n927 n928 n929 n930 n931 n932 b933 ns934
  (fun t935 n936 n937 n938 n939 n940 n941 n942 b943 ns944 => (cond_ (! (! ((t935.1 == t325.1) && ((t935.2.1 == t325.2.1) && ((t935.2.2.1 == t325.2.2.1) && true))))) (stack_Stack_Lowv1 n936 n937 n938 n939 n940 n941 n942 b943 ns944
  (fun n945 n946 n947 n948 n949 n950 n951 n952 b953 ns954 => (cond_ (n945 != n266) (k1 false) (stack_Stack_Lowv1 n946 n947 n948 n949 n950 n951 n952 b953 ns954
  (fun n955 n956 n957 n958 n959 n960 n961 n962 b963 ns964 => (stack_Stack_Segv1 n956 n957 n958 n959 n960 n961 n962 b963 ns964
  (fun t965 n966 n967 n968 n969 n970 n971 n972 b973 ns974 => (stack_Stack_SPv1 n966 n967 n968 n969 n970 n971 n972 b973 ns974
  (fun n975 n976 n977 n978 n979 n980 n981 n982 b983 ns984 => (cond_ (! (decide (n975 < t965.1))) (stack_Stack_SPv1 n976 n977 n978 n979 n980 n981 n982 b983 ns984
  (fun n985 n986 n987 n988 n989 n990 n991 n992 b993 ns994 => (cond_ (! (decide (n985 > t965.2.2.1))) (cond_ (! (t965.2.1 != (IntKind.wrap .i64 (t965.1 + (64 : Int))))) (memory_Memory_Size b993 ns994
  (fun n995 b996 ns997 => (cond_ (decide (t965.2.2.1 > n995)) (k1 false) (law39_StackLow_L0v1 ts265 n955 (IntKind.wrap .i64 (n267 + (1 : Int))) b996 ns997 n986 n987 n988 n989 n990 n991 n992 k1 k2)))) (k1 false)) (k1 false)))) (k1 false))))))))))) (k1 false)))) (k1 false)))) (stack_Stack_Lowv1 n916 n917 n918 n919 n920 n921 n922 b923 ns924
  (fun n998 n999 n1000 n1001 n1002 n1003 n1004 n1005 b1006 ns1007 => (stack_Stack_Segv1 n999 n1000 n1001 n1002 n1003 n1004 n1005 b1006 ns1007
  (fun t1008 n1009 n1010 n1011 n1012 n1013 n1014 n1015 b1016 ns1017 => (stack_Stack_SPv1 n1009 n1010 n1011 n1012 n1013 n1014 n1015 b1016 ns1017
  (fun n1018 n1019 n1020 n1021 n1022 n1023 n1024 n1025 b1026 ns1027 => (cond_ (! (decide (n1018 < t1008.1))) (stack_Stack_SPv1 n1019 n1020 n1021 n1022 n1023 n1024 n1025 b1026 ns1027
  (fun n1028 n1029 n1030 n1031 n1032 n1033 n1034 n1035 b1036 ns1037 => (cond_ (! (decide (n1028 > t1008.2.2.1))) (cond_ (! (t1008.2.1 != (IntKind.wrap .i64 (t1008.1 + (64 : Int))))) (memory_Memory_Size b1036 ns1037
  (fun n1038 b1039 ns1040 => (cond_ (decide (t1008.2.2.1 > n1038)) (k1 false) (law39_StackLow_L0v1 ts265 n998 (IntKind.wrap .i64 (n267 + (1 : Int))) b1039 ns1040 n1029 n1030 n1031 n1032 n1033 n1034 n1035 k1 k2)))) (k1 false)) (k1 false)))) (k1 false))))))))) (k1 false)))) (k1 false)))))) (cond_ ((List.getD ts265 (Int.toNat n267) ((0 : Int), ((0 : Int), ((0 : Int), ())))).1 == (3 : Int)) (stack_Stack_Upv1 (List.getD ts265 (Int.toNat n267) ((0 : Int), ((0 : Int), ((0 : Int), ())))).2.1 n326 n327 n328 n329 n330 n331 n332 b333 ns334
  (fun b1071 n1072 n1073 n1074 n1075 n1076 n1077 n1078 b1079 ns1080 => (stack_Stack_Lowv1 n1072 n1073 n1074 n1075 n1076 n1077 n1078 b1079 ns1080
  (fun n1081 n1082 n1083 n1084 n1085 n1086 n1087 n1088 b1089 ns1090 => (cond_ (! (decide (n1081 > n266))) (stack_Stack_Lowv1 n1082 n1083 n1084 n1085 n1086 n1087 n1088 b1089 ns1090
  (fun n1091 n1092 n1093 n1094 n1095 n1096 n1097 n1098 b1099 ns1100 => (cond_ (! (decide (n1091 < (0 : Int)))) (cond_ (! b1071) (stack_Stack_SPv1 n1092 n1093 n1094 n1095 n1096 n1097 n1098 b1099 ns1100
  (fun n1101 n1102 n1103 n1104 n1105 n1106 n1107 n1108 b1109 ns1110 => (cond_ (! (n1101 != n296)) (stack_Stack_Segv1 n1102 n1103 n1104 n1105 n1106 n1107 n1108 b1109 ns1110
  (fun t1111 n1112 n1113 n1114 n1115 n1116 n1117 n1118 b1119 ns1120 => (cond_ (! (! ((t1111.1 == t325.1) && ((t1111.2.1 == t325.2.1) && ((t1111.2.2.1 == t325.2.2.1) && true))))) (stack_Stack_Lowv1 n1112 n1113 n1114 n1115 n1116 n1117 n1118 b1119 ns1120
  (fun n1121 n1122 n1123 n1124 n1125 n1126 n1127 n1128 b1129 ns1130 => (cond_ (n1121 != n266) (k1 false) (stack_Stack_Lowv1 n1122 n1123 n1124 n1125 n1126 n1127 n1128 b1129 ns1130
  (fun n1131 n1132 n1133 n1134 n1135 n1136 n1137 n1138 b1139 ns1140 => (stack_Stack_Segv1 n1132 n1133 n1134 n1135 n1136 n1137 n1138 b1139 ns1140
  (fun t1141 n1142 n1143 n1144 n1145 n1146 n1147 n1148 b1149 ns1150 => (stack_Stack_SPv1 n1142 n1143 n1144 n1145 n1146 n1147 n1148 b1149 ns1150
  (fun n1151 n1152 n1153 n1154 n1155 n1156 n1157 n1158 b1159 ns1160 => (cond_ (! (decide (n1151 < t1141.1))) (stack_Stack_SPv1 n1152 n1153 n1154 n1155 n1156 n1157 n1158 b1159 ns1160
  (fun n1161 n1162 n1163 n1164 n1165 n1166 n1167 n1168 b1169 ns1170 => (cond_ (! (decide (n1161 > t1141.2.2.1))) (cond_ (! (t1141.2.1 != (IntKind.wrap .i64 (t1141.1 + (64 : Int))))) (memory_Memory_Size b1169 ns1170
  (fun n1171 b1172 ns1173 => (cond_ (decide (t1141.2.2.1 > n1171)) (k1 false) (law39_StackLow_L0v1 ts265 n1131 (IntKind.wrap .i64 (n267 + (1 : Int))) b1172 ns1173 n1162 n1163 n1164 n1165 n1166 n1167 n1168 k1 k2)))) (k1 false)) (k1 false)))) (k1 false))))))))))) (k1 false)))) (k1 false)))) (stack_Stack_Lowv1 n1092 n1093 n1094 n1095 n1096 n1097 n1098 b1099 ns1100
  (fun n1174 n1175 n1176 n1177 n1178 n1179 n1180 n1181 b1182 ns1183 => (stack_Stack_Segv1 n1175 n1176 n1177 n1178 n1179 n1180 n1181 b1182 ns1183
  (fun t1184 n1185 n1186 n1187 n1188 n1189 n1190 n1191 b1192 ns1193 => (stack_Stack_SPv1 n1185 n1186 n1187 n1188 n1189 n1190 n1191 b1192 ns1193
  (fun n1194 n1195 n1196 n1197 n1198 n1199 n1200 n1201 b1202 ns1203 => (cond_ (! (decide (n1194 < t1184.1))) (stack_Stack_SPv1 n1195 n1196 n1197 n1198 n1199 n1200 n1201 b1202 ns1203
  (fun n1204 n1205 n1206 n1207 n1208 n1209 n1210 n1211 b1212 ns1213 => (cond_ (! (decide (n1204 > t1184.2.2.1))) (cond_ (! (t1184.2.1 != (IntKind.wrap .i64 (t1184.1 + (64 : Int))))) (memory_Memory_Size b1212 ns1213
  (fun n1214 b1215 ns1216 => (cond_ (decide (t1184.2.2.1 > n1214)) (k1 false) (law39_StackLow_L0v1 ts265 n1174 (IntKind.wrap .i64 (n267 + (1 : Int))) b1215 ns1216 n1205 n1206 n1207 n1208 n1209 n1210 n1211 k1 k2)))) (k1 false)) (k1 false)))) (k1 false))))))))) (k1 false)))) (k1 false)))))) (cond_ ((List.getD ts265 (Int.toNat n267) ((0 : Int), ((0 : Int), ((0 : Int), ())))).1 == (5 : Int)) (stack_Stack_Setv1 (List.getD ts265 (Int.toNat n267) ((0 : Int), ((0 : Int), ((0 : Int), ())))).2.1 (List.getD ts265 (Int.toNat n267) ((0 : Int), ((0 : Int), ((0 : Int), ())))).2.2.1 n326 n327 n328 n329 n330 n331 n332 b333 ns334
  (fun b1248 n1249 n1250 n1251 n1252 n1253 n1254 n1255 b1256 ns1257 => (stack_Stack_Lowv1 n1249 n1250 n1251 n1252 n1253 n1254 n1255 b1256 ns1257
  (fun n1258 n1259 n1260 n1261 n1262 n1263 n1264 n1265 b1266 ns1267 => (cond_ (! (decide (n1258 > n266))) (stack_Stack_Lowv1 n1259 n1260 n1261 n1262 n1263 n1264 n1265 b1266 ns1267
  (fun n1268 n1269 n1270 n1271 n1272 n1273 n1274 n1275 b1276 ns1277 => (cond_ (! (decide (n1268 < (0 : Int)))) (cond_ (! b1248) (stack_Stack_SPv1 n1269 n1270 n1271 n1272 n1273 n1274 n1275 b1276 ns1277
  (fun n1278 n1279 n1280 n1281 n1282 n1283 n1284 n1285 b1286 ns1287 => (cond_ (! (n1278 != n296)) (stack_Stack_Segv1 n1279 n1280 n1281 n1282 n1283 n1284 n1285 b1286 ns1287
  (fun t1288 n1289 n1290 n1291 n1292 n1293 n1294 n1295 b1296 ns1297 => (cond_ (! (! ((t1288.1 == t325.1) && ((t1288.2.1 == t325.2.1) && ((t1288.2.2.1 == t325.2.2.1) && true))))) (stack_Stack_Lowv1 n1289 n1290 n1291 n1292 n1293 n1294 n1295 b1296 ns1297
  (fun n1298 n1299 n1300 n1301 n1302 n1303 n1304 n1305 b1306 ns1307 => (cond_ (n1298 != n266) (k1 false) (stack_Stack_Lowv1 n1299 n1300 n1301 n1302 n1303 n1304 n1305 b1306 ns1307
  (fun n1308 n1309 n1310 n1311 n1312 n1313 n1314 n1315 b1316 ns1317 => (stack_Stack_Segv1 n1309 n1310 n1311 n1312 n1313 n1314 n1315 b1316 ns1317
  (fun t1318 n1319 n1320 n1321 n1322 n1323 n1324 n1325 b1326 ns1327 => (stack_Stack_SPv1 n1319 n1320 n1321 n1322 n1323 n1324 n1325 b1326 ns1327
  (fun n1328 n1329 n1330 n1331 n1332 n1333 n1334 n1335 b1336 ns1337 => (cond_ (! (decide (n1328 < t1318.1))) (stack_Stack_SPv1 n1329 n1330 n1331 n1332 n1333 n1334 n1335 b1336 ns1337
  (fun n1338 n1339 n1340 n1341 n1342 n1343 n1344 n1345 b1346 ns1347 => (cond_ (! (decide (n1338 > t1318.2.2.1))) (cond_ (! (t1318.2.1 != (IntKind.wrap .i64 (t1318.1 + (64 : Int))))) (memory_Memory_Size b1346 ns1347
  (fun n1348 b1349 ns1350 => (cond_ (decide (t1318.2.2.1 > n1348)) (k1 false) (law39_StackLow_L0v1 ts265 n1308 (IntKind.wrap .i64 (n267 + (1 : Int))) b1349 ns1350 n1339 n1340 n1341 n1342 n1343 n1344 n1345 k1 k2)))) (k1 false)) (k1 false)))) (k1 false))))))))))) (k1 false)))) (k1 false)))) (stack_Stack_Lowv1 n1269 n1270 n1271 n1272 n1273 n1274 n1275 b1276 ns1277
  (fun n1351 n1352 n1353 n1354 n1355 n1356 n1357 n1358 b1359 ns1360 => (stack_Stack_Segv1 n1352 n1353 n1354 n1355 n1356 n1357 n1358 b1359 ns1360
  (fun t1361 n1362 n1363 n1364 n1365 n1366 n1367 n1368 b1369 ns1370 => (stack_Stack_SPv1 n1362 n1363 n1364 n1365 n1366 n1367 n1368 b1369 ns1370
  (fun n1371 n1372 n1373 n1374 n1375 n1376 n1377 n1378 b1379 ns1380 => (cond_ (! (decide (n1371 < t1361.1))) (stack_Stack_SPv1 n1372 n1373 n1374 n1375 n1376 n1377 n1378 b1379 ns1380
  (fun n1381 n1382 n1383 n1384 n1385 n1386 n1387 n1388 b1389 ns1390 => (cond_ (! (decide (n1381 > t1361.2.2.1))) (cond_ (! (t1361.2.1 != (IntKind.wrap .i64 (t1361.1 + (64 : Int))))) (memory_Memory_Size b1389 ns1390
  (fun n1391 b1392 ns1393 => (cond_ (decide (t1361.2.2.1 > n1391)) (k1 false) (law39_StackLow_L0v1 ts265 n1351 (IntKind.wrap .i64 (n267 + (1 : Int))) b1392 ns1393 n1382 n1383 n1384 n1385 n1386 n1387 n1388 k1 k2)))) (k1 false)) (k1 false)))) (k1 false))))))))) (k1 false)))) (k1 false)))))) (cond_ ((List.getD ts265 (Int.toNat n267) ((0 : Int), ((0 : Int), ((0 : Int), ())))).1 == (6 : Int)) (stack_Stack_Spillv1 n326 n327 n328 n329 n330 n331 n332 b333 ns334
  (fun b1413 n1414 n1415 n1416 n1417 n1418 n1419 n1420 b1421 ns1422 => (stack_Stack_Lowv1 n1414 n1415 n1416 n1417 n1418 n1419 n1420 b1421 ns1422
  (fun n1423 n1424 n1425 n1426 n1427 n1428 n1429 n1430 b1431 ns1432 => (cond_ (! (decide (n1423 > n266))) (stack_Stack_Lowv1 n1424 n1425 n1426 n1427 n1428 n1429 n1430 b1431 ns1432
  (fun n1433 n1434 n1435 n1436 n1437 n1438 n1439 n1440 b1441 ns1442 => (cond_ (! (decide (n1433 < (0 : Int)))) (cond_ (! b1413) (stack_Stack_SPv1 n1434 n1435 n1436 n1437 n1438 n1439 n1440 b1441 ns1442
  (fun n1443 n1444 n1445 n1446 n1447 n1448 n1449 n1450 b1451 ns1452 => (cond_ (! (n1443 != n296)) (stack_Stack_Segv1 n1444 n1445 n1446 n1447 n1448 n1449 n1450 b1451 ns1452
  (fun t1453 n1454 n1455 n1456 n1457 n1458 n1459 n1460 b1461 ns1462 => (cond_ (! (! ((t1453.1 == t325.1) && ((t1453.2.1 == t325.2.1) && ((t1453.2.2.1 == t325.2.2.1) && true))))) (stack_Stack_Lowv1 n1454 n1455 n1456 n1457 n1458 n1459 n1460 b1461 ns1462
  (fun n1463 n1464 n1465 n1466 n1467 n1468 n1469 n1470 b1471 ns1472 => (cond_ (n1463 != n266) (k1 false) (stack_Stack_Lowv1 n1464 n1465 n1466 n1467 n1468 n1469 n1470 b1471 ns1472
  (fun n1473 n1474 n1475 n1476 n1477 n1478 n1479 n1480 b1481 ns1482 => (stack_Stack_Segv1 n1474 n1475 n1476 n1477 n1478 n1479 n1480 b1481 ns1482
  (fun t1483 n1484 n1485 n1486 n1487 n1488 n1489 n1490 b1491 ns1492 => (stack_Stack_SPv1 n1484 n1485 n1486 n1487 n1488 n1489 n1490 b1491 ns1492
  (fun n1493 n1494 n1495 n1496 n1497 n1498 n1499 n1500 b1501 ns1502 => (cond_ (! (decide (n1493 < t1483.1))) (stack_Stack_SPv1 n1494 n1495 n1496 n1497 n1498 n1499 n1500 b1501 ns1502
  (fun n1503 n1504 n1505 n1506 n1507 n1508 n1509 n1510 b1511 ns1512 => (cond_ (! (decide (n1503 > t1483.2.2.1))) (cond_ (! (t1483.2.1 != (IntKind.wrap .i64 (t1483.1 + (64 : Int))))) (memory_Memory_Size b1511 ns1512
  (fun n1513 b1514 ns1515 => (cond_ (decide (t1483.2.2.1 > n1513)) (k1 false) (law39_StackLow_L0v1 ts265 n1473 (IntKind.wrap .i64 (n267 + (1 : Int))) b1514 ns1515 n1504 n1505 n1506 n1507 n1508 n1509 n1510 k1 k2)))) (k1 false)) (k1 false)))) (k1 false))))))))))) (k1 false)))) (k1 false)))) (stack_Stack_Lowv1 n1434 n1435 n1436 n1437 n1438 n1439 n1440 b1441 ns1442
  (fun n1516 n1517 n1518 n1519 n1520 n1521 n1522 n1523 b1524 ns1525 => (stack_Stack_Segv1 n1517 n1518 n1519 n1520 n1521 n1522 n1523 b1524 ns1525
  (fun t1526 n1527 n1528 n1529 n1530 n1531 n1532 n1533 b1534 ns1535 => (stack_Stack_SPv1 n1527 n1528 n1529 n1530 n1531 n1532 n1533 b1534 ns1535
  (fun n1536 n1537 n1538 n1539 n1540 n1541 n1542 n1543 b1544 ns1545 => (cond_ (! (decide (n1536 < t1526.1))) (stack_Stack_SPv1 n1537 n1538 n1539 n1540 n1541 n1542 n1543 b1544 ns1545
  (fun n1546 n1547 n1548 n1549 n1550 n1551 n1552 n1553 b1554 ns1555 => (cond_ (! (decide (n1546 > t1526.2.2.1))) (cond_ (! (t1526.2.1 != (IntKind.wrap .i64 (t1526.1 + (64 : Int))))) (memory_Memory_Size b1554 ns1555
  (fun n1556 b1557 ns1558 => (cond_ (decide (t1526.2.2.1 > n1556)) (k1 false) (law39_StackLow_L0v1 ts265 n1516 (IntKind.wrap .i64 (n267 + (1 : Int))) b1557 ns1558 n1547 n1548 n1549 n1550 n1551 n1552 n1553 k1 k2)))) (k1 false)) (k1 false)))) (k1 false))))))))) (k1 false)))) (k1 false)))))) (stack_Stack_Growv1 (List.getD ts265 (Int.toNat n267) ((0 : Int), ((0 : Int), ((0 : Int), ())))).2.1 n326 n327 n328 n329 n330 n331 n332 b333 ns334
  (fun b1632 n1633 n1634 n1635 n1636 n1637 n1638 n1639 b1640 ns1641 => (stack_Stack_Lowv1 n1633 n1634 n1635 n1636 n1637 n1638 n1639 b1640 ns1641
  (fun n1642 n1643 n1644 n1645 n1646 n1647 n1648 n1649 b1650 ns1651 => (cond_ (! (decide (n1642 > n266))) (stack_Stack_Lowv1 n1643 n1644 n1645 n1646 n1647 n1648 n1649 b1650 ns1651
  (fun n1652 n1653 n1654 n1655 n1656 n1657 n1658 n1659 b1660 ns1661 => (cond_ (! (decide (n1652 < (0 : Int)))) (cond_ (! b1632) (stack_Stack_SPv1 n1653 n1654 n1655 n1656 n1657 n1658 n1659 b1660 ns1661
  (fun n1662 n1663 n1664 n1665 n1666 n1667 n1668 n1669 b1670 ns1671 => (cond_ (! (n1662 != n296)) (stack_Stack_Segv1 n1663 n1664 n1665 n1666 n1667 n1668 n1669 b1670 ns1671
  (fun t1672 n1673 n1674 n1675 n1676 n1677 n1678 n1679 b1680 ns1681 => (cond_ (! (! ((t1672.1 == t325.1) && ((t1672.2.1 == t325.2.1) && ((t1672.2.2.1 == t325.2.2.1) && true))))) (stack_Stack_Lowv1 n1673 n1674 n1675 n1676 n1677 n1678 n1679 b1680 ns1681
  (fun n1682 n1683 n1684 n1685 n1686 n1687 n1688 n1689 b1690 ns1691 => (cond_ (n1682 != n266) (k1 false) (stack_Stack_Lowv1 n1683 n1684 n1685 n1686 n1687 n1688 n1689 b1690 ns1691
  (fun n1692 n1693 n1694 n1695 n1696 n1697 n1698 n1699 b1700 ns1701 => (stack_Stack_Segv1 n1693 n1694 n1695 n1696 n1697 n1698 n1699 b1700 ns1701
  (fun t1702 n1703 n1704 n1705 n1706 n1707 n1708 n1709 b1710 ns1711 => (stack_Stack_SPv1 n1703 n1704 n1705 n1706 n1707 n1708 n1709 b1710 ns1711
  (fun n1712 n1713 n1714 n1715 n1716 n1717 n1718 n1719 b1720 ns1721 => (cond_ (! (decide (n1712 < t1702.1))) (stack_Stack_SPv1 n1713 n1714 n1715 n1716 n1717 n1718 n1719 b1720 ns1721
  (fun n1722 n1723 n1724 n1725 n1726 n1727 n1728 n1729 b1730 ns1731 => (cond_ (! (decide (n1722 > t1702.2.2.1))) (cond_ (! (t1702.2.1 != (IntKind.wrap .i64 (t1702.1 + (64 : Int))))) (memory_Memory_Size b1730 ns1731
  (fun n1732 b1733 ns1734 => (cond_ (decide (t1702.2.2.1 > n1732)) (k1 false) (law39_StackLow_L0v1 ts265 n1692 (IntKind.wrap .i64 (n267 + (1 : Int))) b1733 ns1734 n1723 n1724 n1725 n1726 n1727 n1728 n1729 k1 k2)))) (k1 false)) (k1 false)))) (k1 false))))))))))) (k1 false)))) (k1 false)))) (stack_Stack_Lowv1 n1653 n1654 n1655 n1656 n1657 n1658 n1659 b1660 ns1661
  (fun n1735 n1736 n1737 n1738 n1739 n1740 n1741 n1742 b1743 ns1744 => (stack_Stack_Segv1 n1736 n1737 n1738 n1739 n1740 n1741 n1742 b1743 ns1744
  (fun t1745 n1746 n1747 n1748 n1749 n1750 n1751 n1752 b1753 ns1754 => (stack_Stack_SPv1 n1746 n1747 n1748 n1749 n1750 n1751 n1752 b1753 ns1754
  (fun n1755 n1756 n1757 n1758 n1759 n1760 n1761 n1762 b1763 ns1764 => (cond_ (! (decide (n1755 < t1745.1))) (stack_Stack_SPv1 n1756 n1757 n1758 n1759 n1760 n1761 n1762 b1763 ns1764
  (fun n1765 n1766 n1767 n1768 n1769 n1770 n1771 n1772 b1773 ns1774 => (cond_ (! (decide (n1765 > t1745.2.2.1))) (cond_ (! (t1745.2.1 != (IntKind.wrap .i64 (t1745.1 + (64 : Int))))) (memory_Memory_Size b1773 ns1774
  (fun n1775 b1776 ns1777 => (cond_ (decide (t1745.2.2.1 > n1775)) (k1 false) (law39_StackLow_L0v1 ts265 n1735 (IntKind.wrap .i64 (n267 + (1 : Int))) b1776 ns1777 n1766 n1767 n1768 n1769 n1770 n1771 n1772 k1 k2)))) (k1 false)) (k1 false)))) (k1 false))))))))) (k1 false)))) (k1 false)))))
  (fun b1778 n1779 n1780 n1781 n1782 n1783 n1784 n1785 b1786 ns1787 => (stack_Stack_Lowv1 n1779 n1780 n1781 n1782 n1783 n1784 n1785 b1786 ns1787
  (fun n1788 n1789 n1790 n1791 n1792 n1793 n1794 n1795 b1796 ns1797 => (cond_ (! (decide (n1788 > n266))) (stack_Stack_Lowv1 n1789 n1790 n1791 n1792 n1793 n1794 n1795 b1796 ns1797
  (fun n1798 n1799 n1800 n1801 n1802 n1803 n1804 n1805 b1806 ns1807 => (cond_ (! (decide (n1798 < (0 : Int)))) (cond_ (! b1778) (stack_Stack_SPv1 n1799 n1800 n1801 n1802 n1803 n1804 n1805 b1806 ns1807
  (fun n1808 n1809 n1810 n1811 n1812 n1813 n1814 n1815 b1816 ns1817 => (cond_ (! (n1808 != n296)) (stack_Stack_Segv1 n1809 n1810 n1811 n1812 n1813 n1814 n1815 b1816 ns1817
  (fun t1818 n1819 n1820 n1821 n1822 n1823 n1824 n1825 b1826 ns1827 => (cond_ (! (! ((t1818.1 == t325.1) && ((t1818.2.1 == t325.2.1) && ((t1818.2.2.1 == t325.2.2.1) && true))))) (stack_Stack_Lowv1 n1819 n1820 n1821 n1822 n1823 n1824 n1825 b1826 ns1827
  (fun n1828 n1829 n1830 n1831 n1832 n1833 n1834 n1835 b1836 ns1837 => (cond_ (n1828 != n266) (k1 false) (stack_Stack_Lowv1 n1829 n1830 n1831 n1832 n1833 n1834 n1835 b1836 ns1837
  (fun n1838 n1839 n1840 n1841 n1842 n1843 n1844 n1845 b1846 ns1847 => (stack_Stack_Segv1 n1839 n1840 n1841 n1842 n1843 n1844 n1845 b1846 ns1847
  (fun t1848 n1849 n1850 n1851 n1852 n1853 n1854 n1855 b1856 ns1857 => (stack_Stack_SPv1 n1849 n1850 n1851 n1852 n1853 n1854 n1855 b1856 ns1857
  (fun n1858 n1859 n1860 n1861 n1862 n1863 n1864 n1865 b1866 ns1867 => (cond_ (! (decide (n1858 < t1848.1))) (stack_Stack_SPv1 n1859 n1860 n1861 n1862 n1863 n1864 n1865 b1866 ns1867
  (fun n1868 n1869 n1870 n1871 n1872 n1873 n1874 n1875 b1876 ns1877 => (cond_ (! (decide (n1868 > t1848.2.2.1))) (cond_ (! (t1848.2.1 != (IntKind.wrap .i64 (t1848.1 + (64 : Int))))) (memory_Memory_Size b1876 ns1877
  (fun n1878 b1879 ns1880 => (cond_ (decide (t1848.2.2.1 > n1878)) (k1 false) (law39_StackLow_L0v1 ts265 n1838 (IntKind.wrap .i64 (n267 + (1 : Int))) b1879 ns1880 n1869 n1870 n1871 n1872 n1873 n1874 n1875 k1 k2)))) (k1 false)) (k1 false)))) (k1 false))))))))))) (k1 false)))) (k1 false)))) (stack_Stack_Lowv1 n1799 n1800 n1801 n1802 n1803 n1804 n1805 b1806 ns1807
  (fun n1881 n1882 n1883 n1884 n1885 n1886 n1887 n1888 b1889 ns1890 => (stack_Stack_Segv1 n1882 n1883 n1884 n1885 n1886 n1887 n1888 b1889 ns1890
  (fun t1891 n1892 n1893 n1894 n1895 n1896 n1897 n1898 b1899 ns1900 => (stack_Stack_SPv1 n1892 n1893 n1894 n1895 n1896 n1897 n1898 b1899 ns1900
  (fun n1901 n1902 n1903 n1904 n1905 n1906 n1907 n1908 b1909 ns1910 => (cond_ (! (decide (n1901 < t1891.1))) (stack_Stack_SPv1 n1902 n1903 n1904 n1905 n1906 n1907 n1908 b1909 ns1910
  (fun n1911 n1912 n1913 n1914 n1915 n1916 n1917 n1918 b1919 ns1920 => (cond_ (! (decide (n1911 > t1891.2.2.1))) (cond_ (! (t1891.2.1 != (IntKind.wrap .i64 (t1891.1 + (64 : Int))))) (memory_Memory_Size b1919 ns1920
  (fun n1921 b1922 ns1923 => (cond_ (decide (t1891.2.2.1 > n1921)) (k1 false) (law39_StackLow_L0v1 ts265 n1881 (IntKind.wrap .i64 (n267 + (1 : Int))) b1922 ns1923 n1912 n1913 n1914 n1915 n1916 n1917 n1918 k1 k2)))) (k1 false)) (k1 false)))) (k1 false))))))))) (k1 false)))) (k1 false)))))))))))))))) none) (k2))
noncomputable def law39_StackLow_L0v1 : Nat → Tc0 → Int → Int → Bool → (List Int) → Int → Int → Int → Int → Int → Int → Int → (Bool → Option Bool) → (Option Bool) → Option Bool
  | 0 => fun _ _ _ _ _ _ _ _ _ _ _ _ _ _ => none
  | n + 1 => law39_StackLow_L0v1.body (law39_StackLow_L0v1 n) stack_Stack_SPv1 stack_Stack_Segv1 stack_Stack_Pushv1 stack_Stack_Lowv1 memory_Memory_Size stack_Stack_Popv1 stack_Stack_Downv1 stack_Stack_Upv1 stack_Stack_Setv1 stack_Stack_Spillv1 stack_Stack_Growv1
noncomputable def law39_StackLow_L0v1.get (F : Tc0 → Int → Int → Bool → (List Int) → Int → Int → Int → Int → Int → Int → Int → (Bool → Option Bool) → (Option Bool) → Option Bool) (e : Option Bool) (st : St) (k : KE) : Option Bool := match st with
  | ⟨sl, hp, m⟩ => match Nat.beq m 2, pickS 158 [1, 5, 6, 8, 9] sl, hp with
    | true, some [(.bv 0 47 (.st [(.int .i64), (.int .i64), (.int .i64)]) ts265), (.ptr [1, 0] 0 0), (.ptr [1, 2] 0 0), (.d ⟨(.int .i64), n266⟩), (.d ⟨(.int .i64), n267⟩)], [([1, 0], ⟨61, 2, (.mix [(.agg [(.ref [1, 1]), (.d ⟨.bool, b268⟩)])])⟩), ([1, 1], ⟨2, 1, (.data (.int .i64) ns269)⟩), ([1, 2], ⟨53, 8, (.mix [(.agg [(.ptr [1, 0] 0 0), (.d ⟨(.int .i64), n270⟩), (.d ⟨(.int .i64), n271⟩), (.d ⟨(.int .i64), n272⟩), (.d ⟨(.int .i64), n273⟩), (.d ⟨(.int .i64), n274⟩), (.d ⟨(.int .i64), n275⟩), (.d ⟨(.int .i64), n276⟩)])])⟩)] => F ts265 n266 n267 b268 ns269 n270 n271 n272 n273 n274 n275 n276 (fun y0 => k .ret ⟨fillS 158 [4] [(.d ⟨.bool, y0⟩)], [], 2⟩) (k (.exit 0) ⟨fillS 158 [] [], [], 2⟩)
    | _, _, _ => e
noncomputable def law39_StackLow_L0v1.calls (F0 : Int → Int → Int → Int → Int → Int → Int → Bool → (List Int) → (Int → Int → Int → Int → Int → Int → Int → Int → Bool → (List Int) → Option Bool) → Option Bool) (F1 : Int → Int → Int → Int → Int → Int → Int → Bool → (List Int) → ((Int × Int × Int × Unit) → Int → Int → Int → Int → Int → Int → Int → Bool → (List Int) → Option Bool) → Option Bool) (F2 : Int → Int → Int → Int → Int → Int → Int → Int → Bool → (List Int) → (Bool → Int → Int → Int → Int → Int → Int → Int → Bool → (List Int) → Option Bool) → Option Bool) (F3 : Int → Int → Int → Int → Int → Int → Int → Bool → (List Int) → (Int → Int → Int → Int → Int → Int → Int → Int → Bool → (List Int) → Option Bool) → Option Bool) (F4 : Bool → (List Int) → (Int → Bool → (List Int) → Option Bool) → Option Bool) (F5 : Int → Int → Int → Int → Int → Int → Int → Bool → (List Int) → (Int → Bool → Int → Int → Int → Int → Int → Int → Int → Bool → (List Int) → Option Bool) → Option Bool) (F6 : Int → Int → Int → Int → Int → Int → Int → Int → Bool → (List Int) → (Bool → Int → Int → Int → Int → Int → Int → Int → Bool → (List Int) → Option Bool) → Option Bool) (F7 : Int → Int → Int → Int → Int → Int → Int → Int → Bool → (List Int) → (Bool → Int → Int → Int → Int → Int → Int → Int → Bool → (List Int) → Option Bool) → Option Bool) (F8 : Int → Int → Int → Int → Int → Int → Int → Int → Int → Bool → (List Int) → (Bool → Int → Int → Int → Int → Int → Int → Int → Bool → (List Int) → Option Bool) → Option Bool) (F9 : Int → Int → Int → Int → Int → Int → Int → Bool → (List Int) → (Bool → Int → Int → Int → Int → Int → Int → Int → Bool → (List Int) → Option Bool) → Option Bool) (F10 : Int → Int → Int → Int → Int → Int → Int → Int → Bool → (List Int) → (Bool → Int → Int → Int → Int → Int → Int → Int → Bool → (List Int) → Option Bool) → (Bool → Int → Int → Int → Int → Int → Int → Int → Bool → (List Int) → Option Bool) → Option Bool) : RecF := fun g a h k => (stack_Stack_SPv1.get F0 (stack_Stack_Segv1.get F1 (stack_Stack_Pushv1.get F2 (stack_Stack_Lowv1.get F3 (memory_Memory_Size.get F4 (stack_Stack_Popv1.get F5 (stack_Stack_Downv1.get F6 (stack_Stack_Upv1.get F7 (stack_Stack_Setv1.get F8 (stack_Stack_Spillv1.get F9 (stack_Stack_Growv1.get F10 none g a h k) g a h k) g a h k) g a h k) g a h k) g a h k) g a h k) g a h k) g a h k) g a h k) g a h k)
noncomputable def law39_StackLow_L0v1.loops : LoopF := fun b => none
set_option maxRecDepth 100000 in
theorem law39_StackLow_L0v1.step (S : Tc0 → Int → Int → Bool → (List Int) → Int → Int → Int → Int → Int → Int → Int → (Bool → Option Bool) → (Option Bool) → Option Bool) (F0 : Int → Int → Int → Int → Int → Int → Int → Bool → (List Int) → (Int → Int → Int → Int → Int → Int → Int → Int → Bool → (List Int) → Option Bool) → Option Bool) (F1 : Int → Int → Int → Int → Int → Int → Int → Bool → (List Int) → ((Int × Int × Int × Unit) → Int → Int → Int → Int → Int → Int → Int → Bool → (List Int) → Option Bool) → Option Bool) (F2 : Int → Int → Int → Int → Int → Int → Int → Int → Bool → (List Int) → (Bool → Int → Int → Int → Int → Int → Int → Int → Bool → (List Int) → Option Bool) → Option Bool) (F3 : Int → Int → Int → Int → Int → Int → Int → Bool → (List Int) → (Int → Int → Int → Int → Int → Int → Int → Int → Bool → (List Int) → Option Bool) → Option Bool) (F4 : Bool → (List Int) → (Int → Bool → (List Int) → Option Bool) → Option Bool) (F5 : Int → Int → Int → Int → Int → Int → Int → Bool → (List Int) → (Int → Bool → Int → Int → Int → Int → Int → Int → Int → Bool → (List Int) → Option Bool) → Option Bool) (F6 : Int → Int → Int → Int → Int → Int → Int → Int → Bool → (List Int) → (Bool → Int → Int → Int → Int → Int → Int → Int → Bool → (List Int) → Option Bool) → Option Bool) (F7 : Int → Int → Int → Int → Int → Int → Int → Int → Bool → (List Int) → (Bool → Int → Int → Int → Int → Int → Int → Int → Bool → (List Int) → Option Bool) → Option Bool) (F8 : Int → Int → Int → Int → Int → Int → Int → Int → Int → Bool → (List Int) → (Bool → Int → Int → Int → Int → Int → Int → Int → Bool → (List Int) → Option Bool) → Option Bool) (F9 : Int → Int → Int → Int → Int → Int → Int → Bool → (List Int) → (Bool → Int → Int → Int → Int → Int → Int → Int → Bool → (List Int) → Option Bool) → Option Bool) (F10 : Int → Int → Int → Int → Int → Int → Int → Int → Bool → (List Int) → (Bool → Int → Int → Int → Int → Int → Int → Int → Bool → (List Int) → Option Bool) → (Bool → Int → Int → Int → Int → Int → Int → Int → Bool → (List Int) → Option Bool) → Option Bool) (ts265 : Tc0) (n266 : Int) (n267 : Int) (b268 : Bool) (ns269 : List Int) (n270 : Int) (n271 : Int) (n272 : Int) (n273 : Int) (n274 : Int) (n275 : Int) (n276 : Int) (k : KE) : execL Try.prog ht 6 (callfOf (law39_StackLow_L0v1.calls F0 F1 F2 F3 F4 F5 F6 F7 F8 F9 F10)) (law39_StackLow_L0v1.loops) 0 (loopAt 0 (codeOf Try.f6)) ⟨fillS 158 [1, 5, 6, 8, 9] [(.bv 0 47 (.st [(.int .i64), (.int .i64), (.int .i64)]) ts265), (.ptr [1, 0] 0 0), (.ptr [1, 2] 0 0), (.d ⟨(.int .i64), n266⟩), (.d ⟨(.int .i64), n267⟩)], [([1, 0], ⟨61, 2, (.mix [(.agg [(.ref [1, 1]), (.d ⟨.bool, b268⟩)])])⟩), ([1, 1], ⟨2, 1, (.data (.int .i64) ns269)⟩), ([1, 2], ⟨53, 8, (.mix [(.agg [(.ptr [1, 0] 0 0), (.d ⟨(.int .i64), n270⟩), (.d ⟨(.int .i64), n271⟩), (.d ⟨(.int .i64), n272⟩), (.d ⟨(.int .i64), n273⟩), (.d ⟨(.int .i64), n274⟩), (.d ⟨(.int .i64), n275⟩), (.d ⟨(.int .i64), n276⟩)])])⟩)], 2⟩ (again (law39_StackLow_L0v1.get S none) (plan Try.prog (ht 6 0)) k) = law39_StackLow_L0v1.body S F0 F1 F2 F3 F4 F5 F6 F7 F8 F9 F10 ts265 n266 n267 b268 ns269 n270 n271 n272 n273 n274 n275 n276 (fun y0 => k .ret ⟨fillS 158 [4] [(.d ⟨.bool, y0⟩)], [], 2⟩) (k (.exit 0) ⟨fillS 158 [] [], [], 2⟩) := by kernel_rfl
theorem law39_StackLow_L0v1.ok (d : Nat) (hd : 6 ≤ d) : ∀ n st k, law39_StackLow_L0v1.get (law39_StackLow_L0v1 n) none st k = some true → iter n (plan Try.prog (ht 6 0)) (fun st k => execK Try.prog ht 6 (callfOf (callK Try.prog ht d)) 0 (loopAt 0 (codeOf Try.f6)) st k) st k = some true :=
  loop_ok (lfn := fun n st k => law39_StackLow_L0v1.get (law39_StackLow_L0v1 n) none st k) (rec := law39_StackLow_L0v1.calls stack_Stack_SPv1 stack_Stack_Segv1 stack_Stack_Pushv1 stack_Stack_Lowv1 memory_Memory_Size stack_Stack_Popv1 stack_Stack_Downv1 stack_Stack_Upv1 stack_Stack_Setv1 stack_Stack_Spillv1 stack_Stack_Growv1) (fun g a h k hx => by
    rcases stack_Stack_SPv1.look d (by omega) hx with hx | hx
    rotate_left
    · exact hx
    rcases stack_Stack_Segv1.look d (by omega) hx with hx | hx
    rotate_left
    · exact hx
    rcases stack_Stack_Pushv1.look d (by omega) hx with hx | hx
    rotate_left
    · exact hx
    rcases stack_Stack_Lowv1.look d (by omega) hx with hx | hx
    rotate_left
    · exact hx
    rcases memory_Memory_Size.look d (by omega) hx with hx | hx
    rotate_left
    · exact hx
    rcases stack_Stack_Popv1.look d (by omega) hx with hx | hx
    rotate_left
    · exact hx
    rcases stack_Stack_Downv1.look d (by omega) hx with hx | hx
    rotate_left
    · exact hx
    rcases stack_Stack_Upv1.look d (by omega) hx with hx | hx
    rotate_left
    · exact hx
    rcases stack_Stack_Setv1.look d (by omega) hx with hx | hx
    rotate_left
    · exact hx
    rcases stack_Stack_Spillv1.look d (by omega) hx with hx | hx
    rotate_left
    · exact hx
    rcases stack_Stack_Growv1.look d (by omega) hx with hx | hx
    rotate_left
    · exact hx
    cases hx) (loopf := law39_StackLow_L0v1.loops) (by
    have e : loopsOf (law39_StackLow_L0v1.loops) 0 (loopAt 0 (codeOf Try.f6)) = [] := by kernel_rfl
    rw [e]
    intro p hp
    cases hp) (fun st k h => by
    obtain ⟨sl, hp, m⟩ := st
    unfold law39_StackLow_L0v1.get at h
    dsimp only at h
    split at h
    · have h' : (none : Option Bool) = some true := h
      cases h'
    · cases h) (fun n st k h => by
    obtain ⟨sl, hp, m⟩ := st
    unfold law39_StackLow_L0v1.get at h
    dsimp only at h
    split at h
    · rename_i h1 h2
      obtain rfl := pickS_ok h2
      obtain rfl := Nat.eq_of_beq_eq_true h1
      exact (law39_StackLow_L0v1.step (law39_StackLow_L0v1 n) stack_Stack_SPv1 stack_Stack_Segv1 stack_Stack_Pushv1 stack_Stack_Lowv1 memory_Memory_Size stack_Stack_Popv1 stack_Stack_Downv1 stack_Stack_Upv1 stack_Stack_Setv1 stack_Stack_Spillv1 stack_Stack_Growv1 _ _ _ _ _ _ _ _ _ _ _ _ k).trans h
    · cases h)
theorem law39_StackLow_L0v1.look {F : Tc0 → Int → Int → Bool → (List Int) → Int → Int → Int → Int → Int → Int → Int → (Bool → Option Bool) → (Option Bool) → Option Bool} {e : Option Bool} {st : St} {k : KE} (hx : law39_StackLow_L0v1.get F e st k = some true) : e = some true ∨ law39_StackLow_L0v1.get F none st k = some true := by
  obtain ⟨sl, hp, m⟩ := st
  unfold law39_StackLow_L0v1.get at hx ⊢
  dsimp only at hx ⊢
  split at hx
  · exact .inr hx
  · exact .inl hx
/-- function 6: sheerleg/sheerleglaw39.StackLow -/
noncomputable def law39_StackLow.body (law39_known : (Bool → Option Bool) → Option Bool) (memory_New : (Bool → (List Int) → Option Bool) → Option Bool) (stack_New : Int → Bool → (List Int) → (Bool → Bool → (List Int) → Option Bool) → (Bool → Bool → (List Int) → Int → Int → Int → Int → Int → Int → Int → Option Bool) → (Bool → Bool → (List Int) → Option Bool) → (Bool → Bool → (List Int) → Int → Int → Int → Int → Int → Int → Int → Option Bool) → Option Bool) (stack_Stack_Low : (Int → Option Bool) → Option Bool) (stack_Stack_Lowv1 : Int → Int → Int → Int → Int → Int → Int → Bool → (List Int) → (Int → Int → Int → Int → Int → Int → Int → Int → Bool → (List Int) → Option Bool) → Option Bool) (law39_StackLow_L0 : Tc0 → Int → Int → Bool → (List Int) → (Bool → Option Bool) → (Option Bool) → Option Bool) (law39_StackLow_L0v1 : Tc0 → Int → Int → Bool → (List Int) → Int → Int → Int → Int → Int → Int → Int → (Bool → Option Bool) → (Option Bool) → Option Bool) (n0 : Int) (ts1 : Tc0) (k1 : Bool → Option Bool) : Option Bool :=
  (cond_ (! (decide ((((List.length ts1) : Nat) : Int) > (60 : Int)))) (cond_ (decide (n0 > (3000 : Int))) (law39_known
  (fun b2 => (k1 b2))) (memory_New
  (fun b4 ns5 => (stack_New n0 b4 ns5
  (fun b24 b25 ns26 => (cond_ (! b24) (law39_known
  (fun b27 => (k1 b27))) (stack_Stack_Low
  (fun n29 => (law39_StackLow_L0 ts1 n29 (0 : Int) b25 ns26
  (fun b215 => (k1 b215))
  (law39_known
  (fun b216 => (k1 b216))))))))
  (fun b217 b218 ns219 n220 n221 n222 n223 n224 n225 n226 => (cond_ (! b217) (k1 false) (stack_Stack_Lowv1 n220 n221 n222 n223 n224 n225 n226 b218 ns219
  (fun n255 n256 n257 n258 n259 n260 n261 n262 b263 ns264 => (law39_StackLow_L0v1 ts1 n255 (0 : Int) b263 ns264 n256 n257 n258 n259 n260 n261 n262
  (fun b1924 => (k1 b1924))
  (law39_known
  (fun b1925 => (k1 b1925))))))))
  (fun b1926 b1927 ns1928 => (cond_ (! b1926) (law39_known
  (fun b1929 => (k1 b1929))) (stack_Stack_Low
  (fun n1930 => (law39_StackLow_L0 ts1 n1930 (0 : Int) b1927 ns1928
  (fun b1931 => (k1 b1931))
  (law39_known
  (fun b1932 => (k1 b1932))))))))
  (fun b1933 b1934 ns1935 n1936 n1937 n1938 n1939 n1940 n1941 n1942 => (cond_ (! b1933) (k1 false) (stack_Stack_Lowv1 n1936 n1937 n1938 n1939 n1940 n1941 n1942 b1934 ns1935
  (fun n1943 n1944 n1945 n1946 n1947 n1948 n1949 n1950 b1951 ns1952 => (law39_StackLow_L0v1 ts1 n1943 (0 : Int) b1951 ns1952 n1944 n1945 n1946 n1947 n1948 n1949 n1950
  (fun b1953 => (k1 b1953))
  (law39_known
  (fun b1954 => (k1 b1954)))))))))))) (law39_known
  (fun b1955 => (k1 b1955))))
noncomputable def law39_StackLow (n0 : Int) (ts1 : Tc0) (k1 : Bool → Option Bool) : Option Bool := law39_StackLow.body law39_known memory_New stack_New stack_Stack_Low stack_Stack_Lowv1 (law39_StackLow_L0 ROUNDS) (law39_StackLow_L0v1 ROUNDS) n0 ts1 k1
noncomputable def law39_StackLow.get (F : Int → Tc0 → (Bool → Option Bool) → Option Bool) (e : Option Bool) (g : FuncId) (a : List AV) (h : Heap) (k : KR) : Option Bool := match g, a, h with
  | 6, [(.d ⟨(.int .i64), n0⟩), (.bv 0 47 (.st [(.int .i64), (.int .i64), (.int .i64)]) ts1)], [] => F n0 ts1 (fun y0 => k (.d ⟨.bool, y0⟩) [])
  | _, _, _ => e
noncomputable def law39_StackLow.calls (F0 : (Bool → Option Bool) → Option Bool) (F1 : (Bool → (List Int) → Option Bool) → Option Bool) (F2 : Int → Bool → (List Int) → (Bool → Bool → (List Int) → Option Bool) → (Bool → Bool → (List Int) → Int → Int → Int → Int → Int → Int → Int → Option Bool) → (Bool → Bool → (List Int) → Option Bool) → (Bool → Bool → (List Int) → Int → Int → Int → Int → Int → Int → Int → Option Bool) → Option Bool) (F3 : (Int → Option Bool) → Option Bool) (F4 : Int → Int → Int → Int → Int → Int → Int → Bool → (List Int) → (Int → Int → Int → Int → Int → Int → Int → Int → Bool → (List Int) → Option Bool) → Option Bool) : RecF := fun g a h k => (law39_known.get F0 (memory_New.get F1 (stack_New.get F2 (stack_Stack_Low.get F3 (stack_Stack_Lowv1.get F4 none g a h k) g a h k) g a h k) g a h k) g a h k)
noncomputable def law39_StackLow.loops (L0 : Tc0 → Int → Int → Bool → (List Int) → (Bool → Option Bool) → (Option Bool) → Option Bool) (L1 : Tc0 → Int → Int → Bool → (List Int) → Int → Int → Int → Int → Int → Int → Int → (Bool → Option Bool) → (Option Bool) → Option Bool) : LoopF := fun b => match Nat.beq b 0 with | true => some (fun st k => (law39_StackLow_L0.get L0 (law39_StackLow_L0v1.get L1 none st k) st k)) | false => none
set_option maxRecDepth 100000 in
theorem law39_StackLow.eq (F0 : (Bool → Option Bool) → Option Bool) (F1 : (Bool → (List Int) → Option Bool) → Option Bool) (F2 : Int → Bool → (List Int) → (Bool → Bool → (List Int) → Option Bool) → (Bool → Bool → (List Int) → Int → Int → Int → Int → Int → Int → Int → Option Bool) → (Bool → Bool → (List Int) → Option Bool) → (Bool → Bool → (List Int) → Int → Int → Int → Int → Int → Int → Int → Option Bool) → Option Bool) (F3 : (Int → Option Bool) → Option Bool) (F4 : Int → Int → Int → Int → Int → Int → Int → Bool → (List Int) → (Int → Int → Int → Int → Int → Int → Int → Int → Bool → (List Int) → Option Bool) → Option Bool) (L0 : Tc0 → Int → Int → Bool → (List Int) → (Bool → Option Bool) → (Option Bool) → Option Bool) (L1 : Tc0 → Int → Int → Bool → (List Int) → Int → Int → Int → Int → Int → Int → Int → (Bool → Option Bool) → (Option Bool) → Option Bool) (n0 : Int) (ts1 : Tc0) (k : KR) : execL Try.prog ht 6 (callfOf (law39_StackLow.calls F0 F1 F2 F3 F4)) (law39_StackLow.loops L0 L1) 0 (codeOf Try.f6) ⟨[(.d ⟨(.int .i64), n0⟩), (.bv 0 47 (.st [(.int .i64), (.int .i64), (.int .i64)]) ts1)] ++ List.replicate (Try.f6.ntmps - ([(.d ⟨(.int .i64), n0⟩), (.bv 0 47 (.st [(.int .i64), (.int .i64), (.int .i64)]) ts1)] : List AV).length) .undef, [], 2⟩ (leave Try.prog Try.f6 k) = law39_StackLow.body F0 F1 F2 F3 F4 L0 L1 n0 ts1 (fun y0 => k (.d ⟨.bool, y0⟩) []) := by kernel_rfl
theorem law39_StackLow.ok (d : Nat) (hd : 61 ≤ d) (n0 : Int) (ts1 : Tc0) (k : KR) (hx : law39_StackLow n0 ts1 (fun y0 => k (.d ⟨.bool, y0⟩) []) = some true) : callK Try.prog ht d 6 [(.d ⟨(.int .i64), n0⟩), (.bv 0 47 (.st [(.int .i64), (.int .i64), (.int .i64)]) ts1)] [] k = some true := by
  obtain ⟨d, rfl⟩ : ∃ e, d = e + 1 := ⟨d - 1, by omega⟩
  exact fn_ok (c := codeOf Try.f6) Try.func6 (by kernel_rfl) (rec := law39_StackLow.calls law39_known memory_New stack_New stack_Stack_Low stack_Stack_Lowv1) (fun g a h k hx => by
    rcases law39_known.look d (by omega) hx with hx | hx
    rotate_left
    · exact hx
    rcases memory_New.look d (by omega) hx with hx | hx
    rotate_left
    · exact hx
    rcases stack_New.look d (by omega) hx with hx | hx
    rotate_left
    · exact hx
    rcases stack_Stack_Low.look d (by omega) hx with hx | hx
    rotate_left
    · exact hx
    rcases stack_Stack_Lowv1.look d (by omega) hx with hx | hx
    rotate_left
    · exact hx
    cases hx) (loopf := law39_StackLow.loops (law39_StackLow_L0 ROUNDS) (law39_StackLow_L0v1 ROUNDS)) (by
    have e : loopsOf (law39_StackLow.loops (law39_StackLow_L0 ROUNDS) (law39_StackLow_L0v1 ROUNDS)) 0 (codeOf Try.f6) = [(0, loopAt 0 (codeOf Try.f6))] := by kernel_rfl
    rw [e]
    intro p hp
    simp only [List.mem_cons, List.not_mem_nil, or_false] at hp
    rcases hp with rfl
    · refine loopRef_of (callf := callfOf (callK Try.prog ht d)) (callfOf_ref (callK_mono d)) fun lf st k hb hx => ?_
      cases hb
      rcases law39_StackLow_L0.look hx with hx | hx
      rotate_left
      · exact law39_StackLow_L0.ok d (by omega) _ _ _ hx
      rcases law39_StackLow_L0v1.look hx with hx | hx
      rotate_left
      · exact law39_StackLow_L0v1.ok d (by omega) _ _ _ hx
      cases hx) ((law39_StackLow.eq law39_known memory_New stack_New stack_Stack_Low stack_Stack_Lowv1 (law39_StackLow_L0 ROUNDS) (law39_StackLow_L0v1 ROUNDS) n0 ts1 k).trans hx)
theorem law39_StackLow.look (d : Nat) (hd : 61 ≤ d) {e : Option Bool} {g : FuncId} {a : List AV} {h : Heap} {k : KR} (hx : law39_StackLow.get law39_StackLow e g a h k = some true) : e = some true ∨ callK Try.prog ht d g a h k = some true := by
  unfold law39_StackLow.get at hx
  split at hx
  · exact .inr (law39_StackLow.ok d hd _ _ _ hx)
  · exact .inl hx
end Go.Proofs.Ytefhednjdlblpaa.l
