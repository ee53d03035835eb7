/- What the functions of this program give, on the abstract machine. -/
import Derived.Test.YtcieamgbfameoaaGreatDoorMachineB
import Derived.Test.YtcieamgbfameoaaGreatDoorMachineC
set_option linter.unusedVariables false
set_option linter.unusedSimpArgs false
set_option maxRecDepth 100000
namespace Go.AM.IR
open Go Go.AM
abbrev LO := List AOper
abbrev LI := List AItem
abbrev Rg (a : LO) : ACode := .region a false
abbrev Rd (a : LO) : ACode := .region a true
abbrev Sq := ACode.seq
abbrev Sk := ACode.skip
abbrev Rt := ACode.ret
abbrev Cn (n : Nat) (a b : ACode) : ACode := .cond (.t n) a b
abbrev Bk := ACode.block
abbrev Xt := ACode.exit
abbrev Rr (a : LO) : ACode := .seq (.region a false) .ret
abbrev Cx (n e : Nat) : ACode := .cond (.t n) .skip (.exit e)
abbrev Ci (n : Nat) (a : ACode) : ACode := .cond (.t n) a .skip
abbrev Sr (a : LO) (b : ACode) : ACode := .seq (.region a false) b
abbrev Bl (n : Nat) (a : ACode) : ACode := .block n (.loop a)
abbrev zz0:List AV:=[.int .i64 0, .int .i64 0, .int .i64 0, .int .i64 0, .int .u32 0, .con (.slice none 0 0), .con (.slice none 0 0), .int .i64 0, .con (.slice none 0 0), .int .u32 0, .bool false, .int .i64 0, .bool false, .int .i64 0, .bool false, .bool false, .int .i64 0, .int .u32 0, .con (.slice none 0 0), .bool false, .int .u32 0, .con (.slice none 0 0), .con (.slice none 0 0), .con (.slice none 0 0), .int .i64 0, .int .i64 0, .con (.slice none 0 0)]
abbrev zz1:List AV:=[.int .u8 0]
abbrev zz2:List AV:=[.int .i64 0, .con (.slice none 0 0), .int .u32 0, .bool false, .int .i64 0, .bool false, .int .i64 0, .bool false, .bool false, .int .i64 0, .int .u32 0, .con (.slice none 0 0), .bool false, .int .u32 0, .con (.slice none 0 0), .con (.slice none 0 0)]
abbrev zz3:List AV:=[.int .i64 0, .con (.slice none 0 0)]
abbrev zz4:List AV:=[.int .u32 0, .int .i64 0]
abbrev zz5:List AV:=[.con (.slice none 0 0)]
abbrev zz6:List AV:=[.int .i64 0]
abbrev zz7:List AV:=[.con (.slice none 0 0), .con (.slice none 0 0)]
def awf:LO:=[Mc 4 (.bool false)]
def awe:LO:=[Mv 15 0,Ln 16 0 15,Bc 17 .gtr 16 5000]
def awd:LO:=[Ct 18 192 [],Mv 4 18]
def awc:LO:=[Mv 20 0,Mv 21 1,Ct 22 194 [20, 21],Mv 19 22,Ex 23 19 0,Ex 24 19 1,Ex 25 19 2,Ex 26 19 3,Op 5 (.alloc (.agg zz0)),Op 7 (.alloc (.agg zz0)),St 27 5 23,Mv 6 24,St 27 7 25,Mv 8 26]
def awb:LO:=[Mv 28 0,Mv 29 1,Ct 30 354 [28, 29],Mv 27 30,Ex 31 27 0,Ex 32 27 1,Ex 33 27 2,Ex 34 27 3,Op 9 (.alloc (.agg zz0)),Op 11 (.alloc (.agg zz0)),St 27 9 31,Mv 10 32,St 27 11 33,Mv 12 34]
def awa:LO:=[Mv 35 8,Mv 36 12,Bi 37 .neq 35 36,Mv 38 37,Gf 38 (Mv 39 6),Gf 38 (Mv 40 10),Gf 38 (Bi 41 .neq 39 40),Po 42 38 41,Mv 43 42,Gf 43 (Ls 44 27 5),Gf 43 (Ls 45 27 9),Gf 43 (Ct 46 126 [44, 45]),Gf 43 (Un 47 .not 46),Po 48 43 47,Mv 49 48,Gf 49 (Ls 50 27 7),Gf 49 (Ls 51 27 11),Gf 49 (Ct 52 126 [50, 51]),Gf 49 (Un 53 .not 52),Po 54 49 53]
def av9:LO:=[Mc 4 (.bool false)]
def av8:LO:=[Mv 55 8,Bc 56 .neq 55 0]
def av7:LO:=[Ct 57 192 [],Mv 4 57]
def av6:LO:=[Ls 59 27 5,Mv 60 1,Ct 61 193 [59, 60],Mv 58 61,Ex 62 58 0,Ex 63 58 1,Mv 13 62,Mv 14 63]
def atZ:LO:=[Mv 64 14,Bc 65 .eql 64 0,Mv 66 65,Gt 66 (Mv 67 6),Gt 66 (Mv 68 0),Gt 66 (Ln 69 0 68),Gt 66 (Bi 70 .leq 67 69),Pa 71 66 70,Mv 72 71,Gt 72 (Mv 73 13),Af [5] (Gt 72 (Op 74 (.b2s (.t 73)))),Gt 72 (Mv 75 0),Gt 72 (Mv 76 6),Af [5] (Gt 72 (Op 77 (.slc 1 (.t 75) none (some (.t 76)) none))),Af [13, 5] (Gt 72 (Op 78 (.b2s (.t 77)))),Gt 72 (Bi 79 .eql 74 78),Pa 80 72 79,Mv 81 80,
 Af [10, 14, 13, 5] (Gt 81 (Ct 82 192 [])),Pa 83 81 82,Mv 4 83]
def aq3 : AFunc := ⟨84, 2, false, [.t 4], (Sr awf (Sq (Sr awe (Ci 17 (Rr awd))) (Sr awc (Sr awb (Sq (Sr awa (Ci 54 (Rr av9))) (Sq (Sr av8 (Ci 56 (Rr av7))) (Sr av6 (Sq (Rd atZ) Rt))))))))⟩
def af0:LO:=[Mc 0 (.bool false)]
def afZ:LO:=[Op 24 (.build zz0 [(0, 1)] [(.c (.int .i64 4))]),Ca 25 193 [(.t 24), (.c (.bool true))],Mv 23 25,Ex 26 23 0,Ex 27 23 1,Mv 1 26,Mv 2 27]
def afY:LO:=[Op 29 (.build zz0 [(0, 1)] [(.c (.int .i64 2))]),Ca 30 193 [(.t 29), (.c (.bool true))],Mv 28 30,Ex 31 28 0,Ex 32 28 1,Mv 3 31,Mv 4 32]
def afX:LO:=[Mv 33 2,Bc 34 .neq 33 0,Mv 35 34,Gf 35 (Mv 36 4),Gf 35 (Bc 37 .neq 36 0),Po 38 35 37,Mv 39 38,Gf 39 (Mv 40 1),Gf 39 (Ln 41 0 40),Gf 39 (Bc 42 .neq 41 19),Po 43 39 42,Mv 44 43,Gf 44 (Mv 45 1),Gf 44 (Op 46 (.iadr 1 (.t 45) (.c (.int .i64 17)))),Gf 44 (Ld 47 46),Gf 44 (Op 48 (.bin .neq (.t 47) (.c (.int .u8 19)))),Po 49 44 48,Mv 50 49,Gf 50 (Mv 51 1),
 Gf 50 (Op 52 (.iadr 1 (.t 51) (.c (.int .i64 18)))),Gf 50 (Ld 53 52),Gf 50 (Op 54 (.bin .neq (.t 53) (.c (.int .u8 4)))),Po 55 50 54,Mv 56 55,Gf 56 (Mv 57 3),Gf 56 (Ln 58 0 57),Gf 56 (Bc 59 .neq 58 23),Po 60 56 59,Mv 61 60,Gf 61 (Mv 62 3),Gf 61 (Op 63 (.iadr 1 (.t 62) (.c (.int .i64 18)))),Gf 61 (Ld 64 63),Gf 61 (Op 65 (.bin .neq (.t 64) (.c (.int .u8 2)))),Po 66 61 65]
def afW:LO:=[Mc 0 (.bool false)]
def afV:LO:=[Op 67 (.bsl 1 zz1 0 [] []),Mv 68 1,Ap 69 1 1 67 68,Mv 5 69]
def afU:LO:=[Mv 70 5,Op 71 (.bsl 1 zz1 1 [0] [(.c (.int .u8 7))]),Ap 72 1 1 70 71,Mv 5 72]
def afT:LO:=[Mv 74 5,Ca 75 194 [(.t 74), (.c (.bool true))],Mv 73 75,Ex 76 73 0,Ex 77 73 1,Ex 78 73 2,Ex 79 73 3,Op 6 (.alloc (.agg zz0)),Op 8 (.alloc (.agg zz0)),St 27 6 76,Mv 7 77,St 27 8 78,Mv 9 79]
def afS:LO:=[Mv 81 3,Op 82 (.slc 1 (.t 81) (some (.c (.int .i64 1))) none none),Ca 83 194 [(.t 82), (.c (.bool true))],Mv 80 83,Ex 84 80 0,Ex 85 80 1,Ex 86 80 2,Ex 87 80 3,Op 10 (.alloc (.agg zz0)),Op 12 (.alloc (.agg zz0)),St 27 10 84,Mv 11 85,St 27 12 86,Mv 13 87]
def afR:LO:=[Op 89 (.mksl 1 1 zz1 (.c (.int .i64 19)) (.c (.int .i64 19))),Ca 90 194 [(.t 89), (.c (.bool true))],Mv 88 90,Ex 91 88 0,Ex 92 88 1,Ex 93 88 2,Ex 94 88 3,Op 14 (.alloc (.agg zz0)),Op 16 (.alloc (.agg zz0)),St 27 14 91,Mv 15 92,St 27 16 93,Mv 17 94]
def Xh:LO:=[Mv 95 9,Bc 96 .neq 95 0,Mv 97 96,Gf 97 (Mv 98 7),Gf 97 (Bc 99 .neq 98 19),Po 100 97 99,Mv 101 100,Gf 101 (Fa 102 0 6),Gf 101 (Ld 103 102),Gf 101 (Bc 104 .neq 103 4),Po 105 101 104,Mv 106 105,Gf 106 (Mv 107 13),Gf 106 (Bc 108 .neq 107 2),Gf 106 (Mv 109 108),Gt 109 (Mv 110 13),Gt 109 (Bc 111 .neq 110 3),Gf 106 (Pa 112 109 111),Po 113 106 112,Mv 114 113,Gf 114 (Fa 115 0 12),Gf 114 (Ld 116 115),
 Gf 114 (Bc 117 .neq 116 3),Po 118 114 117,Mv 119 118,Gf 119 (Mv 120 17),Gf 119 (Bc 121 .neq 120 2),Po 122 119 121,Mv 123 122,Gf 123 (Fa 124 24 16),Gf 123 (Ld 125 124),Gf 123 (Bc 126 .neq 125 1),Po 127 123 126,Mv 128 127,Gf 128 (Fa 129 25 16),Gf 128 (Ld 130 129),Gf 128 (Bc 131 .neq 130 1),Po 132 128 131]
def Xg:LO:=[Mc 0 (.bool false)]
def Xf:LO:=[Op 133 (.build zz4 [(0, 1), (1, 1)] [(.c (.int .u32 167837696)), (.c (.int .i64 20))]),Op 134 (.bsl 2 zz4 1 [0] [(.t 133)]),Op 135 (.build zz0 [(0, 1), (6, 1)] [(.c (.int .i64 2)), (.t 134)]),Op 18 (.alloc (.agg zz0)),St 27 18 135]
def Xe:LO:=[Ls 137 27 18,Ca 138 193 [(.t 137), (.c (.bool false))],Mv 136 138,Ex 139 136 0,Ex 140 136 1,Mv 19 139,Mv 20 140]
def Xd:LO:=[Ls 142 27 18,Ca 143 195 [(.t 142), (.c (.bool false))],Mv 141 143,Ex 144 141 0,Ex 145 141 1,Mv 21 144,Mv 22 145]
def Xc:LO:=[Mv 146 20,Bc 147 .eql 146 0,Mv 148 147,Gt 148 (Mv 149 19),Gt 148 (Ln 150 0 149),Gt 148 (Bc 151 .eql 150 27),Pa 152 148 151,Mv 153 152,Gt 153 (Mv 154 19),Af [4] (Gt 153 (Op 155 (.iadr 1 (.t 154) (.c (.int .i64 21))))),Af [9, 4] (Gt 153 (Ld 156 155)),Gt 153 (Op 157 (.bin .eql (.t 156) (.c (.int .u8 20)))),Pa 158 153 157,Mv 159 158,Gt 159 (Mv 160 19),
 Af [10, 9, 4] (Gt 159 (Op 161 (.iadr 1 (.t 160) (.c (.int .i64 24))))),Af [15, 10, 9, 4] (Gt 159 (Ld 162 161)),Gt 159 (Op 163 (.bin .eql (.t 162) (.c (.int .u8 0)))),Pa 164 159 163,Mv 165 164,Gt 165 (Mv 166 22),Gt 165 (Bc 167 .eql 166 0),Pa 168 165 167,Mv 169 168,Gt 169 (Mv 170 21),Af [16, 15, 10, 9, 4] (Gt 169 (Ln 171 0 170)),Gt 169 (Bc 172 .eql 171 1),Pa 173 169 172,Mv 174 173,
 Gt 174 (Mv 175 21),Af [25, 16, 15, 10, 9, 4] (Gt 174 (Op 176 (.iadr 27 (.t 175) (.c (.int .i64 0))))),Af [30, 25, 16, 15, 10, 9, 4] (Gt 174 (Ls 177 27 176)),Af [25, 16, 15, 10, 9, 4] (Gt 174 (Ls 178 27 18)),Af [31, 32, 30, 25, 16, 15, 10, 9, 4] (Gt 174 (Ct 179 156 [177, 178])),Pa 180 174 179,Mv 181 180,Af [33, 31, 32, 30, 25, 16, 15, 10, 9, 4] (Gt 181 (Ls 182 27 18)),
 Af [33, 31, 32, 30, 25, 16, 15, 10, 9, 4] (Gt 181 (Ls 183 27 6)),Af [36, 37, 33, 31, 32, 30, 25, 16, 15, 10, 9, 4] (Gt 181 (Ct 184 156 [182, 183])),Gt 181 (Un 185 .not 184),Pa 186 181 185,Mv 187 186,Af [38, 36, 37, 33, 31, 32, 30, 25, 16, 15, 10, 9, 4] (Gt 187 (Ls 188 27 18)),Af [42, 38, 36, 37, 33, 31, 32, 30, 25, 16, 15, 10, 9, 4] (Gt 187 (Ct 189 144 [188])),Gt 187 (Bc 190 .eql 189 0),
 Pa 191 187 190,Mv 192 191,Gt 192 (Op 193 (.build zz0 [] [])),Af [43, 42, 38, 36, 37, 33, 31, 32, 30, 25, 16, 15, 10, 9, 4] (Gt 192 (Ct 194 144 [193])),Gt 192 (Bc 195 .eql 194 15),Pa 196 192 195,Mv 0 196]
def f8 : AFunc := ⟨197, 0, false, [.t 0], (Sr af0 (Sr afZ (Sr afY (Sq (Sr afX (Ci 66 (Rr afW))) (Sr afV (Sr afU (Sr afT (Sr afS (Sr afR (Sq (Sr Xh (Ci 132 (Rr Xg))) (Sr Xf (Sr Xe (Sr Xd (Sq (Rd Xc) Rt))))))))))))))⟩
def afQ:LO:=[Op 2 (.box (.t 0)),Mc 4 (.con (.slice none 0 0)),Mc 5 (.int .i64 0)]
def afP:LO:=[Ls 12 27 2,Ct 13 144 [12],Mv 6 13]
def afO:LO:=[Mv 14 6,Bc 15 .neq 14 0]
def afN:LO:=[Mv 16 6,Mc 4 (.con (.slice none 0 0)),Mv 5 16]
def afM:LO:=[Mc 7 (.con (.slice none 0 0))]
def afL:LO:=[Fa 17 0 2,Ld 18 17]
def afK:LO:=[Bc 20 .eql 18 1,Mv 19 20]
def afJ:LO:=[Ls 21 27 2,Ct 22 196 [21],Mv 7 22]
def afI:LO:=[Bc 24 .eql 18 2,Mv 23 24]
def afH:LO:=[Ls 26 27 2,Mv 27 1,Ct 28 197 [26, 27],Mv 25 28,Ex 29 25 0,Ex 30 25 1,Mv 8 29,Mv 9 30]
def Xb:LO:=[Mv 31 9,Bc 32 .neq 31 0]
def Xa:LO:=[Mv 33 9,Mc 4 (.con (.slice none 0 0)),Mv 5 33]
def W9:LO:=[Mv 34 8,Mv 7 34]
def W8:LO:=[Bc 36 .eql 18 3,Mv 35 36]
def W7:LO:=[Fa 37 24 2,Ld 38 37,Cv 39 .u8 38,Fa 40 25 2,Ld 41 40,Cv 42 .u8 41,Op 43 (.bsl 1 zz1 2 [0, 1] [(.t 39), (.t 42)]),Fa 44 26 2,Ld 45 44,Ap 46 1 1 43 45,Mv 7 46]
def W6:LO:=[Bc 48 .eql 18 5,Mv 47 48]
def W5:LO:=[Op 49 (.bsl 1 zz1 4 [0, 1, 2, 3] [(.c (.int .u8 0)), (.c (.int .u8 1)), (.c (.int .u8 0)), (.c (.int .u8 1))]),Mv 7 49]
def W4:LO:=[Mv 50 7,Ln 51 0 50,Op 52 (.bin .add (.c (.int .i64 19)) (.t 51)),Bc 53 .gtr 52 65535]
def W3:LO:=[Mc 4 (.con (.slice none 0 0)),Mc 5 (.int .i64 4)]
def WZ:LO:=[Mv 54 7,Ln 55 0 54,Op 56 (.bin .add (.c (.int .i64 19)) (.t 55)),Op 57 (.mksl 1 1 zz1 (.c (.int .i64 16)) (.t 56)),Mv 10 57]
def WY:LO:=[Mv 58 10,Ln 59 0 58,Mc 60 (.int .i64 0)]
def WX:LO:=[Bi 61 .lss 60 59]
def WU:LO:=[Mv 62 60,Mv 11 62]
def WT:LO:=[Mv 63 10,Mv 64 11,Ia 65 1 63 64,⟨none, .store 1 (.t 65) (.c (.int .u8 255)), none, []⟩]
def WS:LO:=[Bc 66 .add 60 1,Mv 60 66]
def zP:ACode:=(Sr WX (Sq (Cx 61 1) (Sq (Bk 2 (Sr WU (Rg WT))) (Rg WS))))
def Gh:LO:=[Mv 67 10,Mv 68 7,Ln 69 0 68,Op 70 (.bin .add (.c (.int .i64 19)) (.t 69)),Cv 71 .u64 70,Ca 72 109 [(.t 67), (.c (.int .i64 2)), (.t 71)],Mv 10 72]
def Gg:LO:=[Mv 73 10,Fa 74 0 2,Ld 75 74,Cv 76 .u8 75,Op 77 (.bsl 1 zz1 1 [0] [(.t 76)]),Ap 78 1 1 73 77,Mv 10 78]
def Gc:LO:=[Mv 79 10,Mv 80 7,Ap 81 1 1 79 80,Mv 4 81,Mc 5 (.int .i64 0)]
def lY : AFunc := ⟨82, 2, false, [.t 4, .t 5], (Sr afQ (Sq (Sr afP (Sr afO (Ci 15 (Rr afN)))) (Sr afM (Sq (Sr afL (Bk 0 (Sr afK (Cn 19 (Rg afJ) (Sr afI (Cn 23 (Sr afH (Sq (Sr Xb (Ci 32 (Rr Xa))) (Rg W9))) (Sr W8 (Cn 35 (Rg W7) (Sr W6 (Cn 47 (Rg W5) Sk)))))))))) (Sq (Sr W4 (Ci 53 (Rr W3))) (Sr WZ (Sq (Sr WY (Bl 1 zP)) (Sr Gh (Sr Gg (Rr Gc))))))))))⟩
def kz:LI:=[.inLoop zP, .inBlock 1, .code (Sr Gh (Sr Gg (Rr Gc)))]
def afG:LO:=[Op 4 (.alloc (.agg zz0)),Mc 5 (.int .i64 0),Op 6 (.alloc (.agg zz0)),Mc 7 (.int .i64 0)]
def afF:LO:=[Mv 15 0,Ln 16 0 15,Bc 17 .lss 16 19]
def afE:LO:=[Op 18 (.build zz0 [] []),Op 19 (.build zz0 [] []),St 27 4 18,Mc 5 (.int .i64 0),St 27 6 19,Mc 7 (.int .i64 3)]
def afD:LO:=[Mv 20 0,Op 21 (.slc 1 (.t 20) none (some (.c (.int .i64 16))) none),Ln 22 0 21,Mc 23 (.int .i64 0)]
def afC:LO:=[Bi 24 .lss 23 22]
def afB:LO:=[Ia 25 1 21 23,Ld 26 25,Mv 9 26]
def afA:LO:=[Mv 27 9,Op 28 (.bin .neq (.t 27) (.c (.int .u8 255)))]
def afz:LO:=[Op 29 (.build zz0 [] []),Ca 30 198 [(.c (.int .i64 1)), (.c (.int .i64 1)), (.c (.con (.slice none 0 0)))],St 27 4 29,Mc 5 (.int .i64 0),St 27 6 30,Mc 7 (.int .i64 2)]
def afy:LO:=[Bc 31 .add 23 1,Mv 23 31]
def Fp:ACode:=(Sr afC (Sq (Cx 24 0) (Sq (Bk 1 (Sr afB (Sr afA (Ci 28 (Rr afz))))) (Rg afy))))
def Ga:LO:=[Mv 33 0,Ca 34 110 [(.t 33), (.c (.int .i64 16)), (.c (.int .i64 2))],Mv 32 34,Ex 35 32 0,Ex 36 32 1,Mv 10 35,Mv 11 36]
def F9:LO:=[Mv 37 10,Cv 38 .i64 37,Mv 5 38]
def F8:LO:=[Mv 39 0,Op 40 (.iadr 1 (.t 39) (.c (.int .i64 18))),Ld 41 40,Cv 42 .i64 41,Mv 12 42]
def F7:LO:=[Mv 43 0,Op 44 (.iadr 1 (.t 43) (.c (.int .i64 16))),Af [1] (Ld 45 44),Mv 46 0,Op 47 (.iadr 1 (.t 46) (.c (.int .i64 17))),Af [4] (Ld 48 47),Af [2, 5, 1, 4] (Op 49 (.bsl 1 zz1 2 [0, 1] [(.t 45), (.t 48)])),Af [6, 2, 5, 1, 4] (Ca 50 198 [(.c (.int .i64 1)), (.c (.int .i64 2)), (.t 49)]),Op 13 (.alloc (.agg zz0)),Af [7, 8, 6, 2, 5, 1, 4] (St 27 13 50)]
def F6:LO:=[Mv 52 5,Bc 53 .lss 52 19,Mv 51 53]
def FY:LO:=[Op 54 (.build zz0 [] []),Ls 55 27 13,St 27 4 54,Mc 5 (.int .i64 0),Af [1, 2] (St 27 6 55),Mc 7 (.int .i64 2)]
def FX:LO:=[Mv 57 12,Bc 58 .lss 57 1,Mv 59 58,Gf 59 (Mv 60 12),Gf 59 (Bc 61 .gtr 60 5),Po 62 59 61,Mv 56 62]
def FW:LO:=[Op 63 (.build zz0 [] []),Mv 64 0,Op 65 (.iadr 1 (.t 64) (.c (.int .i64 18))),Ld 66 65,Op 67 (.bsl 1 zz1 1 [0] [(.t 66)]),Ca 68 198 [(.c (.int .i64 1)), (.c (.int .i64 3)), (.t 67)],St 27 4 63,Mc 5 (.int .i64 0),St 27 6 68,Mc 7 (.int .i64 15)]
def FV:LO:=[Mv 70 12,Mv 71 5,Ct 72 199 [70, 71],Mv 69 72]
def FU:LO:=[Op 73 (.build zz0 [] []),Ls 74 27 13,St 27 4 73,Mc 5 (.int .i64 0),Af [1, 2] (St 27 6 74),Mc 7 (.int .i64 2)]
def FT:LO:=[Mv 76 0,Ln 77 0 76,Mv 78 5,Bi 79 .lss 77 78,Mv 75 79]
def FQ:LO:=[Op 80 (.build zz0 [] []),Op 81 (.build zz0 [] []),St 27 4 80,Mc 5 (.int .i64 0),St 27 6 81,Mc 7 (.int .i64 3)]
def FP:LO:=[Mv 82 0,Mv 83 5,Op 84 (.slc 1 (.t 82) (some (.c (.int .i64 19))) (some (.t 83)) none),Mv 14 84]
def FM:LO:=[Mv 85 12,Op 86 (.build zz0 [(0, 1)] [(.t 85)]),St 27 4 86]
def FK:LO:=[Mv 87 12]
def FJ:LO:=[Bc 89 .eql 87 1,Mv 88 89]
def FH:LO:=[Mv 91 14,Ct 92 200 [91],Mv 90 92,Ex 93 90 0,Ex 94 90 1,Ex 95 90 2,St 27 4 93,St 27 6 94,Mv 7 95]
def FG:LO:=[Bc 97 .eql 87 2,Mv 96 97]
def FE:LO:=[Mv 99 14,Mv 100 1,Ct 101 201 [99, 100],Mv 98 101,Ex 102 98 0,Ex 103 98 1,Ex 104 98 2,St 27 4 102,St 27 6 103,Mv 7 104]
def FD:LO:=[Bc 106 .eql 87 3,Mv 105 106]
def FC:LO:=[Mv 107 14,Op 108 (.iadr 1 (.t 107) (.c (.int .i64 0))),Af [1] (Ld 109 108),Cv 110 .i64 109,Mv 111 14,Op 112 (.iadr 1 (.t 111) (.c (.int .i64 1))),Af [5] (Ld 113 112),Cv 114 .i64 113,Op 115 (.bsl 1 zz1 0 [] []),Mv 116 14,Op 117 (.slc 1 (.t 116) (some (.c (.int .i64 2))) none none),Af [8, 10] (Ap 118 1 1 115 117),Fa 119 24 4,Af [11, 8, 10, 2, 1] (St 1 119 110),Fa 120 25 4,
 Af [13, 6, 5, 11, 8, 10, 2, 1] (St 1 120 114),Fa 121 26 4,Af [15, 13, 6, 5, 11, 8, 10, 2, 1] (St 1 121 118)]
def FB:LO:=[Ls 122 27 4,Ct 123 144 [122],Mv 7 123]
def FA:LO:=[Mv 124 7,Bc 125 .neq 124 0]
def Fy:LO:=[Ls 126 27 13,St 27 6 126]
def Fx:LO:=[Bc 128 .eql 87 5,Mv 127 128]
def Fw:LO:=[Mv 129 14,Op 130 (.b2s (.t 129)),Op 131 (.bsl 1 zz1 4 [0, 1, 2, 3] [(.c (.int .u8 0)), (.c (.int .u8 1)), (.c (.int .u8 0)), (.c (.int .u8 1))]),Op 132 (.b2s (.t 131)),Bi 133 .neq 130 132]
def Fv:LO:=[Ls 134 27 13,St 27 6 134,Mc 7 (.int .i64 2)]
def Fu:LO:=[Mv 135 7,Bc 136 .neq 135 0]
def Ft:LO:=[Op 137 (.build zz0 [] []),Ls 138 27 6,Mv 139 7,St 27 4 137,Mc 5 (.int .i64 0),Af [1, 3] (St 27 6 138),Mv 7 139]
def Fq:LO:=[Ls 140 27 4,Mv 141 5,Op 142 (.build zz0 [] []),St 27 4 140,Mv 5 141,St 27 6 142,Mc 7 (.int .i64 0)]
def cz : AFunc := ⟨143, 2, false, [.cell 4 (some 27), .t 5, .cell 6 (some 27), .t 7], (Sr afG (Sq (Sr afF (Ci 17 (Rr afE))) (Sq (Sr afD (Bl 0 Fp)) (Sr Ga (Sr F9 (Sr F8 (Sq (Rd F7) (Sq (Bk 2 (Sr F6 (Cn 51 (Sq (Rd FY) Rt) (Sr FX (Cn 56 (Rr FW) (Sr FV (Cn 69 (Sq (Rd FU) Rt) (Sr FT (Ci 75 (Rr FQ)))))))))) (Sr FP (Sr FM (Sq (Sr FK (Bk 3 (Sr FJ (Cn 88 (Rg FH) (Sr FG (Cn 96 (Rg FE) (Sr FD (Cn 105 (Sq (Rd FC) (Sr FB (Sr FA (Cn 125 (Rg Fy) Sk)))) (Sr Fx (Cn 127 (Sr Fw (Cn 133 (Rg Fv) Sk)) Sk)))))))))) (Sq (Sr Fu (Cn 136 (Sq (Rd Ft) Rt) Sk)) (Rr Fq)))))))))))))⟩
def QQ:LI:=[.inLoop Fp, .inBlock 0, .code (Sr Ga (Sr F9 (Sr F8 (Sq (Rd F7) (Sq (Bk 2 (Sr F6 (Cn 51 (Sq (Rd FY) Rt) (Sr FX (Cn 56 (Rr FW) (Sr FV (Cn 69 (Sq (Rd FU) Rt) (Sr FT (Ci 75 (Rr FQ)))))))))) (Sr FP (Sr FM (Sq (Sr FK (Bk 3 (Sr FJ (Cn 88 (Rg FH) (Sr FG (Cn 96 (Rg FE) (Sr FD (Cn 105 (Sq (Rd FC) (Sr FB (Sr FA (Cn 125 (Rg Fy) Sk)))) (Sr Fx (Cn 127 (Sr Fw (Cn 133 (Rg Fv) Sk)) Sk)))))))))) (Sq (Sr Fu (Cn 136 (Sq (Rd Ft) Rt) Sk)) (Rr Fq))))))))))]
def av5:LO:=[Op 4 (.alloc (.agg zz0)),Mc 5 (.int .i64 0),Op 6 (.alloc (.agg zz0)),Mc 7 (.int .i64 0)]
def av4:LO:=[Op 17 (.build zz0 [] []),Op 8 (.alloc (.agg zz0)),St 27 8 17]
def av3:LO:=[Mv 18 0,Ln 19 0 18,Bc 20 .lss 19 19]
def av2:LO:=[Ls 21 27 8,Ls 22 27 8,Af [0] (St 27 4 21),Mc 5 (.int .i64 0),Af [1, 2, 0] (St 27 6 22),Mc 7 (.int .i64 3)]
def av1:LO:=[Mv 23 0,Op 24 (.slc 1 (.t 23) none (some (.c (.int .i64 16))) none),Ln 25 0 24,Mc 26 (.int .i64 0)]
def av0:LO:=[Bi 27 .lss 26 25]
def avZ:LO:=[Ia 28 1 24 26,Ld 29 28,Mv 10 29]
def avY:LO:=[Mv 30 10,Op 31 (.bin .neq (.t 30) (.c (.int .u8 255)))]
def avX:LO:=[Ls 32 27 8,Ca 33 359 [(.c (.int .i64 1)), (.c (.int .i64 1)), (.c (.con (.slice none 0 0)))],Af [1, 0] (St 27 4 32),Mc 5 (.int .i64 0),Af [2, 1, 0] (St 27 6 33),Mc 7 (.int .i64 2)]
def avW:LO:=[Bc 34 .add 26 1,Mv 26 34]
def aq2:ACode:=(Sr av0 (Sq (Cx 27 0) (Sq (Bk 1 (Sr avZ (Sr avY (Cn 31 (Sq (Rd avX) Rt) Sk)))) (Rg avW))))
def ar4:LO:=[Mv 35 0,Ca 36 360 [(.t 35), (.c (.int .i64 16)), (.c (.int .i64 2))],Mv 37 0,Op 38 (.iadr 1 (.t 37) (.c (.int .i64 18))),Af [3] (Ld 39 38),Cv 40 .i64 39,Mv 11 36,Mv 12 40]
def ar3:LO:=[Mv 41 0,Op 42 (.slc 1 (.t 41) (some (.c (.int .i64 16))) (some (.c (.int .i64 18))) none),Ca 43 359 [(.c (.int .i64 1)), (.c (.int .i64 2)), (.t 42)],Op 13 (.alloc (.agg zz0)),St 27 13 43]
def ar2:LO:=[Mv 44 11,Bc 45 .lss 44 19]
def ar1:LO:=[Ls 46 27 8,Ls 47 27 13,Af [0] (St 27 4 46),Mc 5 (.int .i64 0),Af [1, 2, 0] (St 27 6 47),Mc 7 (.int .i64 2)]
def ar0:LO:=[Mv 48 12,Bc 49 .lss 48 1,Mv 50 49,Gf 50 (Mv 51 12),Gf 50 (Bc 52 .gtr 51 5),Po 53 50 52]
def arZ:LO:=[Ls 54 27 8,Mv 55 0,Op 56 (.slc 1 (.t 55) (some (.c (.int .i64 18))) (some (.c (.int .i64 19))) none),Af [2] (Ca 57 359 [(.c (.int .i64 1)), (.c (.int .i64 3)), (.t 56)]),Af [3, 0, 2] (St 27 4 54),Mc 5 (.int .i64 0),Af [4, 3, 0, 2] (St 27 6 57),Mc 7 (.int .i64 15)]
def arY:LO:=[Mv 58 11,Mv 59 12,Ct 60 361 [59],Bi 61 .lss 58 60,Mv 62 61,Gf 62 (Mv 63 12),Gf 62 (Bc 64 .eql 63 4),Gf 62 (Mv 65 64),Gf 65 (Mv 66 12),Gf 65 (Bc 67 .eql 66 5),Gf 62 (Po 68 65 67),Gf 62 (Mv 69 68),Gt 69 (Mv 70 11),Gt 69 (Mv 71 12),Gt 69 (Ct 72 361 [71]),Gt 69 (Bi 73 .neq 70 72),Gf 62 (Pa 74 69 73),Po 75 62 74]
def arX:LO:=[Ls 76 27 8,Ls 77 27 13,Af [0] (St 27 4 76),Mc 5 (.int .i64 0),Af [1, 2, 0] (St 27 6 77),Mc 7 (.int .i64 2)]
def arW:LO:=[Mv 78 0,Ln 79 0 78,Mv 80 11,Bi 81 .lss 79 80]
def arV:LO:=[Ls 82 27 8,Ls 83 27 8,Af [0] (St 27 4 82),Mc 5 (.int .i64 0),Af [1, 2, 0] (St 27 6 83),Mc 7 (.int .i64 3)]
def arU:LO:=[Mv 84 0,Mv 85 11,Op 86 (.slc 1 (.t 84) none (some (.t 85)) none),Mv 0 86]
def arT:LO:=[Mv 87 12,Op 88 (.build zz0 [(0, 1)] [(.t 87)]),Ls 89 27 8,Op 14 (.alloc (.agg zz0)),Op 15 (.alloc (.agg zz0)),Af [3, 4] (St 27 14 88),Af [2, 5, 3, 4] (St 27 15 89),Mc 16 (.int .i64 0)]
def arS:LO:=[Mv 90 12]
def arQ:LO:=[Bc 92 .eql 90 1,Mv 91 92]
def arP:LO:=[Mv 94 0,Ct 95 362 [94],Mv 93 95,Ex 96 93 0,Ex 97 93 1,Ex 98 93 2,St 27 14 96,St 27 15 97,Mv 16 98]
def arO:LO:=[Bc 100 .eql 90 2,Mv 99 100]
def arN:LO:=[Mv 102 0,Mv 103 1,Ct 104 363 [102, 103],Mv 101 104,Ex 105 101 0,Ex 106 101 1,Ex 107 101 2,St 27 14 105,St 27 15 106,Mv 16 107]
def arM:LO:=[Bc 109 .eql 90 3,Mv 108 109]
def arL:LO:=[Mv 110 0,Op 111 (.iadr 1 (.t 110) (.c (.int .i64 19))),Ld 112 111,Cv 113 .i64 112,Fa 114 24 14,St 1 114 113]
def arK:LO:=[Mv 115 0,Op 116 (.iadr 1 (.t 115) (.c (.int .i64 20))),Ld 117 116,Cv 118 .i64 117,Fa 119 25 14,St 1 119 118]
def arJ:LO:=[Op 120 (.bsl 1 zz1 0 [] []),Mv 121 0,Op 122 (.slc 1 (.t 121) (some (.c (.int .i64 21))) none none),Ap 123 1 1 120 122,Fa 124 26 14,St 1 124 123]
def arI:LO:=[Ls 125 27 14,Ct 126 148 [125],Mv 16 126]
def arH:LO:=[Ls 127 27 13,St 27 15 127]
def arG:LO:=[Bc 129 .eql 90 5,Mv 128 129]
def arF:LO:=[Mv 130 0,Op 131 (.slc 1 (.t 130) (some (.c (.int .i64 19))) none none),Af [1] (Op 132 (.b2s (.t 131))),Op 133 (.bsl 1 zz1 4 [0, 1, 2, 3] [(.c (.int .u8 0)), (.c (.int .u8 1)), (.c (.int .u8 0)), (.c (.int .u8 1))]),Af [3] (Op 134 (.b2s (.t 133))),Bi 135 .neq 132 134]
def arD:LO:=[Mc 16 (.int .i64 2)]
def arC:LO:=[Ls 136 27 13,St 27 15 136]
def arB:LO:=[Mv 137 16,Bc 138 .neq 137 0]
def arA:LO:=[Ls 139 27 8,Ls 140 27 15,Mv 141 16,Af [0] (St 27 4 139),Mc 5 (.int .i64 0),Af [1, 3, 0] (St 27 6 140),Mv 7 141]
def arz:LO:=[Ls 142 27 14,Mv 143 11,Ls 144 27 8,Af [0] (St 27 4 142),Mv 5 143,Af [2, 3, 0] (St 27 6 144),Mc 7 (.int .i64 0)]
def a6 : AFunc := ⟨145, 2, false, [.cell 4 (some 27), .t 5, .cell 6 (some 27), .t 7], (Sr av5 (Sr av4 (Sq (Sr av3 (Cn 20 (Sq (Rd av2) Rt) Sk)) (Sq (Sr av1 (Bl 0 aq2)) (Sq (Rd ar4) (Sr ar3 (Sq (Sr ar2 (Cn 45 (Sq (Rd ar1) Rt) Sk)) (Sq (Sr ar0 (Cn 53 (Sq (Rd arZ) Rt) Sk)) (Sq (Sr arY (Cn 75 (Sq (Rd arX) Rt) Sk)) (Sq (Sr arW (Cn 81 (Sq (Rd arV) Rt) Sk)) (Sr arU (Sq (Rd arT) (Sq (Sr arS (Bk 2 (Sr arQ (Cn 91 (Rg arP) (Sr arO (Cn 99 (Rg arN) (Sr arM (Cn 108 (Sr arL (Sr arK (Sr arJ (Sr arI (Rg arH))))) (Sr arG (Cn 128 (Sq (Sq (Rd arF) (Cn 135 (Rg arD) Sk)) (Rg arC)) Sk)))))))))) (Sq (Sr arB (Cn 138 (Sq (Rd arA) Rt) Sk)) (Sq (Rd arz) Rt)))))))))))))))⟩
def asw:LI:=[.inLoop aq2, .inBlock 0, .code (Sq (Rd ar4) (Sr ar3 (Sq (Sr ar2 (Cn 45 (Sq (Rd ar1) Rt) Sk)) (Sq (Sr ar0 (Cn 53 (Sq (Rd arZ) Rt) Sk)) (Sq (Sr arY (Cn 75 (Sq (Rd arX) Rt) Sk)) (Sq (Sr arW (Cn 81 (Sq (Rd arV) Rt) Sk)) (Sr arU (Sq (Rd arT) (Sq (Sr arS (Bk 2 (Sr arQ (Cn 91 (Rg arP) (Sr arO (Cn 99 (Rg arN) (Sr arM (Cn 108 (Sr arL (Sr arK (Sr arJ (Sr arI (Rg arH))))) (Sr arG (Cn 128 (Sq (Sq (Rd arF) (Cn 135 (Rg arD) Sk)) (Rg arC)) Sk)))))))))) (Sq (Sr arB (Cn 138 (Sq (Rd arA) Rt) Sk)) (Sq (Rd arz) Rt)))))))))))]
def ajk:LO:=[Op 2 (.box (.t 0)),Op 3 (.box (.t 1)),Mc 4 (.bool false)]
def ajj:LO:=[Fa 5 0 2,Ld 6 5,Fa 7 0 3,Ld 8 7,Bi 9 .neq 6 8,Mv 10 9,Gf 10 (Fa 11 1 2),Gf 10 (Ld 12 11),Gf 10 (Fa 13 1 3),Gf 10 (Ld 14 13),Gf 10 (Bi 15 .neq 12 14),Po 16 10 15,Mv 17 16,Gf 17 (Fa 18 2 2),Gf 17 (Ld 19 18),Gf 17 (Fa 20 2 3),Gf 17 (Ld 21 20),Gf 17 (Bi 22 .neq 19 21),Po 23 17 22,Mv 24 23,Gf 24 (Fa 25 3 2),Gf 24 (Ld 26 25),Gf 24 (Fa 27 3 3),Gf 24 (Ld 28 27),Gf 24 (Bi 29 .neq 26 28),Po 30 24 29,
 Mv 31 30,Gf 31 (Fa 32 4 2),Gf 31 (Ld 33 32),Gf 31 (Fa 34 4 3),Gf 31 (Ld 35 34),Gf 31 (Bi 36 .neq 33 35),Po 37 31 36,Mv 38 37,Gf 38 (Fa 39 24 2),Gf 38 (Ld 40 39),Gf 38 (Fa 41 24 3),Gf 38 (Ld 42 41),Gf 38 (Bi 43 .neq 40 42),Po 44 38 43,Mv 45 44,Gf 45 (Fa 46 25 2),Gf 45 (Ld 47 46),Gf 45 (Fa 48 25 3),Gf 45 (Ld 49 48),Gf 45 (Bi 50 .neq 47 49),Po 51 45 50,Mv 52 51,Gf 52 (Fa 53 26 2),Gf 52 (Ld 54 53),
 Gf 52 (Op 55 (.b2s (.t 54))),Gf 52 (Fa 56 26 3),Gf 52 (Ld 57 56),Gf 52 (Op 58 (.b2s (.t 57))),Gf 52 (Bi 59 .neq 55 58),Po 60 52 59]
def aji:LO:=[Mc 4 (.bool false)]
def ajh:LO:=[Fa 61 5 2,Ld 62 61,Fa 63 5 3,Ld 64 63,Ct 65 138 [62, 64],Mv 66 65,Gt 66 (Fa 67 6 2),Gt 66 (Ld 68 67),Gt 66 (Fa 69 6 3),Gt 66 (Ld 70 69),Gt 66 (Ct 71 139 [68, 70]),Pa 72 66 71,Mv 73 72,Gt 73 (Fa 74 23 2),Gt 73 (Ld 75 74),Gt 73 (Fa 76 23 3),Gt 73 (Ld 77 76),Gt 73 (Ct 78 139 [75, 77]),Pa 79 73 78,Mv 80 79,Gt 80 (Fa 81 7 2),Gt 80 (Ls 82 16 81),Gt 80 (Fa 83 7 3),Gt 80 (Ls 84 16 83),
 Gt 80 (Ct 85 70 [82, 84]),Pa 86 80 85,Mv 4 86]
def Ry : AFunc := ⟨87, 2, false, [.t 4], (Sr ajk (Sq (Sr ajj (Ci 60 (Rr aji))) (Rr ajh)))⟩
def afx:LO:=[Op 2 (.box (.t 0)),Mc 4 (.con (.slice none 0 0)),Mc 5 (.int .i64 0)]
def afw:LO:=[Fa 18 0 2,Ld 19 18,Bc 20 .neq 19 2]
def afv:LO:=[Mc 4 (.con (.slice none 0 0)),Mc 5 (.int .i64 15)]
def afu:LO:=[Ls 22 27 2,Mv 23 1,Ct 24 193 [22, 23],Mv 21 24,Ex 25 21 0,Ex 26 21 1,Mv 6 25,Mv 7 26]
def aft:LO:=[Mv 27 7,Bc 28 .eql 27 0]
def afs:LO:=[Ls 29 27 2,Ct 30 202 [29],Op 31 (.bsl 27 zz0 1 [0] [(.t 30)]),Mv 4 31,Mc 5 (.int .i64 0)]
def afr:LO:=[Ls 32 27 2,Ct 33 144 [32],Mv 8 33]
def afq:LO:=[Mv 34 8,Bc 35 .neq 34 0]
def afp:LO:=[Mv 36 8,Mc 4 (.con (.slice none 0 0)),Mv 5 36]
def afo:LO:=[Mc 9 (.int .i64 0)]
def WQ:LO:=[Fa 37 23 2,Ld 38 37,Ln 39 0 38,Bc 40 .gtr 39 0]
def WO:LO:=[Fa 42 7 2,Ls 43 16 42,Mv 44 1,Ct 45 67 [43, 44],Mv 41 45,Ex 46 41 0,Ex 47 41 1,Mv 10 46,Mv 11 47]
def WN:LO:=[Mv 48 11,Bc 49 .neq 48 0]
def WM:LO:=[Mv 50 11,Mc 4 (.con (.slice none 0 0)),Mv 5 50]
def WL:LO:=[Mv 51 10,Ln 52 0 51,Mv 9 52]
def WH:LO:=[Mc 12 (.con (.slice none 0 0))]
def WG:LO:=[Fa 53 6 2,Ld 54 53,Mv 13 54]
def WE:LO:=[Mv 55 13,Ln 56 0 55,Bc 57 .gtr 56 0]
def WC:LO:=[Mv 58 13,Ca 59 203 [(.t 58), (.c (.int .i64 65512))],Mv 14 59]
def WB:LO:=[Mv 60 12,Op 61 (.bsl 2 zz4 0 [] []),Mv 62 13,Mv 63 14,Op 64 (.slc 2 (.t 62) none (some (.t 63)) none),Ap 65 2 16 61 64,Op 66 (.build zz0 [(0, 1), (6, 1)] [(.c (.int .i64 2)), (.t 65)]),Op 67 (.bsl 27 zz0 1 [0] [(.t 66)]),Ap 68 27 320 60 67,Mv 12 68]
def WA:LO:=[Mv 69 13,Mv 70 14,Op 71 (.slc 2 (.t 69) (some (.t 70)) none none),Mv 13 71]
def zO:ACode:=(Sq (Sr WE (Cx 57 0)) (Bk 1 (Sr WC (Sr WB (Rg WA)))))
def Fm:LO:=[Fa 72 23 2,Ld 73 72,Mv 15 73]
def Wz:LO:=[Mv 74 15,Ln 75 0 74,Bc 76 .gtr 75 0]
def Wy:LO:=[Mv 77 15,Mv 78 9,Op 79 (.bin .sub (.c (.int .i64 65512)) (.t 78)),Ct 80 203 [77, 79],Mv 16 80]
def Wx:LO:=[Mv 81 16,Bc 82 .eql 81 0]
def Wu:LO:=[Mc 4 (.con (.slice none 0 0)),Mc 5 (.int .i64 4)]
def Wt:LO:=[Fa 83 7 2,Ls 84 16 83,Mv 85 15,Op 86 (.slc 2 (.t 85) none (some (.c (.int .i64 1))) (some (.c (.int .i64 1)))),Op 87 (.build zz0 [(0, 1), (7, 16), (23, 1)] [(.c (.int .i64 2)), (.t 84), (.t 86)]),Af [1, 3] (Ct 88 202 [87]),Op 17 (.alloc (.agg zz0)),Af [5, 6, 1, 3] (St 27 17 88)]
def Ws:LO:=[Op 89 (.bsl 2 zz4 0 [] []),Mv 90 15,Mv 91 16,Op 92 (.slc 2 (.t 90) none (some (.t 91)) none),Ap 93 2 16 89 92,Fa 94 23 17,St 1 94 93]
def Wq:LO:=[Mv 95 12,Ls 96 27 17,Op 97 (.bsl 27 zz0 1 [0] [(.t 96)]),Ap 98 27 320 95 97,Mv 12 98]
def Wo:LO:=[Mv 99 15,Mv 100 16,Op 101 (.slc 2 (.t 99) (some (.t 100)) none none),Mv 15 101]
def sG:ACode:=(Sq (Sr Wz (Cx 76 2)) (Bk 3 (Sr Wy (Sq (Sr Wx (Ci 82 (Rr Wu))) (Sq (Rd Wt) (Sr Ws (Sr Wq (Rg Wo))))))))
def vr:LO:=[Mv 102 12,Mv 4 102,Mc 5 (.int .i64 0)]
def fg : AFunc := ⟨103, 2, false, [.t 4, .t 5], (Sr afx (Sq (Sr afw (Ci 20 (Rr afv))) (Sr afu (Sq (Sr aft (Ci 28 (Rr afs))) (Sq (Sr afr (Sr afq (Ci 35 (Rr afp)))) (Sr afo (Sq (Sr WQ (Cn 40 (Sr WO (Sq (Sr WN (Ci 49 (Rr WM))) (Rg WL))) Sk)) (Sr WH (Sq (Sr WG (Bl 0 zO)) (Sq (Sr Fm (Bl 2 sG)) (Rr vr)))))))))))⟩
def aiC:LO:=[Op 2 (.box (.t 0)),Op 3 (.box (.t 1)),Mc 4 (.bool false)]
def aiB:LO:=[Fa 6 0 2,Ld 7 6,Fa 8 0 3,Ld 9 8,Bi 10 .neq 7 9,Mv 11 10,Gf 11 (Fa 12 1 2),Gf 11 (Ld 13 12),Gf 11 (Fa 14 1 3),Gf 11 (Ld 15 14),Gf 11 (Bi 16 .neq 13 15),Po 17 11 16,Mv 18 17,Gf 18 (Fa 19 2 2),Gf 18 (Ld 20 19),Gf 18 (Fa 21 2 3),Gf 18 (Ld 22 21),Gf 18 (Bi 23 .neq 20 22),Po 24 18 23,Mv 25 24,Gf 25 (Fa 26 3 2),Gf 25 (Ld 27 26),Gf 25 (Fa 28 3 3),Gf 25 (Ld 29 28),Gf 25 (Bi 30 .neq 27 29),Po 31 25 30,
 Mv 32 31,Gf 32 (Fa 33 4 2),Gf 32 (Ld 34 33),Gf 32 (Fa 35 4 3),Gf 32 (Ld 36 35),Gf 32 (Bi 37 .neq 34 36),Po 38 32 37,Mv 39 38,Gf 39 (Fa 40 5 2),Gf 39 (Ld 41 40),Gf 39 (Ln 42 0 41),Gf 39 (Fa 43 5 3),Gf 39 (Ld 44 43),Gf 39 (Ln 45 0 44),Gf 39 (Bi 46 .neq 42 45),Po 47 39 46,Mv 48 47,Gf 48 (Fa 49 24 2),Gf 48 (Ld 50 49),Gf 48 (Fa 51 24 3),Gf 48 (Ld 52 51),Gf 48 (Bi 53 .neq 50 52),Po 54 48 53,Mv 55 54,
 Gf 55 (Fa 56 25 2),Gf 55 (Ld 57 56),Gf 55 (Fa 58 25 3),Gf 55 (Ld 59 58),Gf 55 (Bi 60 .neq 57 59),Po 61 55 60,Mv 62 61,Gf 62 (Fa 63 26 2),Gf 62 (Ld 64 63),Gf 62 (Op 65 (.b2s (.t 64))),Gf 62 (Fa 66 26 3),Gf 62 (Ld 67 66),Gf 62 (Op 68 (.b2s (.t 67))),Gf 62 (Bi 69 .neq 65 68),Po 70 62 69]
def aiA:LO:=[Mc 4 (.bool false)]
def aiz:LO:=[Fa 71 5 2,Ld 72 71,Ln 73 0 72,Mc 74 (.int .i64 0)]
def aiy:LO:=[Bi 75 .lss 74 73]
def aix:LO:=[Mv 76 74,Mv 5 76]
def aiw:LO:=[Fa 77 5 2,Ld 78 77,Mv 79 5,Af [1] (Ia 80 2 78 79),Fa 81 0 80,Af [3, 1] (Ld 82 81),Fa 83 5 3,Ld 84 83,Mv 85 5,Af [7] (Ia 86 2 84 85),Fa 87 0 86,Af [9, 7] (Ld 88 87),Bi 89 .neq 82 88,Mv 90 89,Gf 90 (Fa 91 5 2),Af [5, 11, 3, 1, 9, 7] (Gf 90 (Ld 92 91)),Gf 90 (Mv 93 5),Af [15, 5, 11, 3, 1, 9, 7] (Gf 90 (Ia 94 2 92 93)),Gf 90 (Fa 95 1 94),Af [17, 15, 5, 11, 3, 1, 9, 7] (Gf 90 (Ld 96 95)),
 Af [19, 17, 15, 5, 11, 3, 1, 9, 7] (Gf 90 (Op 97 (.b2s (.t 96)))),Gf 90 (Fa 98 5 3),Af [5, 11, 3, 1, 9, 7] (Gf 90 (Ld 99 98)),Gf 90 (Mv 100 5),Af [22, 5, 11, 3, 1, 9, 7] (Gf 90 (Ia 101 2 99 100)),Gf 90 (Fa 102 1 101),Af [24, 22, 5, 11, 3, 1, 9, 7] (Gf 90 (Ld 103 102)),Af [26, 24, 22, 5, 11, 3, 1, 9, 7] (Gf 90 (Op 104 (.b2s (.t 103)))),Gf 90 (Bi 105 .neq 97 104),Po 106 90 105]
def aiv:LO:=[Mc 4 (.bool false)]
def aiu:LO:=[Bc 107 .add 74 1,Mv 74 107]
def GX:ACode:=(Sr aiy (Sq (Cx 75 0) (Sq (Bk 1 (Sr aix (Sq (Rd aiw) (Ci 106 (Rr aiv))))) (Rg aiu))))
def GY:LO:=[Fa 108 6 2,Ld 109 108,Fa 110 6 3,Ld 111 110,Ct 112 169 [109, 111],Mv 113 112,Gt 113 (Fa 114 7 2),Gt 113 (Ls 115 16 114),Gt 113 (Fa 116 7 3),Gt 113 (Ls 117 16 116),Gt 113 (Ct 118 72 [115, 117]),Pa 119 113 118,Mv 120 119,Gt 120 (Fa 121 23 2),Gt 120 (Ld 122 121),Gt 120 (Fa 123 23 3),Gt 120 (Ld 124 123),Gt 120 (Ct 125 169 [122, 124]),Pa 126 120 125,Mv 4 126]
def JF : AFunc := ⟨127, 2, false, [.t 4], (Sr aiC (Sq (Sr aiB (Ci 70 (Rr aiA))) (Sq (Sr aiz (Bl 0 GX)) (Rr GY))))⟩
def Rm:LI:=[.inLoop GX, .inBlock 0, .code (Rr GY)]
def aiW:LO:=[Op 1 (.box (.t 0)),Mc 2 (.int .i64 0)]
def aiV:LO:=[Fa 3 0 1,Ld 4 3,Bc 5 .lss 4 1,Mv 6 5,Gf 6 (Fa 7 0 1),Gf 6 (Ld 8 7),Gf 6 (Bc 9 .gtr 8 5),Po 10 6 9]
def aiU:LO:=[Mc 2 (.int .i64 15)]
def aiT:LO:=[Ls 11 27 1,Ls 12 27 1,Af [1] (Ct 13 157 [12]),Af [0, 2, 1] (Ct 14 156 [11, 13]),Un 15 .not 14]
def aiS:LO:=[Mc 2 (.int .i64 1)]
def aiR:LO:=[Fa 16 0 1,Ld 17 16]
def aiQ:LO:=[Bc 19 .eql 17 1,Mv 18 19]
def aiP:LO:=[Ls 20 27 1,Ct 21 158 [20],Mv 2 21]
def aiO:LO:=[Bc 23 .eql 17 2,Mv 22 23]
def aiN:LO:=[Ls 24 27 1,Ct 25 159 [24],Mv 2 25]
def Yg:LO:=[Bc 27 .eql 17 3,Mv 26 27]
def Yf:LO:=[Fa 29 24 1,Ld 30 29,Bc 31 .lss 30 1,Mv 32 31,Gf 32 (Fa 33 24 1),Gf 32 (Ld 34 33),Gf 32 (Bc 35 .gtr 34 6),Po 36 32 35,Mv 37 36,Gf 37 (Fa 38 25 1),Gf 37 (Ld 39 38),Gf 37 (Bc 40 .lss 39 0),Po 41 37 40,Mv 42 41,Gf 42 (Fa 43 25 1),Gf 42 (Ld 44 43),Gf 42 (Bc 45 .gtr 44 255),Po 46 42 45,Mv 28 46]
def Ye:LO:=[Mc 2 (.int .i64 5)]
def Yd:LO:=[Fa 48 26 1,Ld 49 48,Ln 50 0 49,Bc 51 .gtr 50 65514,Mv 47 51]
def Yc:LO:=[Mc 2 (.int .i64 4)]
def Yb:LO:=[Mc 2 (.int .i64 0)]
def pQ : AFunc := ⟨52, 1, false, [.t 2], (Sr aiW (Sq (Sr aiV (Ci 10 (Rr aiU))) (Sq (Sq (Rd aiT) (Ci 15 (Rr aiS))) (Sq (Sr aiR (Bk 0 (Sr aiQ (Cn 18 (Rr aiP) (Sr aiO (Cn 22 (Rr aiN) (Sr Yg (Cn 26 (Bk 1 (Sr Yf (Cn 28 (Rr Ye) (Sr Yd (Ci 47 (Rr Yc)))))) Sk)))))))) (Rr Yb)))))⟩
def afn:LO:=[Op 1 (.box (.t 0)),Mc 2 (.con (.slice none 0 0))]
def afm:LO:=[Fa 7 1 1,Ld 8 7,Cv 9 .u8 8,Op 10 (.bsl 1 zz1 1 [0] [(.t 9)]),Mv 3 10]
def afl:LO:=[Mv 11 3,Fa 12 2 1,Ld 13 12,Ct 14 204 [13],Cv 15 .u64 14,Ca 16 109 [(.t 11), (.c (.int .i64 2)), (.t 15)],Mv 3 16]
def afk:LO:=[Mv 17 3,Fa 18 3 1,Ld 19 18,Cv 20 .u64 19,Ca 21 109 [(.t 17), (.c (.int .i64 2)), (.t 20)],Mv 3 21]
def afj:LO:=[Mv 22 3,Fa 23 4 1,Ld 24 23,Cv 25 .u64 24,Ca 26 109 [(.t 22), (.c (.int .i64 4)), (.t 25)],Mv 3 26]
def afi:LO:=[Mc 4 (.con (.slice none 0 0))]
def afh:LO:=[Fa 27 5 1,Ld 28 27,Ln 29 0 28,Mc 30 (.int .i64 0)]
def afg:LO:=[Bi 31 .lss 30 29]
def aff:LO:=[Ia 32 2 28 30,Ls 33 2 32,Op 6 (.alloc (.agg zz3)),St 2 6 33]
def afe:LO:=[Mv 34 4,Fa 35 0 6,Ld 36 35,Cv 37 .u8 36,Fa 38 1 6,Ld 39 38,Ln 40 0 39,Cv 41 .u8 40,Op 42 (.bsl 1 zz1 2 [0, 1] [(.t 37), (.t 41)]),Ap 43 1 1 34 42,Mv 4 43]
def Wn:LO:=[Mv 44 4,Fa 45 1 6,Ld 46 45,Ap 47 1 1 44 46,Mv 4 47]
def Wm:LO:=[Bc 48 .add 30 1,Mv 30 48]
def zL:ACode:=(Sr afg (Sq (Cx 31 0) (Sq (Bk 1 (Sr aff (Sr afe (Rg Wn)))) (Rg Wm))))
def Fk:LO:=[Mv 49 4,Ln 50 0 49,Bc 51 .eql 50 0]
def Fj:LO:=[Mv 52 3,Op 53 (.bsl 1 zz1 1 [0] [(.c (.int .u8 0))]),Ap 54 1 1 52 53,Mv 2 54]
def Fh:LO:=[Mv 55 3,Mv 56 4,Ln 57 0 56,Bc 58 .add 57 2,Cv 59 .u8 58,Mv 60 4,Ln 61 0 60,Cv 62 .u8 61,Op 63 (.bsl 1 zz1 3 [0, 1, 2] [(.t 59), (.c (.int .u8 2)), (.t 62)]),Ap 64 1 1 55 63,Mv 3 64]
def Fg:LO:=[Mv 65 3,Mv 66 4,Ap 67 1 1 65 66,Mv 2 67]
def QP : AFunc := ⟨68, 1, false, [.t 2], (Sr afn (Sr afm (Sr afl (Sr afk (Sr afj (Sr afi (Sq (Sr afh (Bl 0 zL)) (Sq (Sr Fk (Ci 51 (Rr Fj))) (Sr Fh (Rr Fg))))))))))⟩
def M8:LI:=[.inLoop zL, .inBlock 0, .code (Sq (Sr Fk (Ci 51 (Rr Fj))) (Sr Fh (Rr Fg)))]
def afd:LO:=[Op 2 (.box (.t 0)),Mc 4 (.con (.slice none 0 0)),Mc 5 (.int .i64 0)]
def afc:LO:=[Fa 11 6 2,Ld 12 11,Ct 13 205 [12],Mv 6 13]
def afb:LO:=[Mc 7 (.con (.slice none 0 0))]
def afa:LO:=[Fa 14 23 2,Ld 15 14,Ln 16 0 15,Bc 17 .gtr 16 0]
def ae9:LO:=[Fa 19 7 2,Ls 20 16 19,Mv 21 1,Ct 22 67 [20, 21],Mv 18 22,Ex 23 18 0,Ex 24 18 1,Mv 8 23,Mv 9 24]
def ae8:LO:=[Mv 25 9,Bc 26 .neq 25 0]
def ae7:LO:=[Mv 27 9,Mc 4 (.con (.slice none 0 0)),Mv 5 27]
def ae6:LO:=[Mv 28 8,Mv 7 28]
def ae5:LO:=[Mv 29 6,Ln 30 0 29,Bc 31 .gtr 30 65535,Mv 32 31,Gf 32 (Mv 33 7),Gf 32 (Ln 34 0 33),Gf 32 (Bc 35 .gtr 34 65535),Po 36 32 35]
def ae4:LO:=[Mc 4 (.con (.slice none 0 0)),Mc 5 (.int .i64 4)]
def Wl:LO:=[Mv 37 6,Ln 38 0 37,Cv 39 .u64 38,Ca 40 109 [(.c (.con (.slice none 0 0))), (.c (.int .i64 2)), (.t 39)],Mv 41 6,Ap 42 1 1 40 41,Mv 10 42]
def Wh:LO:=[Mv 43 10,Mv 44 7,Ln 45 0 44,Cv 46 .u64 45,Ca 47 109 [(.t 43), (.c (.int .i64 2)), (.t 46)],Mv 48 7,Ap 49 1 1 47 48,Mv 10 49]
def Wg:LO:=[Mv 50 10,Fa 51 23 2,Ld 52 51,Ct 53 205 [52],Ap 54 1 1 50 53,Mv 4 54,Mc 5 (.int .i64 0)]
def pH : AFunc := ⟨55, 2, false, [.t 4, .t 5], (Sr afd (Sr afc (Sr afb (Sq (Sr afa (Cn 17 (Sr ae9 (Sq (Sr ae8 (Ci 26 (Rr ae7))) (Rg ae6))) Sk)) (Sq (Sr ae5 (Ci 36 (Rr ae4))) (Sr Wl (Sr Wh (Rr Wg))))))))⟩
def akb:LO:=[Mc 6 (.con (.slice none 0 0))]
def aka:LO:=[Mv 7 0,Mv 8 1,Op 9 (.minmax true [(.t 8), (.c (.int .i64 0))]),Op 10 (.minmax false [(.t 9), (.c (.int .i64 8))]),Mv 11 2,Ct 12 120 [10, 11],Op 13 (.bsl 1 zz5 2 [0, 1] [(.t 7), (.t 12)]),Ct 14 119 [13],Mv 6 14]
def RX : AFunc := ⟨15, 3, false, [.t 6], (Sr akb (Rr aka))⟩
def aiM:LO:=[Op 1 (.box (.t 0)),Mc 2 (.int .i64 0)]
def aiL:LO:=[Fa 3 0 1,Ld 4 3,Bc 5 .lss 4 1,Mv 6 5,Gf 6 (Fa 7 0 1),Gf 6 (Ld 8 7),Gf 6 (Bc 9 .gtr 8 5),Po 10 6 9]
def aiK:LO:=[Mc 2 (.int .i64 15)]
def aiJ:LO:=[Ls 11 27 1,Ct 12 160 [11],Un 13 .not 12]
def aiI:LO:=[Mc 2 (.int .i64 1)]
def aiH:LO:=[Fa 14 0 1,Ld 15 14]
def aiG:LO:=[Bc 17 .eql 15 1,Mv 16 17]
def aiF:LO:=[Ls 18 27 1,Ct 19 161 [18],Mv 2 19]
def aiE:LO:=[Bc 21 .eql 15 2,Mv 20 21]
def aiD:LO:=[Ls 22 27 1,Ct 23 162 [22],Mv 2 23]
def Ya:LO:=[Bc 25 .eql 15 3,Mv 24 25]
def XZ:LO:=[Fa 26 24 1,Ld 27 26,Bc 28 .lss 27 1,Mv 29 28,Gf 29 (Fa 30 24 1),Gf 29 (Ld 31 30),Gf 29 (Bc 32 .gtr 31 6),Po 33 29 32,Mv 34 33,Gf 34 (Fa 35 25 1),Gf 34 (Ld 36 35),Gf 34 (Bc 37 .lss 36 0),Po 38 34 37,Mv 39 38,Gf 39 (Fa 40 25 1),Gf 39 (Ld 41 40),Gf 39 (Bc 42 .gtr 41 255),Po 43 39 42]
def XY:LO:=[Mc 2 (.int .i64 5)]
def XX:LO:=[Fa 44 26 1,Ld 45 44,Ln 46 0 45,Bc 47 .gtr 46 65514]
def XW:LO:=[Mc 2 (.int .i64 4)]
def XV:LO:=[Mc 2 (.int .i64 0)]
def pM : AFunc := ⟨48, 1, false, [.t 2], (Sr aiM (Sq (Sr aiL (Ci 10 (Rr aiK))) (Sq (Sr aiJ (Ci 13 (Rr aiI))) (Sq (Sr aiH (Bk 0 (Sr aiG (Cn 16 (Rr aiF) (Sr aiE (Cn 20 (Rr aiD) (Sr Ya (Cn 24 (Sq (Sr XZ (Ci 43 (Rr XY))) (Sr XX (Ci 47 (Rr XW)))) Sk)))))))) (Rr XV)))))⟩
def ae3:LO:=[Op 6 (.alloc (.agg zz0))]
def ae2:LO:=[Mv 7 0,Mv 8 1,Mv 9 2,Op 10 (.build zz0 [(0, 1), (24, 1), (25, 1), (26, 1)] [(.c (.int .i64 3)), (.t 7), (.t 8), (.t 9)]),St 27 6 10]
def JD : AFunc := ⟨11, 3, false, [.cell 6 (some 27)], (Sr ae3 (Rr ae2))⟩
def aj9:LO:=[Mc 6 (.int .u64 0),Mc 7 (.bool false)]
def aj8:LO:=[Mv 11 2,Bc 12 .lss 11 0,Mv 13 12,Gf 13 (Mv 14 2),Gf 13 (Bc 15 .gtr 14 8),Po 16 13 15,Mv 17 16,Gf 17 (Mv 18 1),Gf 17 (Bc 19 .lss 18 0),Po 20 17 19,Mv 21 20,Gf 21 (Mv 22 1),Gf 21 (Mv 23 0),Gf 21 (Ln 24 0 23),Gf 21 (Mv 25 2),Gf 21 (Bi 26 .sub 24 25),Gf 21 (Bi 27 .gtr 22 26),Po 28 21 27]
def aj7:LO:=[Mc 6 (.int .u64 0),Mc 7 (.bool false)]
def aj6:LO:=[Mc 8 (.int .u64 0)]
def aj5:LO:=[Mv 29 0,Mv 30 1,Mv 31 1,Mv 32 2,Bi 33 .add 31 32,Op 34 (.slc 1 (.t 29) (some (.t 30)) (some (.t 33)) none),Ln 35 0 34,Mc 36 (.int .i64 0)]
def aj4:LO:=[Bi 37 .lss 36 35]
def aj3:LO:=[Ia 38 1 34 36,Ld 39 38,Mv 10 39]
def aj2:LO:=[Mv 40 8,Op 41 (.bin .shl (.t 40) (.c (.int .u64 8))),Mv 42 10,Cv 43 .u64 42,Bi 44 .or 41 43,Mv 8 44]
def aj1:LO:=[Bc 45 .add 36 1,Mv 36 45]
def Ik:ACode:=(Sr aj4 (Sq (Cx 37 0) (Sq (Bk 1 (Sr aj3 (Rg aj2))) (Rg aj1))))
def Il:LO:=[Mv 46 8,Mv 6 46,Mc 7 (.bool true)]
def RU : AFunc := ⟨47, 3, false, [.t 6, .t 7], (Sr aj9 (Sq (Sr aj8 (Ci 28 (Rr aj7))) (Sr aj6 (Sq (Sr aj5 (Bl 0 Ik)) (Rr Il)))))⟩
def RT:LI:=[.inLoop Ik, .inBlock 0, .code (Rr Il)]
def ae1:LO:=[Mc 4 (.bool false)]
def ae0:LO:=[Mv 5 0]
def aeZ:LO:=[Bc 7 .eql 5 1,Mv 6 7]
def aeY:LO:=[Mv 8 1,Bc 9 .lss 8 29,Mv 4 9]
def aeX:LO:=[Bc 11 .eql 5 2,Mv 10 11]
def aeW:LO:=[Mv 12 1,Bc 13 .lss 12 23,Mv 4 13]
def aeV:LO:=[Bc 15 .eql 5 3,Mv 14 15]
def aeU:LO:=[Mv 16 1,Bc 17 .lss 16 21,Mv 4 17]
def aeT:LO:=[Bc 19 .eql 5 4,Mv 18 19]
def aeS:LO:=[Mv 20 1,Bc 21 .neq 20 19,Mv 4 21]
def We:LO:=[Mv 22 1,Bc 23 .neq 22 23,Mv 4 23]
def sE : AFunc := ⟨24, 2, false, [.t 4], (Sr ae1 (Sq (Sr ae0 (Bk 0 (Sr aeZ (Cn 6 (Rr aeY) (Sr aeX (Cn 10 (Rr aeW) (Sr aeV (Cn 14 (Rr aeU) (Sr aeT (Ci 18 (Rr aeS))))))))))) (Rr We)))⟩
def aeR:LO:=[Op 2 (.alloc (.agg zz0)),Op 3 (.alloc (.agg zz0)),Mc 4 (.int .i64 0)]
def aeQ:LO:=[Mv 17 0,Op 18 (.build zz5 [(0, 1)] [(.t 17)]),Op 19 (.box (.t 18)),Mv 5 19]
def aeP:LO:=[Mv 20 5,Ca 21 206 [(.t 20), (.c (.int .i64 1))],Op 22 (.build zz0 [(0, 1), (1, 1)] [(.c (.int .i64 1)), (.t 21)]),Op 6 (.alloc (.agg zz0)),St 27 6 22]
def aeO:LO:=[Fa 23 1 6,Ld 24 23,Bc 25 .neq 24 4]
def aeN:LO:=[Op 26 (.build zz0 [] []),Op 27 (.bsl 1 zz1 2 [0, 1] [(.c (.int .u8 0)), (.c (.int .u8 4))]),Ca 28 198 [(.c (.int .i64 2)), (.c (.int .i64 1)), (.t 27)],St 27 2 26,St 27 3 28,Mc 4 (.int .i64 12)]
def aeM:LO:=[Mv 29 5,Ca 30 206 [(.t 29), (.c (.int .i64 2))],Mv 7 30]
def aeL:LO:=[Mv 31 7,Fa 32 2 6,St 1 32 31]
def aeK:LO:=[Mv 33 5,Ca 34 206 [(.t 33), (.c (.int .i64 2))],Fa 35 3 6,St 1 35 34]
def aeJ:LO:=[Mv 36 5,Ca 37 206 [(.t 36), (.c (.int .i64 4))],Cv 38 .u32 37,Fa 39 4 6,St 1 39 38]
def aeI:LO:=[Mv 40 5,Ca 41 206 [(.t 40), (.c (.int .i64 1))],Mv 8 41]
def Wc:LO:=[Mv 42 5,Nc 43 42,Fa 44 0 43,Ld 45 44,Ln 46 0 45,Mv 47 8,Bi 48 .eql 46 47,Mv 9 48]
def Wb:LO:=[Mv 49 9,Mv 50 49,Gt 50 (Mv 51 8),Gt 50 (Bc 52 .gtr 51 0),Pa 53 50 52]
def Wa:LO:=[Mv 54 5,Nc 55 54,Fa 56 0 55,Ld 57 56,Op 58 (.build zz5 [(0, 1)] [(.t 57)]),Op 59 (.build zz7 [(0, 1)] [(.t 58)]),Op 60 (.box (.t 59)),Mv 10 60]
def V9:LO:=[Mv 61 10,Nc 62 61,Fa 63 0 62,Ca 64 207 [(.t 63), (.c (.int .i64 2))],Mv 65 64,Gt 65 (Mv 66 10),Gt 65 (Nc 67 66),Gt 65 (Fa 68 0 67),Gt 65 (Ca 69 206 [(.t 68), (.c (.int .i64 1))]),Gt 65 (Bc 70 .eql 69 2),Pa 71 65 70,Mv 72 71,Gt 72 (Mv 73 10),Gt 72 (Nc 74 73),Gt 72 (Fa 75 0 74),Gt 72 (Ca 76 206 [(.t 75), (.c (.int .i64 1))]),Gt 72 (Mv 77 8),Gt 72 (Bc 78 .sub 77 2),Gt 72 (Bi 79 .eql 76 78),
 Pa 80 72 79,Mv 81 80,Gt 81 (Mv 82 10),Gt 81 (Ct 83 208 [82]),Pa 84 81 83,Mv 9 84]
def V8:LO:=[Mv 85 10,Nc 86 85,Fa 87 1 86,Ld 88 87,Fa 89 5 6,St 1 89 88]
def V7:LO:=[Mv 90 9,Un 91 .not 90]
def V6:LO:=[Op 92 (.build zz0 [] []),Ca 93 198 [(.c (.int .i64 2)), (.c (.int .i64 4)), (.c (.con (.slice none 0 0)))],St 27 2 92,St 27 3 93,Mc 4 (.int .i64 2)]
def V5:LO:=[Fa 94 5 6,Ld 95 94,Ln 96 0 95,Mc 97 (.int .i64 0)]
def V4:LO:=[Bi 98 .lss 97 96]
def VZ:LO:=[Ia 99 2 95 97,Ls 100 2 99,Op 12 (.alloc (.agg zz3)),St 2 12 100]
def VY:LO:=[Fa 101 0 12,Ld 102 101,Bc 103 .eql 102 65,Mv 104 103,Gt 104 (Fa 105 1 12),Gt 104 (Ld 106 105),Gt 104 (Ln 107 0 106),Gt 104 (Bc 108 .eql 107 4),Pa 109 104 108]
def VX:LO:=[Fa 111 1 12,Ld 112 111,Ca 113 110 [(.t 112), (.c (.int .i64 0)), (.c (.int .i64 4))],Mv 110 113,Ex 114 110 0,Ex 115 110 1,Mv 13 114,Mv 14 115]
def VV:LO:=[Mv 116 13,Cv 117 .i64 116,Fa 118 2 6,St 1 118 117]
def VU:LO:=[Bc 119 .add 97 1,Mv 97 119]
def zK:ACode:=(Sr V4 (Sq (Cx 98 0) (Sq (Bk 1 (Sr VZ (Sr VY (Cn 109 (Sr VX (Sr VV (Xt 0))) Sk)))) (Rg VU))))
def Fe:LO:=[Mv 120 7,Fa 121 2 6,Ld 122 121,Ct 123 204 [122],Bi 124 .neq 120 123]
def Fd:LO:=[Op 125 (.build zz0 [] []),Ca 126 198 [(.c (.int .i64 2)), (.c (.int .i64 2)), (.c (.con (.slice none 0 0)))],St 27 2 125,St 27 3 126,Mc 4 (.int .i64 14)]
def Fc:LO:=[Ls 127 27 6,Ct 128 144 [127],Mv 15 128]
def Fb:LO:=[Mv 129 15,Bc 130 .eql 129 0]
def EZ:LO:=[Ls 131 27 6,Op 132 (.build zz0 [] []),St 27 2 131,St 27 3 132,Mc 4 (.int .i64 0)]
def EY:LO:=[Mc 16 (.int .i64 4)]
def EW:LO:=[Fa 134 2 6,Ld 135 134,Bc 136 .lss 135 1,Mv 137 136,Gf 137 (Fa 138 2 6),Gf 137 (Ld 139 138),Gf 137 (Bc 140 .gtr 139 4294967295),Po 141 137 140,Mv 133 141]
def EU:LO:=[Mc 16 (.int .i64 2)]
def ET:LO:=[Mv 143 15,Bc 144 .eql 143 21,Mv 142 144]
def EP:LO:=[Mc 16 (.int .i64 6)]
def EO:LO:=[Fa 146 4 6,Ld 147 146,Op 148 (.bin .eql (.t 147) (.c (.int .u32 0))),Mv 145 148]
def EH:LO:=[Mc 16 (.int .i64 3)]
def EF:LO:=[Op 149 (.build zz0 [] []),Mv 150 16,Ca 151 198 [(.c (.int .i64 2)), (.t 150), (.c (.con (.slice none 0 0)))],Mv 152 15,St 27 2 149,St 27 3 151,Mv 4 152]
def mP : AFunc := ⟨153, 1, false, [.cell 2 (some 27), .cell 3 (some 27), .t 4], (Sr aeR (Sr aeQ (Sr aeP (Sq (Sr aeO (Ci 25 (Rr aeN))) (Sr aeM (Sr aeL (Sr aeK (Sr aeJ (Sr aeI (Sr Wc (Sq (Sr Wb (Cn 53 (Sr Wa (Sr V9 (Rg V8))) Sk)) (Sq (Sr V7 (Ci 91 (Rr V6))) (Sq (Sr V5 (Bl 0 zK)) (Sq (Sr Fe (Ci 124 (Rr Fd))) (Sr Fc (Sq (Sr Fb (Ci 130 (Rr EZ))) (Sr EY (Sq (Bk 2 (Sr EW (Cn 133 (Rg EU) (Sr ET (Cn 142 (Rg EP) (Sr EO (Cn 145 (Rg EH) Sk))))))) (Rr EF)))))))))))))))))))⟩
def eH:LI:=[.inLoop zK, .inBlock 0, .code (Sq (Sr Fe (Ci 124 (Rr Fd))) (Sr Fc (Sq (Sr Fb (Ci 130 (Rr EZ))) (Sr EY (Sq (Bk 2 (Sr EW (Cn 133 (Rg EU) (Sr ET (Cn 142 (Rg EP) (Sr EO (Cn 145 (Rg EH) Sk))))))) (Rr EF))))))]
def aeH:LO:=[Op 4 (.alloc (.agg zz0)),Op 5 (.alloc (.agg zz0)),Mc 6 (.int .i64 0)]
def aeG:LO:=[Mv 16 0,Op 17 (.build zz5 [(0, 1)] [(.t 16)]),Op 18 (.box (.t 17)),Mv 7 18]
def aeF:LO:=[Mv 19 7,Ca 20 206 [(.t 19), (.c (.int .i64 2))],Mv 8 20]
def aeE:LO:=[Mv 21 7,Mv 22 8,Bc 23 .add 22 2,Ct 24 207 [21, 23],Un 25 .not 24]
def aeD:LO:=[Op 26 (.build zz0 [] []),Ca 27 198 [(.c (.int .i64 3)), (.c (.int .i64 1)), (.c (.con (.slice none 0 0)))],St 27 4 26,St 27 5 27,Mc 6 (.int .i64 2)]
def aeC:LO:=[Mv 28 7,Mv 29 8,Ct 30 209 [28, 29],Op 31 (.build zz5 [(0, 1)] [(.t 30)]),Op 32 (.build zz7 [(0, 1)] [(.t 31)]),Op 33 (.box (.t 32)),Mv 9 33]
def aeB:LO:=[Mv 34 7,Ca 35 206 [(.t 34), (.c (.int .i64 2))],Mv 8 35]
def aeA:LO:=[Mv 36 7,Mv 37 8,Ct 38 207 [36, 37],Un 39 .not 38]
def aez:LO:=[Op 40 (.build zz0 [] []),Ca 41 198 [(.c (.int .i64 3)), (.c (.int .i64 1)), (.c (.con (.slice none 0 0)))],St 27 4 40,St 27 5 41,Mc 6 (.int .i64 2)]
def aey:LO:=[Mv 42 7,Mv 43 8,Ct 44 209 [42, 43],Mv 10 44]
def VT:LO:=[Mv 45 7,Nc 46 45,Ls 47 1 46,Op 48 (.build zz7 [(0, 1)] [(.t 47)]),Op 49 (.box (.t 48)),Mv 11 49]
def VR:LO:=[Mv 50 9,Ct 51 210 [50],Un 52 .not 51,Mv 53 52,Gf 53 (Mv 54 11),Gf 53 (Ct 55 210 [54]),Gf 53 (Un 56 .not 55),Po 57 53 56]
def VQ:LO:=[Op 58 (.build zz0 [] []),Ca 59 198 [(.c (.int .i64 3)), (.c (.int .i64 10)), (.c (.con (.slice none 0 0)))],St 27 4 58,St 27 5 59,Mc 6 (.int .i64 2)]
def VP:LO:=[Mv 60 9,Nc 61 60,Fa 62 1 61,Ld 63 62,Mv 64 11,Nc 65 64,Fa 66 1 65,Ld 67 66,Op 68 (.build zz0 [(0, 1), (6, 1), (23, 1)] [(.c (.int .i64 2)), (.t 63), (.t 67)]),Op 12 (.alloc (.agg zz0)),Af [9, 3, 7] (St 27 12 68)]
def VO:LO:=[Mv 69 10,Ln 70 0 69,Bc 71 .gtr 70 0,Mv 72 71,Gf 72 (Fa 73 23 12),Gf 72 (Ld 74 73),Gf 72 (Ln 75 0 74),Gf 72 (Bc 76 .gtr 75 0),Po 77 72 76]
def VN:LO:=[Mv 79 10,Mv 80 1,Ct 81 69 [79, 80],Mv 78 81,Ex 82 78 0,Ex 83 78 1,Op 13 (.alloc (.agg zz2)),St 16 13 82,Mv 14 83]
def VM:LO:=[Mv 84 14,Bc 85 .eql 84 6]
def VL:LO:=[Op 86 (.build zz0 [] []),Ca 87 198 [(.c (.int .i64 3)), (.c (.int .i64 3)), (.c (.con (.slice none 0 0)))],Mv 88 14,St 27 4 86,St 27 5 87,Mv 6 88]
def VK:LO:=[Mv 89 14,Bc 90 .neq 89 0]
def VJ:LO:=[Op 91 (.build zz0 [] []),Ca 92 198 [(.c (.int .i64 3)), (.c (.int .i64 1)), (.c (.con (.slice none 0 0)))],Mv 93 14,St 27 4 91,St 27 5 92,Mv 6 93]
def VI:LO:=[Ls 94 16 13,Fa 95 7 12,St 16 95 94]
def VH:LO:=[Mv 96 10,Ln 97 0 96,Bc 98 .gtr 97 0,Mv 99 98,Gt 99 (Fa 100 23 12),Gt 99 (Ld 101 100),Gt 99 (Ln 102 0 101),Gt 99 (Bc 103 .eql 102 0),Pa 104 99 103]
def VG:LO:=[Op 105 (.build zz0 [] []),Ca 106 198 [(.c (.int .i64 3)), (.c (.int .i64 1)), (.c (.con (.slice none 0 0)))],St 27 4 105,St 27 5 106,Mc 6 (.int .i64 2)]
def VE:LO:=[Ls 107 27 12,Ct 108 144 [107],Mv 15 108]
def VD:LO:=[Mv 109 15,Bc 110 .neq 109 0]
def VC:LO:=[Op 111 (.build zz0 [] []),Ca 112 198 [(.c (.int .i64 3)), (.c (.int .i64 10)), (.c (.con (.slice none 0 0)))],Mv 113 15,St 27 4 111,St 27 5 112,Mv 6 113]
def VB:LO:=[Ls 114 27 12,Op 115 (.build zz0 [] []),St 27 4 114,St 27 5 115,Mc 6 (.int .i64 0)]
def dh : AFunc := ⟨116, 2, false, [.cell 4 (some 27), .cell 5 (some 27), .t 6], (Sr aeH (Sr aeG (Sr aeF (Sq (Sr aeE (Ci 25 (Rr aeD))) (Sr aeC (Sr aeB (Sq (Sr aeA (Ci 39 (Rr aez))) (Sr aey (Sr VT (Sq (Sr VR (Ci 57 (Rr VQ))) (Sq (Rd VP) (Sq (Sr VO (Cn 77 (Sr VN (Sq (Sr VM (Ci 85 (Rr VL))) (Sq (Sr VK (Ci 90 (Rr VJ))) (Rg VI)))) Sk)) (Sq (Sr VH (Ci 104 (Rr VG))) (Sq (Sr VE (Sr VD (Ci 110 (Rr VC)))) (Rr VB)))))))))))))))⟩
def avV:LO:=[Op 6 (.alloc (.agg zz0))]
def avU:LO:=[Mv 7 0,Mv 8 1,Op 9 (.bsl 1 zz1 0 [] []),Mv 10 2,Ap 11 1 1 9 10,Op 12 (.build zz0 [(0, 1), (24, 1), (25, 1), (26, 1)] [(.c (.int .i64 3)), (.t 7), (.t 8), (.t 11)]),St 27 6 12]
def aq0 : AFunc := ⟨13, 3, false, [.cell 6 (some 27)], (Sr avV (Rr avU))⟩
def avT:LO:=[Mc 6 (.int .i64 0)]
def avS:LO:=[Mv 10 0,Mv 11 1,Mv 12 2,Ct 13 113 [10, 11, 12],Mv 9 13,Ex 14 9 0,Ex 15 9 1,Mv 7 14,Mv 8 15]
def avR:LO:=[Mv 16 7,Cv 17 .i64 16,Mv 6 17]
def asV : AFunc := ⟨18, 3, false, [.t 6], (Sr avT (Sr avS (Rr avR)))⟩
def avP:LO:=[Mc 2 (.int .i64 0)]
def avO:LO:=[Mv 3 0]
def avN:LO:=[Bc 5 .eql 3 1,Mv 4 5]
def avM:LO:=[Mc 2 (.int .i64 29)]
def avL:LO:=[Bc 7 .eql 3 2,Mv 6 7]
def avK:LO:=[Bc 8 .eql 3 5,Mv 6 8]
def avJ:LO:=[Mc 2 (.int .i64 23)]
def avI:LO:=[Bc 10 .eql 3 3,Mv 9 10]
def avH:LO:=[Mc 2 (.int .i64 21)]
def avG:LO:=[Mc 2 (.int .i64 19)]
def ew : AFunc := ⟨11, 1, false, [.t 2], (Sr avP (Sq (Sr avO (Bk 0 (Sr avN (Cn 4 (Rr avM) (Sq (Sr avL (Cn 6 Sk (Rg avK))) (Cn 6 (Rr avJ) (Sr avI (Ci 9 (Rr avH))))))))) (Rr avG)))⟩
def avF:LO:=[Op 2 (.alloc (.agg zz0)),Op 3 (.alloc (.agg zz0)),Mc 4 (.int .i64 0)]
def avE:LO:=[Op 13 (.build zz0 [] []),Op 5 (.alloc (.agg zz0)),St 27 5 13]
def avD:LO:=[Mv 14 0,Op 15 (.iadr 1 (.t 14) (.c (.int .i64 19))),Ld 16 15,Op 17 (.bin .neq (.t 16) (.c (.int .u8 4)))]
def avC:LO:=[Ls 18 27 5,Op 19 (.bsl 1 zz1 2 [0, 1] [(.c (.int .u8 0)), (.c (.int .u8 4))]),Af [1] (Ca 20 359 [(.c (.int .i64 2)), (.c (.int .i64 1)), (.t 19)]),Af [2, 0, 1] (St 27 2 18),Af [3, 2, 0, 1] (St 27 3 20),Mc 4 (.int .i64 12)]
def avB:LO:=[Mv 22 0,Op 23 (.slc 1 (.t 22) (some (.c (.int .i64 28))) none none),Ct 24 366 [23],Mv 21 24,Ex 25 21 0,Ex 26 21 1,Mv 6 25,Mv 7 26]
def avA:LO:=[Mv 27 7,Un 28 .not 27]
def avz:LO:=[Ls 29 27 5,Ca 30 359 [(.c (.int .i64 2)), (.c (.int .i64 4)), (.c (.con (.slice none 0 0)))],Af [1, 0] (St 27 2 29),Af [2, 1, 0] (St 27 3 30),Mc 4 (.int .i64 2)]
def avy:LO:=[Mv 31 0,Ca 32 360 [(.t 31), (.c (.int .i64 20)), (.c (.int .i64 2))],Mv 8 32]
def avx:LO:=[Mv 33 8,Mv 34 0,Ca 35 360 [(.t 34), (.c (.int .i64 22)), (.c (.int .i64 2))],Mv 36 0,Ca 37 360 [(.t 36), (.c (.int .i64 24)), (.c (.int .i64 4))],Cv 38 .u32 37,Mv 39 6,Op 40 (.build zz0 [(0, 1), (1, 1), (2, 1), (3, 1), (4, 1), (5, 1)] [(.c (.int .i64 1)), (.c (.int .i64 4)), (.t 33), (.t 35), (.t 38), (.t 39)]),Op 9 (.alloc (.agg zz0)),St 27 9 40]
def avw:LO:=[Mv 41 6,Ln 42 0 41,Bc 43 .sub 42 1,Mv 10 43]
def atY:LO:=[Mv 44 10,Bc 45 .geq 44 0]
def atX:LO:=[Mv 48 6,Mv 49 10,Ia 50 2 48 49,Fa 51 0 50,Ld 52 51,Bc 53 .eql 52 65,Mv 54 53,Gt 54 (Mv 55 6),Gt 54 (Mv 56 10),Gt 54 (Ia 57 2 55 56),Gt 54 (Fa 58 1 57),Gt 54 (Ld 59 58),Gt 54 (Ln 60 0 59),Gt 54 (Bc 61 .eql 60 4),Pa 62 54 61]
def atW:LO:=[Mv 63 6,Mv 64 10,Ia 65 2 63 64,Fa 66 1 65,Ld 67 66,Ca 68 360 [(.t 67), (.c (.int .i64 0)), (.c (.int .i64 4))],Fa 69 2 9,St 1 69 68]
def atV:LO:=[Mv 46 10,Bc 47 .sub 46 1,Mv 10 47]
def aln:ACode:=(Sq (Sr atY (Cx 45 0)) (Sq (Bk 1 (Sr atX (Cn 62 (Rg atW) Sk))) (Rg atV)))
def ary:LO:=[Fa 70 2 9,Ld 71 70,Mv 11 71]
def arx:LO:=[Mv 72 11,Bc 73 .gtr 72 65535]
def arw:LO:=[Mc 11 (.int .i64 23456)]
def arv:LO:=[Mv 74 8,Mv 75 11,Bi 76 .neq 74 75]
def aru:LO:=[Ls 77 27 5,Ca 78 359 [(.c (.int .i64 2)), (.c (.int .i64 2)), (.c (.con (.slice none 0 0)))],Af [1, 0] (St 27 2 77),Af [2, 1, 0] (St 27 3 78),Mc 4 (.int .i64 14)]
def art:LO:=[Ls 79 27 9,Ct 80 148 [79],Mv 12 80]
def ars:LO:=[Mv 82 12,Bc 83 .eql 82 0,Mv 81 83]
def arq:LO:=[Ls 84 27 9,Ls 85 27 5,Mv 86 12,Af [0] (St 27 2 84),Af [1, 3, 0] (St 27 3 85),Mv 4 86]
def arp:LO:=[Fa 88 2 9,Ld 89 88,Bc 90 .lss 89 1,Mv 87 90]
def aro:LO:=[Ls 91 27 5,Ca 92 359 [(.c (.int .i64 2)), (.c (.int .i64 2)), (.c (.con (.slice none 0 0)))],Mv 93 12,Af [1, 0] (St 27 2 91),Af [3, 1, 0] (St 27 3 92),Mv 4 93]
def arn:LO:=[Mv 95 12,Bc 96 .eql 95 21,Mv 94 96]
def arm:LO:=[Ls 97 27 5,Ca 98 359 [(.c (.int .i64 2)), (.c (.int .i64 6)), (.c (.con (.slice none 0 0)))],Mv 99 12,Af [1, 0] (St 27 2 97),Af [3, 1, 0] (St 27 3 98),Mv 4 99]
def arl:LO:=[Fa 101 4 9,Ld 102 101,Op 103 (.bin .eql (.t 102) (.c (.int .u32 0))),Mv 100 103]
def ark:LO:=[Ls 104 27 5,Ca 105 359 [(.c (.int .i64 2)), (.c (.int .i64 3)), (.c (.con (.slice none 0 0)))],Mv 106 12,Af [1, 0] (St 27 2 104),Af [3, 1, 0] (St 27 3 105),Mv 4 106]
def arj:LO:=[Ls 107 27 5,Ca 108 359 [(.c (.int .i64 2)), (.c (.int .i64 4)), (.c (.con (.slice none 0 0)))],Mv 109 12,Af [1, 0] (St 27 2 107),Af [3, 1, 0] (St 27 3 108),Mv 4 109]
def s6 : AFunc := ⟨110, 1, false, [.cell 2 (some 27), .cell 3 (some 27), .t 4], (Sr avF (Sr avE (Sq (Sr avD (Cn 17 (Sq (Rd avC) Rt) Sk)) (Sr avB (Sq (Sr avA (Cn 28 (Sq (Rd avz) Rt) Sk)) (Sr avy (Sr avx (Sq (Sr avw (Bl 0 aln)) (Sr ary (Sq (Sr arx (Cn 73 (Rg arw) Sk)) (Sq (Sr arv (Cn 76 (Sq (Rd aru) Rt) Sk)) (Sr art (Sq (Bk 2 (Sr ars (Cn 81 (Sq (Rd arq) Rt) (Sr arp (Cn 87 (Sq (Rd aro) Rt) (Sr arn (Cn 94 (Sq (Rd arm) Rt) (Sr arl (Cn 100 (Sq (Rd ark) Rt) Sk))))))))) (Sq (Rd arj) Rt))))))))))))))⟩
def eD:LI:=[.inLoop aln, .inBlock 0, .code (Sr ary (Sq (Sr arx (Cn 73 (Rg arw) Sk)) (Sq (Sr arv (Cn 76 (Sq (Rd aru) Rt) Sk)) (Sr art (Sq (Bk 2 (Sr ars (Cn 81 (Sq (Rd arq) Rt) (Sr arp (Cn 87 (Sq (Rd aro) Rt) (Sr arn (Cn 94 (Sq (Rd arm) Rt) (Sr arl (Cn 100 (Sq (Rd ark) Rt) Sk))))))))) (Sq (Rd arj) Rt))))))]
def avv:LO:=[Op 4 (.alloc (.agg zz0)),Op 5 (.alloc (.agg zz0)),Mc 6 (.int .i64 0)]
def avu:LO:=[Op 19 (.build zz0 [] []),Op 7 (.alloc (.agg zz0)),St 27 7 19]
def avt:LO:=[Ca 20 359 [(.c (.int .i64 3)), (.c (.int .i64 1)), (.c (.con (.slice none 0 0)))],Op 8 (.alloc (.agg zz0)),St 27 8 20]
def avs:LO:=[Mv 21 0,Ca 22 360 [(.t 21), (.c (.int .i64 19)), (.c (.int .i64 2))],Mv 9 22]
def avr:LO:=[Mv 23 9,Op 24 (.bin .add (.c (.int .i64 23)) (.t 23)),Mv 25 0,Ln 26 0 25,Bi 27 .gtr 24 26]
def avq:LO:=[Ls 28 27 7,Ls 29 27 8,Af [0] (St 27 4 28),Af [1, 2, 0] (St 27 5 29),Mc 6 (.int .i64 2)]
def avp:LO:=[Mv 30 0,Mv 31 9,Op 32 (.bin .add (.c (.int .i64 21)) (.t 31)),Ca 33 360 [(.t 30), (.t 32), (.c (.int .i64 2))],Mv 10 33]
def avo:LO:=[Mv 34 9,Op 35 (.bin .add (.c (.int .i64 23)) (.t 34)),Mv 36 10,Bi 37 .add 35 36,Mv 38 0,Ln 39 0 38,Bi 40 .gtr 37 39]
def avn:LO:=[Ls 41 27 7,Ls 42 27 8,Af [0] (St 27 4 41),Af [1, 2, 0] (St 27 5 42),Mc 6 (.int .i64 2)]
def avm:LO:=[Op 43 (.build zz0 [(0, 1)] [(.c (.int .i64 2))]),Op 11 (.alloc (.agg zz0)),St 27 11 43]
def atU:LO:=[Mv 45 0,Mv 46 9,Op 47 (.bin .add (.c (.int .i64 21)) (.t 46)),Op 48 (.slc 1 (.t 45) (some (.c (.int .i64 21))) (some (.t 47)) none),Ct 49 367 [48],Mv 44 49,Ex 50 44 0,Ex 51 44 1,Mv 12 50,Mv 13 51]
def atT:LO:=[Mv 53 0,Mv 54 9,Op 55 (.bin .add (.c (.int .i64 23)) (.t 54)),Mv 56 10,Bi 57 .add 55 56,Op 58 (.slc 1 (.t 53) (some (.t 57)) none none),Ct 59 367 [58],Mv 52 59,Ex 60 52 0,Ex 61 52 1,Mv 14 60,Mv 15 61]
def atS:LO:=[Mv 62 13,Un 63 .not 62,Mv 64 63,Gf 64 (Mv 65 15),Gf 64 (Un 66 .not 65),Po 67 64 66]
def atR:LO:=[Ls 68 27 7,Ca 69 359 [(.c (.int .i64 3)), (.c (.int .i64 10)), (.c (.con (.slice none 0 0)))],Af [1, 0] (St 27 4 68),Af [2, 1, 0] (St 27 5 69),Mc 6 (.int .i64 2)]
def atQ:LO:=[Mv 70 12,Fa 71 6 11,St 1 71 70]
def atP:LO:=[Mv 72 14,Fa 73 23 11,St 1 73 72]
def atO:LO:=[Mv 74 10,Bc 75 .gtr 74 0,Mv 76 75,Gf 76 (Mv 77 14),Gf 76 (Ln 78 0 77),Gf 76 (Bc 79 .gtr 78 0),Po 80 76 79]
def atN:LO:=[Mv 82 0,Mv 83 9,Op 84 (.bin .add (.c (.int .i64 23)) (.t 83)),Mv 85 9,Op 86 (.bin .add (.c (.int .i64 23)) (.t 85)),Mv 87 10,Bi 88 .add 86 87,Op 89 (.slc 1 (.t 82) (some (.t 84)) (some (.t 88)) none),Mv 90 1,Ct 91 71 [89, 90],Mv 81 91,Ex 92 81 0,Ex 93 81 1,Op 16 (.alloc (.agg zz2)),St 16 16 92,Mv 17 93]
def atM:LO:=[Mv 94 17,Bc 95 .eql 94 6]
def atL:LO:=[Ls 96 27 7,Ca 97 359 [(.c (.int .i64 3)), (.c (.int .i64 3)), (.c (.con (.slice none 0 0)))],Mv 98 17,Af [1, 0] (St 27 4 96),Af [3, 1, 0] (St 27 5 97),Mv 6 98]
def atJ:LO:=[Mv 99 17,Bc 100 .neq 99 0]
def atI:LO:=[Ls 101 27 7,Ls 102 27 8,Mv 103 17,Af [0] (St 27 4 101),Af [1, 3, 0] (St 27 5 102),Mv 6 103]
def atH:LO:=[Mv 104 14,Ln 105 0 104,Bc 106 .eql 105 0]
def atG:LO:=[Ls 107 27 7,Ls 108 27 8,Af [0] (St 27 4 107),Af [1, 2, 0] (St 27 5 108),Mc 6 (.int .i64 2)]
def atF:LO:=[Ls 109 16 16,Fa 110 7 11,St 16 110 109]
def atE:LO:=[Ls 111 27 11,Ct 112 148 [111],Mv 18 112]
def atD:LO:=[Mv 113 18,Bc 114 .neq 113 0]
def atB:LO:=[Ls 115 27 7,Ca 116 359 [(.c (.int .i64 3)), (.c (.int .i64 10)), (.c (.con (.slice none 0 0)))],Mv 117 18,Af [1, 0] (St 27 4 115),Af [3, 1, 0] (St 27 5 116),Mv 6 117]
def atA:LO:=[Ls 118 27 11,Ls 119 27 7,Af [0] (St 27 4 118),Af [1, 2, 0] (St 27 5 119),Mc 6 (.int .i64 0)]
def a8 : AFunc := ⟨120, 2, false, [.cell 4 (some 27), .cell 5 (some 27), .t 6], (Sr avv (Sr avu (Sr avt (Sr avs (Sq (Sr avr (Cn 27 (Sq (Rd avq) Rt) Sk)) (Sr avp (Sq (Sr avo (Cn 40 (Sq (Rd avn) Rt) Sk)) (Sr avm (Sr atU (Sr atT (Sq (Sr atS (Cn 67 (Sq (Rd atR) Rt) Sk)) (Sr atQ (Sr atP (Sq (Sr atO (Cn 80 (Sr atN (Sq (Sr atM (Cn 95 (Sq (Rd atL) Rt) Sk)) (Sq (Sr atJ (Cn 100 (Sq (Rd atI) Rt) Sk)) (Sq (Sr atH (Cn 106 (Sq (Rd atG) Rt) Sk)) (Rg atF))))) Sk)) (Sq (Sr atE (Sr atD (Cn 114 (Sq (Rd atB) Rt) Sk))) (Sq (Rd atA) Rt))))))))))))))))⟩
def aje:LO:=[Mc 4 (.bool false)]
def ajd:LO:=[Mv 6 0,Ln 7 0 6,Mv 8 1,Ln 9 0 8,Bi 10 .neq 7 9]
def ajc:LO:=[Mc 4 (.bool false)]
def ajb:LO:=[Mv 11 0,Ln 12 0 11,Mc 13 (.int .i64 0)]
def aja:LO:=[Bi 14 .lss 13 12]
def ai9:LO:=[Mv 15 13,Mv 5 15]
def ai8:LO:=[Mv 16 0,Mv 17 5,Ia 18 2 16 17,Fa 19 0 18,Af [2] (Ld 20 19),Mv 21 1,Mv 22 5,Ia 23 2 21 22,Fa 24 0 23,Af [7] (Ld 25 24),Bi 26 .neq 20 25,Mv 27 26,Gf 27 (Mv 28 0),Gf 27 (Mv 29 5),Af [4, 9, 2, 7] (Gf 27 (Ia 30 2 28 29)),Gf 27 (Fa 31 1 30),Af [14, 4, 9, 2, 7] (Gf 27 (Ld 32 31)),Af [16, 14, 4, 9, 2, 7] (Gf 27 (Op 33 (.b2s (.t 32)))),Gf 27 (Mv 34 1),Gf 27 (Mv 35 5),
 Af [4, 9, 2, 7] (Gf 27 (Ia 36 2 34 35)),Gf 27 (Fa 37 1 36),Af [20, 4, 9, 2, 7] (Gf 27 (Ld 38 37)),Af [22, 20, 4, 9, 2, 7] (Gf 27 (Op 39 (.b2s (.t 38)))),Gf 27 (Bi 40 .neq 33 39),Po 41 27 40]
def ai7:LO:=[Mc 4 (.bool false)]
def ai6:LO:=[Bc 42 .add 13 1,Mv 13 42]
def G6:ACode:=(Sr aja (Sq (Cx 14 0) (Sq (Bk 1 (Sr ai9 (Sq (Rd ai8) (Ci 41 (Rr ai7))))) (Rg ai6))))
def G7:LO:=[Mc 4 (.bool true)]
def JH : AFunc := ⟨43, 2, false, [.t 4], (Sr aje (Sq (Sr ajd (Ci 10 (Rr ajc))) (Sq (Sr ajb (Bl 0 G6)) (Rr G7))))⟩
def Ru:LI:=[.inLoop G6, .inBlock 0, .code (Rr G7)]
def ai5:LO:=[Mc 4 (.bool false)]
def ai4:LO:=[Mv 6 0,Ln 7 0 6,Mv 8 1,Ln 9 0 8,Bi 10 .neq 7 9]
def ai3:LO:=[Mc 4 (.bool false)]
def ai2:LO:=[Mv 11 0,Ln 12 0 11,Mc 13 (.int .i64 0)]
def ai1:LO:=[Bi 14 .lss 13 12]
def ai0:LO:=[Mv 15 13,Mv 5 15]
def aiZ:LO:=[Mv 16 0,Mv 17 5,Ia 18 2 16 17,Af [2] (Ls 19 2 18),Mv 20 1,Mv 21 5,Ia 22 2 20 21,Af [6] (Ls 23 2 22),Op 24 (.eqs [.int, .int] true (.t 19) (.t 23))]
def aiY:LO:=[Mc 4 (.bool false)]
def aiX:LO:=[Bc 25 .add 13 1,Mv 13 25]
def GZ:ACode:=(Sr ai1 (Sq (Cx 14 0) (Sq (Bk 1 (Sr ai0 (Sq (Rd aiZ) (Ci 24 (Rr aiY))))) (Rg aiX))))
def G5:LO:=[Mc 4 (.bool true)]
def JG : AFunc := ⟨26, 2, false, [.t 4], (Sr ai5 (Sq (Sr ai4 (Ci 10 (Rr ai3))) (Sq (Sr ai2 (Bl 0 GZ)) (Rr G5))))⟩
def Rn:LI:=[.inLoop GZ, .inBlock 0, .code (Rr G5)]
def apj:LO:=[Op 2 (.box (.t 0)),Op 3 (.box (.t 1)),Mc 4 (.bool false)]
def api:LO:=[Fa 6 0 2,Ld 7 6,Fa 8 0 3,Ld 9 8,Bi 10 .neq 7 9,Mv 11 10,Gf 11 (Fa 12 1 2),Gf 11 (Ld 13 12),Gf 11 (Fa 14 1 3),Gf 11 (Ld 15 14),Gf 11 (Ct 16 97 [13, 15]),Gf 11 (Un 17 .not 16),Po 18 11 17,Mv 19 18,Gf 19 (Fa 20 2 2),Gf 19 (Ld 21 20),Gf 19 (Fa 22 2 3),Gf 19 (Ld 23 22),Gf 19 (Bi 24 .neq 21 23),Po 25 19 24,Mv 26 25,Gf 26 (Fa 27 3 2),Gf 26 (Ld 28 27),Gf 26 (Fa 29 3 3),Gf 26 (Ld 30 29),
 Gf 26 (Op 31 (.eqb true (.t 28) (.t 30))),Po 32 26 31,Mv 33 32,Gf 33 (Fa 34 4 2),Gf 33 (Ld 35 34),Gf 33 (Fa 36 4 3),Gf 33 (Ld 37 36),Gf 33 (Bi 38 .neq 35 37),Po 39 33 38,Mv 40 39,Gf 40 (Fa 41 5 2),Gf 40 (Ld 42 41),Gf 40 (Fa 43 5 3),Gf 40 (Ld 44 43),Gf 40 (Op 45 (.eqb true (.t 42) (.t 44))),Po 46 40 45,Mv 47 46,Gf 47 (Fa 48 6 2),Gf 47 (Ld 49 48),Gf 47 (Fa 50 6 3),Gf 47 (Ld 51 50),
 Gf 47 (Bi 52 .neq 49 51),Po 53 47 52,Mv 54 53,Gf 54 (Fa 55 7 2),Gf 54 (Ld 56 55),Gf 54 (Fa 57 7 3),Gf 54 (Ld 58 57),Gf 54 (Op 59 (.eqb true (.t 56) (.t 58))),Po 60 54 59]
def aph:LO:=[Mc 4 (.bool false)]
def apg:LO:=[Fa 61 8 2,Ld 62 61,Fa 63 8 3,Ld 64 63,Op 65 (.eqb true (.t 62) (.t 64)),Mv 66 65,Gf 66 (Fa 67 9 2),Gf 66 (Ld 68 67),Gf 66 (Fa 69 9 3),Gf 66 (Ld 70 69),Gf 66 (Bi 71 .neq 68 70),Po 72 66 71,Mv 73 72,Gf 73 (Fa 74 10 2),Gf 73 (Ld 75 74),Gf 73 (Fa 76 10 3),Gf 73 (Ld 77 76),Gf 73 (Bi 78 .neq 75 77),Po 79 73 78,Mv 80 79,Gf 80 (Fa 81 12 2),Gf 80 (Ld 82 81),Gf 80 (Fa 83 12 3),Gf 80 (Ld 84 83),
 Gf 80 (Op 85 (.eqb true (.t 82) (.t 84))),Po 86 80 85,Mv 87 86,Gf 87 (Fa 88 13 2),Gf 87 (Ld 89 88),Gf 87 (Fa 90 13 3),Gf 87 (Ld 91 90),Gf 87 (Bi 92 .neq 89 91),Po 93 87 92,Mv 94 93,Gf 94 (Fa 95 15 2),Gf 94 (Ld 96 95),Gf 94 (Ln 97 0 96),Gf 94 (Fa 98 15 3),Gf 94 (Ld 99 98),Gf 94 (Ln 100 0 99),Gf 94 (Bi 101 .neq 97 100),Po 102 94 101]
def apf:LO:=[Mc 4 (.bool false)]
def ape:LO:=[Fa 103 15 2,Ld 104 103,Ln 105 0 104,Mc 106 (.int .i64 0)]
def apd:LO:=[Bi 107 .lss 106 105]
def apc:LO:=[Mv 108 106,Mv 5 108]
def apb:LO:=[Fa 109 15 2,Ld 110 109,Mv 111 5,Af [1] (Ia 112 2 110 111),Fa 113 0 112,Af [3, 1] (Ld 114 113),Fa 115 15 3,Ld 116 115,Mv 117 5,Af [7] (Ia 118 2 116 117),Fa 119 0 118,Af [9, 7] (Ld 120 119),Bi 121 .neq 114 120,Mv 122 121,Gf 122 (Fa 123 15 2),Af [5, 11, 3, 1, 9, 7] (Gf 122 (Ld 124 123)),Gf 122 (Mv 125 5),Af [15, 5, 11, 3, 1, 9, 7] (Gf 122 (Ia 126 2 124 125)),Gf 122 (Fa 127 1 126),
 Af [17, 15, 5, 11, 3, 1, 9, 7] (Gf 122 (Ld 128 127)),Gf 122 (Fa 129 15 3),Af [5, 11, 3, 1, 9, 7] (Gf 122 (Ld 130 129)),Gf 122 (Mv 131 5),Af [21, 5, 11, 3, 1, 9, 7] (Gf 122 (Ia 132 2 130 131)),Gf 122 (Fa 133 1 132),Af [23, 21, 5, 11, 3, 1, 9, 7] (Gf 122 (Ld 134 133)),Af [19, 25, 17, 15, 23, 21, 5, 11, 3, 1, 9, 7] (Gf 122 (Ct 135 98 [128, 134])),Gf 122 (Un 136 .not 135),Po 137 122 136]
def apa:LO:=[Mc 4 (.bool false)]
def aa8:LO:=[Bc 138 .add 106 1,Mv 106 138]
def DG:ACode:=(Sr apd (Sq (Cx 107 0) (Sq (Bk 1 (Sr apc (Sq (Rd apb) (Ci 137 (Rr apa))))) (Rg aa8))))
def LU:LO:=[Fa 139 11 2,Ld 140 139,Fa 141 11 3,Ld 142 141,Ct 143 99 [140, 142],Mv 144 143,Gt 144 (Fa 145 14 2),Gt 144 (Ld 146 145),Gt 144 (Fa 147 14 3),Gt 144 (Ld 148 147),Gt 144 (Ct 149 99 [146, 148]),Pa 150 144 149,Mv 4 150]
def f70 : AFunc := ⟨151, 2, false, [.t 4], (Sr apj (Sq (Sr api (Ci 60 (Rr aph))) (Sq (Sr apg (Ci 102 (Rr apf))) (Sq (Sr ape (Bl 0 DG)) (Rr LU)))))⟩
def Qq:LI:=[.inLoop DG, .inBlock 0, .code (Rr LU)]
def aex:LO:=[Op 1 (.box (.t 0)),Op 2 (.alloc (.agg zz0))]
def aew:LO:=[Ls 11 27 1,Ca 12 193 [(.t 11), (.c (.bool true))],Mv 10 12,Ex 13 10 0,Ex 14 10 1,Mv 3 13,Mv 4 14]
def aev:LO:=[Mv 15 4,Bc 16 .eql 15 0]
def aeu:LO:=[Mv 18 3,Ca 19 194 [(.t 18), (.c (.bool true))],Mv 17 19,Ex 20 17 0,Ex 21 17 1,Ex 22 17 2,Ex 23 17 3,Op 5 (.alloc (.agg zz0)),Op 7 (.alloc (.agg zz0)),St 27 5 20,Mv 6 21,St 27 7 22,Mv 8 23]
def aet:LO:=[Ls 24 27 5,St 27 2 24]
def aes:LO:=[Ls 25 27 1,Op 9 (.alloc (.agg zz0)),St 27 9 25]
def aer:LO:=[Fa 26 23 1,Ld 27 26,Ln 28 0 27,Bc 29 .gtr 28 1]
def aeq:LO:=[Fa 30 0 1,Ld 31 30,Fa 32 7 1,Ls 33 16 32,Fa 34 23 1,Ld 35 34,Af [5] (Op 36 (.slc 2 (.t 35) none (some (.c (.int .i64 1))) (some (.c (.int .i64 1))))),Op 37 (.build zz0 [(0, 1), (7, 16), (23, 1)] [(.t 31), (.t 33), (.t 36)]),Af [1, 3, 6, 5] (Ct 38 202 [37]),Af [8, 1, 3, 6, 5] (St 27 9 38)]
def aep:LO:=[Op 39 (.bsl 2 zz4 0 [] []),Fa 40 6 1,Ld 41 40,Ap 42 2 16 39 41,Fa 43 6 9,St 1 43 42]
def aeo:LO:=[Op 44 (.bsl 2 zz4 0 [] []),Fa 45 23 1,Ld 46 45,Ap 47 2 16 44 46,Fa 48 23 9,St 1 48 47]
def VA:LO:=[Ls 49 27 9,St 27 2 49]
def gj : AFunc := ⟨50, 1, false, [.cell 2 (some 27)], (Sr aex (Sr aew (Sq (Sr aev (Cn 16 (Sr aeu (Rr aet)) Sk)) (Sr aes (Sq (Sr aer (Cn 29 (Rd aeq) Sk)) (Sr aep (Sr aeo (Rr VA))))))))⟩
def apO:LO:=[Op 2 (.box (.t 0)),Mc 4 (.con (.slice none 0 0)),Mc 5 (.int .i64 0)]
def apN:LO:=[Ls 10 16 2,Ct 11 65 [10],Mv 6 11]
def apM:LO:=[Mv 12 6,Bc 13 .neq 12 0]
def apL:LO:=[Mv 14 6,Mc 4 (.con (.slice none 0 0)),Mv 5 14]
def apK:LO:=[Mv 15 1,Op 16 (.build [.con (.slice none 0 0), .bool false, .bool false] [(1, 1)] [(.t 15)]),Op 17 (.box (.t 16)),Mv 7 17]
def apJ:LO:=[Mv 18 7,Fa 19 0 2,Ld 20 19,Cv 21 .u8 20,Op 22 (.bsl 1 zz1 1 [0] [(.t 21)]),Op 23 (.bsl 1 zz5 1 [0] [(.t 22)]),Ca 24 83 [(.t 18), (.c (.int .i64 1)), (.t 23)]]
def apI:LO:=[Mv 25 7,Mv 26 7,Fa 27 1 2,Ld 28 27,Ct 29 84 [26, 28],Op 30 (.bsl 1 zz5 1 [0] [(.t 29)]),Ca 31 83 [(.t 25), (.c (.int .i64 2)), (.t 30)]]
def apH:LO:=[Mv 32 7,Fa 33 2 2,Ld 34 33,Cv 35 .i64 34,Ct 36 85 [35],Op 37 (.bsl 1 zz5 1 [0] [(.t 36)]),Ca 38 83 [(.t 32), (.c (.int .i64 3)), (.t 37)]]
def apG:LO:=[Fa 39 3 2,Ld 40 39]
def apF:LO:=[Mv 41 7,Fa 42 4 2,Ld 43 42,Ct 44 85 [43],Op 45 (.bsl 1 zz5 1 [0] [(.t 44)]),Ca 46 83 [(.t 41), (.c (.int .i64 4)), (.t 45)]]
def abG:LO:=[Fa 47 5 2,Ld 48 47]
def abF:LO:=[Mv 49 7,Fa 50 6 2,Ld 51 50,Ct 52 85 [51],Op 53 (.bsl 1 zz5 1 [0] [(.t 52)]),Ca 54 83 [(.t 49), (.c (.int .i64 5)), (.t 53)]]
def abE:LO:=[Fa 55 7 2,Ld 56 55]
def abD:LO:=[Mv 57 7,Ca 58 83 [(.t 57), (.c (.int .i64 6)), (.c (.con (.slice none 0 0)))]]
def abC:LO:=[Fa 59 8 2,Ld 60 59]
def abB:LO:=[Mv 61 7,Mv 62 7,Fa 63 9 2,Ld 64 63,Af [3] (Ct 65 86 [62, 64]),Fa 66 10 2,Ld 67 66,Cv 68 .i64 67,Af [4, 6, 3] (Ct 69 85 [68]),Af [8, 4, 6, 3] (Op 70 (.bsl 1 zz5 2 [0, 1] [(.t 65), (.t 69)])),Af [9, 8, 4, 6, 3] (Ca 71 83 [(.t 61), (.c (.int .i64 7)), (.t 70)])]
def abA:LO:=[Fa 72 11 2,Ld 73 72,Ln 74 0 73,Bc 75 .gtr 74 0]
def abz:LO:=[Mv 76 7,Fa 77 11 2,Ld 78 77,Ct 79 87 [78],Op 80 (.bsl 1 zz5 1 [0] [(.t 79)]),Ca 81 83 [(.t 76), (.c (.int .i64 8)), (.t 80)]]
def aby:LO:=[Fa 82 12 2,Ld 83 82]
def abx:LO:=[Mv 84 7,Fa 85 13 2,Ld 86 85,Cv 87 .i64 86,Ct 88 85 [87],Op 89 (.bsl 1 zz5 1 [0] [(.t 88)]),Ca 90 83 [(.t 84), (.c (.int .i64 9)), (.t 89)]]
def abw:LO:=[Fa 91 14 2,Ld 92 91,Ln 93 0 92,Bc 94 .gtr 93 0]
def abv:LO:=[Mv 95 7,Fa 96 14 2,Ld 97 96,Ct 98 87 [97],Op 99 (.bsl 1 zz5 1 [0] [(.t 98)]),Ca 100 83 [(.t 95), (.c (.int .i64 10)), (.t 99)]]
def abu:LO:=[Fa 101 15 2,Ld 102 101,Ln 103 0 102,Mc 104 (.int .i64 0)]
def abt:LO:=[Bi 105 .lss 104 103]
def abs:LO:=[Ia 106 2 102 104,Ls 107 2 106,Op 9 (.alloc (.agg zz3)),St 2 9 107]
def abr:LO:=[Mv 108 7,Fa 109 0 9,Ld 110 109,Fa 111 1 9,Ld 112 111,Op 113 (.bsl 1 zz5 1 [0] [(.t 112)]),Ct 114 83 [108, 110, 113]]
def abq:LO:=[Bc 115 .add 104 1,Mv 104 115]
def DJ:ACode:=(Sr abt (Sq (Cx 105 0) (Sq (Bk 1 (Sr abs (Rg abr))) (Rg abq))))
def MF:LO:=[Mv 116 7,Nc 117 116,Fa 118 2 117,Ld 119 118]
def ME:LO:=[Mc 4 (.con (.slice none 0 0)),Mc 5 (.int .i64 5)]
def MD:LO:=[Mv 120 7,Nc 121 120,Fa 122 0 121,Ld 123 122,Mv 4 123,Mc 5 (.int .i64 0)]
def f67 : AFunc := ⟨124, 2, false, [.t 4, .t 5], (Sr apO (Sq (Sr apN (Sr apM (Ci 13 (Rr apL)))) (Sr apK (Sr apJ (Sr apI (Sr apH (Sq (Sr apG (Cn 40 (Rg apF) Sk)) (Sq (Sr abG (Cn 48 (Rg abF) Sk)) (Sq (Sr abE (Cn 56 (Rg abD) Sk)) (Sq (Sr abC (Cn 60 (Rd abB) Sk)) (Sq (Sr abA (Cn 75 (Rg abz) Sk)) (Sq (Sr aby (Cn 83 (Rg abx) Sk)) (Sq (Sr abw (Cn 94 (Rg abv) Sk)) (Sq (Sr abu (Bl 0 DJ)) (Sq (Sr MF (Ci 119 (Rr ME))) (Rr MD))))))))))))))))⟩
def Qt:LI:=[.inLoop DJ, .inBlock 0, .code (Sq (Sr MF (Ci 119 (Rr ME))) (Rr MD))]
def aen:LO:=[Mc 4 (.int .i64 0)]
def aem:LO:=[Mc 5 (.int .i64 0)]
def ael:LO:=[Mv 6 5,Mv 7 0,Ln 8 0 7,Bi 9 .lss 6 8]
def aek:LO:=[Mv 10 1,Mv 11 0,Mv 12 5,Ia 13 2 11 12,Fa 14 1 13,Ld 15 14,Bc 16 .add 15 7,Bc 17 .quo 16 8,Op 18 (.bin .add (.c (.int .i64 1)) (.t 17)),Bi 19 .sub 10 18,Mv 1 19]
def aej:LO:=[Mv 20 1,Bc 21 .lss 20 0]
def aei:LO:=[Mv 22 5,Bc 23 .add 22 1,Mv 5 23]
def EE:ACode:=(Sq (Sr ael (Cx 9 0)) (Bk 1 (Sr aek (Sq (Sr aej (Cn 21 (Xt 0) Sk)) (Rg aei)))))
def M7:LO:=[Mv 24 5,Mv 4 24]
def QN : AFunc := ⟨25, 2, false, [.t 4], (Sr aen (Sr aem (Sq (Bl 0 EE) (Rr M7))))⟩
def ahA:LO:=[Mc 4 (.bool false)]
def ahz:LO:=[Mv 6 0,Ln 7 0 6,Mv 8 1,Ln 9 0 8,Bi 10 .neq 7 9]
def ahy:LO:=[Mc 4 (.bool false)]
def ahx:LO:=[Mv 11 0,Ln 12 0 11,Mc 13 (.int .i64 0)]
def ahw:LO:=[Bi 14 .lss 13 12]
def ahv:LO:=[Mv 15 13,Mv 5 15]
def ahu:LO:=[Mv 16 0,Mv 17 5,Ia 18 2 16 17,Af [2] (Ls 19 2 18),Mv 20 1,Mv 21 5,Ia 22 2 20 21,Af [6] (Ls 23 2 22),Op 24 (.eqs [.int, .int] true (.t 19) (.t 23))]
def aht:LO:=[Mc 4 (.bool false)]
def ahs:LO:=[Bc 25 .add 13 1,Mv 13 25]
def GN:ACode:=(Sr ahw (Sq (Cx 14 0) (Sq (Bk 1 (Sr ahv (Sq (Rd ahu) (Ci 24 (Rr aht))))) (Rg ahs))))
def GQ:LO:=[Mc 4 (.bool true)]
def JE : AFunc := ⟨26, 2, false, [.t 4], (Sr ahA (Sq (Sr ahz (Ci 10 (Rr ahy))) (Sq (Sr ahx (Bl 0 GN)) (Rr GQ))))⟩
def Rj:LI:=[.inLoop GN, .inBlock 0, .code (Rr GQ)]
def ao9:LO:=[Op 2 (.box (.t 0)),Op 3 (.box (.t 1)),Mc 4 (.bool false)]
def ao8:LO:=[Fa 6 0 2,Ld 7 6,Fa 8 0 3,Ld 9 8,Bi 10 .neq 7 9,Mv 11 10,Gf 11 (Fa 12 1 2),Gf 11 (Ld 13 12),Gf 11 (Fa 14 1 3),Gf 11 (Ld 15 14),Gf 11 (Ct 16 103 [13, 15]),Gf 11 (Un 17 .not 16),Po 18 11 17,Mv 19 18,Gf 19 (Fa 20 2 2),Gf 19 (Ld 21 20),Gf 19 (Fa 22 2 3),Gf 19 (Ld 23 22),Gf 19 (Bi 24 .neq 21 23),Po 25 19 24,Mv 26 25,Gf 26 (Fa 27 3 2),Gf 26 (Ld 28 27),Gf 26 (Fa 29 3 3),Gf 26 (Ld 30 29),
 Gf 26 (Op 31 (.eqb true (.t 28) (.t 30))),Po 32 26 31,Mv 33 32,Gf 33 (Fa 34 4 2),Gf 33 (Ld 35 34),Gf 33 (Fa 36 4 3),Gf 33 (Ld 37 36),Gf 33 (Bi 38 .neq 35 37),Po 39 33 38,Mv 40 39,Gf 40 (Fa 41 5 2),Gf 40 (Ld 42 41),Gf 40 (Fa 43 5 3),Gf 40 (Ld 44 43),Gf 40 (Op 45 (.eqb true (.t 42) (.t 44))),Po 46 40 45,Mv 47 46,Gf 47 (Fa 48 6 2),Gf 47 (Ld 49 48),Gf 47 (Fa 50 6 3),Gf 47 (Ld 51 50),
 Gf 47 (Bi 52 .neq 49 51),Po 53 47 52,Mv 54 53,Gf 54 (Fa 55 7 2),Gf 54 (Ld 56 55),Gf 54 (Fa 57 7 3),Gf 54 (Ld 58 57),Gf 54 (Op 59 (.eqb true (.t 56) (.t 58))),Po 60 54 59]
def ao7:LO:=[Mc 4 (.bool false)]
def ao6:LO:=[Fa 61 8 2,Ld 62 61,Fa 63 8 3,Ld 64 63,Op 65 (.eqb true (.t 62) (.t 64)),Mv 66 65,Gf 66 (Fa 67 9 2),Gf 66 (Ld 68 67),Gf 66 (Fa 69 9 3),Gf 66 (Ld 70 69),Gf 66 (Bi 71 .neq 68 70),Po 72 66 71,Mv 73 72,Gf 73 (Fa 74 10 2),Gf 73 (Ld 75 74),Gf 73 (Fa 76 10 3),Gf 73 (Ld 77 76),Gf 73 (Bi 78 .neq 75 77),Po 79 73 78,Mv 80 79,Gf 80 (Fa 81 11 2),Gf 80 (Ld 82 81),Gf 80 (Fa 83 11 3),Gf 80 (Ld 84 83),
 Gf 80 (Ct 85 104 [82, 84]),Gf 80 (Un 86 .not 85),Po 87 80 86,Mv 88 87,Gf 88 (Fa 89 12 2),Gf 88 (Ld 90 89),Gf 88 (Fa 91 12 3),Gf 88 (Ld 92 91),Gf 88 (Op 93 (.eqb true (.t 90) (.t 92))),Po 94 88 93,Mv 95 94,Gf 95 (Fa 96 13 2),Gf 95 (Ld 97 96),Gf 95 (Fa 98 13 3),Gf 95 (Ld 99 98),Gf 95 (Bi 100 .neq 97 99),Po 101 95 100,Mv 102 101,Gf 102 (Fa 103 14 2),Gf 102 (Ld 104 103),Gf 102 (Fa 105 14 3),
 Gf 102 (Ld 106 105),Gf 102 (Ct 107 104 [104, 106]),Gf 102 (Un 108 .not 107),Po 109 102 108,Mv 110 109,Gf 110 (Fa 111 15 2),Gf 110 (Ld 112 111),Gf 110 (Ln 113 0 112),Gf 110 (Fa 114 15 3),Gf 110 (Ld 115 114),Gf 110 (Ln 116 0 115),Gf 110 (Bi 117 .neq 113 116),Po 118 110 117]
def ao5:LO:=[Mc 4 (.bool false)]
def ao4:LO:=[Fa 119 15 2,Ld 120 119,Ln 121 0 120,Mc 122 (.int .i64 0)]
def ao3:LO:=[Bi 123 .lss 122 121]
def ao2:LO:=[Mv 124 122,Mv 5 124]
def ao1:LO:=[Fa 125 15 2,Ld 126 125,Mv 127 5,Af [1] (Ia 128 2 126 127),Fa 129 0 128,Af [3, 1] (Ld 130 129),Fa 131 15 3,Ld 132 131,Mv 133 5,Af [7] (Ia 134 2 132 133),Fa 135 0 134,Af [9, 7] (Ld 136 135),Bi 137 .neq 130 136,Mv 138 137,Gf 138 (Fa 139 15 2),Af [5, 11, 3, 1, 9, 7] (Gf 138 (Ld 140 139)),Gf 138 (Mv 141 5),Af [15, 5, 11, 3, 1, 9, 7] (Gf 138 (Ia 142 2 140 141)),Gf 138 (Fa 143 1 142),
 Af [17, 15, 5, 11, 3, 1, 9, 7] (Gf 138 (Ld 144 143)),Af [19, 17, 15, 5, 11, 3, 1, 9, 7] (Gf 138 (Op 145 (.b2s (.t 144)))),Gf 138 (Fa 146 15 3),Af [5, 11, 3, 1, 9, 7] (Gf 138 (Ld 147 146)),Gf 138 (Mv 148 5),Af [22, 5, 11, 3, 1, 9, 7] (Gf 138 (Ia 149 2 147 148)),Gf 138 (Fa 150 1 149),Af [24, 22, 5, 11, 3, 1, 9, 7] (Gf 138 (Ld 151 150)),
 Af [26, 24, 22, 5, 11, 3, 1, 9, 7] (Gf 138 (Op 152 (.b2s (.t 151)))),Gf 138 (Bi 153 .neq 145 152),Po 154 138 153]
def ao0:LO:=[Mc 4 (.bool false)]
def aa7:LO:=[Bc 155 .add 122 1,Mv 122 155]
def DF:ACode:=(Sr ao3 (Sq (Cx 123 0) (Sq (Bk 1 (Sr ao2 (Sq (Rd ao1) (Ci 154 (Rr ao0))))) (Rg aa7))))
def LS:LO:=[Mc 4 (.bool true)]
def f72 : AFunc := ⟨156, 2, false, [.t 4], (Sr ao9 (Sq (Sr ao8 (Ci 60 (Rr ao7))) (Sq (Sr ao6 (Ci 118 (Rr ao5))) (Sq (Sr ao4 (Bl 0 DF)) (Rr LS)))))⟩
def Qp:LI:=[.inLoop DF, .inBlock 0, .code (Rr LS)]
def ait:LO:=[Op 1 (.box (.t 0)),Op 2 (.alloc (.agg zz0))]
def ais:LO:=[Fa 4 0 1,Ld 5 4,Op 6 (.build zz0 [(0, 1)] [(.t 5)]),Op 3 (.alloc (.agg zz0)),St 27 3 6]
def air:LO:=[Fa 7 0 1,Ld 8 7]
def aiq:LO:=[Bc 10 .eql 8 1,Mv 9 10]
def aip:LO:=[Fa 11 1 1,Ld 12 11,Fa 13 2 1,Ld 14 13,Fa 15 3 1,Ld 16 15,Fa 17 4 1,Ld 18 17,Fa 19 5 1,Ld 20 19,Fa 21 1 3,Af [1] (St 1 21 12),Fa 22 2 3,Af [3, 11, 1] (St 1 22 14),Fa 23 3 3,Af [5, 13, 3, 11, 1] (St 1 23 16),Fa 24 4 3,Af [7, 15, 5, 13, 3, 11, 1] (St 1 24 18),Fa 25 5 3,Af [9, 17, 7, 15, 5, 13, 3, 11, 1] (St 1 25 20)]
def aio:LO:=[Bc 27 .eql 8 2,Mv 26 27]
def ain:LO:=[Fa 28 6 1,Ld 29 28,Fa 30 7 1,Ls 31 16 30,Fa 32 23 1,Ld 33 32,Fa 34 6 3,Af [1] (St 1 34 29),Fa 35 7 3,Af [3, 7, 1] (St 16 35 31),Fa 36 23 3,Af [5, 9, 3, 7, 1] (St 1 36 33)]
def aim:LO:=[Bc 38 .eql 8 3,Mv 37 38]
def ail:LO:=[Fa 39 24 1,Ld 40 39,Fa 41 25 1,Ld 42 41,Fa 43 26 1,Ld 44 43,Fa 45 24 3,Af [1] (St 1 45 40),Fa 46 25 3,Af [3, 7, 1] (St 1 46 42),Fa 47 26 3,Af [5, 9, 3, 7, 1] (St 1 47 44)]
def aik:LO:=[Ls 48 27 3,St 27 2 48]
def vD : AFunc := ⟨49, 1, false, [.cell 2 (some 27)], (Sr ait (Sr ais (Sq (Sr air (Bk 0 (Sr aiq (Cn 9 (Rd aip) (Sr aio (Cn 26 (Rd ain) (Sr aim (Cn 37 (Rd ail) Sk)))))))) (Rr aik))))⟩
def aij:LO:=[Op 1 (.box (.t 0)),Mc 2 (.int .i64 0)]
def aii:LO:=[Fa 4 1 1,Ld 5 4,Bc 6 .neq 5 4,Mv 3 6]
def aih:LO:=[Mc 2 (.int .i64 12)]
def aig:LO:=[Fa 8 2 1,Ld 9 8,Bc 10 .lss 9 1,Mv 11 10,Gf 11 (Fa 12 2 1),Gf 11 (Ld 13 12),Gf 11 (Bc 14 .gtr 13 4294967295),Po 15 11 14,Mv 7 15]
def aif:LO:=[Mc 2 (.int .i64 5)]
def aie:LO:=[Fa 17 3 1,Ld 18 17,Bc 19 .neq 18 0,Mv 20 19,Gt 20 (Fa 21 3 1),Gt 20 (Ld 22 21),Gt 20 (Bc 23 .lss 22 3),Gt 20 (Mv 24 23),Gf 24 (Fa 25 3 1),Gf 24 (Ld 26 25),Gf 24 (Bc 27 .gtr 26 65535),Gt 20 (Po 28 24 27),Pa 29 20 28,Mv 16 29]
def aid:LO:=[Mc 2 (.int .i64 21)]
def aic:LO:=[Fa 31 4 1,Ld 32 31,Op 33 (.bin .eql (.t 32) (.c (.int .u32 0))),Mv 30 33]
def aib:LO:=[Mc 2 (.int .i64 1)]
def aia:LO:=[Ls 34 27 1,Ct 35 170 [34],Mv 2 35]
def Rl : AFunc := ⟨36, 1, false, [.t 2], (Sr aij (Sq (Bk 0 (Sr aii (Cn 3 (Rr aih) (Sr aig (Cn 7 (Rr aif) (Sr aie (Cn 16 (Rr aid) (Sr aic (Ci 30 (Rr aib)))))))))) (Rr aia)))⟩
end Go.AM.IR
namespace Go.AM.IR
open Go Go.AM
def ah9:LO:=[Op 1 (.box (.t 0)),Mc 2 (.int .i64 0)]
def ah8:LO:=[Fa 8 6 1,Ld 9 8,Ct 10 171 [9],Mv 3 10]
def ah7:LO:=[Mv 11 3,Bc 12 .neq 11 0]
def ah6:LO:=[Mv 13 3,Mv 2 13]
def ah5:LO:=[Fa 14 23 1,Ld 15 14,Ct 16 171 [15],Mv 4 16]
def ah4:LO:=[Mv 17 4,Bc 18 .neq 17 0]
def ah3:LO:=[Mv 19 4,Mv 2 19]
def ah2:LO:=[Mc 5 (.int .i64 0)]
def ah1:LO:=[Fa 20 6 1,Ld 21 20,Ln 22 0 21,Mc 23 (.int .i64 0)]
def ah0:LO:=[Bi 24 .lss 23 22]
def XU:LO:=[Ia 25 2 21 23,Ls 26 2 25,Op 7 (.alloc (.agg zz4)),St 2 7 26]
def XT:LO:=[Mv 27 5,Fa 28 23 1,Ld 29 28,Af [2] (Ln 30 0 29),Bi 31 .lss 27 30,Mv 32 31,Gt 32 (Fa 33 23 1),Af [3, 2] (Gt 32 (Ld 34 33)),Gt 32 (Mv 35 5),Af [7, 3, 2] (Gt 32 (Ia 36 2 34 35)),Af [9, 7, 3, 2] (Gt 32 (Ls 37 2 36)),Af [3, 2] (Gt 32 (Ls 38 2 7)),Af [10, 11, 9, 7, 3, 2] (Gt 32 (Ct 39 172 [37, 38])),Gt 32 (Bc 40 .lss 39 0),Pa 41 32 40]
def XQ:LO:=[Mv 42 5,Bc 43 .add 42 1,Mv 5 43]
def zW:ACode:=(Sq (Sq (Rd XT) (Cx 41 2)) (Bk 3 (Rg XQ)))
def GV:LO:=[Mv 44 5,Fa 45 23 1,Ld 46 45,Af [2] (Ln 47 0 46),Bi 48 .lss 44 47,Mv 49 48,Gt 49 (Fa 50 23 1),Af [3, 2] (Gt 49 (Ld 51 50)),Gt 49 (Mv 52 5),Af [7, 3, 2] (Gt 49 (Ia 53 2 51 52)),Af [9, 7, 3, 2] (Gt 49 (Ls 54 2 53)),Af [3, 2] (Gt 49 (Ls 55 2 7)),Gt 49 (Op 56 (.eqs [.int, .int] false (.t 54) (.t 55))),Pa 57 49 56]
def GU:LO:=[Mc 2 (.int .i64 7)]
def GR:LO:=[Bc 58 .add 23 1,Mv 23 58]
def sK:ACode:=(Sr ah0 (Sq (Cx 24 0) (Sq (Bk 1 (Sr XU (Sq (Bl 2 zW) (Sq (Rd GV) (Ci 57 (Rr GU)))))) (Rg GR))))
def vC:LO:=[Fa 59 23 1,Ld 60 59,Ln 61 0 60,Bc 62 .gtr 61 0]
def vB:LO:=[Fa 63 7 1,Ls 64 16 63,Ct 65 65 [64],Mv 2 65]
def vA:LO:=[Fa 66 7 1,Ls 67 16 66,Op 68 (.build zz2 [] []),Ct 69 72 [67, 68],Un 70 .not 69]
def vz:LO:=[Mc 2 (.int .i64 1)]
def vy:LO:=[Mc 2 (.int .i64 0)]
def zX : AFunc := ⟨71, 1, false, [.t 2], (Sr ah9 (Sq (Sr ah8 (Sr ah7 (Ci 12 (Rr ah6)))) (Sq (Sr ah5 (Sr ah4 (Ci 18 (Rr ah3)))) (Sr ah2 (Sq (Sr ah1 (Bl 0 sK)) (Sq (Sr vC (Ci 62 (Rr vB))) (Sq (Sr vA (Ci 70 (Rr vz))) (Rr vy))))))))⟩
def Nh:LI:=[.inLoop sK, .inBlock 0, .code (Sq (Sr vC (Ci 62 (Rr vB))) (Sq (Sr vA (Ci 70 (Rr vz))) (Rr vy)))]
def Ni:LI:=[.inLoop zW, .inBlock 2, .code (Sq (Rd GV) (Ci 57 (Rr GU))), .inBlock 1, .code (Rg GR), .inLoop sK, .inBlock 0, .code (Sq (Sr vC (Ci 62 (Rr vB))) (Sq (Sr vA (Ci 70 (Rr vz))) (Rr vy)))]
def aeh:LO:=[Mc 2 (.int .i64 0)]
def aeg:LO:=[Mv 3 0,Bc 4 .gtr 3 65535]
def aef:LO:=[Mc 2 (.int .i64 23456)]
def aee:LO:=[Mv 5 0,Mv 2 5]
def JC : AFunc := ⟨6, 1, false, [.t 2], (Sr aeh (Sq (Sr aeg (Ci 4 (Rr aef))) (Rr aee)))⟩
def aed:LO:=[Mc 2 (.con (.slice none 0 0))]
def aec:LO:=[Mc 3 (.con (.slice none 0 0))]
def aeb:LO:=[Mv 6 0,Ln 7 0 6,Mc 8 (.int .i64 0)]
def aea:LO:=[Bi 9 .lss 8 7]
def ad9:LO:=[Ia 10 2 6 8,Ls 11 2 10,Op 5 (.alloc (.agg zz4)),St 2 5 11]
def ad8:LO:=[Mv 12 3,Fa 13 1 5,Ld 14 13,Cv 15 .u8 14,Op 16 (.bsl 1 zz1 1 [0] [(.t 15)]),Ap 17 1 1 12 16,Mv 3 17]
def ad7:LO:=[Mv 18 3,Fa 19 0 5,Ld 20 19,Cv 21 .u64 20,Af [2] (Ca 22 109 [(.c (.con (.slice none 0 0))), (.c (.int .i64 4)), (.t 21)]),Fa 23 1 5,Ld 24 23,Bc 25 .add 24 7,Bc 26 .quo 25 8,Af [4, 2, 6] (Op 27 (.slc 1 (.t 22) none (some (.t 26)) none)),Af [9, 4, 6, 2] (Ap 28 1 1 18 27),Mv 3 28]
def ad6:LO:=[Bc 29 .add 8 1,Mv 8 29]
def EC:ACode:=(Sr aea (Sq (Cx 9 0) (Sq (Bk 1 (Sr ad9 (Sr ad8 (Rd ad7)))) (Rg ad6))))
def M6:LO:=[Mv 30 3,Mv 2 30]
def QJ : AFunc := ⟨31, 1, false, [.t 2], (Sr aed (Sr aec (Sq (Sr aeb (Bl 0 EC)) (Rr M6))))⟩
def QI:LI:=[.inLoop EC, .inBlock 0, .code (Rr M6)]
def ajx:LO:=[Mc 2 (.con (.slice none 0 0))]
def ajw:LO:=[Mc 3 (.int .i64 0)]
def ajv:LO:=[Mv 9 0,Ln 10 0 9,Mc 11 (.int .i64 0)]
def aju:LO:=[Bi 12 .lss 11 10]
def ajt:LO:=[Ia 13 1 9 11,Ld 14 13,Mv 5 14]
def ajs:LO:=[Mv 15 3,Mv 16 5,Ln 17 0 16,Bi 18 .add 15 17,Mv 3 18]
def ajr:LO:=[Bc 19 .add 11 1,Mv 11 19]
def G9:ACode:=(Sr aju (Sq (Cx 12 0) (Sq (Bk 1 (Sr ajt (Rg ajs))) (Rg ajr))))
def Nl:LO:=[Mv 20 3,Op 21 (.mksl 1 1 zz1 (.c (.int .i64 0)) (.t 20)),Mv 6 21]
def Nk:LO:=[Mv 22 0,Ln 23 0 22,Mc 24 (.int .i64 0)]
def Yk:LO:=[Bi 25 .lss 24 23]
def Yj:LO:=[Ia 26 1 22 24,Ld 27 26,Mv 8 27]
def Yi:LO:=[Mv 28 6,Mv 29 8,Ap 30 1 1 28 29,Mv 6 30]
def Yh:LO:=[Bc 31 .add 24 1,Mv 24 31]
def sM:ACode:=(Sr Yk (Sq (Cx 25 2) (Sq (Bk 3 (Sr Yj (Rg Yi))) (Rg Yh))))
def vE:LO:=[Mv 32 6,Mv 2 32]
def RG : AFunc := ⟨33, 1, false, [.t 2], (Sr ajx (Sr ajw (Sq (Sr ajv (Bl 0 G9)) (Sr Nl (Sq (Sr Nk (Bl 2 sM)) (Rr vE))))))⟩
def RF:LI:=[.inLoop G9, .inBlock 0, .code (Sr Nl (Sq (Sr Nk (Bl 2 sM)) (Rr vE)))]
def Nm:LI:=[.inLoop sM, .inBlock 2, .code (Rr vE)]
def ajq:LO:=[Mc 4 (.con (.slice none 0 0))]
def ajp:LO:=[Mc 5 (.con (.slice none 0 0))]
def ajo:LO:=[Mv 7 0,Bc 8 .sub 7 1,Mv 6 8]
def ajn:LO:=[Mv 9 6,Bc 10 .geq 9 0]
def ajm:LO:=[Mv 13 5,Mv 14 1,Mv 15 6,Op 16 (.bin .mul (.c (.int .i64 8)) (.t 15)),Bi 17 .shr 14 16,Cv 18 .u8 17,Op 19 (.bsl 1 zz1 1 [0] [(.t 18)]),Ap 20 1 1 13 19,Mv 5 20]
def ajl:LO:=[Mv 11 6,Bc 12 .sub 11 1,Mv 6 12]
def G8:ACode:=(Sq (Sr ajn (Cx 10 0)) (Sq (Bk 1 (Rg ajm)) (Rg ajl)))
def Nj:LO:=[Mv 21 5,Mv 4 21]
def RE : AFunc := ⟨22, 2, false, [.t 4], (Sr ajq (Sr ajp (Sq (Sr ajo (Bl 0 G8)) (Rr Nj))))⟩
def RC:LI:=[.inLoop G8, .inBlock 0, .code (Rr Nj)]
def ahZ:LO:=[Op 1 (.box (.t 0)),Mc 2 (.bool false)]
def ahY:LO:=[Fa 6 1 1,Ld 7 6,Bc 8 .eql 7 0,Mv 9 8,Gt 9 (Fa 10 2 1),Gt 9 (Ld 11 10),Gt 9 (Bc 12 .eql 11 0),Pa 13 9 12,Mv 14 13,Gt 14 (Fa 15 3 1),Gt 14 (Ld 16 15),Gt 14 (Bc 17 .eql 16 0),Pa 18 14 17,Mv 19 18,Gt 19 (Fa 20 4 1),Gt 19 (Ld 21 20),Gt 19 (Op 22 (.bin .eql (.t 21) (.c (.int .u32 0)))),Pa 23 19 22,Mv 24 23,Gt 24 (Fa 25 5 1),Gt 24 (Ld 26 25),Gt 24 (Ln 27 0 26),Gt 24 (Bc 28 .eql 27 0),Pa 29 24 28,Mv 3 29]
def ahX:LO:=[Fa 30 6 1,Ld 31 30,Ln 32 0 31,Bc 33 .eql 32 0,Mv 34 33,Gt 34 (Fa 35 23 1),Gt 34 (Ld 36 35),Gt 34 (Ln 37 0 36),Gt 34 (Bc 38 .eql 37 0),Pa 39 34 38,Mv 40 39,Gt 40 (Fa 41 7 1),Gt 40 (Ls 42 16 41),Gt 40 (Op 43 (.build zz2 [] [])),Gt 40 (Ct 44 70 [42, 43]),Pa 45 40 44,Mv 4 45]
def ahW:LO:=[Fa 46 24 1,Ld 47 46,Bc 48 .eql 47 0,Mv 49 48,Gt 49 (Fa 50 25 1),Gt 49 (Ld 51 50),Gt 49 (Bc 52 .eql 51 0),Pa 53 49 52,Mv 54 53,Gt 54 (Fa 55 26 1),Gt 54 (Ld 56 55),Gt 54 (Ln 57 0 56),Gt 54 (Bc 58 .eql 57 0),Pa 59 54 58,Mv 5 59]
def ahV:LO:=[Mv 60 3,Mv 61 60,Gf 61 (Fa 62 0 1),Gf 61 (Ld 63 62),Gf 61 (Bc 64 .eql 63 1),Po 65 61 64,Mv 66 65,Gt 66 (Mv 67 4),Gt 66 (Mv 68 67),Gf 68 (Fa 69 0 1),Gf 68 (Ld 70 69),Gf 68 (Bc 71 .eql 70 2),Gt 66 (Po 72 68 71),Pa 73 66 72,Mv 74 73,Gt 74 (Mv 75 5),Gt 74 (Mv 76 75),Gf 76 (Fa 77 0 1),Gf 76 (Ld 78 77),Gf 76 (Bc 79 .eql 78 3),Gt 74 (Po 80 76 79),Pa 81 74 80,Mv 2 81]
def jA : AFunc := ⟨82, 1, false, [.t 2], (Sr ahZ (Sr ahY (Sr ahX (Sr ahW (Rr ahV)))))⟩
def ahU:LO:=[Op 1 (.box (.t 0)),Mc 2 (.int .i64 0)]
def ahT:LO:=[Fa 4 1 1,Ld 5 4,Bc 6 .neq 5 4,Mv 3 6]
def ahS:LO:=[Mc 2 (.int .i64 12)]
def ahR:LO:=[Fa 8 2 1,Ld 9 8,Bc 10 .lss 9 1,Mv 11 10,Gf 11 (Fa 12 2 1),Gf 11 (Ld 13 12),Gf 11 (Bc 14 .gtr 13 4294967295),Po 15 11 14,Mv 7 15]
def ahQ:LO:=[Mc 2 (.int .i64 5)]
def ahP:LO:=[Fa 17 3 1,Ld 18 17,Bc 19 .neq 18 0,Mv 20 19,Gt 20 (Fa 21 3 1),Gt 20 (Ld 22 21),Gt 20 (Bc 23 .lss 22 3),Gt 20 (Mv 24 23),Gf 24 (Fa 25 3 1),Gf 24 (Ld 26 25),Gf 24 (Bc 27 .gtr 26 65535),Gt 20 (Po 28 24 27),Pa 29 20 28,Mv 16 29]
def ahO:LO:=[Mc 2 (.int .i64 21)]
def ahN:LO:=[Fa 31 4 1,Ld 32 31,Op 33 (.bin .eql (.t 32) (.c (.int .u32 0))),Mv 30 33]
def ahM:LO:=[Mc 2 (.int .i64 1)]
def ahL:LO:=[Ls 34 27 1,Ct 35 173 [34],Mv 2 35]
def Rk : AFunc := ⟨36, 1, false, [.t 2], (Sr ahU (Sq (Bk 0 (Sr ahT (Cn 3 (Rr ahS) (Sr ahR (Cn 7 (Rr ahQ) (Sr ahP (Cn 16 (Rr ahO) (Sr ahN (Ci 30 (Rr ahM)))))))))) (Rr ahL)))⟩
def ahK:LO:=[Op 1 (.box (.t 0)),Mc 2 (.int .i64 0)]
def ahJ:LO:=[Fa 5 6 1,Ld 6 5,Ct 7 174 [6],Mv 3 7]
def ahI:LO:=[Mv 8 3,Bc 9 .neq 8 0]
def ahH:LO:=[Mv 10 3,Mv 2 10]
def ahG:LO:=[Fa 11 23 1,Ld 12 11,Ct 13 174 [12],Mv 4 13]
def ahF:LO:=[Mv 14 4,Bc 15 .neq 14 0]
def ahE:LO:=[Mv 16 4,Mv 2 16]
def ahD:LO:=[Fa 17 6 1,Ld 18 17,Fa 19 23 1,Ld 20 19,Ct 21 175 [18, 20]]
def ahC:LO:=[Mc 2 (.int .i64 7)]
def ahB:LO:=[Fa 22 23 1,Ld 23 22,Ln 24 0 23,Bc 25 .gtr 24 0]
def XP:LO:=[Fa 26 7 1,Ls 27 16 26,Ct 28 66 [27],Mv 2 28]
def XO:LO:=[Fa 29 7 1,Ls 30 16 29,Op 31 (.build zz2 [] []),Ct 32 70 [30, 31],Un 33 .not 32]
def XN:LO:=[Mc 2 (.int .i64 1)]
def XM:LO:=[Mc 2 (.int .i64 0)]
def pJ : AFunc := ⟨34, 1, false, [.t 2], (Sr ahK (Sq (Sr ahJ (Sr ahI (Ci 9 (Rr ahH)))) (Sq (Sr ahG (Sr ahF (Ci 15 (Rr ahE)))) (Sq (Sr ahD (Ci 21 (Rr ahC))) (Sq (Sr ahB (Ci 25 (Rr XP))) (Sq (Sr XO (Ci 33 (Rr XN))) (Rr XM)))))))⟩
def apZ:LO:=[Op 1 (.box (.t 0)),Mc 2 (.int .i64 0)]
def apY:LO:=[Fa 9 0 1,Ld 10 9,Bc 11 .lss 10 0,Mv 12 11,Gf 12 (Fa 13 0 1),Gf 12 (Ld 14 13),Gf 12 (Bc 15 .gtr 14 2),Po 16 12 15]
def apX:LO:=[Mc 2 (.int .i64 5)]
def apW:LO:=[Fa 17 1 1,Ld 18 17,Ct 19 80 [18],Mv 3 19]
def apV:LO:=[Mv 20 3,Bc 21 .neq 20 0]
def apU:LO:=[Mv 22 3,Mv 2 22]
def apT:LO:=[Fa 24 2 1,Ld 25 24,Op 26 (.bin .eql (.t 25) (.c (.int .u32 0))),Mv 23 26]
def apS:LO:=[Mc 2 (.int .i64 1)]
def apR:LO:=[Fa 28 3 1,Ld 29 28,Mv 30 29,Gt 30 (Fa 31 4 1),Gt 30 (Ld 32 31),Gt 30 (Ct 33 81 [32]),Gt 30 (Un 34 .not 33),Pa 35 30 34,Mv 27 35]
def apQ:LO:=[Mc 2 (.int .i64 5)]
def ace:LO:=[Fa 37 3 1,Ld 38 37,Un 39 .not 38,Mv 40 39,Gt 40 (Fa 41 4 1),Gt 40 (Ld 42 41),Gt 40 (Bc 43 .neq 42 0),Pa 44 40 43,Mv 36 44]
def acd:LO:=[Mc 2 (.int .i64 1)]
def acb:LO:=[Fa 46 5 1,Ld 47 46,Mv 48 47,Gt 48 (Fa 49 6 1),Gt 48 (Ld 50 49),Gt 48 (Ct 51 81 [50]),Gt 48 (Un 52 .not 51),Pa 53 48 52,Mv 45 53]
def aca:LO:=[Mc 2 (.int .i64 5)]
def ab9:LO:=[Fa 55 5 1,Ld 56 55,Un 57 .not 56,Mv 58 57,Gt 58 (Fa 59 6 1),Gt 58 (Ld 60 59),Gt 58 (Bc 61 .neq 60 0),Pa 62 58 61,Mv 54 62]
def ab8:LO:=[Mc 2 (.int .i64 1)]
def ab7:LO:=[Fa 64 8 1,Ld 65 64,Mv 66 65,Gt 66 (Fa 67 9 1),Gt 66 (Ld 68 67),Gt 66 (Bc 69 .lss 68 1),Gt 66 (Mv 70 69),Gf 70 (Fa 71 9 1),Gf 70 (Ld 72 71),Gf 70 (Bc 73 .gtr 72 4294967295),Gt 66 (Po 74 70 73),Pa 75 66 74,Mv 63 75]
def ab6:LO:=[Mc 2 (.int .i64 5)]
def ab5:LO:=[Fa 77 8 1,Ld 78 77,Un 79 .not 78,Mv 80 79,Gt 80 (Fa 81 9 1),Gt 80 (Ld 82 81),Gt 80 (Bc 83 .neq 82 0),Gt 80 (Mv 84 83),Gf 84 (Fa 85 10 1),Gf 84 (Ld 86 85),Gf 84 (Op 87 (.bin .neq (.t 86) (.c (.int .u32 0)))),Gt 80 (Po 88 84 87),Pa 89 80 88,Mv 76 89]
def ab4:LO:=[Mc 2 (.int .i64 1)]
def ab3:LO:=[Fa 90 11 1,Ld 91 90,Ct 92 82 [91],Mv 4 92]
def ab1:LO:=[Mv 93 4,Bc 94 .neq 93 0]
def ab0:LO:=[Mv 95 4,Mv 2 95]
def abZ:LO:=[Fa 96 12 1,Ld 97 96,Fa 98 13 1,Ld 99 98,Op 100 (.bin .neq (.t 99) (.c (.int .u32 0))),Op 101 (.eqb true (.t 97) (.t 100))]
def abY:LO:=[Mc 2 (.int .i64 1)]
def abX:LO:=[Fa 102 14 1,Ld 103 102,Ln 104 0 103,Bc 105 .gtr 104 64]
def abW:LO:=[Mc 2 (.int .i64 4)]
def abV:LO:=[Fa 106 14 1,Ld 107 106,Ln 108 0 107,Mc 109 (.int .i64 0)]
def abU:LO:=[Bi 110 .lss 109 108]
def abT:LO:=[Ia 111 1 107 109,Ld 112 111,Mv 6 112]
def abS:LO:=[Mv 113 6,Op 114 (.bin .eql (.t 113) (.c (.int .u32 0)))]
def abR:LO:=[Mc 2 (.int .i64 1)]
def abQ:LO:=[Bc 115 .add 109 1,Mv 109 115]
def DK:ACode:=(Sr abU (Sq (Cx 110 1) (Sq (Bk 2 (Sr abT (Sr abS (Ci 114 (Rr abR))))) (Rg abQ))))
def MI:LO:=[Fa 116 15 1,Ld 117 116,Ln 118 0 117,Bc 119 .gtr 118 64]
def MH:LO:=[Mc 2 (.int .i64 4)]
def MG:LO:=[Fa 120 15 1,Ld 121 120,Ln 122 0 121,Mc 123 (.int .i64 0)]
def abP:LO:=[Bi 124 .lss 123 122]
def abO:LO:=[Mv 125 123,Ia 126 2 121 123,Ls 127 2 126,Op 8 (.alloc (.agg zz3)),Mv 7 125,St 2 8 127]
def abN:LO:=[Fa 129 0 8,Ld 130 129,Bc 131 .lss 130 11,Mv 132 131,Gf 132 (Fa 133 0 8),Gf 132 (Ld 134 133),Gf 132 (Bc 135 .gtr 134 255),Po 136 132 135,Mv 128 136]
def abM:LO:=[Mc 2 (.int .i64 15)]
def abL:LO:=[Mv 138 7,Bc 139 .gtr 138 0,Mv 140 139,Gt 140 (Fa 141 0 8),Gt 140 (Ld 142 141),Gt 140 (Fa 143 15 1),Gt 140 (Ld 144 143),Gt 140 (Mv 145 7),Gt 140 (Bc 146 .sub 145 1),Af [6] (Gt 140 (Ia 147 2 144 146)),Gt 140 (Fa 148 0 147),Af [9, 6] (Gt 140 (Ld 149 148)),Gt 140 (Bi 150 .leq 142 149),Pa 151 140 150,Mv 137 151]
def abK:LO:=[Mc 2 (.int .i64 16)]
def abJ:LO:=[Fa 153 1 8,Ld 154 153,Ln 155 0 154,Bc 156 .gtr 155 255,Mv 152 156]
def abI:LO:=[Mc 2 (.int .i64 4)]
def abH:LO:=[Bc 157 .add 123 1,Mv 123 157]
def vm:ACode:=(Sr abP (Sq (Cx 124 3) (Sq (Bk 4 (Sr abO (Bk 5 (Sr abN (Cn 128 (Rr abM) (Sq (Rd abL) (Cn 137 (Rr abK) (Sr abJ (Ci 152 (Rr abI)))))))))) (Rg abH))))
def zt:LO:=[Mc 2 (.int .i64 0)]
def f66 : AFunc := ⟨158, 1, false, [.t 2], (Sr apZ (Sq (Sr apY (Ci 16 (Rr apX))) (Sq (Sr apW (Sr apV (Ci 21 (Rr apU)))) (Sq (Bk 0 (Sr apT (Cn 23 (Rr apS) (Sr apR (Cn 27 (Rr apQ) (Sr ace (Cn 36 (Rr acd) (Sr acb (Cn 45 (Rr aca) (Sr ab9 (Cn 54 (Rr ab8) (Sr ab7 (Cn 63 (Rr ab6) (Sr ab5 (Ci 76 (Rr ab4)))))))))))))))) (Sq (Sr ab3 (Sr ab1 (Ci 94 (Rr ab0)))) (Sq (Sr abZ (Ci 101 (Rr abY))) (Sq (Sr abX (Ci 105 (Rr abW))) (Sq (Sr abV (Bl 1 DK)) (Sq (Sr MI (Ci 119 (Rr MH))) (Sq (Sr MG (Bl 3 vm)) (Rr zt)))))))))))⟩
def Qw:LI:=[.inLoop DK, .inBlock 1, .code (Sq (Sr MI (Ci 119 (Rr MH))) (Sq (Sr MG (Bl 3 vm)) (Rr zt)))]
def Qv:LI:=[.inLoop vm, .inBlock 3, .code (Rr zt)]
def amG:LO:=[Mc 2 (.int .i64 0)]
def amF:LO:=[Mv 3 0]
def amE:LO:=[Mc 2 (.int .i64 4)]
def amD:LO:=[Mc 2 (.int .i64 2)]
def f92 : AFunc := ⟨4, 1, false, [.t 2], (Sr amG (Sq (Sr amF (Ci 3 (Rr amE))) (Rr amD)))⟩
def ad5:LO:=[Mc 4 (.int .i64 0)]
def ad4:LO:=[Mv 8 0,Nc 9 8,Fa 10 0 9,Ld 11 10,Mv 12 1,Ca 13 110 [(.t 11), (.c (.int .i64 0)), (.t 12)],Mv 7 13,Ex 14 7 0,Ex 15 7 1,Mv 5 14,Mv 6 15]
def ad3:LO:=[Mv 16 0,Mv 17 0,Nc 18 17,Fa 19 0 18,Ld 20 19,Mv 21 1,Op 22 (.slc 1 (.t 20) (some (.t 21)) none none),Nc 23 16,Fa 24 0 23,St 1 24 22]
def ad2:LO:=[Mv 25 5,Cv 26 .i64 25,Mv 4 26]
def vq : AFunc := ⟨27, 2, false, [.t 4], (Sr ad5 (Sr ad4 (Sr ad3 (Rr ad2))))⟩
def ad1:LO:=[Mc 4 (.bool false)]
def ad0:LO:=[Mv 5 0,Nc 6 5,Fa 7 0 6,Ld 8 7,Ln 9 0 8,Mv 10 1,Bi 11 .geq 9 10,Mv 4 11]
def vp : AFunc := ⟨12, 2, false, [.t 4], (Sr ad1 (Rr ad0))⟩
def adZ:LO:=[Mc 2 (.bool false)]
def adY:LO:=[Mv 5 0,Nc 6 5,Fa 7 0 6,Fa 8 0 7,Ld 9 8,Ln 10 0 9,Bc 11 .gtr 10 0]
def adX:LO:=[Mv 12 0,Nc 13 12,Fa 14 0 13,Ca 15 207 [(.t 14), (.c (.int .i64 2))],Un 16 .not 15]
def adW:LO:=[Mc 2 (.bool false)]
def adV:LO:=[Mv 17 0,Nc 18 17,Fa 19 0 18,Ca 20 206 [(.t 19), (.c (.int .i64 1))],Mv 3 20]
def adU:LO:=[Mv 21 0,Nc 22 21,Fa 23 0 22,Ca 24 206 [(.t 23), (.c (.int .i64 1))],Mv 4 24]
def adT:LO:=[Mv 25 0,Nc 26 25,Fa 27 0 26,Mv 28 4,Ct 29 207 [27, 28],Un 30 .not 29]
def adS:LO:=[Mc 2 (.bool false)]
def adR:LO:=[Mv 31 0,Mv 32 0,Nc 33 32,Fa 34 1 33,Ld 35 34,Mv 36 3,Mv 37 0,Nc 38 37,Fa 39 0 38,Mv 40 4,Ct 41 209 [39, 40],Op 42 (.build zz3 [(0, 1), (1, 1)] [(.t 36), (.t 41)]),Af [10] (Op 43 (.bsl 2 zz3 1 [0] [(.t 42)])),Af [4, 12, 10] (Ap 44 2 32 35 43),Nc 45 31,Fa 46 1 45,Af [13, 4, 12, 10] (St 1 46 44)]
def Ew:ACode:=(Sq (Sr adY (Cx 11 0)) (Bk 1 (Sq (Sr adX (Ci 16 (Rr adW))) (Sr adV (Sr adU (Sq (Sr adT (Ci 30 (Rr adS))) (Rd adR)))))))
def Ey:LO:=[Mv 47 0,Nc 48 47,Fa 49 1 48,Ld 50 49,Ln 51 0 50,Bc 52 .gtr 51 0,Mv 2 52]
def QH : AFunc := ⟨53, 1, false, [.t 2], (Sr adZ (Sq (Bl 0 Ew) (Rr Ey)))⟩
def QG:LI:=[.inLoop Ew, .inBlock 0, .code (Rr Ey)]
def adQ:LO:=[Mc 4 (.con (.slice none 0 0))]
def adP:LO:=[Op 6 (.bsl 1 zz1 0 [] []),Mv 7 0,Nc 8 7,Fa 9 0 8,Ld 10 9,Mv 11 1,Op 12 (.slc 1 (.t 10) none (some (.t 11)) none),Ap 13 1 1 6 12,Mv 5 13]
def adO:LO:=[Mv 14 0,Mv 15 0,Nc 16 15,Fa 17 0 16,Ld 18 17,Mv 19 1,Op 20 (.slc 1 (.t 18) (some (.t 19)) none none),Nc 21 14,Fa 22 0 21,St 1 22 20]
def adN:LO:=[Mv 23 5,Mv 4 23]
def JB : AFunc := ⟨24, 2, false, [.t 4], (Sr adQ (Sr adP (Sr adO (Rr adN))))⟩
def adM:LO:=[Mc 2 (.bool false)]
def adL:LO:=[Mv 6 0,Nc 7 6,Fa 8 0 7,Fa 9 0 8,Ld 10 9,Ln 11 0 10,Bc 12 .gtr 11 0]
def adK:LO:=[Mv 13 0,Nc 14 13,Fa 15 0 14,Ca 16 206 [(.t 15), (.c (.int .i64 1))],Mv 3 16]
def adJ:LO:=[Mv 17 3,Bc 18 .add 17 7,Bc 19 .quo 18 8,Mv 4 19]
def adI:LO:=[Mv 20 3,Bc 21 .gtr 20 32,Mv 22 21,Gf 22 (Mv 23 0),Gf 22 (Nc 24 23),Gf 22 (Fa 25 0 24),Gf 22 (Mv 26 4),Gf 22 (Ct 27 207 [25, 26]),Gf 22 (Un 28 .not 27),Po 29 22 28]
def adH:LO:=[Mc 2 (.bool false)]
def adG:LO:=[Mv 30 0,Nc 31 30,Fa 32 0 31,Mv 33 4,Ct 34 206 [32, 33],Mv 35 4,Op 36 (.bin .mul (.c (.int .i64 8)) (.t 35)),Op 37 (.bin .sub (.c (.int .i64 32)) (.t 36)),Cv 38 .u64 37,Bi 39 .shl 34 38,Cv 40 .u32 39,Mv 41 3,Op 42 (.build zz4 [(0, 1), (1, 1)] [(.t 40), (.t 41)]),Op 5 (.alloc (.agg zz4)),St 2 5 42]
def adF:LO:=[Ls 43 2 5,Ct 44 178 [43],Un 45 .not 44]
def adE:LO:=[Mc 2 (.bool false)]
def adC:LO:=[Mv 46 0,Mv 47 0,Nc 48 47,Fa 49 1 48,Ld 50 49,Ls 51 2 5,Af [5] (Op 52 (.bsl 2 zz4 1 [0] [(.t 51)])),Af [4, 6, 5] (Ap 53 2 16 50 52),Nc 54 46,Fa 55 1 54,Af [7, 4, 6, 5] (St 1 55 53)]
def zH:ACode:=(Sq (Sr adL (Cx 12 0)) (Bk 1 (Sr adK (Sr adJ (Sq (Sr adI (Ci 29 (Rr adH))) (Sr adG (Sq (Sr adF (Ci 45 (Rr adE))) (Rd adC))))))))
def Eu:LO:=[Mc 2 (.bool true)]
def QF : AFunc := ⟨56, 1, false, [.t 2], (Sr adM (Sq (Bl 0 zH) (Rr Eu)))⟩
def M5:LI:=[.inLoop zH, .inBlock 0, .code (Rr Eu)]
def apu:LO:=[Op 4 (.alloc (.agg zz2)),Mc 5 (.int .i64 0)]
def apt:LO:=[Op 13 (.build zz2 [] []),Op 6 (.alloc (.agg zz2)),St 16 6 13]
def aps:LO:=[Mc 7 (.int .i64 (-1)),Mc 8 (.int .i64 0)]
def apr:LO:=[Mv 14 0,Ln 15 0 14,Bc 16 .gtr 15 0]
def apq:LO:=[Mc 9 (.int .i64 3)]
def apo:LO:=[Mv 17 0,Op 18 (.iadr 1 (.t 17) (.c (.int .i64 0))),Ld 19 18,Op 20 (.bin .and (.t 19) (.c (.int .u8 16))),Op 21 (.bin .neq (.t 20) (.c (.int .u8 0)))]
def apn:LO:=[Mc 9 (.int .i64 4)]
def apm:LO:=[Mv 22 0,Ln 23 0 22,Mv 24 9,Bi 25 .lss 23 24]
def apl:LO:=[Op 26 (.build zz2 [] []),St 16 4 26,Mc 5 (.int .i64 3)]
def apk:LO:=[Mv 27 0,Mv 28 9,Bc 29 .sub 28 2,Ca 30 93 [(.t 27), (.c (.int .i64 2)), (.t 29)],Mv 10 30]
def abj:LO:=[Mv 31 0,Ln 32 0 31,Mv 33 9,Mv 34 10,Bi 35 .add 33 34,Bi 36 .lss 32 35]
def abi:LO:=[Op 37 (.build zz2 [] []),St 16 4 37,Mc 5 (.int .i64 3)]
def abh:LO:=[Mv 38 0,Op 39 (.iadr 1 (.t 38) (.c (.int .i64 1))),Ld 40 39,Cv 41 .i64 40,Mv 11 41]
def abg:LO:=[Mv 42 11,Mv 43 7,Bi 44 .leq 42 43]
def abf:LO:=[Op 45 (.build zz2 [] []),St 16 4 45,Mc 5 (.int .i64 16)]
def abe:LO:=[Mv 46 0,Op 47 (.iadr 1 (.t 46) (.c (.int .i64 0))),Af [1] (Ld 48 47),Op 49 (.bin .andNot (.t 48) (.c (.int .u8 16))),Mv 50 11,Ct 51 94 [50],Bi 52 .neq 49 51,Mv 53 52,Gf 53 (Mv 54 9),Gf 53 (Bc 55 .eql 54 4),Gf 53 (Mv 56 55),Gt 56 (Mv 57 10),Gt 56 (Bc 58 .leq 57 255),Gf 53 (Pa 59 56 58),Po 60 53 59,Mv 61 60,Gf 61 (Mv 62 11),Gf 61 (Mv 63 0),Gf 61 (Mv 64 9),Gf 61 (Mv 65 9),Gf 61 (Mv 66 10),
 Gf 61 (Bi 67 .add 65 66),Af [5, 2, 1] (Gf 61 (Op 68 (.slc 1 (.t 63) (some (.t 64)) (some (.t 67)) none))),Gf 61 (Mv 69 1),Af [5, 2, 1] (Gf 61 (Ct 70 96 [69])),Af [22, 24, 5, 2, 1] (Gf 61 (Ct 71 95 [6, 62, 68, 70])),Gf 61 (Un 72 .not 71),Po 73 61 72]
def abd:LO:=[Op 74 (.build zz2 [] []),St 16 4 74,Mc 5 (.int .i64 2)]
def abc:LO:=[Mv 75 11,Bc 76 .geq 75 1,Mv 77 76,Gt 77 (Mv 78 11),Gt 77 (Bc 79 .leq 78 3),Pa 80 77 79]
def abb:LO:=[Mv 81 8,Bc 82 .add 81 1,Mv 8 82]
def aba:LO:=[Mv 83 11,Mv 7 83]
def aa9:LO:=[Mv 84 0,Mv 85 9,Mv 86 10,Bi 87 .add 85 86,Op 88 (.slc 1 (.t 84) (some (.t 87)) none none),Mv 0 88]
def DH:ACode:=(Sq (Sr apr (Cx 16 0)) (Bk 1 (Sr apq (Sq (Sr apo (Cn 21 (Rg apn) Sk)) (Sq (Sr apm (Ci 25 (Rr apl))) (Sr apk (Sq (Sr abj (Ci 36 (Rr abi))) (Sr abh (Sq (Sr abg (Ci 44 (Rr abf))) (Sq (Sq (Rd abe) (Ci 73 (Rr abd))) (Sq (Sr abc (Cn 80 (Rg abb) Sk)) (Sr aba (Rg aa9)))))))))))))
def Md:LO:=[Mv 89 8,Bc 90 .lss 89 3]
def Ma:LO:=[Op 91 (.build zz2 [] []),St 16 4 91,Mc 5 (.int .i64 6)]
def LZ:LO:=[Ls 92 16 6,Ct 93 65 [92],Mv 12 93]
def LY:LO:=[Mv 94 12,Bc 95 .neq 94 0]
def LX:LO:=[Op 96 (.build zz2 [] []),Mv 97 12,St 16 4 96,Mv 5 97]
def LW:LO:=[Ls 98 16 6,St 16 4 98,Mc 5 (.int .i64 0)]
def f69 : AFunc := ⟨99, 2, false, [.cell 4 (some 16), .t 5], (Sr apu (Sr apt (Sr aps (Sq (Bl 0 DH) (Sq (Sr Md (Ci 90 (Rr Ma))) (Sq (Sr LZ (Sr LY (Ci 95 (Rr LX)))) (Rr LW)))))))⟩
def lX:LI:=[.inLoop DH, .inBlock 0, .code (Sq (Sr Md (Ci 90 (Rr Ma))) (Sq (Sr LZ (Sr LY (Ci 95 (Rr LX)))) (Rr LW)))]
def ajK:LO:=[Mc 6 (.int .u64 0),Mc 7 (.bool false)]
def ajJ:LO:=[Mv 11 2,Bc 12 .lss 11 0,Mv 13 12,Gf 13 (Mv 14 2),Gf 13 (Bc 15 .gtr 14 8),Po 16 13 15,Mv 17 16,Gf 17 (Mv 18 1),Gf 17 (Bc 19 .lss 18 0),Po 20 17 19,Mv 21 20,Gf 21 (Mv 22 1),Gf 21 (Mv 23 0),Gf 21 (Ln 24 0 23),Gf 21 (Mv 25 2),Gf 21 (Bi 26 .sub 24 25),Gf 21 (Bi 27 .gtr 22 26),Po 28 21 27]
def ajI:LO:=[Mc 6 (.int .u64 0),Mc 7 (.bool false)]
def ajH:LO:=[Mc 8 (.int .u64 0)]
def ajG:LO:=[Mv 29 0,Mv 30 1,Mv 31 1,Mv 32 2,Bi 33 .add 31 32,Op 34 (.slc 1 (.t 29) (some (.t 30)) (some (.t 33)) none),Ln 35 0 34,Mc 36 (.int .i64 0)]
def ajF:LO:=[Bi 37 .lss 36 35]
def ajE:LO:=[Ia 38 1 34 36,Ld 39 38,Mv 10 39]
def ajD:LO:=[Mv 40 8,Op 41 (.bin .mul (.t 40) (.c (.int .u64 256))),Mv 42 10,Cv 43 .u64 42,Bi 44 .add 41 43,Mv 8 44]
def ajC:LO:=[Bc 45 .add 36 1,Mv 36 45]
def Ib:ACode:=(Sr ajF (Sq (Cx 37 0) (Sq (Bk 1 (Sr ajE (Rg ajD))) (Rg ajC))))
def Ic:LO:=[Mv 46 8,Mv 6 46,Mc 7 (.bool true)]
def RK : AFunc := ⟨47, 3, false, [.t 6, .t 7], (Sr ajK (Sq (Sr ajJ (Ci 28 (Rr ajI))) (Sr ajH (Sq (Sr ajG (Bl 0 Ib)) (Rr Ic)))))⟩
def RJ:LI:=[.inLoop Ib, .inBlock 0, .code (Rr Ic)]
def avl:LO:=[Mc 2 (.con (.slice none 0 0)),Mc 3 (.bool false)]
def avk:LO:=[Mv 7 0,Ln 8 0 7,Bc 9 .eql 8 1,Mv 10 9,Gt 10 (Mv 11 0),Gt 10 (Op 12 (.iadr 1 (.t 11) (.c (.int .i64 0)))),Gt 10 (Ld 13 12),Gt 10 (Op 14 (.bin .eql (.t 13) (.c (.int .u8 0)))),Pa 15 10 14]
def avj:LO:=[Mc 2 (.con (.slice none 0 0)),Mc 3 (.bool true)]
def avi:LO:=[Mv 16 0,Ln 17 0 16,Bc 18 .lss 17 5,Mv 19 18,Gf 19 (Mv 20 0),Gf 19 (Op 21 (.iadr 1 (.t 20) (.c (.int .i64 0)))),Gf 19 (Ld 22 21),Gf 19 (Cv 23 .i64 22),Gf 19 (Mv 24 0),Gf 19 (Ln 25 0 24),Gf 19 (Bc 26 .sub 25 1),Gf 19 (Bi 27 .neq 23 26),Po 28 19 27,Mv 29 28,Gf 29 (Mv 30 0),Gf 29 (Op 31 (.iadr 1 (.t 30) (.c (.int .i64 1)))),Gf 29 (Ld 32 31),Gf 29 (Op 33 (.bin .neq (.t 32) (.c (.int .u8 2)))),
 Po 34 29 33,Mv 35 34,Gf 35 (Mv 36 0),Gf 35 (Op 37 (.iadr 1 (.t 36) (.c (.int .i64 2)))),Gf 35 (Ld 38 37),Gf 35 (Cv 39 .i64 38),Gf 35 (Mv 40 0),Gf 35 (Ln 41 0 40),Gf 35 (Bc 42 .sub 41 3),Gf 35 (Bi 43 .neq 39 42),Po 44 35 43]
def avh:LO:=[Mc 2 (.con (.slice none 0 0)),Mc 3 (.bool false)]
def avg:LO:=[Mc 4 (.con (.slice none 0 0))]
def avf:LO:=[Mc 5 (.int .i64 3)]
def ave:LO:=[Mv 45 5,Mv 46 0,Ln 47 0 46,Bi 48 .lss 45 47]
def avd:LO:=[Mv 49 5,Bc 50 .add 49 2,Mv 51 0,Ln 52 0 51,Bi 53 .gtr 50 52,Mv 54 53,Gf 54 (Mv 55 5),Gf 54 (Bc 56 .add 55 2),Gf 54 (Mv 57 0),Gf 54 (Mv 58 5),Gf 54 (Bc 59 .add 58 1),Gf 54 (Ia 60 1 57 59),Gf 54 (Ld 61 60),Gf 54 (Cv 62 .i64 61),Gf 54 (Bi 63 .add 56 62),Gf 54 (Mv 64 0),Gf 54 (Ln 65 0 64),Gf 54 (Bi 66 .gtr 63 65),Po 67 54 66]
def avc:LO:=[Mc 2 (.con (.slice none 0 0)),Mc 3 (.bool false)]
def atz:LO:=[Mv 68 0,Mv 69 5,Bc 70 .add 69 1,Ia 71 1 68 70,Ld 72 71,Cv 73 .i64 72,Mv 6 73]
def aty:LO:=[Mv 74 4,Mv 75 0,Mv 76 5,Ia 77 1 75 76,Af [3] (Ld 78 77),Cv 79 .i64 78,Op 80 (.bsl 1 zz1 0 [] []),Mv 81 0,Mv 82 5,Bc 83 .add 82 2,Mv 84 5,Bc 85 .add 84 2,Mv 86 6,Bi 87 .add 85 86,Op 88 (.slc 1 (.t 81) (some (.t 83)) (some (.t 87)) none),Af [6, 14] (Ap 89 1 1 80 88),Op 90 (.build zz3 [(0, 1), (1, 1)] [(.t 79), (.t 89)]),Af [15, 4, 3, 6, 14] (Op 91 (.bsl 2 zz3 1 [0] [(.t 90)])),
 Af [17, 15, 4, 3, 6, 14] (Ap 92 2 32 74 91),Mv 4 92]
def atx:LO:=[Mv 93 5,Mv 94 6,Op 95 (.bin .add (.c (.int .i64 2)) (.t 94)),Bi 96 .add 93 95,Mv 5 96]
def alb:ACode:=(Sq (Sr ave (Cx 48 0)) (Bk 1 (Sq (Sr avd (Ci 67 (Rr avc))) (Sr atz (Sq (Rd aty) (Rg atx))))))
def ari:LO:=[Mv 97 4,Mv 2 97,Mc 3 (.bool true)]
def x6 : AFunc := ⟨98, 1, false, [.t 2, .t 3], (Sr avl (Sq (Sr avk (Ci 15 (Rr avj))) (Sq (Sr avi (Ci 44 (Rr avh))) (Sr avg (Sq (Sr avf (Bl 0 alb)) (Rr ari))))))⟩
def asv:LI:=[.inLoop alb, .inBlock 0, .code (Rr ari)]
def avb:LO:=[Mc 2 (.con (.slice none 0 0)),Mc 3 (.bool false)]
def ava:LO:=[Mc 4 (.con (.slice none 0 0))]
def au9:LO:=[Mc 5 (.int .i64 0)]
def au8:LO:=[Mv 9 5,Mv 10 0,Ln 11 0 10,Bi 12 .lss 9 11]
def au7:LO:=[Mv 13 0,Mv 14 5,Ia 15 1 13 14,Ld 16 15,Cv 17 .i64 16,Op 18 (.build zz4 [(1, 1)] [(.t 17)]),Op 6 (.alloc (.agg zz4)),St 2 6 18]
def au6:LO:=[Fa 19 1 6,Ld 20 19,Bc 21 .add 20 7,Bc 22 .quo 21 8,Mv 7 22]
def au5:LO:=[Mv 23 5,Bc 24 .add 23 1,Mv 5 24]
def au4:LO:=[Fa 25 1 6,Ld 26 25,Bc 27 .gtr 26 32,Mv 28 27,Gf 28 (Mv 29 5),Gf 28 (Mv 30 7),Gf 28 (Bi 31 .add 29 30),Gf 28 (Mv 32 0),Gf 28 (Ln 33 0 32),Gf 28 (Bi 34 .gtr 31 33),Po 35 28 34]
def au3:LO:=[Mc 2 (.con (.slice none 0 0)),Mc 3 (.bool false)]
def au2:LO:=[Mv 36 7,Mc 37 (.int .i64 0)]
def atw:LO:=[Bi 38 .lss 37 36]
def atv:LO:=[Mv 39 37,Mv 8 39]
def atu:LO:=[Fa 40 0 6,Ld 41 40,Mv 42 0,Mv 43 5,Mv 44 8,Bi 45 .add 43 44,Ia 46 1 42 45,Af [6] (Ld 47 46),Cv 48 .u32 47,Mv 49 8,Op 50 (.bin .mul (.c (.int .i64 8)) (.t 49)),Op 51 (.bin .sub (.c (.int .i64 24)) (.t 50)),Bi 52 .shl 48 51,Bi 53 .add 41 52,Fa 54 0 6,Af [1, 7, 6] (St 1 54 53)]
def att:LO:=[Bc 55 .add 37 1,Mv 37 55]
def af1:ACode:=(Sr atw (Sq (Cx 38 2) (Sq (Bk 3 (Sr atv (Rd atu))) (Rg att))))
def arh:LO:=[Ls 56 2 6,Ct 57 179 [56],Un 58 .not 57]
def arg:LO:=[Mc 2 (.con (.slice none 0 0)),Mc 3 (.bool false)]
def arf:LO:=[Mv 59 5,Mv 60 7,Bi 61 .add 59 60,Mv 5 61]
def ard:LO:=[Mv 62 4,Ls 63 2 6,Op 64 (.bsl 2 zz4 1 [0] [(.t 63)]),Ap 65 2 16 62 64,Mv 4 65]
def Gp:ACode:=(Sq (Sr au8 (Cx 12 0)) (Bk 1 (Sr au7 (Sr au6 (Sr au5 (Sq (Sr au4 (Ci 35 (Rr au3))) (Sq (Sr au2 (Bl 2 af1)) (Sq (Sr arh (Ci 58 (Rr arg))) (Sr arf (Rg ard))))))))))
def L7:LO:=[Mv 66 4,Mv 2 66,Mc 3 (.bool true)]
def asU : AFunc := ⟨67, 1, false, [.t 2, .t 3], (Sr avb (Sr ava (Sq (Sr au9 (Bl 0 Gp)) (Rr L7))))⟩
def asu:LI:=[.inLoop Gp, .inBlock 0, .code (Rr L7)]
def S6:LI:=[.inLoop af1, .inBlock 2, .code (Sq (Sr arh (Ci 58 (Rr arg))) (Sr arf (Rg ard))), .inBlock 1, .inLoop Gp, .inBlock 0, .code (Rr L7)]
def axa:LO:=[Op 4 (.alloc (.agg zz2)),Mc 5 (.int .i64 0)]
def aw9:LO:=[Op 18 (.build zz2 [] []),Op 6 (.alloc (.agg zz2)),St 16 6 18]
def aw8:LO:=[Mc 7 (.int .i64 (-1))]
def aw7:LO:=[
 Op 8 (.alloc (.agg [.bool false, .bool false, .bool false, .bool false, .bool false, .bool false, .bool false, .bool false, .bool false, .bool false, .bool false, .bool false, .bool false, .bool false, .bool false, .bool false, .bool false, .bool false, .bool false, .bool false, .bool false, .bool false, .bool false, .bool false, .bool false, .bool false, .bool false, .bool false, .bool false, .bool false, .bool false, .bool false, .bool false, .bool false, .bool false, .bool false, .bool false, .bool false, .bool false, .bool false, .bool false, .bool false, .bool false, .bool false, .bool false, .bool false, .bool false, .bool false, .bool false, .bool false, .bool false, .bool false, .bool false, .bool false, .bool false, .bool false, .bool false, .bool false, .bool false, .bool false, .bool false, .bool false, .bool false, .bool false, .bool false, .bool false, .bool false, .bool false, .bool false, .bool false, .bool false, .bool false, .bool false, .bool false, .bool false, .bool false, .bool false, .bool false, .bool false, .bool false, .bool false, .bool false, .bool false, .bool false, .bool false, .bool false, .bool false, .bool false, .bool false, .bool false, .bool false, .bool false, .bool false, .bool false, .bool false, .bool false, .bool false, .bool false, .bool false, .bool false, .bool false, .bool false, .bool false, .bool false, .bool false, .bool false, .bool false, .bool false, .bool false, .bool false, .bool false, .bool false, .bool false, .bool false, .bool false, .bool false, .bool false, .bool false, .bool false, .bool false, .bool false, .bool false, .bool false, .bool false, .bool false, .bool false, .bool false, .bool false, .bool false, .bool false, .bool false, .bool false, .bool false, .bool false, .bool false, .bool false, .bool false, .bool false, .bool false, .bool false, .bool false, .bool false, .bool false, .bool false, .bool false, .bool false, .bool false, .bool false, .bool false, .bool false, .bool false, .bool false, .bool false, .bool false, .bool false, .bool false, .bool false, .bool false, .bool false, .bool false, .bool false, .bool false, .bool false, .bool false, .bool false, .bool false, .bool false, .bool false, .bool false, .bool false, .bool false, .bool false, .bool false, .bool false, .bool false, .bool false, .bool false, .bool false, .bool false, .bool false, .bool false, .bool false, .bool false, .bool false, .bool false, .bool false, .bool false, .bool false, .bool false, .bool false, .bool false, .bool false, .bool false, .bool false, .bool false, .bool false, .bool false, .bool false, .bool false, .bool false, .bool false, .bool false, .bool false, .bool false, .bool false, .bool false, .bool false, .bool false, .bool false, .bool false, .bool false, .bool false, .bool false, .bool false, .bool false, .bool false, .bool false, .bool false, .bool false, .bool false, .bool false, .bool false, .bool false, .bool false, .bool false, .bool false, .bool false, .bool false, .bool false, .bool false, .bool false, .bool false, .bool false, .bool false, .bool false, .bool false, .bool false, .bool false, .bool false, .bool false, .bool false, .bool false, .bool false, .bool false, .bool false, .bool false, .bool false, .bool false, .bool false, .bool false, .bool false, .bool false, .bool false, .bool false, .bool false, .bool false]))]
def aw6:LO:=[Mc 9 (.int .i64 0)]
def aw5:LO:=[Mv 19 9,Mv 20 0,Ln 21 0 20,Bi 22 .lss 19 21]
def aw4:LO:=[Mv 23 9,Bc 24 .add 23 3,Mv 25 0,Ln 26 0 25,Bi 27 .gtr 24 26]
def aw3:LO:=[Op 28 (.build zz2 [] []),St 16 4 28,Mc 5 (.int .i64 3)]
def aw2:LO:=[Mv 29 0,Mv 30 9,Ia 31 1 29 30,Af [2] (Ld 32 31),Cv 33 .i64 32,Mv 34 0,Mv 35 9,Bc 36 .add 35 1,Ia 37 1 34 36,Af [8] (Ld 38 37),Cv 39 .i64 38,Mv 10 33,Mv 11 39,Mc 12 (.int .i64 1)]
def aw1:LO:=[Mv 40 10,Bc 41 .and 40 16,Bc 42 .neq 41 0,Mv 13 42]
def au1:LO:=[Mv 43 13]
def au0:LO:=[Mc 12 (.int .i64 2)]
def auZ:LO:=[Mv 44 9,Bc 45 .add 44 2,Mv 46 12,Bi 47 .add 45 46,Mv 48 0,Ln 49 0 48,Bi 50 .gtr 47 49]
def auY:LO:=[Op 51 (.build zz2 [] []),St 16 4 51,Mc 5 (.int .i64 3)]
def auX:LO:=[Mv 52 0,Mv 53 9,Bc 54 .add 53 2,Mv 55 12,Ct 56 100 [52, 54, 55],Mv 14 56]
def auW:LO:=[Mv 57 9,Mv 58 12,Op 59 (.bin .add (.c (.int .i64 2)) (.t 58)),Bi 60 .add 57 59,Mv 9 60]
def auV:LO:=[Mv 61 9,Mv 62 14,Bi 63 .add 61 62,Mv 64 0,Ln 65 0 64,Bi 66 .gtr 63 65]
def auU:LO:=[Op 67 (.build zz2 [] []),St 16 4 67,Mc 5 (.int .i64 3)]
def auT:LO:=[Mv 68 11,Mv 69 7,Bi 70 .leq 68 69]
def auS:LO:=[Op 71 (.build zz2 [] []),St 16 4 71,Mc 5 (.int .i64 16)]
def auR:LO:=[Mv 72 11,Mv 7 72]
def auQ:LO:=[Ls 74 16 6,Mv 75 11,Mv 76 0,Mv 77 9,Mv 78 9,Mv 79 14,Bi 80 .add 78 79,Op 81 (.slc 1 (.t 76) (some (.t 77)) (some (.t 80)) none),Mv 82 1,Af [0, 7] (Ct 83 101 [74, 75, 81, 82]),Mv 73 83,Ex 84 73 0,Ex 85 73 1,Op 15 (.alloc (.agg zz2)),Af [13, 9, 0, 7] (St 16 15 84),Mv 16 85]
def auP:LO:=[Mv 86 10,Bc 87 .andNot 86 16,Mv 88 11,Ct 89 102 [88],Bi 90 .neq 87 89,Mv 91 90,Gf 91 (Mv 92 13),Gf 91 (Mv 93 92),Gt 93 (Mv 94 14),Gt 93 (Bc 95 .leq 94 255),Gf 91 (Pa 96 93 95),Po 97 91 96,Mv 98 97,Gf 98 (Mv 99 16),Gf 98 (Un 100 .not 99),Po 101 98 100]
def auO:LO:=[Op 102 (.build zz2 [] []),St 16 4 102,Mc 5 (.int .i64 2)]
def auN:LO:=[Ls 103 16 15,St 16 6 103]
def auM:LO:=[Mv 104 11,Op 105 (.iarr 256 1 (.t 8) (.t 104)),⟨none, .store 1 (.t 105) (.c (.bool true)), none, []⟩]
def auL:LO:=[Mv 106 9,Mv 107 14,Bi 108 .add 106 107,Mv 9 108]
def arc:ACode:=(Sq (Sr aw5 (Cx 22 0)) (Bk 1 (Sq (Sr aw4 (Ci 27 (Rr aw3))) (Sq (Rd aw2) (Sr aw1 (Sq (Sr au1 (Cn 43 (Rg au0) Sk)) (Sq (Sr auZ (Ci 50 (Rr auY))) (Sr auX (Sr auW (Sq (Sr auV (Ci 66 (Rr auU))) (Sq (Sr auT (Ci 70 (Rr auS))) (Sr auR (Sq (Rd auQ) (Sq (Sr auP (Ci 101 (Rr auO))) (Sr auN (Sr auM (Rg auL)))))))))))))))))
def ast:LO:=[Op 109 (.iarr 256 1 (.t 8) (.c (.int .i64 1))),Ld 110 109,Un 111 .not 110,Mv 112 111,Gf 112 (Op 113 (.iarr 256 1 (.t 8) (.c (.int .i64 2)))),Gf 112 (Ld 114 113),Gf 112 (Un 115 .not 114),Po 116 112 115,Mv 117 116,Gf 117 (Op 118 (.iarr 256 1 (.t 8) (.c (.int .i64 3)))),Gf 117 (Ld 119 118),Gf 117 (Un 120 .not 119),Po 121 117 120]
def asr:LO:=[Op 122 (.build zz2 [] []),St 16 4 122,Mc 5 (.int .i64 6)]
def asq:LO:=[Ls 123 16 6,Ct 124 66 [123],Mv 17 124]
def asp:LO:=[Mv 125 17,Bc 126 .neq 125 0]
def aso:LO:=[Op 127 (.build zz2 [] []),Mv 128 17,St 16 4 127,Mv 5 128]
def asn:LO:=[Ls 129 16 6,St 16 4 129,Mc 5 (.int .i64 0)]
def f71 : AFunc := ⟨130, 2, false, [.cell 4 (some 16), .t 5], (Sr axa (Sr aw9 (Sr aw8 (Sr aw7 (Sq (Sr aw6 (Bl 0 arc)) (Sq (Sr ast (Ci 121 (Rr asr))) (Sq (Sr asq (Sr asp (Ci 126 (Rr aso)))) (Rr asn))))))))⟩
def nn:LI:=[.inLoop arc, .inBlock 0, .code (Sq (Sr ast (Ci 121 (Rr asr))) (Sq (Sr asq (Sr asp (Ci 126 (Rr aso)))) (Rr asn)))]
def amh:LO:=[Mc 4 (.bool false)]
def amg:LO:=[Mv 7 0,Ln 8 0 7,Mv 9 1,Ln 10 0 9,Bi 11 .neq 8 10]
def amf:LO:=[Mc 4 (.bool false)]
def ame:LO:=[Mv 12 0,Ln 13 0 12,Mc 14 (.int .i64 0)]
def amd:LO:=[Bi 15 .lss 14 13]
def amc:LO:=[Mv 16 14,Mv 5 16]
def amb:LO:=[Mv 17 0,Mv 18 5,Ia 19 2 17 18,Fa 20 0 19,Af [2] (Ld 21 20),Mv 22 1,Mv 23 5,Ia 24 2 22 23,Fa 25 0 24,Af [7] (Ld 26 25),Bi 27 .neq 21 26,Mv 28 27,Gf 28 (Mv 29 0),Gf 28 (Mv 30 5),Af [4, 9, 2, 7] (Gf 28 (Ia 31 2 29 30)),Gf 28 (Fa 32 1 31),Af [14, 4, 9, 2, 7] (Gf 28 (Ld 33 32)),Af [16, 14, 4, 9, 2, 7] (Gf 28 (Ln 34 0 33)),Gf 28 (Mv 35 1),Gf 28 (Mv 36 5),Af [4, 9, 2, 7] (Gf 28 (Ia 37 2 35 36)),
 Gf 28 (Fa 38 1 37),Af [20, 4, 9, 2, 7] (Gf 28 (Ld 39 38)),Af [22, 20, 4, 9, 2, 7] (Gf 28 (Ln 40 0 39)),Gf 28 (Bi 41 .neq 34 40),Po 42 28 41]
def ama:LO:=[Mc 4 (.bool false)]
def al9:LO:=[Mv 43 0,Mv 44 5,Ia 45 2 43 44,Fa 46 1 45,Ld 47 46,Ln 48 0 47,Mc 49 (.int .i64 0)]
def al8:LO:=[Bi 50 .lss 49 48]
def aav:LO:=[Mv 51 49,Mv 6 51]
def aau:LO:=[Mv 52 0,Mv 53 5,Ia 54 2 52 53,Fa 55 1 54,Af [2] (Ld 56 55),Mv 57 6,Af [4, 2] (Ia 58 1 56 57),Af [6, 4, 2] (Ld 59 58),Mv 60 1,Mv 61 5,Ia 62 2 60 61,Fa 63 1 62,Af [10] (Ld 64 63),Mv 65 6,Af [12, 10] (Ia 66 1 64 65),Af [14, 12, 10] (Ld 67 66),Bi 68 .neq 59 67]
def aat:LO:=[Mc 4 (.bool false)]
def aas:LO:=[Bc 69 .add 49 1,Mv 49 69]
def Dq:ACode:=(Sr al8 (Sq (Cx 50 2) (Sq (Bk 3 (Sr aav (Sq (Rd aau) (Ci 68 (Rr aat))))) (Rg aas))))
def Lc:LO:=[Bc 70 .add 14 1,Mv 14 70]
def vi:ACode:=(Sr amd (Sq (Cx 15 0) (Sq (Bk 1 (Sr amc (Sq (Sq (Rd amb) (Ci 42 (Rr ama))) (Sr al9 (Bl 2 Dq))))) (Rg Lc))))
def zl:LO:=[Mc 4 (.bool true)]
def f97 : AFunc := ⟨71, 2, false, [.t 4], (Sr amh (Sq (Sr amg (Ci 11 (Rr amf))) (Sq (Sr ame (Bl 0 vi)) (Rr zl))))⟩
def zm:LI:=[.inLoop vi, .inBlock 0, .code (Rr zl)]
def Qg:LI:=[.inLoop Dq, .inBlock 2, .inBlock 1, .code (Rg Lc), .inLoop vi, .inBlock 0, .code (Rr zl)]
def al7:LO:=[Mc 4 (.bool false)]
def al6:LO:=[Mv 5 0,Op 6 (.b2s (.t 5)),Mv 7 1,Op 8 (.b2s (.t 7)),Bi 9 .eql 6 8,Mv 4 9]
def f98 : AFunc := ⟨10, 2, false, [.t 4], (Sr al7 (Rr al6))⟩
def al5:LO:=[Mc 4 (.bool false)]
def al4:LO:=[Mv 6 0,Ln 7 0 6,Mv 8 1,Ln 9 0 8,Bi 10 .neq 7 9]
def al3:LO:=[Mc 4 (.bool false)]
def al2:LO:=[Mv 11 0,Ln 12 0 11,Mc 13 (.int .i64 0)]
def al1:LO:=[Bi 14 .lss 13 12]
def al0:LO:=[Mv 15 13,Mv 5 15]
def alZ:LO:=[Mv 16 0,Mv 17 5,Ia 18 1 16 17,Af [2] (Ld 19 18),Mv 20 1,Mv 21 5,Ia 22 1 20 21,Af [6] (Ld 23 22),Bi 24 .neq 19 23]
def alY:LO:=[Mc 4 (.bool false)]
def alX:LO:=[Bc 25 .add 13 1,Mv 13 25]
def KY:ACode:=(Sr al1 (Sq (Cx 14 0) (Sq (Bk 1 (Sr al0 (Sq (Rd alZ) (Ci 24 (Rr alY))))) (Rg alX))))
def KZ:LO:=[Mc 4 (.bool true)]
def f99 : AFunc := ⟨26, 2, false, [.t 4], (Sr al5 (Sq (Sr al4 (Ci 10 (Rr al3))) (Sq (Sr al2 (Bl 0 KY)) (Rr KZ))))⟩
def Uq:LI:=[.inLoop KY, .inBlock 0, .code (Rr KZ)]
def ap1:LO:=[Op 1 (.box (.t 0)),Mc 2 (.int .i64 0)]
def ap0:LO:=[Fa 3 0 1,Ld 4 3,Bc 5 .lss 4 0,Mv 6 5,Gf 6 (Fa 7 0 1),Af [1] (Gf 6 (Ld 8 7)),Gf 6 (Bc 9 .gtr 8 2),Po 10 6 9,Af [5, 1] (Ca 11 74 [(.t 10), (.c (.int .i64 5))]),Fa 12 1 1,Ld 13 12,Af [10, 8, 5, 1] (Ct 14 75 [13]),Fa 15 2 1,Ld 16 15,Op 17 (.bin .eql (.t 16) (.c (.int .u32 0))),Af [11, 13, 10, 8, 5, 1] (Ca 18 74 [(.t 17), (.c (.int .i64 1))]),Fa 19 3 1,Ld 20 19,Fa 21 4 1,Ld 22 21,
 Af [17, 19, 15, 11, 13, 10, 8, 5, 1] (Ca 23 76 [(.t 20), (.t 22), (.c (.int .i64 0))]),Fa 24 5 1,Ld 25 24,Fa 26 6 1,Ld 27 26,Af [22, 24, 20, 17, 19, 15, 11, 13, 10, 8, 5, 1] (Ca 28 76 [(.t 25), (.t 27), (.c (.int .i64 0))]),Fa 29 8 1,Ld 30 29,Fa 31 9 1,Ld 32 31,Af [27, 29, 25, 22, 24, 20, 17, 19, 15, 11, 13, 10, 8, 5, 1] (Ca 33 76 [(.t 30), (.t 32), (.c (.int .i64 1))]),Fa 34 8 1,Ld 35 34,
 Un 36 .not 35,Mv 37 36,Gt 37 (Fa 38 10 1),Af [30, 32, 27, 29, 25, 22, 24, 20, 17, 19, 15, 11, 13, 10, 8, 5, 1] (Gt 37 (Ld 39 38)),Gt 37 (Op 40 (.bin .neq (.t 39) (.c (.int .u32 0)))),Pa 41 37 40,Af [36, 30, 32, 27, 29, 25, 22, 24, 20, 17, 19, 15, 11, 13, 10, 8, 5, 1] (Ca 42 74 [(.t 41), (.c (.int .i64 1))]),Fa 43 11 1,Ld 44 43,
 Af [41, 39, 36, 30, 32, 27, 29, 25, 22, 24, 20, 17, 19, 15, 11, 13, 10, 8, 5, 1] (Ct 45 77 [44]),Fa 46 12 1,Ld 47 46,Fa 48 13 1,Ld 49 48,Op 50 (.bin .eql (.t 49) (.c (.int .u32 0))),Op 51 (.eqb false (.t 47) (.t 50)),Af [42, 44, 46, 41, 39, 36, 30, 32, 27, 29, 25, 22, 24, 20, 17, 19, 15, 11, 13, 10, 8, 5, 1] (Ca 52 74 [(.t 51), (.c (.int .i64 1))]),Fa 53 14 1,Ld 54 53,
 Af [51, 49, 42, 44, 46, 41, 39, 36, 30, 32, 27, 29, 25, 22, 24, 20, 17, 19, 15, 11, 13, 10, 8, 5, 1] (Ct 55 78 [54]),Fa 56 15 1,Ld 57 56,Af [54, 52, 51, 49, 42, 44, 46, 41, 39, 36, 30, 32, 27, 29, 25, 22, 24, 20, 17, 19, 15, 11, 13, 10, 8, 5, 1] (Ct 58 79 [57]),
 Af [55, 54, 52, 51, 49, 42, 44, 46, 41, 39, 36, 30, 32, 27, 29, 25, 22, 24, 20, 17, 19, 15, 11, 13, 10, 8, 5, 1] (Op 59 (.bsl 1 zz6 11 [0, 1, 2, 3, 4, 5, 6, 7, 8, 9, 10] [(.t 11), (.t 14), (.t 18), (.t 23), (.t 28), (.t 33), (.t 42), (.t 45), (.t 52), (.t 55), (.t 58)])),
 Af [56, 55, 54, 52, 51, 49, 42, 44, 46, 41, 39, 36, 30, 32, 27, 29, 25, 22, 24, 20, 17, 19, 15, 11, 13, 10, 8, 5, 1] (Ct 60 73 [59]),Mv 2 60]
def f65 : AFunc := ⟨61, 1, false, [.t 2], (Sr ap1 (Sq (Rd ap0) Rt))⟩
def anJ:LO:=[Mc 6 (.con (.slice none 0 0))]
def anI:LO:=[Mv 9 2,Ln 10 0 9,Mc 11 (.int .i64 0)]
def anH:LO:=[Bi 12 .lss 11 10]
def anG:LO:=[Ia 13 1 9 11,Ld 14 13,Mv 8 14]
def anF:LO:=[Mv 15 6,Mv 16 8,Ap 17 1 1 15 16,Mv 6 17]
def anE:LO:=[Bc 18 .add 11 1,Mv 11 18]
def Lr:ACode:=(Sr anH (Sq (Cx 12 0) (Sq (Bk 1 (Sr anG (Rg anF))) (Rg anE))))
def S7:LO:=[Mv 19 6,Ln 20 0 19,Bc 21 .gtr 20 255]
def SY:LO:=[Mv 22 0,Mv 23 0,Nc 24 23,Fa 25 0 24,Ld 26 25,Mv 27 1,Ct 28 94 [27],Op 29 (.bin .or (.t 28) (.c (.int .u8 16))),Mv 30 1,Cv 31 .u8 30,Af [6] (Op 32 (.bsl 1 zz1 2 [0, 1] [(.t 29), (.t 31)])),Af [4, 10, 6] (Ap 33 1 1 26 32),Nc 34 22,Fa 35 0 34,Af [11, 4, 10, 6] (St 1 35 33)]
def SX:LO:=[Mv 36 0,Mv 37 0,Nc 38 37,Fa 39 0 38,Ld 40 39,Mv 41 6,Ln 42 0 41,Cv 43 .u64 42,Ca 44 109 [(.t 40), (.c (.int .i64 2)), (.t 43)],Nc 45 36,Fa 46 0 45,St 1 46 44]
def Lw:LO:=[Mv 47 0,Mv 48 0,Nc 49 48,Fa 50 0 49,Ld 51 50,Mv 52 1,Ct 53 94 [52],Mv 54 1,Cv 55 .u8 54,Mv 56 6,Ln 57 0 56,Cv 58 .u8 57,Af [6, 10] (Op 59 (.bsl 1 zz1 3 [0, 1, 2] [(.t 53), (.t 55), (.t 58)])),Af [4, 12, 6, 10] (Ap 60 1 1 51 59),Nc 61 47,Fa 62 0 61,Af [13, 4, 12, 6, 10] (St 1 62 60)]
def Lu:LO:=[Mv 63 0,Mv 64 0,Nc 65 64,Fa 66 0 65,Ld 67 66,Mv 68 6,Ap 69 1 1 67 68,Nc 70 63,Fa 71 0 70,St 1 71 69]
def f83 : AFunc := ⟨72, 3, false, [], (Sr anJ (Sq (Sr anI (Bl 0 Lr)) (Sq (Sr S7 (Cn 21 (Sq (Rd SY) (Rg SX)) (Rd Lw))) (Rg Lu))))⟩
def Uw:LI:=[.inLoop Lr, .inBlock 0, .code (Sq (Sr S7 (Cn 21 (Sq (Rd SY) (Rg SX)) (Rd Lw))) (Rg Lu))]
def anC:LO:=[Mc 4 (.con (.slice none 0 0))]
def anB:LO:=[Mc 5 (.con (.slice none 0 0))]
def anA:LO:=[Mv 10 1,Ln 11 0 10,Mc 12 (.int .i64 0)]
def anz:LO:=[Bi 13 .lss 12 11]
def anx:LO:=[Ia 14 2 10 12,Ls 15 2 14,Op 7 (.alloc (.agg zz3)),St 2 7 15]
def anw:LO:=[Mv 16 5,Fa 17 0 7,Ld 18 17,Cv 19 .u8 18,Fa 20 1 7,Ld 21 20,Ln 22 0 21,Cv 23 .u8 22,Op 24 (.bsl 1 zz1 2 [0, 1] [(.t 19), (.t 23)]),Ap 25 1 1 16 24,Mv 5 25]
def anv:LO:=[Fa 26 1 7,Ld 27 26,Ln 28 0 27,Mc 29 (.int .i64 0)]
def anu:LO:=[Bi 30 .lss 29 28]
def ant:LO:=[Ia 31 1 27 29,Ld 32 31,Mv 9 32]
def ans:LO:=[Mv 33 5,Mv 34 0,Mv 35 9,Ct 36 86 [34, 35],Ap 37 1 1 33 36,Mv 5 37]
def aaX:LO:=[Bc 38 .add 29 1,Mv 29 38]
def Dv:ACode:=(Sr anu (Sq (Cx 30 2) (Sq (Bk 3 (Sr ant (Rg ans))) (Rg aaX))))
def Lk:LO:=[Bc 39 .add 12 1,Mv 12 39]
def vk:ACode:=(Sr anz (Sq (Cx 13 0) (Sq (Bk 1 (Sr anx (Sr anw (Sr anv (Bl 2 Dv))))) (Rg Lk))))
def zp:LO:=[Mv 40 5,Mv 4 40]
def f84 : AFunc := ⟨41, 2, false, [.t 4], (Sr anC (Sr anB (Sq (Sr anA (Bl 0 vk)) (Rr zp))))⟩
def zq:LI:=[.inLoop vk, .inBlock 0, .code (Rr zp)]
def Qi:LI:=[.inLoop Dv, .inBlock 2, .inBlock 1, .code (Rg Lk), .inLoop vk, .inBlock 0, .code (Rr zp)]
def anr:LO:=[Mc 2 (.con (.slice none 0 0))]
def anq:LO:=[Mv 3 0,Cv 4 .u64 3,Ca 5 109 [(.c (.con (.slice none 0 0))), (.c (.int .i64 4)), (.t 4)],Mv 2 5]
def f85 : AFunc := ⟨6, 1, false, [.t 2], (Sr anr (Rr anq))⟩
def anp:LO:=[Mc 4 (.con (.slice none 0 0))]
def ano:LO:=[Mv 5 0,Mv 6 0,Nc 7 6,Fa 8 2 7,Ld 9 8,Mv 10 9,Gf 10 (Mv 11 0),Gf 10 (Nc 12 11),Gf 10 (Fa 13 1 12),Gf 10 (Ld 14 13),Gf 10 (Un 15 .not 14),Gf 10 (Mv 16 15),Gt 16 (Mv 17 1),Gt 16 (Bc 18 .gtr 17 65535),Gf 10 (Pa 19 16 18),Po 20 10 19,Nc 21 5,Fa 22 2 21,St 1 22 20]
def ann:LO:=[Mv 23 0,Nc 24 23,Fa 25 1 24,Ld 26 25,Ct 27 96 [26],Mv 28 1,Cv 29 .u64 28,Ca 30 109 [(.c (.con (.slice none 0 0))), (.t 27), (.t 29)],Mv 4 30]
def f86 : AFunc := ⟨31, 2, false, [.t 4], (Sr anp (Sr ano (Rr ann)))⟩
def anm:LO:=[Mc 2 (.con (.slice none 0 0))]
def anl:LO:=[Mc 3 (.con (.slice none 0 0))]
def ank:LO:=[Mv 6 0,Ln 7 0 6,Mc 8 (.int .i64 0)]
def anj:LO:=[Bi 9 .lss 8 7]
def ani:LO:=[Ia 10 1 6 8,Ld 11 10,Mv 5 11]
def anh:LO:=[Mv 12 3,Mv 13 5,Cv 14 .i64 13,Ct 15 85 [14],Ap 16 1 1 12 15,Mv 3 16]
def ang:LO:=[Bc 17 .add 8 1,Mv 8 17]
def Lj:ACode:=(Sr anj (Sq (Cx 9 0) (Sq (Bk 1 (Sr ani (Rg anh))) (Rg ang))))
def SW:LO:=[Mv 18 3,Mv 2 18]
def f87 : AFunc := ⟨19, 1, false, [.t 2], (Sr anm (Sr anl (Sq (Sr ank (Bl 0 Lj)) (Rr SW))))⟩
def Uv:LI:=[.inLoop Lj, .inBlock 0, .code (Rr SW)]
def akX:LO:=[Mc 4 (.bool false)]
def akW:LO:=[Mv 7 0,Ln 8 0 7,Mv 9 1,Ln 10 0 9,Bi 11 .neq 8 10]
def akV:LO:=[Mc 4 (.bool false)]
def akU:LO:=[Mv 12 0,Ln 13 0 12,Mc 14 (.int .i64 0)]
def akT:LO:=[Bi 15 .lss 14 13]
def akS:LO:=[Mv 16 14,Mv 5 16]
def akR:LO:=[Mv 17 0,Mv 18 5,Ia 19 2 17 18,Fa 20 0 19,Af [2] (Ld 21 20),Mv 22 1,Mv 23 5,Ia 24 2 22 23,Fa 25 0 24,Af [7] (Ld 26 25),Bi 27 .neq 21 26,Mv 28 27,Gf 28 (Mv 29 0),Gf 28 (Mv 30 5),Af [4, 9, 2, 7] (Gf 28 (Ia 31 2 29 30)),Gf 28 (Fa 32 1 31),Af [14, 4, 9, 2, 7] (Gf 28 (Ld 33 32)),Af [16, 14, 4, 9, 2, 7] (Gf 28 (Ln 34 0 33)),Gf 28 (Mv 35 1),Gf 28 (Mv 36 5),Af [4, 9, 2, 7] (Gf 28 (Ia 37 2 35 36)),
 Gf 28 (Fa 38 1 37),Af [20, 4, 9, 2, 7] (Gf 28 (Ld 39 38)),Af [22, 20, 4, 9, 2, 7] (Gf 28 (Ln 40 0 39)),Gf 28 (Bi 41 .neq 34 40),Po 42 28 41]
def akQ:LO:=[Mc 4 (.bool false)]
def akP:LO:=[Mv 43 0,Mv 44 5,Ia 45 2 43 44,Fa 46 1 45,Ld 47 46,Ln 48 0 47,Mc 49 (.int .i64 0)]
def akO:LO:=[Bi 50 .lss 49 48]
def YN:LO:=[Mv 51 49,Mv 6 51]
def YM:LO:=[Mv 52 0,Mv 53 5,Ia 54 2 52 53,Fa 55 1 54,Af [2] (Ld 56 55),Mv 57 6,Af [4, 2] (Ia 58 1 56 57),Af [6, 4, 2] (Ld 59 58),Mv 60 1,Mv 61 5,Ia 62 2 60 61,Fa 63 1 62,Af [10] (Ld 64 63),Mv 65 6,Af [12, 10] (Ia 66 1 64 65),Af [14, 12, 10] (Ld 67 66),Bi 68 .neq 59 67]
def YL:LO:=[Mc 4 (.bool false)]
def YK:LO:=[Bc 69 .add 49 1,Mv 49 69]
def Ae:ACode:=(Sr akO (Sq (Cx 50 2) (Sq (Bk 3 (Sr YN (Sq (Rd YM) (Ci 68 (Rr YL))))) (Rg YK))))
def Iu:LO:=[Bc 70 .add 14 1,Mv 14 70]
def sR:ACode:=(Sr akT (Sq (Cx 15 0) (Sq (Bk 1 (Sr akS (Sq (Sq (Rd akR) (Ci 42 (Rr akQ))) (Sr akP (Bl 2 Ae))))) (Rg Iu))))
def vK:LO:=[Mc 4 (.bool true)]
def JK : AFunc := ⟨71, 2, false, [.t 4], (Sr akX (Sq (Sr akW (Ci 11 (Rr akV))) (Sq (Sr akU (Bl 0 sR)) (Rr vK))))⟩
def wC:LI:=[.inLoop sR, .inBlock 0, .code (Rr vK)]
def Ny:LI:=[.inLoop Ae, .inBlock 2, .inBlock 1, .code (Rg Iu), .inLoop sR, .inBlock 0, .code (Rr vK)]
def akN:LO:=[Mc 4 (.bool false)]
def akM:LO:=[Mv 6 0,Ln 7 0 6,Mv 8 1,Ln 9 0 8,Bi 10 .neq 7 9]
def akL:LO:=[Mc 4 (.bool false)]
def akK:LO:=[Mv 11 0,Ln 12 0 11,Mc 13 (.int .i64 0)]
def akJ:LO:=[Bi 14 .lss 13 12]
def akI:LO:=[Mv 15 13,Mv 5 15]
def akH:LO:=[Mv 16 0,Mv 17 5,Ia 18 1 16 17,Af [2] (Ld 19 18),Mv 20 1,Mv 21 5,Ia 22 1 20 21,Af [6] (Ld 23 22),Bi 24 .neq 19 23]
def akG:LO:=[Mc 4 (.bool false)]
def akF:LO:=[Bc 25 .add 13 1,Mv 13 25]
def Iq:ACode:=(Sr akJ (Sq (Cx 14 0) (Sq (Bk 1 (Sr akI (Sq (Rd akH) (Ci 24 (Rr akG))))) (Rg akF))))
def Ir:LO:=[Mc 4 (.bool true)]
def JI : AFunc := ⟨26, 2, false, [.t 4], (Sr akN (Sq (Sr akM (Ci 10 (Rr akL))) (Sq (Sr akK (Bl 0 Iq)) (Rr Ir))))⟩
def Sd:LI:=[.inLoop Iq, .inBlock 0, .code (Rr Ir)]
def ahr:LO:=[Op 1 (.box (.t 0)),Mc 2 (.int .i64 0)]
def ahq:LO:=[Mc 3 (.int .i64 0),Mc 4 (.bool false)]
def ahp:LO:=[Fa 8 5 1,Ld 9 8,Ln 10 0 9,Mc 11 (.int .i64 0)]
def aho:LO:=[Bi 12 .lss 11 10]
def ahn:LO:=[Mv 13 11,Ia 14 2 9 11,Ls 15 2 14,Op 6 (.alloc (.agg zz3)),Mv 5 13,St 2 6 15]
def ahm:LO:=[Fa 16 1 6,Ld 17 16,Ln 18 0 17,Mv 7 18]
def ahl:LO:=[Fa 19 0 6,Ld 20 19]
def ahk:LO:=[Bc 22 .eql 20 2,Mv 21 22]
def ahj:LO:=[Mc 7 (.int .i64 0)]
def ahi:LO:=[Bc 24 .eql 20 64,Mv 23 24]
def XL:LO:=[Mc 7 (.int .i64 2)]
def XK:LO:=[Bc 26 .eql 20 65,Mv 25 26]
def XH:LO:=[Mc 7 (.int .i64 4)]
def XG:LO:=[Mc 4 (.bool true)]
def XF:LO:=[Fa 28 0 6,Ld 29 28,Bc 30 .lss 29 1,Mv 31 30,Gf 31 (Fa 32 0 6),Gf 31 (Ld 33 32),Gf 31 (Bc 34 .gtr 33 255),Po 35 31 34,Mv 27 35]
def XE:LO:=[Mc 2 (.int .i64 5)]
def XD:LO:=[Mv 37 5,Bc 38 .gtr 37 0,Mv 39 38,Gt 39 (Fa 40 0 6),Gt 39 (Ld 41 40),Gt 39 (Fa 42 5 1),Gt 39 (Ld 43 42),Gt 39 (Mv 44 5),Gt 39 (Bc 45 .sub 44 1),Af [6] (Gt 39 (Ia 46 2 43 45)),Gt 39 (Fa 47 0 46),Af [9, 6] (Gt 39 (Ld 48 47)),Gt 39 (Bi 49 .leq 41 48),Pa 50 39 49,Mv 36 50]
def XC:LO:=[Mc 2 (.int .i64 16)]
def XB:LO:=[Fa 52 1 6,Ld 53 52,Ln 54 0 53,Mv 55 7,Bi 56 .neq 54 55,Mv 51 56]
def XA:LO:=[Mc 2 (.int .i64 1)]
def Xz:LO:=[Fa 58 0 6,Ld 59 58,Bc 60 .eql 59 65,Mv 61 60,Gt 61 (Fa 62 1 6),Af [1] (Gt 61 (Ld 63 62)),Af [5, 1] (Gt 61 (Op 64 (.b2s (.t 63)))),Gt 61 (Fa 65 2 1),Af [1] (Gt 61 (Ld 66 65)),Gt 61 (Cv 67 .u64 66),Af [8, 1] (Gt 61 (Ca 68 109 [(.c (.con (.slice none 0 0))), (.c (.int .i64 4)), (.t 67)])),Af [10, 8, 1] (Gt 61 (Op 69 (.b2s (.t 68)))),Gt 61 (Bi 70 .neq 64 69),Pa 71 61 70,Mv 57 71]
def Xy:LO:=[Mc 2 (.int .i64 14)]
def Xx:LO:=[Mv 72 3,Fa 73 1 6,Ld 74 73,Ln 75 0 74,Op 76 (.bin .add (.c (.int .i64 2)) (.t 75)),Bi 77 .add 72 76,Mv 3 77]
def Xw:LO:=[Bc 78 .add 11 1,Mv 11 78]
def zU:ACode:=(Sr aho (Sq (Cx 12 0) (Sq (Bk 1 (Sr ahn (Sr ahm (Sq (Sr ahl (Bk 2 (Sr ahk (Cn 21 (Rg ahj) (Sr ahi (Cn 23 (Rg XL) (Sr XK (Cn 25 (Sr XH (Rg XG)) Sk)))))))) (Sq (Bk 3 (Sr XF (Cn 27 (Rr XE) (Sq (Rd XD) (Cn 36 (Rr XC) (Sr XB (Cn 51 (Rr XA) (Sq (Rd Xz) (Ci 57 (Rr Xy)))))))))) (Rg Xx)))))) (Rg Xw))))
def GM:LO:=[Mv 80 3,Bc 81 .gtr 80 253,Mv 79 81]
def GJ:LO:=[Mc 2 (.int .i64 4)]
def GH:LO:=[Fa 83 2 1,Ld 84 83,Bc 85 .gtr 84 65535,Mv 86 85,Gt 86 (Mv 87 4),Gt 86 (Un 88 .not 87),Pa 89 86 88,Mv 82 89]
def GG:LO:=[Mc 2 (.int .i64 22)]
def GF:LO:=[Mc 2 (.int .i64 0)]
def Ri : AFunc := ⟨90, 1, false, [.t 2], (Sr ahr (Sr ahq (Sq (Sr ahp (Bl 0 zU)) (Sq (Bk 4 (Sr GM (Cn 79 (Rr GJ) (Sr GH (Ci 82 (Rr GG)))))) (Rr GF)))))⟩
def Ng:LI:=[.inLoop zU, .inBlock 0, .code (Sq (Bk 4 (Sr GM (Cn 79 (Rr GJ) (Sr GH (Ci 82 (Rr GG)))))) (Rr GF))]
def ahh:LO:=[Mc 2 (.int .i64 0)]
def ahg:LO:=[Mv 5 0,Ln 6 0 5,Mc 7 (.int .i64 0)]
def ahf:LO:=[Bi 8 .lss 7 6]
def ahe:LO:=[Mv 9 7,Ia 10 2 5 7,Ls 11 2 10,Op 4 (.alloc (.agg zz4)),Mv 3 9,St 2 4 11]
def ahd:LO:=[Ls 13 2 4,Ct 14 178 [13],Un 15 .not 14,Mv 12 15]
def ahc:LO:=[Mc 2 (.int .i64 1)]
def ahb:LO:=[Mv 17 3,Bc 18 .gtr 17 0,Mv 19 18,Gt 19 (Ls 20 2 4),Gt 19 (Mv 21 0),Gt 19 (Mv 22 3),Gt 19 (Bc 23 .sub 22 1),Gt 19 (Ia 24 2 21 23),Af [7] (Gt 19 (Ls 25 2 24)),Af [3, 8, 7] (Gt 19 (Ct 26 172 [20, 25])),Gt 19 (Bc 27 .leq 26 0),Pa 28 19 27,Mv 16 28]
def aha:LO:=[Mc 2 (.int .i64 16)]
def ag9:LO:=[Bc 29 .add 7 1,Mv 7 29]
def GA:ACode:=(Sr ahf (Sq (Cx 8 0) (Sq (Bk 1 (Sr ahe (Bk 2 (Sr ahd (Cn 12 (Rr ahc) (Sq (Rd ahb) (Ci 16 (Rr aha)))))))) (Rg ag9))))
def GC:LO:=[Mc 2 (.int .i64 0)]
def Rh : AFunc := ⟨30, 1, false, [.t 2], (Sr ahh (Sq (Sr ahg (Bl 0 GA)) (Rr GC)))⟩
def Rf:LI:=[.inLoop GA, .inBlock 0, .code (Rr GC)]
def ag8:LO:=[Op 2 (.box (.t 0)),Op 3 (.box (.t 1)),Mc 4 (.int .i64 0)]
def ag7:LO:=[Fa 6 0 2,Ld 7 6,Fa 8 0 3,Ld 9 8,Bi 10 .lss 7 9,Mv 11 10,Gf 11 (Fa 12 0 2),Gf 11 (Ld 13 12),Gf 11 (Fa 14 0 3),Gf 11 (Ld 15 14),Gf 11 (Bi 16 .eql 13 15),Gf 11 (Mv 17 16),Gt 17 (Fa 18 1 2),Gt 17 (Ld 19 18),Gt 17 (Fa 20 1 3),Gt 17 (Ld 21 20),Gt 17 (Bi 22 .lss 19 21),Gf 11 (Pa 23 17 22),Po 24 11 23,Mv 5 24]
def ag6:LO:=[Mc 4 (.int .i64 (-1))]
def ag5:LO:=[Ls 26 2 2,Ls 27 2 3,Op 28 (.eqs [.int, .int] false (.t 26) (.t 27)),Mv 25 28]
def ag4:LO:=[Mc 4 (.int .i64 0)]
def ag3:LO:=[Mc 4 (.int .i64 1)]
def sJ : AFunc := ⟨29, 2, false, [.t 4], (Sr ag8 (Sq (Bk 0 (Sr ag7 (Cn 5 (Rr ag6) (Sr ag5 (Ci 25 (Rr ag4)))))) (Rr ag3)))⟩
def ag2:LO:=[Op 1 (.box (.t 0)),Mc 2 (.int .i64 0)]
def ag1:LO:=[Mc 3 (.int .i64 0)]
def ag0:LO:=[Mc 4 (.bool false)]
def agZ:LO:=[Fa 9 5 1,Ld 10 9,Ln 11 0 10,Mc 12 (.int .i64 0)]
def agY:LO:=[Bi 13 .lss 12 11]
def agX:LO:=[Mv 14 12,Ia 15 2 10 12,Ls 16 2 15,Op 6 (.alloc (.agg zz3)),Mv 5 14,St 2 6 16]
def agW:LO:=[Fa 17 0 6,Ld 18 17,Bc 19 .lss 18 1,Mv 20 19,Gf 20 (Fa 21 0 6),Gf 20 (Ld 22 21),Gf 20 (Bc 23 .gtr 22 255),Po 24 20 23]
def agV:LO:=[Mc 2 (.int .i64 5)]
def agU:LO:=[Mv 25 5,Bc 26 .gtr 25 0,Mv 27 26,Gt 27 (Fa 28 0 6),Gt 27 (Ld 29 28),Gt 27 (Fa 30 5 1),Gt 27 (Ld 31 30),Gt 27 (Mv 32 5),Gt 27 (Bc 33 .sub 32 1),Af [6] (Gt 27 (Ia 34 2 31 33)),Gt 27 (Fa 35 0 34),Af [9, 6] (Gt 27 (Ld 36 35)),Gt 27 (Bi 37 .leq 29 36),Pa 38 27 37]
def agT:LO:=[Mc 2 (.int .i64 16)]
def Xv:LO:=[Fa 39 0 6,Ld 40 39,Bc 41 .eql 40 2,Mv 42 41,Gt 42 (Fa 43 1 6),Gt 42 (Ld 44 43),Gt 42 (Ln 45 0 44),Gt 42 (Bc 46 .neq 45 0),Pa 47 42 46,Mv 48 47,Gf 48 (Fa 49 0 6),Gf 48 (Ld 50 49),Gf 48 (Bc 51 .eql 50 64),Gf 48 (Mv 52 51),Gt 52 (Fa 53 1 6),Gt 52 (Ld 54 53),Gt 52 (Ln 55 0 54),Gt 52 (Bc 56 .neq 55 2),Gf 48 (Pa 57 52 56),Po 58 48 57,Mv 59 58,Gf 59 (Fa 60 0 6),Gf 59 (Ld 61 60),Gf 59 (Bc 62 .eql 61 65),
 Gf 59 (Mv 63 62),Gt 63 (Fa 64 1 6),Gt 63 (Ld 65 64),Gt 63 (Ln 66 0 65),Gt 63 (Bc 67 .neq 66 4),Gf 59 (Pa 68 63 67),Po 69 59 68]
def Xu:LO:=[Mc 2 (.int .i64 1)]
def Xq:LO:=[Fa 70 0 6,Ld 71 70,Bc 72 .eql 71 65]
def Xp:LO:=[Mc 4 (.bool true)]
def Xo:LO:=[Fa 74 1 6,Ld 75 74,Ca 76 113 [(.t 75), (.c (.int .i64 0)), (.c (.int .i64 4))],Mv 73 76,Ex 77 73 0,Ex 78 73 1,Mv 7 77,Mv 8 78]
def Xn:LO:=[Mv 79 7,Cv 80 .i64 79,Fa 81 2 1,Ld 82 81,Bi 83 .neq 80 82]
def Xm:LO:=[Mc 2 (.int .i64 14)]
def Xl:LO:=[Mv 84 3,Fa 85 1 6,Ld 86 85,Ln 87 0 86,Op 88 (.bin .add (.c (.int .i64 2)) (.t 87)),Bi 89 .add 84 88,Mv 3 89]
def Xk:LO:=[Bc 90 .add 12 1,Mv 12 90]
def zT:ACode:=(Sr agY (Sq (Cx 13 0) (Sq (Bk 1 (Sr agX (Sq (Sr agW (Ci 24 (Rr agV))) (Sq (Sq (Rd agU) (Ci 38 (Rr agT))) (Sq (Sr Xv (Ci 69 (Rr Xu))) (Sq (Sr Xq (Cn 72 (Sr Xp (Sr Xo (Sr Xn (Ci 83 (Rr Xm))))) Sk)) (Rg Xl))))))) (Rg Xk))))
def Gz:LO:=[Mv 91 3,Bc 92 .gtr 91 253]
def Gy:LO:=[Mc 2 (.int .i64 4)]
def Gx:LO:=[Fa 93 2 1,Ld 94 93,Bc 95 .gtr 94 65535,Mv 96 95,Gt 96 (Mv 97 4),Gt 96 (Un 98 .not 97),Pa 99 96 98]
def Gv:LO:=[Mc 2 (.int .i64 22)]
def Gu:LO:=[Mc 2 (.int .i64 0)]
def Re : AFunc := ⟨100, 1, false, [.t 2], (Sr ag2 (Sr ag1 (Sr ag0 (Sq (Sr agZ (Bl 0 zT)) (Sq (Sr Gz (Ci 92 (Rr Gy))) (Sq (Sr Gx (Ci 99 (Rr Gv))) (Rr Gu)))))))⟩
def Nf:LI:=[.inLoop zT, .inBlock 0, .code (Sq (Sr Gz (Ci 92 (Rr Gy))) (Sq (Sr Gx (Ci 99 (Rr Gv))) (Rr Gu)))]
def agS:LO:=[Mc 2 (.int .i64 0)]
def agR:LO:=[Mv 5 0,Ln 6 0 5,Mc 7 (.int .i64 0)]
def agQ:LO:=[Bi 8 .lss 7 6]
def agP:LO:=[Mv 9 7,Ia 10 2 5 7,Ls 11 2 10,Op 4 (.alloc (.agg zz4)),Mv 3 9,St 2 4 11]
def agO:LO:=[Ls 12 2 4,Ct 13 179 [12],Un 14 .not 13]
def agN:LO:=[Mc 2 (.int .i64 1)]
def agM:LO:=[Mv 15 3,Bc 16 .gtr 15 0,Mv 17 16,Gt 17 (Mv 18 0),Gt 17 (Mv 19 3),Gt 17 (Bc 20 .sub 19 1),Gt 17 (Ia 21 2 18 20),Af [6] (Gt 17 (Ls 22 2 21)),Gt 17 (Ls 23 2 4),Af [7, 8, 6] (Gt 17 (Ct 24 180 [22, 23])),Gt 17 (Bc 25 .geq 24 0),Pa 26 17 25]
def agL:LO:=[Mc 2 (.int .i64 16)]
def agK:LO:=[Bc 27 .add 7 1,Mv 7 27]
def Gq:ACode:=(Sr agQ (Sq (Cx 8 0) (Sq (Bk 1 (Sr agP (Sq (Sr agO (Ci 14 (Rr agN))) (Sq (Rd agM) (Ci 26 (Rr agL)))))) (Rg agK))))
def Gr:LO:=[Mc 2 (.int .i64 0)]
def Rc : AFunc := ⟨28, 1, false, [.t 2], (Sr agS (Sq (Sr agR (Bl 0 Gq)) (Rr Gr)))⟩
def QZ:LI:=[.inLoop Gq, .inBlock 0, .code (Rr Gr)]
def agJ:LO:=[Mc 4 (.bool false)]
def agI:LO:=[Mc 5 (.int .i64 0),Mc 6 (.int .i64 0)]
def agH:LO:=[Mv 8 5,Mv 9 0,Ln 10 0 9,Bi 11 .lss 8 10,Mv 12 11,Gt 12 (Mv 13 6),Gt 12 (Mv 14 1),Gt 12 (Ln 15 0 14),Gt 12 (Bi 16 .lss 13 15),Pa 17 12 16]
def agF:LO:=[Mv 18 0,Mv 19 5,Ia 20 2 18 19,Af [2] (Ls 21 2 20),Mv 22 1,Mv 23 6,Ia 24 2 22 23,Af [6] (Ls 25 2 24),Af [3, 7, 2, 6] (Ct 26 180 [21, 25]),Mv 7 26]
def agE:LO:=[Mv 27 7,Bc 28 .eql 27 0]
def agD:LO:=[Mc 4 (.bool true)]
def agC:LO:=[Mv 29 7,Bc 30 .lss 29 0]
def agB:LO:=[Mv 31 5,Bc 32 .add 31 1,Mv 5 32]
def agA:LO:=[Mv 33 6,Bc 34 .add 33 1,Mv 6 34]
def Gm:ACode:=(Sq (Sr agH (Cx 17 0)) (Bk 1 (Sq (Rd agF) (Sq (Sr agE (Ci 28 (Rr agD))) (Sr agC (Cn 30 (Rg agB) (Rg agA)))))))
def Gn:LO:=[Mc 4 (.bool false)]
def QY : AFunc := ⟨35, 2, false, [.t 4], (Sr agJ (Sr agI (Sq (Bl 0 Gm) (Rr Gn))))⟩
def QX:LI:=[.inLoop Gm, .inBlock 0, .code (Rr Gn)]
def an4:LO:=[Mc 2 (.int .i64 0)]
def an3:LO:=[Mv 5 0,Ln 6 0 5,Bc 7 .gtr 6 64]
def an2:LO:=[Mc 2 (.int .i64 4)]
def an1:LO:=[Mv 8 0,Ln 9 0 8,Mc 10 (.int .i64 0)]
def an0:LO:=[Bi 11 .lss 10 9]
def anZ:LO:=[Mv 12 10,Mv 3 12]
def anX:LO:=[Mv 13 0,Mv 14 3,Ct 15 108 [13, 14],Mv 4 15]
def anW:LO:=[Mv 16 4,Bc 17 .neq 16 0]
def anV:LO:=[Mv 18 4,Mv 2 18]
def anU:LO:=[Bc 19 .add 10 1,Mv 10 19]
def Dx:ACode:=(Sr an0 (Sq (Cx 11 0) (Sq (Bk 1 (Sr anZ (Sr anX (Sr anW (Ci 17 (Rr anV)))))) (Rg anU))))
def Ly:LO:=[Mc 2 (.int .i64 0)]
def f80 : AFunc := ⟨20, 1, false, [.t 2], (Sr an4 (Sq (Sr an3 (Ci 7 (Rr an2))) (Sq (Sr an1 (Bl 0 Dx)) (Rr Ly))))⟩
def Qj:LI:=[.inLoop Dx, .inBlock 0, .code (Rr Ly)]
def anT:LO:=[Mc 2 (.bool false)]
def anS:LO:=[Mv 3 0,Bc 4 .geq 3 0,Mv 5 4,Gt 5 (Mv 6 0),Gt 5 (Bc 7 .leq 6 4294967295),Pa 8 5 7,Mv 2 8]
def f81 : AFunc := ⟨9, 1, false, [.t 2], (Sr anT (Rr anS))⟩
def anR:LO:=[Mc 2 (.int .i64 0)]
def anQ:LO:=[Mv 4 0,Ln 5 0 4,Bc 6 .gtr 5 255]
def anP:LO:=[Mc 2 (.int .i64 4)]
def anO:LO:=[Mc 3 (.int .i64 1)]
def anN:LO:=[Mv 7 3,Mv 8 0,Ln 9 0 8,Bi 10 .lss 7 9]
def anM:LO:=[Mv 13 0,Mv 14 3,Ia 15 1 13 14,Af [2] (Ld 16 15),Mv 17 0,Mv 18 3,Bc 19 .sub 18 1,Ia 20 1 17 19,Af [7] (Ld 21 20),Bi 22 .leq 16 21]
def anL:LO:=[Mc 2 (.int .i64 16)]
def anK:LO:=[Mv 11 3,Bc 12 .add 11 1,Mv 3 12]
def Lx:ACode:=(Sq (Sr anN (Cx 10 0)) (Sq (Bk 1 (Sq (Rd anM) (Ci 22 (Rr anL)))) (Rg anK)))
def S8:LO:=[Mc 2 (.int .i64 0)]
def f82 : AFunc := ⟨23, 1, false, [.t 2], (Sr anR (Sq (Sr anQ (Ci 6 (Rr anP))) (Sq (Sr anO (Bl 0 Lx)) (Rr S8))))⟩
def Ux:LI:=[.inLoop Lx, .inBlock 0, .code (Rr S8)]
def ak5:LO:=[Mc 2 (.int .i64 0)]
def ak4:LO:=[Mv 4 0,Bc 5 .eql 4 1,Mv 6 5,Gf 6 (Mv 7 0),Gf 6 (Bc 8 .eql 7 2),Po 9 6 8,Mv 10 9,Gf 10 (Mv 11 0),Gf 10 (Bc 12 .eql 11 3),Po 13 10 12,Mv 14 13,Gf 14 (Mv 15 0),Gf 14 (Bc 16 .eql 15 5),Po 17 14 16,Mv 18 17,Gf 18 (Mv 19 0),Gf 18 (Bc 20 .eql 19 6),Po 21 18 20,Mv 3 21]
def ak3:LO:=[Mc 2 (.int .i64 64)]
def ak2:LO:=[Mv 23 0,Bc 24 .eql 23 4,Mv 25 24,Gf 25 (Mv 26 0),Gf 25 (Bc 27 .eql 26 9),Po 28 25 27,Mv 29 28,Gf 29 (Mv 30 0),Gf 29 (Bc 31 .eql 30 10),Po 32 29 31,Mv 22 32]
def ak1:LO:=[Mc 2 (.int .i64 128)]
def ak0:LO:=[Mv 34 0,Bc 35 .eql 34 7,Mv 36 35,Gf 36 (Mv 37 0),Gf 36 (Bc 38 .eql 37 8),Po 39 36 38,Mv 33 39]
def akZ:LO:=[Mc 2 (.int .i64 192)]
def akY:LO:=[Mc 2 (.int .i64 224)]
def JL : AFunc := ⟨40, 1, false, [.t 2], (Sr ak5 (Sq (Bk 0 (Sr ak4 (Cn 3 (Rr ak3) (Sr ak2 (Cn 22 (Rr ak1) (Sr ak0 (Ci 33 (Rr akZ)))))))) (Rr akY)))⟩
def agz:LO:=[Op 1 (.box (.t 0)),Mc 2 (.bool false)]
def agy:LO:=[Fa 3 1 1,Ld 4 3,Bc 5 .geq 4 0,Mv 6 5,Gt 6 (Fa 7 1 1),Af [1] (Gt 6 (Ld 8 7)),Gt 6 (Bc 9 .leq 8 32),Pa 10 6 9,Mv 11 10,Gt 11 (Fa 12 0 1),Af [5, 1] (Gt 11 (Ld 13 12)),Gt 11 (Fa 14 1 1),Af [5, 1] (Gt 11 (Ld 15 14)),Af [10, 12, 5, 1] (Gt 11 (Ct 16 181 [13, 15])),Gt 11 (Fa 17 0 1),Af [5, 1] (Gt 11 (Ld 18 17)),Gt 11 (Bi 19 .eql 16 18),Pa 20 11 19,Mv 2 20]
def vx : AFunc := ⟨21, 1, false, [.t 2], (Sr agz (Sq (Rd agy) Rt))⟩
def amC:LO:=[Mc 6 (.int .i64 0)]
def amB:LO:=[Mv 10 0,Mv 11 1,Mv 12 2,Ct 13 110 [10, 11, 12],Mv 9 13,Ex 14 9 0,Ex 15 9 1,Mv 7 14,Mv 8 15]
def amA:LO:=[Mv 16 7,Cv 17 .i64 16,Mv 6 17]
def f93 : AFunc := ⟨18, 3, false, [.t 6], (Sr amC (Sr amB (Rr amA)))⟩
def amz:LO:=[Mc 2 (.int .u8 0)]
def amy:LO:=[Mv 3 0,Bc 4 .gtr 3 10]
def amx:LO:=[Mc 2 (.int .u8 224)]
def amw:LO:=[Mv 5 0,Op 6 (.iarr 11 1 (.c (.rp [.int .u8 224, .int .u8 64, .int .u8 64, .int .u8 64, .int .u8 128, .int .u8 64, .int .u8 64, .int .u8 192, .int .u8 192, .int .u8 128, .int .u8 128])) (.t 5)),Ld 7 6,Mv 2 7]
def f94 : AFunc := ⟨8, 1, false, [.t 2], (Sr amz (Sq (Sr amy (Ci 4 (Rr amx))) (Rr amw)))⟩
def amv:LO:=[Mc 8 (.bool false)]
def amu:LO:=[Mc 9 (.int .i64 0)]
def amt:LO:=[Mv 11 2,Ln 12 0 11,Bc 13 .eql 12 4]
def ams:LO:=[Mv 14 2,Ca 15 93 [(.t 14), (.c (.int .i64 0)), (.c (.int .i64 4))],Mv 9 15]
def amr:LO:=[Mv 16 2,Ln 17 0 16,Bc 18 .eql 17 4,Mv 10 18]
def amq:LO:=[Mv 19 1]
def amp:LO:=[Bc 35 .eql 19 1,Mv 34 35]
def amo:LO:=[Mv 36 2,Ln 37 0 36,Bc 38 .neq 37 1]
def amn:LO:=[Mc 8 (.bool false)]
def amm:LO:=[Mv 39 0,Mv 40 2,Op 41 (.iadr 1 (.t 40) (.c (.int .i64 0))),Ld 42 41,Cv 43 .i64 42,Nc 44 39,Fa 45 0 44,St 1 45 43]
def aaV:LO:=[Mc 8 (.bool true)]
def aaU:LO:=[Bc 47 .eql 19 2,Mv 46 47]
def aaT:LO:=[Mv 49 0,Mv 50 2,Mv 51 3,Ct 52 111 [50, 51],Mv 48 52,Ex 53 48 0,Ex 54 48 1,Nc 55 49,Fa 56 1 55,St 1 56 53,Mv 10 54]
def aaS:LO:=[Bc 58 .eql 19 3,Mv 57 58]
def aaR:LO:=[Mv 59 0,Mv 60 9,Cv 61 .u32 60,Nc 62 59,Fa 63 2 62,St 1 63 61]
def aaQ:LO:=[Bc 65 .eql 19 4,Mv 64 65]
def aaP:LO:=[Mv 66 0,Mv 67 0,Mv 68 9,Nc 69 66,Fa 70 3 69,⟨none, .store 1 (.t 70) (.c (.bool true)), none, []⟩,Nc 71 67,Fa 72 4 71,St 1 72 68]
def aaO:LO:=[Bc 74 .eql 19 5,Mv 73 74]
def aaN:LO:=[Mv 75 0,Mv 76 0,Mv 77 9,Nc 78 75,Fa 79 5 78,⟨none, .store 1 (.t 79) (.c (.bool true)), none, []⟩,Nc 80 76,Fa 81 6 80,St 1 81 77]
def aaM:LO:=[Bc 83 .eql 19 6,Mv 82 83]
def aaL:LO:=[Mv 84 0,Nc 85 84,Fa 86 7 85,⟨none, .store 1 (.t 86) (.c (.bool true)), none, []⟩]
def aaK:LO:=[Mv 87 2,Ln 88 0 87,Bc 89 .eql 88 0,Mv 8 89]
def aaJ:LO:=[Bc 91 .eql 19 7,Mv 90 91]
def aaI:LO:=[Mv 92 2,Ln 93 0 92,Mv 94 3,Bc 95 .add 94 4,Bi 96 .neq 93 95]
def aaH:LO:=[Mc 8 (.bool false)]
def aaG:LO:=[Mv 97 0,Mv 98 0,Mv 99 0,Mv 100 2,Mv 101 3,Ca 102 93 [(.t 100), (.c (.int .i64 0)), (.t 101)],Mv 103 2,Mv 104 3,Ca 105 93 [(.t 103), (.t 104), (.c (.int .i64 4))],Cv 106 .u32 105,Nc 107 97,Fa 108 8 107,⟨none, .store 1 (.t 108) (.c (.bool true)), none, []⟩,Nc 109 98,Fa 110 9 109,St 1 110 102,Nc 111 99,Fa 112 10 111,St 1 112 106]
def aaF:LO:=[Mc 8 (.bool true)]
def aaE:LO:=[Bc 114 .eql 19 8,Mv 113 114]
def aaD:LO:=[Mv 116 0,Mv 117 2,Ct 118 112 [117],Mv 115 118,Ex 119 115 0,Ex 120 115 1,Nc 121 116,Fa 122 11 121,St 1 122 119,Mv 10 120]
def aaC:LO:=[Bc 124 .eql 19 9,Mv 123 124]
def aaB:LO:=[Mv 125 0,Mv 126 0,Mv 127 9,Cv 128 .u32 127,Nc 129 125,Fa 130 12 129,⟨none, .store 1 (.t 130) (.c (.bool true)), none, []⟩,Nc 131 126,Fa 132 13 131,St 1 132 128]
def aaA:LO:=[Bc 134 .eql 19 10,Mv 133 134]
def aaz:LO:=[Mv 136 0,Mv 137 2,Ct 138 112 [137],Mv 135 138,Ex 139 135 0,Ex 140 135 1,Nc 141 136,Fa 142 14 141,St 1 142 139,Mv 10 140]
def aay:LO:=[Mv 20 0,Mv 21 0,Nc 22 21,Fa 23 15 22,Ld 24 23,Mv 25 1,Op 26 (.bsl 1 zz1 0 [] []),Mv 27 2,Af [6] (Ap 28 1 1 26 27),Op 29 (.build zz3 [(0, 1), (1, 1)] [(.t 25), (.t 28)]),Af [8, 6] (Op 30 (.bsl 2 zz3 1 [0] [(.t 29)])),Af [4, 10, 8, 6] (Ap 31 2 32 24 30),Nc 32 20,Fa 33 15 32,Af [11, 4, 10, 8, 6] (St 1 33 31)]
def aax:LO:=[Mc 8 (.bool true)]
def aaw:LO:=[Mv 143 10,Mv 8 143]
def f95 : AFunc := ⟨144, 4, false, [.t 8], (Sr amv (Sr amu (Sq (Sr amt (Cn 13 (Rg ams) Sk)) (Sr amr (Sq (Sr amq (Bk 0 (Sr amp (Cn 34 (Sq (Sr amo (Ci 38 (Rr amn))) (Sr amm (Rr aaV))) (Sr aaU (Cn 46 (Rg aaT) (Sr aaS (Cn 57 (Rg aaR) (Sr aaQ (Cn 64 (Rg aaP) (Sr aaO (Cn 73 (Rg aaN) (Sr aaM (Cn 82 (Sr aaL (Rr aaK)) (Sr aaJ (Cn 90 (Sq (Sr aaI (Ci 96 (Rr aaH))) (Sr aaG (Rr aaF))) (Sr aaE (Cn 113 (Rg aaD) (Sr aaC (Cn 123 (Rg aaB) (Sr aaA (Cn 133 (Rg aaz) (Sq (Rd aay) (Rr aax)))))))))))))))))))))))) (Rr aaw))))))⟩
def aml:LO:=[Mc 2 (.int .i64 0)]
def amk:LO:=[Mv 3 0]
def amj:LO:=[Mc 2 (.int .i64 4)]
def ami:LO:=[Mc 2 (.int .i64 2)]
def f96 : AFunc := ⟨4, 1, false, [.t 2], (Sr aml (Sq (Sr amk (Ci 3 (Rr amj))) (Rr ami)))⟩
def agx:LO:=[Op 1 (.box (.t 0)),Mc 2 (.bool false)]
def agw:LO:=[Fa 3 1 1,Ld 4 3,Bc 5 .geq 4 0,Mv 6 5,Gt 6 (Fa 7 1 1),Af [1] (Gt 6 (Ld 8 7)),Gt 6 (Bc 9 .leq 8 32),Pa 10 6 9,Mv 11 10,Gt 11 (Fa 12 0 1),Af [5, 1] (Gt 11 (Ld 13 12)),Gt 11 (Fa 14 1 1),Af [5, 1] (Gt 11 (Ld 15 14)),Af [10, 12, 5, 1] (Gt 11 (Ct 16 182 [13, 15])),Gt 11 (Fa 17 0 1),Af [5, 1] (Gt 11 (Ld 18 17)),Gt 11 (Bi 19 .eql 16 18),Pa 20 11 19,Mv 2 20]
def vv : AFunc := ⟨21, 1, false, [.t 2], (Sr agx (Sq (Rd agw) Rt))⟩
def awT:LO:=[Mc 6 (.int .i64 0)]
def awS:LO:=[Mv 10 0,Mv 11 1,Mv 12 2,Ct 13 113 [10, 11, 12],Mv 9 13,Ex 14 9 0,Ex 15 9 1,Mv 7 14,Mv 8 15]
def awR:LO:=[Mv 16 7,Cv 17 .i64 16,Mv 6 17]
def asZ : AFunc := ⟨18, 3, false, [.t 6], (Sr awT (Sr awS (Rr awR)))⟩
def awQ:LO:=[Op 4 (.box (.t 0)),Op 8 (.alloc (.agg zz2)),Mc 9 (.bool false)]
def awP:LO:=[Mc 10 (.bool true)]
def awO:LO:=[Mv 18 1]
def awN:LO:=[Bc 30 .eql 18 1,Mv 29 30]
def awM:LO:=[Mv 31 2,Ln 32 0 31,Bc 33 .eql 32 1,Mv 10 33]
def awL:LO:=[Mv 34 10]
def awK:LO:=[Mv 35 2,Op 36 (.iadr 1 (.t 35) (.c (.int .i64 0))),Ld 37 36,Cv 38 .i64 37,Fa 39 0 4,St 1 39 38]
def awJ:LO:=[Bc 41 .eql 18 2,Mv 40 41]
def awI:LO:=[Mv 43 2,Mv 44 3,Ct 45 114 [43, 44],Mv 42 45,Ex 46 42 0,Ex 47 42 1,Mv 11 46,Mv 12 47]
def awH:LO:=[Mv 48 11,Fa 49 1 4,St 1 49 48]
def auC:LO:=[Mv 50 12,Mv 10 50]
def auB:LO:=[Bc 52 .eql 18 6,Mv 51 52]
def auA:LO:=[Mv 53 2,Ln 54 0 53,Bc 55 .eql 54 0,Mv 10 55]
def auz:LO:=[Fa 56 7 4,⟨none, .store 1 (.t 56) (.c (.bool true)), none, []⟩]
def auy:LO:=[Bc 58 .eql 18 7,Mv 57 58]
def aux:LO:=[Mv 59 3,Ct 60 92 [59],Mv 13 60]
def auw:LO:=[Mv 61 2,Ln 62 0 61,Mv 63 13,Bc 64 .add 63 4,Bi 65 .eql 62 64,Mv 10 65]
def auv:LO:=[Mv 66 10]
def auu:LO:=[Fa 67 8 4,⟨none, .store 1 (.t 67) (.c (.bool true)), none, []⟩]
def aut:LO:=[Mv 68 2,Mv 69 13,Ca 70 100 [(.t 68), (.c (.int .i64 0)), (.t 69)],Fa 71 9 4,St 1 71 70]
def aus:LO:=[Mv 72 2,Mv 73 13,Ca 74 100 [(.t 72), (.t 73), (.c (.int .i64 4))],Cv 75 .u32 74,Fa 76 10 4,St 1 76 75]
def aur:LO:=[Bc 78 .eql 18 8,Mv 77 78]
def auq:LO:=[Mv 80 2,Ct 81 115 [80],Mv 79 81,Ex 82 79 0,Ex 83 79 1,Mv 14 82,Mv 15 83]
def aup:LO:=[Mv 84 14,Fa 85 11 4,St 1 85 84]
def auo:LO:=[Mv 86 15,Mv 10 86]
def aun:LO:=[Bc 88 .eql 18 10,Mv 87 88]
def aum:LO:=[Mv 90 2,Ct 91 115 [90],Mv 89 91,Ex 92 89 0,Ex 93 89 1,Mv 16 92,Mv 17 93]
def aul:LO:=[Mv 94 16,Fa 95 14 4,St 1 95 94]
def auk:LO:=[Mv 96 17,Mv 10 96]
def auj:LO:=[Bc 98 .eql 18 3,Mv 97 98]
def aui:LO:=[Bc 99 .eql 18 4,Mv 97 99]
def auh:LO:=[Bc 100 .eql 18 5,Mv 97 100]
def aug:LO:=[Bc 101 .eql 18 9,Mv 97 101]
def auf:LO:=[Mv 102 2,Ln 103 0 102,Bc 104 .eql 103 4,Mv 10 104]
def aue:LO:=[Mv 105 10]
def aud:LO:=[Ls 106 16 4,Mv 107 1,Mv 108 2,Ca 109 100 [(.t 108), (.c (.int .i64 0)), (.c (.int .i64 4))],Af [0, 3] (Ct 110 116 [106, 107, 109]),Af [4, 0, 3] (St 16 4 110)]
def auc:LO:=[Fa 19 15 4,Ld 20 19,Mv 21 1,Op 22 (.bsl 1 zz1 0 [] []),Mv 23 2,Af [3] (Ap 24 1 1 22 23),Op 25 (.build zz3 [(0, 1), (1, 1)] [(.t 21), (.t 24)]),Af [5, 3] (Op 26 (.bsl 2 zz3 1 [0] [(.t 25)])),Af [1, 7, 5, 3] (Ap 27 2 32 20 26),Fa 28 15 4,Af [8, 1, 7, 5, 3] (St 1 28 27)]
def aub:LO:=[Ls 111 16 4,Mv 112 10,St 16 8 111,Mv 9 112]
def ed : AFunc := ⟨113, 4, true, [.cell 8 (some 16), .t 9], (Sr awQ (Sr awP (Sq (Sr awO (Bk 0 (Sr awN (Cn 29 (Sr awM (Sr awL (Cn 34 (Rg awK) Sk))) (Sr awJ (Cn 40 (Sr awI (Sr awH (Rg auC))) (Sr auB (Cn 51 (Sr auA (Rg auz)) (Sr auy (Cn 57 (Sr aux (Sr auw (Sr auv (Cn 66 (Sr auu (Sr aut (Rg aus))) Sk)))) (Sr aur (Cn 77 (Sr auq (Sr aup (Rg auo))) (Sr aun (Cn 87 (Sr aum (Sr aul (Rg auk))) (Sq (Sr auj (Cn 97 Sk (Sr aui (Cn 97 Sk (Sr auh (Cn 97 Sk (Rg aug))))))) (Cn 97 (Sr auf (Sr aue (Cn 105 (Rd aud) Sk))) (Rd auc))))))))))))))))) (Rr aub))))⟩
def aoZ:LO:=[Mc 2 (.int .i64 0)]
def aoY:LO:=[Mv 5 0,Ln 6 0 5,Mc 7 (.int .i64 0)]
def aoX:LO:=[Bi 8 .lss 7 6]
def aoW:LO:=[Ia 9 1 5 7,Ld 10 9,Mv 4 10]
def aoV:LO:=[Mv 11 4,Bc 12 .neq 11 0]
def aoU:LO:=[Mv 13 4,Mv 2 13]
def aoT:LO:=[Bc 14 .add 7 1,Mv 7 14]
def LR:ACode:=(Sr aoX (Sq (Cx 8 0) (Sq (Bk 1 (Sr aoW (Sr aoV (Ci 12 (Rr aoU))))) (Rg aoT))))
def S9:LO:=[Mc 2 (.int .i64 0)]
def f73 : AFunc := ⟨15, 1, false, [.t 2], (Sr aoZ (Sq (Sr aoY (Bl 0 LR)) (Rr S9)))⟩
def UA:LI:=[.inLoop LR, .inBlock 0, .code (Rr S9)]
def aoR:LO:=[Mc 4 (.int .i64 0)]
def aoQ:LO:=[Mv 5 0]
def aoP:LO:=[Mv 6 1,Mv 4 6]
def aoO:LO:=[Mc 4 (.int .i64 0)]
def f74 : AFunc := ⟨7, 2, false, [.t 4], (Sr aoR (Sq (Sr aoQ (Ci 5 (Rr aoP))) (Rr aoO)))⟩
def aoN:LO:=[Mc 2 (.int .i64 0)]
def aoM:LO:=[Mv 7 0,Ln 8 0 7,Bc 9 .gtr 8 64]
def aoL:LO:=[Mc 2 (.int .i64 4)]
def aoK:LO:=[Mc 3 (.bool false)]
def aoJ:LO:=[Mv 10 0,Ln 11 0 10,Mc 12 (.int .i64 0)]
def aoI:LO:=[Bi 13 .lss 12 11]
def aoH:LO:=[Mv 14 12,Ia 15 2 10 12,Ls 16 2 15,Op 5 (.alloc (.agg zz3)),Mv 4 14,St 2 5 16]
def aoG:LO:=[Ls 17 2 5,Ct 18 105 [17],Mv 6 18]
def aoF:LO:=[Mv 19 6,Bc 20 .neq 19 0]
def aoE:LO:=[Mv 21 6,Mv 2 21]
def aa6:LO:=[Fa 22 0 5,Ld 23 22,Ct 24 106 [23],Mv 25 24,Gt 25 (Mv 26 3),Pa 27 25 26]
def aa5:LO:=[Mc 2 (.int .i64 1)]
def aa4:LO:=[Mv 28 4,Bc 29 .gtr 28 0,Mv 30 29,Gt 30 (Fa 31 0 5),Gt 30 (Ld 32 31),Gt 30 (Op 33 (.bsl 1 zz6 2 [0, 1] [(.c (.int .i64 2)), (.c (.int .i64 3))])),Af [4, 5] (Gt 30 (Ct 34 107 [32, 33])),Pa 35 30 34,Mv 36 35,Gt 36 (Mv 37 0),Gt 36 (Mv 38 4),Gt 36 (Bc 39 .sub 38 1),Af [6, 4, 5] (Gt 36 (Ia 40 2 37 39)),Gt 36 (Fa 41 0 40),Af [12, 6, 4, 5] (Gt 36 (Ld 42 41)),Gt 36 (Fa 43 0 5),
 Af [6, 4, 5] (Gt 36 (Ld 44 43)),Gt 36 (Bi 45 .eql 42 44),Pa 46 36 45,Mv 47 46,Gt 47 (Mv 48 0),Gt 47 (Mv 49 4),Gt 47 (Bc 50 .sub 49 1),Af [14, 16, 12, 6, 4, 5] (Gt 47 (Ia 51 2 48 50)),Gt 47 (Fa 52 1 51),Af [23, 14, 16, 12, 6, 4, 5] (Gt 47 (Ld 53 52)),Af [25, 23, 14, 16, 12, 6, 4, 5] (Gt 47 (Ln 54 0 53)),Gt 47 (Bc 55 .lss 54 255),Pa 56 47 55]
def aa3:LO:=[Mc 2 (.int .i64 1)]
def aa2:LO:=[Mv 57 3,Mv 58 57,Gf 58 (Fa 59 0 5),Gf 58 (Ld 60 59),Gf 58 (Ct 61 106 [60]),Gf 58 (Un 62 .not 61),Po 63 58 62,Mv 3 63]
def aa1:LO:=[Bc 64 .add 12 1,Mv 12 64]
def DC:ACode:=(Sr aoI (Sq (Cx 13 0) (Sq (Bk 1 (Sr aoH (Sq (Sr aoG (Sr aoF (Ci 20 (Rr aoE)))) (Sq (Sr aa6 (Ci 27 (Rr aa5))) (Sq (Sq (Rd aa4) (Ci 56 (Rr aa3))) (Rg aa2)))))) (Rg aa1))))
def LJ:LO:=[Mc 2 (.int .i64 0)]
def f75 : AFunc := ⟨65, 1, false, [.t 2], (Sr aoN (Sq (Sr aoM (Ci 9 (Rr aoL))) (Sr aoK (Sq (Sr aoJ (Bl 0 DC)) (Rr LJ)))))⟩
def Qn:LI:=[.inLoop DC, .inBlock 0, .code (Rr LJ)]
def aoD:LO:=[Mc 6 (.int .i64 0)]
def aoC:LO:=[Mv 8 0,Mv 9 8,Gt 9 (Mv 10 1),Gt 9 (Mv 11 2),Gt 9 (Bi 12 .lss 10 11),Gt 9 (Mv 13 12),Gf 13 (Mv 14 1),Gf 13 (Bc 15 .gtr 14 4294967295),Gt 9 (Po 16 13 15),Pa 17 9 16,Mv 7 17]
def aoB:LO:=[Mc 6 (.int .i64 5)]
def aoA:LO:=[Mv 19 0,Un 20 .not 19,Mv 21 20,Gt 21 (Mv 22 1),Gt 21 (Bc 23 .neq 22 0),Pa 24 21 23,Mv 18 24]
def aoz:LO:=[Mc 6 (.int .i64 1)]
def aoy:LO:=[Mc 6 (.int .i64 0)]
def f76 : AFunc := ⟨25, 3, false, [.t 6], (Sr aoD (Sq (Bk 0 (Sr aoC (Cn 7 (Rr aoB) (Sr aoA (Ci 18 (Rr aoz)))))) (Rr aoy)))⟩
def aox:LO:=[Mc 2 (.int .i64 0)]
def aow:LO:=[Mv 4 0,Ln 5 0 4,Bc 6 .gtr 5 255]
def aov:LO:=[Mc 2 (.int .i64 4)]
def aou:LO:=[Mv 7 0,Ln 8 0 7,Mc 9 (.int .i64 0)]
def aot:LO:=[Bi 10 .lss 9 8]
def aor:LO:=[Mv 11 9,Mv 3 11]
def aoq:LO:=[Mv 12 3,Bc 13 .gtr 12 0,Mv 14 13,Gt 14 (Mv 15 0),Gt 14 (Mv 16 3),Gt 14 (Ia 17 1 15 16),Af [5] (Gt 14 (Ld 18 17)),Gt 14 (Mv 19 0),Gt 14 (Mv 20 3),Gt 14 (Bc 21 .sub 20 1),Gt 14 (Ia 22 1 19 21),Af [10] (Gt 14 (Ld 23 22)),Gt 14 (Bi 24 .leq 18 23),Pa 25 14 24]
def aop:LO:=[Mc 2 (.int .i64 16)]
def aoo:LO:=[Bc 26 .add 9 1,Mv 9 26]
def LF:ACode:=(Sr aot (Sq (Cx 10 0) (Sq (Bk 1 (Sr aor (Sq (Rd aoq) (Ci 25 (Rr aop))))) (Rg aoo))))
def LG:LO:=[Mc 2 (.int .i64 0)]
def f77 : AFunc := ⟨27, 1, false, [.t 2], (Sr aox (Sq (Sr aow (Ci 6 (Rr aov))) (Sq (Sr aou (Bl 0 LF)) (Rr LG))))⟩
def Uz:LI:=[.inLoop LF, .inBlock 0, .code (Rr LG)]
def aon:LO:=[Mc 2 (.int .i64 0)]
def aom:LO:=[Mv 5 0,Ln 6 0 5,Bc 7 .gtr 6 64]
def aol:LO:=[Mc 2 (.int .i64 4)]
def aok:LO:=[Mv 8 0,Ln 9 0 8,Mc 10 (.int .i64 0)]
def aoj:LO:=[Bi 11 .lss 10 9]
def aoi:LO:=[Ia 12 1 8 10,Ld 13 12,Mv 4 13]
def aoh:LO:=[Mv 14 4,Op 15 (.bin .eql (.t 14) (.c (.int .u32 0)))]
def aog:LO:=[Mc 2 (.int .i64 1)]
def aof:LO:=[Bc 16 .add 10 1,Mv 10 16]
def LC:ACode:=(Sr aoj (Sq (Cx 11 0) (Sq (Bk 1 (Sr aoi (Sr aoh (Ci 15 (Rr aog))))) (Rg aof))))
def LD:LO:=[Mc 2 (.int .i64 0)]
def f78 : AFunc := ⟨17, 1, false, [.t 2], (Sr aon (Sq (Sr aom (Ci 7 (Rr aol))) (Sq (Sr aok (Bl 0 LC)) (Rr LD))))⟩
def Uy:LI:=[.inLoop LC, .inBlock 0, .code (Rr LD)]
def aoe:LO:=[Mc 2 (.int .i64 0)]
def aod:LO:=[Mv 5 0,Ln 6 0 5,Bc 7 .gtr 6 64]
def aoc:LO:=[Mc 2 (.int .i64 4)]
def aob:LO:=[Mv 8 0,Ln 9 0 8,Mc 10 (.int .i64 0)]
def aoa:LO:=[Bi 11 .lss 10 9]
def an9:LO:=[Mv 12 10,Ia 13 2 8 10,Ls 14 2 13,Op 4 (.alloc (.agg zz3)),Mv 3 12,St 2 4 14]
def an8:LO:=[Fa 16 0 4,Ld 17 16,Bc 18 .leq 17 10,Mv 19 18,Gf 19 (Fa 20 0 4),Gf 19 (Ld 21 20),Gf 19 (Bc 22 .gtr 21 255),Po 23 19 22,Mv 15 23]
def an7:LO:=[Mc 2 (.int .i64 15)]
def an6:LO:=[Mv 25 3,Bc 26 .gtr 25 0,Mv 27 26,Gt 27 (Fa 28 0 4),Gt 27 (Ld 29 28),Gt 27 (Mv 30 0),Gt 27 (Mv 31 3),Gt 27 (Bc 32 .sub 31 1),Gt 27 (Ia 33 2 30 32),Gt 27 (Fa 34 0 33),Af [8] (Gt 27 (Ld 35 34)),Gt 27 (Bi 36 .leq 29 35),Pa 37 27 36,Mv 24 37]
def an5:LO:=[Mc 2 (.int .i64 16)]
def aa0:LO:=[Fa 39 1 4,Ld 40 39,Ln 41 0 40,Bc 42 .gtr 41 255,Mv 38 42]
def aaZ:LO:=[Mc 2 (.int .i64 4)]
def aaY:LO:=[Bc 43 .add 10 1,Mv 10 43]
def Dy:ACode:=(Sr aoa (Sq (Cx 11 0) (Sq (Bk 1 (Sr an9 (Bk 2 (Sr an8 (Cn 15 (Rr an7) (Sq (Rd an6) (Cn 24 (Rr an5) (Sr aa0 (Ci 38 (Rr aaZ)))))))))) (Rg aaY))))
def Lz:LO:=[Mc 2 (.int .i64 0)]
def f79 : AFunc := ⟨44, 1, false, [.t 2], (Sr aoe (Sq (Sr aod (Ci 7 (Rr aoc))) (Sq (Sr aob (Bl 0 Dy)) (Rr Lz))))⟩
def Qm:LI:=[.inLoop Dy, .inBlock 0, .code (Rr Lz)]
def agv:LO:=[Op 2 (.box (.t 0)),Op 3 (.box (.t 1)),Mc 4 (.int .i64 0)]
def agu:LO:=[Fa 5 0 2,Ld 6 5,Fa 7 0 3,Ld 8 7,Bi 9 .neq 6 8]
def agt:LO:=[Fa 10 0 2,Ld 11 10,Fa 12 0 3,Ld 13 12,Bi 14 .lss 11 13]
def ags:LO:=[Mc 4 (.int .i64 (-1))]
def agr:LO:=[Mc 4 (.int .i64 1)]
def agq:LO:=[Fa 15 1 2,Ld 16 15,Fa 17 1 3,Ld 18 17,Bi 19 .lss 16 18]
def agp:LO:=[Mc 4 (.int .i64 (-1))]
def ago:LO:=[Fa 20 1 2,Ld 21 20,Fa 22 1 3,Ld 23 22,Bi 24 .gtr 21 23]
def agn:LO:=[Mc 4 (.int .i64 1)]
def agm:LO:=[Mc 4 (.int .i64 0)]
def sI : AFunc := ⟨25, 2, false, [.t 4], (Sr agv (Sq (Sr agu (Cn 9 (Sq (Sr agt (Ci 14 (Rr ags))) (Rr agr)) Sk)) (Sq (Sr agq (Ci 19 (Rr agp))) (Sq (Sr ago (Ci 24 (Rr agn))) (Rr agm)))))⟩
def akl:LO:=[Mc 4 (.int .i64 0)]
def akk:LO:=[Mv 11 0,Mv 12 1,Ia 13 2 11 12,Ls 14 2 13,Op 5 (.alloc (.agg zz3)),St 2 5 14]
def akj:LO:=[Fa 15 0 5,Ld 16 15,Bc 17 .lss 16 1,Mv 18 17,Gf 18 (Fa 19 0 5),Gf 18 (Ld 20 19),Gf 18 (Bc 21 .gtr 20 4),Po 22 18 21]
def aki:LO:=[Mc 4 (.int .i64 15)]
def akh:LO:=[Fa 23 1 5,Ld 24 23,Ln 25 0 24,Bc 26 .eql 25 0]
def akg:LO:=[Mc 4 (.int .i64 1)]
def akf:LO:=[Fa 27 1 5,Ld 28 27,Ln 29 0 28,Bc 30 .gtr 29 255]
def ake:LO:=[Mc 4 (.int .i64 4)]
def akd:LO:=[Fa 31 1 5,Ld 32 31,Ln 33 0 32,Mc 34 (.int .i64 0)]
def akc:LO:=[Bi 35 .lss 34 33]
def YB:LO:=[Ia 36 1 32 34,Ld 37 36,Mv 7 37]
def YA:LO:=[Mv 38 7,Bc 39 .lss 38 1,Mv 40 39,Gf 40 (Mv 41 7),Gf 40 (Bc 42 .gtr 41 4294967295),Po 43 40 42]
def Yz:LO:=[Mc 4 (.int .i64 5)]
def Yy:LO:=[Bc 44 .add 34 1,Mv 34 44]
def Aa:ACode:=(Sr akc (Sq (Cx 35 0) (Sq (Bk 1 (Sr YB (Sr YA (Ci 43 (Rr Yz))))) (Rg Yy))))
def Im:LO:=[Mc 8 (.int .i64 1)]
def Yx:LO:=[Mv 45 8,Fa 46 1 5,Ld 47 46,Ln 48 0 47,Bi 49 .lss 45 48]
def Yw:LO:=[Fa 52 0 5,Ld 53 52,Af [1] (Ct 54 117 [53]),Mv 55 54,Gt 55 (Fa 56 1 5),Af [2, 1] (Gt 55 (Ld 57 56)),Gt 55 (Mv 58 8),Af [5, 2, 1] (Gt 55 (Ia 59 1 57 58)),Af [7, 5, 2, 1] (Gt 55 (Ld 60 59)),Gt 55 (Fa 61 1 5),Af [2, 1] (Gt 55 (Ld 62 61)),Gt 55 (Mv 63 8),Gt 55 (Bc 64 .sub 63 1),Af [10, 2, 1] (Gt 55 (Ia 65 1 62 64)),Af [13, 10, 2, 1] (Gt 55 (Ld 66 65)),Gt 55 (Bi 67 .leq 60 66),Pa 68 55 67]
def Yv:LO:=[Mc 4 (.int .i64 16)]
def Yu:LO:=[Mv 50 8,Bc 51 .add 50 1,Mv 8 51]
def sO:ACode:=(Sq (Sr Yx (Cx 49 2)) (Sq (Bk 3 (Sq (Rd Yw) (Ci 68 (Rr Yv)))) (Rg Yu)))
def vI:LO:=[Fa 69 0 5,Ld 70 69,Ct 71 118 [70]]
def vH:LO:=[Mv 72 0,Mv 73 1,Op 74 (.slc 2 (.t 72) none (some (.t 73)) none),Ln 75 0 74,Mc 76 (.int .i64 0)]
def Yt:LO:=[Bi 77 .lss 76 75]
def Yq:LO:=[Ia 78 2 74 76,Ls 79 2 78,Op 10 (.alloc (.agg zz3)),St 2 10 79]
def Yp:LO:=[Fa 80 0 10,Ld 81 80,Ct 82 118 [81],Un 83 .not 82]
def Yo:LO:=[Mc 4 (.int .i64 1)]
def Yn:LO:=[Bc 84 .add 76 1,Mv 76 84]
def nK:ACode:=(Sr Yt (Sq (Cx 77 4) (Sq (Bk 5 (Sr Yq (Sr Yp (Ci 83 (Rr Yo))))) (Rg Yn))))
def qP:LO:=[Mv 85 1,Bc 86 .gtr 85 0,Mv 87 86,Gt 87 (Fa 88 0 5),Gt 87 (Ld 89 88),Af [4] (Gt 87 (Ct 90 117 [89])),Gt 87 (Un 91 .not 90),Pa 92 87 91,Mv 93 92,Gt 93 (Mv 94 0),Gt 93 (Mv 95 1),Gt 93 (Bc 96 .sub 95 1),Af [5, 4] (Gt 93 (Ia 97 2 94 96)),Gt 93 (Fa 98 0 97),Af [12, 5, 4] (Gt 93 (Ld 99 98)),Gt 93 (Fa 100 0 5),Af [5, 4] (Gt 93 (Ld 101 100)),Gt 93 (Bi 102 .eql 99 101),Pa 103 93 102,Mv 104 103,
 Gt 104 (Mv 105 0),Gt 104 (Mv 106 1),Gt 104 (Bc 107 .sub 106 1),Af [14, 16, 12, 5, 4] (Gt 104 (Ia 108 2 105 107)),Gt 104 (Fa 109 1 108),Af [23, 14, 16, 12, 5, 4] (Gt 104 (Ld 110 109)),Af [25, 23, 14, 16, 12, 5, 4] (Gt 104 (Ln 111 0 110)),Gt 104 (Bc 112 .lss 111 255),Pa 113 104 112]
def qN:LO:=[Mc 4 (.int .i64 1)]
def qM:LO:=[Mc 4 (.int .i64 0)]
def RY : AFunc := ⟨114, 2, false, [.t 4], (Sr akl (Sr akk (Sq (Sr akj (Ci 22 (Rr aki))) (Sq (Sr akh (Ci 26 (Rr akg))) (Sq (Sr akf (Ci 30 (Rr ake))) (Sq (Sr akd (Bl 0 Aa)) (Sq (Sr Im (Bl 2 sO)) (Sq (Sr vI (Cn 71 (Sr vH (Bl 4 nK)) Sk)) (Sq (Sq (Rd qP) (Ci 113 (Rr qN))) (Rr qM))))))))))⟩
def Nu:LI:=[.inLoop Aa, .inBlock 0, .code (Sq (Sr Im (Bl 2 sO)) (Sq (Sr vI (Cn 71 (Sr vH (Bl 4 nK)) Sk)) (Sq (Sq (Rd qP) (Ci 113 (Rr qN))) (Rr qM))))]
def Nt:LI:=[.inLoop sO, .inBlock 2, .code (Sq (Sr vI (Cn 71 (Sr vH (Bl 4 nK)) Sk)) (Sq (Sq (Rd qP) (Ci 113 (Rr qN))) (Rr qM)))]
def Ns:LI:=[.inLoop nK, .inBlock 4, .code (Sq (Sq (Rd qP) (Ci 113 (Rr qN))) (Rr qM))]
def agl:LO:=[Mc 4 (.int .u32 0)]
def agk:LO:=[Mv 5 0,Mv 6 1,Ct 7 183 [6],Bi 8 .and 5 7,Mv 4 8]
def QW : AFunc := ⟨9, 2, false, [.t 4], (Sr agl (Rr agk))⟩
def aj0:LO:=[Mc 4 (.con (.slice none 0 0)),Mc 5 (.bool false)]
def ajZ:LO:=[Mc 6 (.con (.slice none 0 0))]
def ajY:LO:=[Mv 10 0,Ln 11 0 10,Bc 12 .gtr 11 0]
def ajX:LO:=[Mv 13 0,Ln 14 0 13,Bc 15 .lss 14 2,Mv 16 15,Gf 16 (Mv 17 0),Gf 16 (Op 18 (.iadr 1 (.t 17) (.c (.int .i64 1)))),Gf 16 (Ld 19 18),Gf 16 (Op 20 (.bin .eql (.t 19) (.c (.int .u8 0)))),Po 21 16 20,Mv 22 21,Gf 22 (Mv 23 0),Gf 22 (Ln 24 0 23),Gf 22 (Mv 25 0),Gf 22 (Op 26 (.iadr 1 (.t 25) (.c (.int .i64 1)))),Gf 22 (Ld 27 26),Gf 22 (Cv 28 .i64 27),Gf 22 (Mv 29 1),Gf 22 (Bi 30 .mul 28 29),
 Gf 22 (Op 31 (.bin .add (.c (.int .i64 2)) (.t 30))),Gf 22 (Bi 32 .lss 24 31),Po 33 22 32]
def ajW:LO:=[Mc 4 (.con (.slice none 0 0)),Mc 5 (.bool false)]
def ajV:LO:=[Mv 34 0,Op 35 (.iadr 1 (.t 34) (.c (.int .i64 0))),Ld 36 35,Cv 37 .i64 36,Op 38 (.build zz3 [(0, 1)] [(.t 37)]),Op 7 (.alloc (.agg zz3)),St 2 7 38]
def ajU:LO:=[Mv 39 0,Op 40 (.iadr 1 (.t 39) (.c (.int .i64 1))),Ld 41 40,Cv 42 .i64 41,Mv 8 42]
def ajT:LO:=[Mv 43 8,Mc 44 (.int .i64 0)]
def ajS:LO:=[Bi 45 .lss 44 43]
def ajR:LO:=[Mv 46 44,Mv 9 46]
def Ym:LO:=[Fa 47 1 7,Ld 48 47,Mv 49 0,Mv 50 9,Mv 51 1,Bi 52 .mul 50 51,Op 53 (.bin .add (.c (.int .i64 2)) (.t 52)),Mv 54 1,Ct 55 93 [49, 53, 54],Af [8] (Op 56 (.bsl 1 zz6 1 [0] [(.t 55)])),Af [1, 9, 8] (Ap 57 1 8 48 56),Fa 58 1 7,Af [10, 1, 9, 8] (St 1 58 57)]
def Yl:LO:=[Bc 59 .add 44 1,Mv 44 59]
def zY:ACode:=(Sr ajS (Sq (Cx 45 2) (Sq (Bk 3 (Sr ajR (Rd Ym))) (Rg Yl))))
def Ij:LO:=[Mv 60 6,Ls 61 2 7,Op 62 (.bsl 2 zz3 1 [0] [(.t 61)]),Ap 63 2 32 60 62,Mv 6 63]
def Ii:LO:=[Mv 64 0,Mv 65 8,Mv 66 1,Bi 67 .mul 65 66,Op 68 (.bin .add (.c (.int .i64 2)) (.t 67)),Op 69 (.slc 1 (.t 64) (some (.t 68)) none none),Mv 0 69]
def sN:ACode:=(Sq (Sr ajY (Cx 12 0)) (Bk 1 (Sq (Sr ajX (Ci 33 (Rr ajW))) (Sr ajV (Sr ajU (Sq (Sr ajT (Bl 2 zY)) (Sr Ij (Rg Ii))))))))
def vG:LO:=[Mv 70 6,Mv 4 70,Mc 5 (.bool true)]
def RN : AFunc := ⟨71, 2, false, [.t 4, .t 5], (Sr aj0 (Sr ajZ (Sq (Bl 0 sN) (Rr vG))))⟩
def wB:LI:=[.inLoop sN, .inBlock 0, .code (Rr vG)]
def Nr:LI:=[.inLoop zY, .inBlock 2, .code (Sr Ij (Rg Ii)), .inBlock 1, .inLoop sN, .inBlock 0, .code (Rr vG)]
def ajQ:LO:=[Mc 2 (.con (.slice none 0 0)),Mc 3 (.bool false)]
def ajP:LO:=[Mc 4 (.con (.slice none 0 0))]
def ajO:LO:=[Mc 5 (.int .i64 0)]
def ajN:LO:=[Mv 6 5,Bc 7 .add 6 4,Mv 8 0,Ln 9 0 8,Bi 10 .leq 7 9]
def ajM:LO:=[Mv 13 4,Mv 14 0,Mv 15 5,Ca 16 93 [(.t 14), (.t 15), (.c (.int .i64 4))],Cv 17 .u32 16,Op 18 (.bsl 1 [.int .u32 0] 1 [0] [(.t 17)]),Ap 19 1 4 13 18,Mv 4 19]
def ajL:LO:=[Mv 11 5,Bc 12 .add 11 4,Mv 5 12]
def Ig:ACode:=(Sq (Sr ajN (Cx 10 0)) (Sq (Bk 1 (Rg ajM)) (Rg ajL)))
def Nq:LO:=[Mv 20 4,Mv 21 0,Ln 22 0 21,Bc 23 .gtr 22 0,Mv 24 23,Gt 24 (Mv 25 0),Gt 24 (Ln 26 0 25),Gt 24 (Bc 27 .rem 26 4),Gt 24 (Bc 28 .eql 27 0),Pa 29 24 28,Mv 2 20,Mv 3 29]
def RM : AFunc := ⟨30, 1, false, [.t 2, .t 3], (Sr ajQ (Sr ajP (Sq (Sr ajO (Bl 0 Ig)) (Rr Nq))))⟩
def RL:LI:=[.inLoop Ig, .inBlock 0, .code (Rr Nq)]
def agj:LO:=[Mc 4 (.int .u32 0)]
def agi:LO:=[Mc 5 (.int .u32 0)]
def agh:LO:=[Mv 7 1,Ca 8 184 [(.t 7), (.c (.int .i64 32))],Mc 9 (.int .i64 0)]
def agf:LO:=[Bi 10 .lss 9 8]
def age:LO:=[Mv 11 9,Mv 6 11]
def agd:LO:=[Mv 12 5,Mv 13 0,Mv 14 6,Ct 15 185 [13, 14],Cv 16 .u32 15,Mv 17 6,Op 18 (.bin .sub (.c (.int .i64 31)) (.t 17)),Cv 19 .u64 18,Bi 20 .shl 16 19,Bi 21 .or 12 20,Mv 5 21]
def agc:LO:=[Bc 22 .add 9 1,Mv 9 22]
def Gj:ACode:=(Sr agf (Sq (Cx 10 0) (Sq (Bk 1 (Sr age (Rg agd))) (Rg agc))))
def Nb:LO:=[Mv 23 5,Mv 4 23]
def QV : AFunc := ⟨24, 2, false, [.t 4], (Sr agj (Sr agi (Sq (Sr agh (Bl 0 Gj)) (Rr Nb))))⟩
def QT:LI:=[.inLoop Gj, .inBlock 0, .code (Rr Nb)]
def awG:LO:=[Mc 4 (.con (.slice none 0 0)),Mc 5 (.bool false)]
def awF:LO:=[Mc 6 (.con (.slice none 0 0))]
def awE:LO:=[Mc 7 (.int .i64 0)]
def awD:LO:=[Mv 11 7,Mv 12 0,Ln 13 0 12,Bi 14 .lss 11 13]
def awC:LO:=[Mv 15 7,Bc 16 .add 15 2,Mv 17 0,Ln 18 0 17,Bi 19 .gtr 16 18]
def awB:LO:=[Mc 4 (.con (.slice none 0 0)),Mc 5 (.bool false)]
def awA:LO:=[Mv 20 0,Mv 21 7,Ia 22 1 20 21,Ld 23 22,Cv 24 .i64 23,Op 25 (.build zz3 [(0, 1)] [(.t 24)]),Op 8 (.alloc (.agg zz3)),St 2 8 25]
def awz:LO:=[Mv 26 0,Mv 27 7,Bc 28 .add 27 1,Ia 29 1 26 28,Af [3] (Ld 30 29),Cv 31 .i64 30,Mv 32 1,Ct 33 92 [32],Mv 9 31,Mv 10 33]
def awy:LO:=[Mv 34 7,Bc 35 .add 34 2,Mv 7 35]
def awx:LO:=[Mv 36 9,Bc 37 .eql 36 0,Mv 38 37,Gf 38 (Mv 39 7),Gf 38 (Mv 40 9),Gf 38 (Mv 41 10),Gf 38 (Bi 42 .mul 40 41),Gf 38 (Bi 43 .add 39 42),Gf 38 (Mv 44 0),Gf 38 (Ln 45 0 44),Gf 38 (Bi 46 .gtr 43 45),Po 47 38 46]
def aua:LO:=[Mc 4 (.con (.slice none 0 0)),Mc 5 (.bool false)]
def at9:LO:=[Mv 48 9,Mc 49 (.int .i64 0)]
def at8:LO:=[Bi 50 .lss 49 48]
def at7:LO:=[Fa 51 1 8,Ld 52 51,Mv 53 0,Mv 54 7,Mv 55 10,Ct 56 100 [53, 54, 55],Af [5] (Op 57 (.bsl 1 zz6 1 [0] [(.t 56)])),Af [1, 6, 5] (Ap 58 1 8 52 57),Fa 59 1 8,Af [7, 1, 6, 5] (St 1 59 58)]
def at6:LO:=[Mv 60 7,Mv 61 10,Bi 62 .add 60 61,Mv 7 62]
def at5:LO:=[Bc 63 .add 49 1,Mv 49 63]
def aq4:ACode:=(Sr at8 (Sq (Cx 50 2) (Sq (Bk 3 (Sq (Rd at7) (Rg at6))) (Rg at5))))
def ar6:LO:=[Mv 64 6,Ls 65 2 8,Op 66 (.bsl 2 zz3 1 [0] [(.t 65)]),Ap 67 2 32 64 66,Mv 6 67]
def GP:ACode:=(Sq (Sr awD (Cx 14 0)) (Bk 1 (Sq (Sr awC (Ci 19 (Rr awB))) (Sr awA (Sq (Rd awz) (Sr awy (Sq (Sr awx (Ci 47 (Rr aua))) (Sq (Sr at9 (Bl 2 aq4)) (Rg ar6)))))))))
def Nn:LO:=[Mv 68 6,Mv 4 68,Mc 5 (.bool true)]
def asY : AFunc := ⟨69, 2, false, [.t 4, .t 5], (Sr awG (Sr awF (Sq (Sr awE (Bl 0 GP)) (Rr Nn))))⟩
def T4:LI:=[.inLoop GP, .inBlock 0, .code (Rr Nn)]
def asy:LI:=[.inLoop aq4, .inBlock 2, .code (Rg ar6), .inBlock 1, .inLoop GP, .inBlock 0, .code (Rr Nn)]
def aww:LO:=[Mc 2 (.con (.slice none 0 0)),Mc 3 (.bool false)]
def awv:LO:=[Mc 4 (.con (.slice none 0 0))]
def awu:LO:=[Mc 5 (.int .i64 0)]
def awt:LO:=[Mv 6 5,Bc 7 .add 6 4,Mv 8 0,Ln 9 0 8,Bi 10 .leq 7 9]
def aws:LO:=[Mv 13 4,Mv 14 0,Mv 15 5,Ca 16 100 [(.t 14), (.t 15), (.c (.int .i64 4))],Cv 17 .u32 16,Op 18 (.bsl 1 [.int .u32 0] 1 [0] [(.t 17)]),Ap 19 1 4 13 18,Mv 4 19]
def awr:LO:=[Mv 11 5,Bc 12 .add 11 4,Mv 5 12]
def ar5:ACode:=(Sq (Sr awt (Cx 10 0)) (Sq (Bk 1 (Rg aws)) (Rg awr)))
def asx:LO:=[Mv 20 4,Mv 21 0,Ln 22 0 21,Bc 23 .gtr 22 0,Mv 24 23,Gt 24 (Mv 25 0),Gt 24 (Ln 26 0 25),Gt 24 (Bc 27 .rem 26 4),Gt 24 (Bc 28 .eql 27 0),Pa 29 24 28,Mv 2 20,Mv 3 29]
def asX : AFunc := ⟨30, 1, false, [.t 2, .t 3], (Sr aww (Sr awv (Sq (Sr awu (Bl 0 ar5)) (Rr asx))))⟩
def asW:LI:=[.inLoop ar5, .inBlock 0, .code (Rr asx)]
def awq:LO:=[Op 3 (.box (.t 0)),Op 6 (.alloc (.agg zz2))]
def awp:LO:=[Mv 7 1]
def awo:LO:=[Bc 13 .eql 7 3,Mv 12 13]
def awn:LO:=[Mv 14 2,Cv 15 .u32 14,Fa 16 2 3,St 1 16 15]
def awm:LO:=[Bc 18 .eql 7 4,Mv 17 18]
def awl:LO:=[Fa 19 3 3,⟨none, .store 1 (.t 19) (.c (.bool true)), none, []⟩]
def awk:LO:=[Mv 20 2,Fa 21 4 3,St 1 21 20]
def awj:LO:=[Bc 23 .eql 7 5,Mv 22 23]
def awi:LO:=[Fa 24 5 3,⟨none, .store 1 (.t 24) (.c (.bool true)), none, []⟩]
def awh:LO:=[Mv 25 2,Fa 26 6 3,St 1 26 25]
def at4:LO:=[Fa 8 12 3,⟨none, .store 1 (.t 8) (.c (.bool true)), none, []⟩]
def at3:LO:=[Mv 9 2,Cv 10 .u32 9,Fa 11 13 3,St 1 11 10]
def at0:LO:=[Ls 27 16 3,St 16 6 27]
def L8 : AFunc := ⟨28, 3, true, [.cell 6 (some 16)], (Sr awq (Sq (Sr awp (Bk 0 (Sr awo (Cn 12 (Rg awn) (Sr awm (Cn 17 (Sr awl (Rg awk)) (Sr awj (Cn 22 (Sr awi (Rg awh)) (Sr at4 (Rg at3)))))))))) (Rr at0)))⟩
def akE:LO:=[Op 1 (.box (.t 0)),Mc 2 (.int .i64 0)]
def akD:LO:=[Fa 7 0 1,Ld 8 7,Op 9 (.bsl 1 zz6 4 [0, 1, 2, 3] [(.c (.int .i64 1)), (.c (.int .i64 2)), (.c (.int .i64 3)), (.c (.int .i64 4))]),Ct 10 107 [8, 9],Un 11 .not 10,Mv 6 11]
def akC:LO:=[Mc 2 (.int .i64 15)]
def akB:LO:=[Fa 13 1 1,Ld 14 13,Ln 15 0 14,Bc 16 .eql 15 0,Mv 12 16]
def akA:LO:=[Mc 2 (.int .i64 1)]
def akz:LO:=[Fa 18 1 1,Ld 19 18,Ln 20 0 19,Bc 21 .gtr 20 255,Mv 17 21]
def aky:LO:=[Mc 2 (.int .i64 4)]
def akx:LO:=[Fa 22 1 1,Ld 23 22,Ln 24 0 23,Mc 25 (.int .i64 0)]
def akw:LO:=[Bi 26 .lss 25 24]
def akv:LO:=[Ia 27 1 23 25,Ld 28 27,Mv 4 28]
def YJ:LO:=[Mv 29 4,Bc 30 .lss 29 1,Mv 31 30,Gf 31 (Mv 32 4),Gf 31 (Bc 33 .gtr 32 4294967295),Po 34 31 33]
def YI:LO:=[Mc 2 (.int .i64 5)]
def YH:LO:=[Bc 35 .add 25 1,Mv 25 35]
def Ab:ACode:=(Sr akw (Sq (Cx 26 1) (Sq (Bk 2 (Sr akv (Sr YJ (Ci 34 (Rr YI))))) (Rg YH))))
def Ip:LO:=[Fa 36 1 1,Ld 37 36,Ln 38 0 37,Mc 39 (.int .i64 0)]
def YG:LO:=[Bi 40 .lss 39 38]
def YF:LO:=[Mv 41 39,Mv 5 41]
def YE:LO:=[Mv 42 5,Bc 43 .gtr 42 0,Mv 44 43,Gt 44 (Fa 45 0 1),Gt 44 (Ld 46 45),Gt 44 (Op 47 (.bsl 1 zz6 2 [0, 1] [(.c (.int .i64 1)), (.c (.int .i64 4))])),Af [4, 5] (Gt 44 (Ct 48 107 [46, 47])),Pa 49 44 48,Mv 50 49,Gt 50 (Fa 51 1 1),Af [6, 4, 5] (Gt 50 (Ld 52 51)),Gt 50 (Mv 53 5),Af [10, 6, 4, 5] (Gt 50 (Ia 54 1 52 53)),Af [12, 10, 6, 4, 5] (Gt 50 (Ld 55 54)),Gt 50 (Fa 56 1 1),
 Af [6, 4, 5] (Gt 50 (Ld 57 56)),Gt 50 (Mv 58 5),Gt 50 (Bc 59 .sub 58 1),Af [15, 6, 4, 5] (Gt 50 (Ia 60 1 57 59)),Af [18, 15, 6, 4, 5] (Gt 50 (Ld 61 60)),Gt 50 (Bi 62 .leq 55 61),Pa 63 50 62]
def YD:LO:=[Mc 2 (.int .i64 16)]
def YC:LO:=[Bc 64 .add 39 1,Mv 39 64]
def sQ:ACode:=(Sr YG (Sq (Cx 40 3) (Sq (Bk 4 (Sr YF (Sq (Rd YE) (Ci 63 (Rr YD))))) (Rg YC))))
def vJ:LO:=[Mc 2 (.int .i64 0)]
def Sc : AFunc := ⟨65, 1, false, [.t 2], (Sr akE (Sq (Bk 0 (Sr akD (Cn 6 (Rr akC) (Sr akB (Cn 12 (Rr akA) (Sr akz (Ci 17 (Rr aky)))))))) (Sq (Sr akx (Bl 1 Ab)) (Sq (Sr Ip (Bl 3 sQ)) (Rr vJ)))))⟩
def Nx:LI:=[.inLoop Ab, .inBlock 1, .code (Sq (Sr Ip (Bl 3 sQ)) (Rr vJ))]
def Nw:LI:=[.inLoop sQ, .inBlock 3, .code (Rr vJ)]
def aku:LO:=[Mc 2 (.bool false)]
def akt:LO:=[Mv 3 0,Op 4 (.bsl 1 zz6 2 [0, 1] [(.c (.int .i64 3)), (.c (.int .i64 4))]),Ct 5 107 [3, 4],Mv 2 5]
def Sb : AFunc := ⟨6, 1, false, [.t 2], (Sr aku (Rr akt))⟩
def aks:LO:=[Mc 4 (.bool false)]
def akr:LO:=[Mv 7 1,Ln 8 0 7,Mc 9 (.int .i64 0)]
def akq:LO:=[Bi 10 .lss 9 8]
def akp:LO:=[Ia 11 1 7 9,Ld 12 11,Mv 6 12]
def ako:LO:=[Mv 13 6,Mv 14 0,Bi 15 .eql 13 14]
def akn:LO:=[Mc 4 (.bool true)]
def akm:LO:=[Bc 16 .add 9 1,Mv 9 16]
def Io:ACode:=(Sr akq (Sq (Cx 10 0) (Sq (Bk 1 (Sr akp (Sr ako (Ci 15 (Rr akn))))) (Rg akm))))
def Nv:LO:=[Mc 4 (.bool false)]
def R0 : AFunc := ⟨17, 2, false, [.t 4], (Sr aks (Sq (Sr akr (Bl 0 Io)) (Rr Nv)))⟩
def RZ:LI:=[.inLoop Io, .inBlock 0, .code (Rr Nv)]
def ajB:LO:=[Mc 2 (.bool false)]
def ajA:LO:=[Mv 3 0,Bc 4 .eql 3 1,Mv 5 4,Gf 5 (Mv 6 0),Gf 5 (Bc 7 .eql 6 4),Po 8 5 7,Mv 2 8]
def RI : AFunc := ⟨9, 1, false, [.t 2], (Sr ajB (Rr ajA))⟩
def ajz:LO:=[Mc 2 (.bool false)]
def ajy:LO:=[Mv 3 0,Bc 4 .eql 3 3,Mv 5 4,Gf 5 (Mv 6 0),Gf 5 (Bc 7 .eql 6 4),Po 8 5 7,Mv 2 8]
def RH : AFunc := ⟨9, 1, false, [.t 2], (Sr ajz (Rr ajy))⟩
def agb:LO:=[Mc 2 (.int .u32 0)]
def aga:LO:=[Mv 3 0,Ca 4 186 [(.t 3), (.c (.int .i64 32))],Op 5 (.bin .sub (.c (.int .i64 32)) (.t 4)),Op 6 (.bin .shl (.c (.int .u32 4294967295)) (.t 5)),Mv 2 6]
def QS : AFunc := ⟨7, 1, false, [.t 2], (Sr agb (Rr aga))⟩
def af9:LO:=[Mc 4 (.int .i64 0)]
def af8:LO:=[Mv 5 0,Op 6 (.minmax true [(.t 5), (.c (.int .i64 0))]),Mv 7 1,Op 8 (.minmax false [(.t 6), (.t 7)]),Mv 4 8]
def vu : AFunc := ⟨9, 2, false, [.t 4], (Sr af9 (Rr af8))⟩
def af7:LO:=[Mc 4 (.int .i64 0)]
def af6:LO:=[Mv 5 1,Bc 6 .lss 5 0,Mv 7 6,Gf 7 (Mv 8 1),Gf 7 (Bc 9 .gtr 8 31),Po 10 7 9]
def af5:LO:=[Mc 4 (.int .i64 0)]
def af4:LO:=[Mv 11 0,Mv 12 1,Op 13 (.bin .sub (.c (.int .i64 31)) (.t 12)),Cv 14 .u64 13,Bi 15 .shr 11 14,Op 16 (.bin .and (.t 15) (.c (.int .u32 1))),Cv 17 .i64 16,Mv 4 17]
def QR : AFunc := ⟨18, 2, false, [.t 4], (Sr af7 (Sq (Sr af6 (Ci 10 (Rr af5))) (Rr af4)))⟩
def af3:LO:=[Mc 4 (.int .i64 0)]
def af2:LO:=[Mv 5 0,Op 6 (.minmax true [(.t 5), (.c (.int .i64 0))]),Mv 7 1,Op 8 (.minmax false [(.t 6), (.t 7)]),Mv 4 8]
def vt : AFunc := ⟨9, 2, false, [.t 4], (Sr af3 (Rr af2))⟩
end Go.AM.IR
namespace Go.AM.IR
def G (f : Nat) : Fun := bif Nat.blt f 139 then (bif Nat.blt f 96 then (bif Nat.blt f 79 then (bif Nat.blt f 72 then (bif Nat.blt f 69 then (bif Nat.blt f 66 then (bif Nat.beq f 65 then .code f65 else .none) else (bif Nat.blt f 67 then (bif Nat.beq f 66 then .code f66 else .none) else (bif Nat.beq f 67 then .code f67 else .none))) else (bif Nat.blt f 70 then (bif Nat.beq f 69 then .code f69 else .none) else (bif Nat.blt f 71 then (bif Nat.beq f 70 then .code f70 else .none) else (bif Nat.beq f 71 then .code f71 else .none)))) else (bif Nat.blt f 75 then (bif Nat.blt f 73 then (bif Nat.beq f 72 then .code f72 else .none) else (bif Nat.blt f 74 then (bif Nat.beq f 73 then .code f73 else .none) else (bif Nat.beq f 74 then .code f74 else .none))) else (bif Nat.blt f 77 then (bif Nat.blt f 76 then (bif Nat.beq f 75 then .code f75 else .none) else (bif Nat.beq f 76 then .code f76 else .none)) else (bif Nat.blt f 78 then (bif Nat.beq f 77 then .code f77 else .none) else (bif Nat.beq f 78 then .code f78 else .none))))) else (bif Nat.blt f 85 then (bif Nat.blt f 82 then (bif Nat.blt f 80 then (bif Nat.beq f 79 then .code f79 else .none) else (bif Nat.blt f 81 then (bif Nat.beq f 80 then .code f80 else .none) else (bif Nat.beq f 81 then .code f81 else .none))) else (bif Nat.blt f 83 then (bif Nat.beq f 82 then .code f82 else .none) else (bif Nat.blt f 84 then (bif Nat.beq f 83 then .code f83 else .none) else (bif Nat.beq f 84 then .code f84 else .none)))) else (bif Nat.blt f 92 then (bif Nat.blt f 86 then (bif Nat.beq f 85 then .code f85 else .none) else (bif Nat.blt f 87 then (bif Nat.beq f 86 then .code f86 else .none) else (bif Nat.beq f 87 then .code f87 else .none))) else (bif Nat.blt f 94 then (bif Nat.blt f 93 then (bif Nat.beq f 92 then .code f92 else .none) else (bif Nat.beq f 93 then .code f93 else .none)) else (bif Nat.blt f 95 then (bif Nat.beq f 94 then .code f94 else .none) else (bif Nat.beq f 95 then .code f95 else .none)))))) else (bif Nat.blt f 109 then (bif Nat.blt f 102 then (bif Nat.blt f 99 then (bif Nat.blt f 97 then (bif Nat.beq f 96 then .code f96 else .none) else (bif Nat.blt f 98 then (bif Nat.beq f 97 then .code f97 else .none) else (bif Nat.beq f 98 then .code f98 else .none))) else (bif Nat.blt f 100 then (bif Nat.beq f 99 then .code f99 else .none) else (bif Nat.blt f 101 then (bif Nat.beq f 100 then .code asZ else .none) else (bif Nat.beq f 101 then .code ed else .none)))) else (bif Nat.blt f 105 then (bif Nat.blt f 103 then (bif Nat.beq f 102 then .code JL else .none) else (bif Nat.blt f 104 then (bif Nat.beq f 103 then .code JK else .none) else (bif Nat.beq f 104 then .code JI else .none))) else (bif Nat.blt f 107 then (bif Nat.blt f 106 then (bif Nat.beq f 105 then .code Sc else .none) else (bif Nat.beq f 106 then .code Sb else .none)) else (bif Nat.blt f 108 then (bif Nat.beq f 107 then .code R0 else .none) else (bif Nat.beq f 108 then .code RY else .none))))) else (bif Nat.blt f 116 then (bif Nat.blt f 112 then (bif Nat.blt f 110 then (bif Nat.beq f 109 then .code RX else .none) else (bif Nat.blt f 111 then (bif Nat.beq f 110 then .code RU else .none) else (bif Nat.beq f 111 then .code RN else .none))) else (bif Nat.blt f 114 then (bif Nat.blt f 113 then (bif Nat.beq f 112 then .code RM else .none) else (bif Nat.beq f 113 then .code RK else .none)) else (bif Nat.blt f 115 then (bif Nat.beq f 114 then .code asY else .none) else (bif Nat.beq f 115 then .code asX else .none)))) else (bif Nat.blt f 119 then (bif Nat.blt f 117 then (bif Nat.beq f 116 then .code L8 else .none) else (bif Nat.blt f 118 then (bif Nat.beq f 117 then .code RI else .none) else (bif Nat.beq f 118 then .code RH else .none))) else (bif Nat.blt f 126 then (bif Nat.blt f 120 then (bif Nat.beq f 119 then .code RG else .none) else (bif Nat.beq f 120 then .code RE else .none)) else (bif Nat.blt f 138 then (bif Nat.beq f 126 then .code Ry else .none) else (bif Nat.beq f 138 then .code JH else .none))))))) else (bif Nat.blt f 193 then (bif Nat.blt f 172 then (bif Nat.blt f 159 then (bif Nat.blt f 156 then (bif Nat.blt f 144 then (bif Nat.beq f 139 then .code JG else .none) else (bif Nat.blt f 148 then (bif Nat.beq f 144 then .code pQ else .none) else (bif Nat.beq f 148 then .code pM else .none))) else (bif Nat.blt f 157 then (bif Nat.beq f 156 then .code JF else .none) else (bif Nat.blt f 158 then (bif Nat.beq f 157 then .code vD else .none) else (bif Nat.beq f 158 then .code Rl else .none)))) else (bif Nat.blt f 162 then (bif Nat.blt f 160 then (bif Nat.beq f 159 then .code zX else .none) else (bif Nat.blt f 161 then (bif Nat.beq f 160 then .code jA else .none) else (bif Nat.beq f 161 then .code Rk else .none))) else (bif Nat.blt f 170 then (bif Nat.blt f 169 then (bif Nat.beq f 162 then .code pJ else .none) else (bif Nat.beq f 169 then .code JE else .none)) else (bif Nat.blt f 171 then (bif Nat.beq f 170 then .code Ri else .none) else (bif Nat.beq f 171 then .code Rh else .none))))) else (bif Nat.blt f 181 then (bif Nat.blt f 175 then (bif Nat.blt f 173 then (bif Nat.beq f 172 then .code sJ else .none) else (bif Nat.blt f 174 then (bif Nat.beq f 173 then .code Re else .none) else (bif Nat.beq f 174 then .code Rc else .none))) else (bif Nat.blt f 179 then (bif Nat.blt f 178 then (bif Nat.beq f 175 then .code QY else .none) else (bif Nat.beq f 178 then .code vx else .none)) else (bif Nat.blt f 180 then (bif Nat.beq f 179 then .code vv else .none) else (bif Nat.beq f 180 then .code sI else .none)))) else (bif Nat.blt f 184 then (bif Nat.blt f 182 then (bif Nat.beq f 181 then .code QW else .none) else (bif Nat.blt f 183 then (bif Nat.beq f 182 then .code QV else .none) else (bif Nat.beq f 183 then .code QS else .none))) else (bif Nat.blt f 186 then (bif Nat.blt f 185 then (bif Nat.beq f 184 then .code vu else .none) else (bif Nat.beq f 185 then .code QR else .none)) else (bif Nat.blt f 192 then (bif Nat.beq f 186 then .code vt else .none) else (bif Nat.beq f 192 then .code f8 else .none)))))) else (bif Nat.blt f 206 then (bif Nat.blt f 199 then (bif Nat.blt f 196 then (bif Nat.blt f 194 then (bif Nat.beq f 193 then .code lY else .none) else (bif Nat.blt f 195 then (bif Nat.beq f 194 then .code cz else .none) else (bif Nat.beq f 195 then .code fg else .none))) else (bif Nat.blt f 197 then (bif Nat.beq f 196 then .code QP else .none) else (bif Nat.blt f 198 then (bif Nat.beq f 197 then .code pH else .none) else (bif Nat.beq f 198 then .code JD else .none)))) else (bif Nat.blt f 202 then (bif Nat.blt f 200 then (bif Nat.beq f 199 then .code sE else .none) else (bif Nat.blt f 201 then (bif Nat.beq f 200 then .code mP else .none) else (bif Nat.beq f 201 then .code dh else .none))) else (bif Nat.blt f 204 then (bif Nat.blt f 203 then (bif Nat.beq f 202 then .code gj else .none) else (bif Nat.beq f 203 then .code QN else .none)) else (bif Nat.blt f 205 then (bif Nat.beq f 204 then .code JC else .none) else (bif Nat.beq f 205 then .code QJ else .none))))) else (bif Nat.blt f 359 then (bif Nat.blt f 209 then (bif Nat.blt f 207 then (bif Nat.beq f 206 then .code vq else .none) else (bif Nat.blt f 208 then (bif Nat.beq f 207 then .code vp else .none) else (bif Nat.beq f 208 then .code QH else .none))) else (bif Nat.blt f 351 then (bif Nat.blt f 210 then (bif Nat.beq f 209 then .code JB else .none) else (bif Nat.beq f 210 then .code QF else .none)) else (bif Nat.blt f 354 then (bif Nat.beq f 351 then .code aq3 else .none) else (bif Nat.beq f 354 then .code a6 else .none)))) else (bif Nat.blt f 362 then (bif Nat.blt f 360 then (bif Nat.beq f 359 then .code aq0 else .none) else (bif Nat.blt f 361 then (bif Nat.beq f 360 then .code asV else .none) else (bif Nat.beq f 361 then .code ew else .none))) else (bif Nat.blt f 366 then (bif Nat.blt f 363 then (bif Nat.beq f 362 then .code s6 else .none) else (bif Nat.beq f 363 then .code a8 else .none)) else (bif Nat.blt f 367 then (bif Nat.beq f 366 then .code x6 else .none) else (bif Nat.beq f 367 then .code asU else .none)))))))
end Go.AM.IR
namespace Go.AM.IR
def bj (x : Int) : List AV := [.int .i64 x]
def bf (x : Int) : List AV := [.int .u32 x]
structure Seg where
 kind : Int
 as : List Int
def Seg.enc (s : Seg) : List AV := [.int .i64 s.kind, .sl 1 (s.as.map bj)]
structure TLV where
 kind : Int
 value : List UInt8
def TLV.enc (s : TLV) : List AV := [.int .i64 s.kind, .sl 1 (byteCells s.value)]
structure Attrs where
 origin : Int
 path : List Seg
 nextHop : Int
 hasMED : Bool
 med : Int
 hasPref : Bool
 pref : Int
 atomic : Bool
 hasAggr : Bool
 aggrAS : Int
 aggrAddr : Int
 comms : List Int
 hasOrig : Bool
 orig : Int
 clusters : List Int
 unknown : List TLV
def Attrs.enc (a : Attrs) : List AV := [.int .i64 a.origin, .sl 2 (a.path.map Seg.enc), .int .u32 a.nextHop, .bool a.hasMED, .int .i64 a.med, .bool a.hasPref, .int .i64 a.pref, .bool a.atomic, .bool a.hasAggr, .int .i64 a.aggrAS, .int .u32 a.aggrAddr,
 .sl 1 (a.comms.map bf), .bool a.hasOrig, .int .u32 a.orig, .sl 1 (a.clusters.map bf), .sl 2 (a.unknown.map TLV.enc)]
structure PVRoute where
 paddr : Int
 plen : Int
 attrs : Attrs
 peer : Int
 kind : Int
 router : Int
 stale : Bool
def PVRoute.enc (r : PVRoute) : List AV := [.int .u32 r.paddr, .int .i64 r.plen,
 .int .i64 r.attrs.origin, .sl 2 (r.attrs.path.map Seg.enc), .int .u32 r.attrs.nextHop, .bool r.attrs.hasMED, .int .i64 r.attrs.med, .bool r.attrs.hasPref, .int .i64 r.attrs.pref, .bool r.attrs.atomic, .bool r.attrs.hasAggr, .int .i64 r.attrs.aggrAS, .int .u32 r.attrs.aggrAddr,
 .sl 1 (r.attrs.comms.map bf), .bool r.attrs.hasOrig, .int .u32 r.attrs.orig, .sl 1 (r.attrs.clusters.map bf), .sl 2 (r.attrs.unknown.map TLV.enc),
 .int .i64 r.peer, .int .i64 r.kind, .int .u32 r.router, .bool r.stale]
structure IGP where
 addr : Int
 cost : Int
def IGP.enc (c : IGP) : List AV := [.int .u32 c.addr, .int .i64 c.cost]
theorem dX {α : Type} {f : α → List AV} (h : ∀ x, aZ (f x) = true) : ∀ l : List α, ba (l.map f) = true
 | [] => rfl
 | x :: r => by simp only [List.map_cons, ba, h x, dX h r, Bool.and_self]
theorem bJ : ∀ l : List UInt8, ba (byteCells l) = true := fun l => dX (f := fun b : UInt8 => [AV.int .u8 (b.toNat : Int)]) (fun _ => rfl) l
@[simp] theorem aqC (l : List Int) : ba (l.map bj) = true := dX (fun _ => rfl) l
@[simp] theorem aqB (l : List Int) : ba (l.map bf) = true := dX (fun _ => rfl) l
theorem Seg.pure (s : Seg) : aZ s.enc = true := by simp [Seg.enc, aZ, AV.pure]
@[simp] theorem aqy (l : List Seg) : ba (l.map Seg.enc) = true := dX Seg.pure l
theorem TLV.pure (s : TLV) : aZ s.enc = true := by simp [TLV.enc, aZ, AV.pure, bJ]
@[simp] theorem aqx (l : List TLV) : ba (l.map TLV.enc) = true := dX TLV.pure l
@[simp] theorem Attrs.pure (s : Attrs) : aZ s.enc = true := by simp [Attrs.enc, aZ, AV.pure]
@[simp] theorem PVRoute.pure (s : PVRoute) : aZ s.enc = true := by simp [PVRoute.enc, aZ, AV.pure]
@[simp] theorem alw (l : List PVRoute) : ba (l.map PVRoute.enc) = true := dX PVRoute.pure l
@[simp] theorem aqA (l : List IGP) : ba (l.map IGP.enc) = true := dX (fun _ => rfl) l
end Go.AM.IR
namespace Go.AM.IR
theorem yV {α : Type} {e : List AV → Prop} {enc : α → List AV} {Q : α → Prop} (h : ∀ x, e x → ∃ a, x = enc a ∧ Q a) : ∀ es : List (List AV), (∀ x ∈ es, e x) → ∃ l : List α, es = l.map enc ∧ ∀ a ∈ l, Q a
 | [], _ => ⟨[], rfl, by simp⟩
 | x :: r, hx => by
  obtain ⟨a, rfl, ha⟩ := h x (hx x (by simp))
  obtain ⟨l, rfl, hl⟩ := yV h r fun y hy => hx y (by simp [hy])
  exact ⟨a :: l, rfl, by simpa using ⟨ha, hl⟩⟩
def okI (x : Int) : Prop := -9223372036854775808 ≤ x ∧ x ≤ 9223372036854775807
def okU (x : Int) : Prop := 0 ≤ x ∧ x ≤ 4294967295
theorem mw {as : List AV} (h : Ty.T (.int .u8) as) : ∃ b : UInt8, as = [.int .u8 b.toNat] ∧ True := by
 obtain ⟨n, rfl, h1, h2⟩ := h
 have h1 : 0 ≤ n := by simpa [IntKind.min, IntKind.signed] using h1
 have h2 : n ≤ 255 := by simpa [IntKind.max, IntKind.signed, IntKind.bits] using h2
 refine ⟨UInt8.ofNat n.toNat, ?_, trivial⟩
 have : ((UInt8.ofNat n.toNat).toNat : Int) = n := by simp; omega
 rw [this]
theorem n3 {α : Type} {τ : Ty} {enc : α → List AV} {Q : α → Prop} (h : ∀ x, τ.T x → ∃ a, x = enc a ∧ Q a) {as : List AV} (hs : Ty.T (.sl τ) as) : ∃ l : List α, as = [.sl τ.cells (l.map enc)] ∧ ∀ a ∈ l, Q a := by
 obtain ⟨es, rfl, h1, _⟩ := hs
 obtain ⟨l, rfl, h2⟩ := yV h es h1
 exact ⟨l, rfl, h2⟩
theorem vY {as : List AV} (hs : Ty.T (.sl (.int .u8)) as) : ∃ l : List UInt8, as = [.sl 1 (byteCells l)] := by
 obtain ⟨l, rfl, _⟩ := n3 (fun x => mw) hs
 exact ⟨l, rfl⟩
structure Seg.ok (s : Seg) : Prop where
 kind : okI s.kind
 as : ∀ x ∈ s.as, okI x
structure TLV.ok (s : TLV) : Prop where
 kind : okI s.kind
structure IGP.ok (s : IGP) : Prop where
 addr : okU s.addr
 cost : okI s.cost
structure Attrs.ok (a : Attrs) : Prop where
 origin : okI a.origin
 path : ∀ s ∈ a.path, s.ok
 nextHop : okU a.nextHop
 med : okI a.med
 pref : okI a.pref
 aggrAS : okI a.aggrAS
 aggrAddr : okU a.aggrAddr
 comms : ∀ x ∈ a.comms, okU x
 orig : okU a.orig
 clusters : ∀ x ∈ a.clusters, okU x
 unknown : ∀ x ∈ a.unknown, x.ok
structure PVRoute.ok (r : PVRoute) : Prop where
 paddr : okU r.paddr
 plen : okI r.plen
 attrs : r.attrs.ok
 peer : okI r.peer
 kind : okI r.kind
 router : okU r.router
end Go.AM.IR
namespace Go.AM.IR
structure Pfx where
 addr : Int
 len : Int
 deriving DecidableEq
def Pfx.enc (p : Pfx) : List AV := [.int .u32 p.addr, .int .i64 p.len]
structure Cap where
 code : Int
 value : List UInt8
 deriving DecidableEq
def Cap.enc (p : Cap) : List AV := [.int .i64 p.code, .sl 1 (byteCells p.value)]
structure PMsg where
 kind : Int
 version : Int
 as : Int
 hold : Int
 router : Int
 caps : List Cap
 withdrawn : List Pfx
 attrs : Attrs
 reach : List Pfx
 code : Int
 sub : Int
 data : List UInt8
def PMsg.enc (m : PMsg) : List AV := [.int .i64 m.kind, .int .i64 m.version, .int .i64 m.as, .int .i64 m.hold, .int .u32 m.router, .sl 2 (m.caps.map Cap.enc), .sl 2 (m.withdrawn.map Pfx.enc),
 .int .i64 m.attrs.origin, .sl 2 (m.attrs.path.map Seg.enc), .int .u32 m.attrs.nextHop, .bool m.attrs.hasMED, .int .i64 m.attrs.med, .bool m.attrs.hasPref, .int .i64 m.attrs.pref, .bool m.attrs.atomic, .bool m.attrs.hasAggr, .int .i64 m.attrs.aggrAS, .int .u32 m.attrs.aggrAddr,
 .sl 1 (m.attrs.comms.map bf), .bool m.attrs.hasOrig, .int .u32 m.attrs.orig, .sl 1 (m.attrs.clusters.map bf), .sl 2 (m.attrs.unknown.map TLV.enc),
 .sl 2 (m.reach.map Pfx.enc), .int .i64 m.code, .int .i64 m.sub, .sl 1 (byteCells m.data)]
structure Peer where
 kind : Int
 as : Int
 addr : Int
 loc : Int
 client : Bool
 hold : Int
 restart : Int
 imp : List UInt8
 exp : List UInt8
 nextSelf : Bool
 damp : Bool
def Peer.enc (p : Peer) : List AV := [.int .i64 p.kind, .int .i64 p.as, .int .u32 p.addr, .int .u32 p.loc, .bool p.client, .int .i64 p.hold, .int .i64 p.restart, .str p.imp, .str p.exp, .bool p.nextSelf, .bool p.damp]
structure Conf where
 as : Int
 confed : Int
 router : Int
 cluster : Int
 peers : List Peer
 nets : AV
 p1 : AV
 p2 : AV
 p3 : AV
 p4 : AV
 d1 : Int
 d2 : Int
 d3 : Int
 d4 : Int
 multi : Int
def Conf.enc (c : Conf) : List AV := [.int .i64 c.as, .int .i64 c.confed, .int .u32 c.router, .int .u32 c.cluster, .sl 11 (c.peers.map Peer.enc), c.nets, c.p1, c.p2, c.p3, c.p4, .int .i64 c.d1, .int .i64 c.d2, .int .i64 c.d3, .int .i64 c.d4, .int .i64 c.multi]
structure Ses where
 state : Int
 retry : Int
 hold : Int
 keep : Int
 holdTime : Int
 router : Int
 restart : Int
 refresh : Bool
 untl : Int
def Ses.enc (s : Ses) : List AV := [.int .i64 s.state, .int .i64 s.retry, .int .i64 s.hold, .int .i64 s.keep, .int .i64 s.holdTime, .int .u32 s.router, .int .i64 s.restart, .bool s.refresh, .int .i64 s.untl]
structure Act where
 kind : Int
 msg : PMsg
def Act.enc (a : Act) : List AV := .int .i64 a.kind :: a.msg.enc
theorem Pfx.pure (s : Pfx) : aZ s.enc = true := rfl
@[simp] theorem aqz (l : List Pfx) : ba (l.map Pfx.enc) = true := dX Pfx.pure l
theorem Cap.pure (s : Cap) : aZ s.enc = true := by simp [Cap.enc, aZ, AV.pure, bJ]
@[simp] theorem aqD (l : List Cap) : ba (l.map Cap.enc) = true := dX Cap.pure l
@[simp] theorem PMsg.pure (s : PMsg) : aZ s.enc = true := by simp [PMsg.enc, aZ, AV.pure, bJ]
theorem Peer.pure (s : Peer) : aZ s.enc = true := rfl
@[simp] theorem alN (l : List Peer) : ba (l.map Peer.enc) = true := dX Peer.pure l
@[simp] theorem Ses.pure (s : Ses) : aZ s.enc = true := rfl
@[simp] theorem Act.pure (s : Act) : aZ s.enc = true := by simp [Act.enc, aZ, AV.pure]
@[simp] theorem aqE (l : List Act) : ba (l.map Act.enc) = true := dX Act.pure l
structure Conf.ok (c : Conf) : Prop where
 nets : c.nets.pure = true
 p1 : c.p1.pure = true
 p2 : c.p2.pure = true
 p3 : c.p3.pure = true
 p4 : c.p4.pure = true
 as : okI c.as
 confed : okI c.confed
 router : okU c.router
 peers : ∀ p ∈ c.peers, okI p.as ∧ okI p.hold ∧ okI p.restart ∧ okI p.kind
 len : c.peers.length ≤ maxLen
theorem Conf.pure {c : Conf} (h : c.ok) : aZ c.enc = true := by simp [Conf.enc, aZ, AV.pure, h.nets, h.p1, h.p2, h.p3, h.p4]
structure Pfx.ok (p : Pfx) : Prop where
 addr : okU p.addr
 len : okI p.len
structure PMsg.ok (m : PMsg) : Prop where
 kind : okI m.kind
 version : okI m.version
 as : okI m.as
 hold : okI m.hold
 router : okU m.router
 caps : ∀ c ∈ m.caps, okI c.code
 withdrawn : ∀ p ∈ m.withdrawn, p.ok
 attrs : m.attrs.ok
 reach : ∀ p ∈ m.reach, p.ok
 code : okI m.code
 sub : okI m.sub
structure Ses.ok (s : Ses) : Prop where
 state : okI s.state
 retry : okI s.retry
 hold : okI s.hold
 keep : okI s.keep
 holdTime : okI s.holdTime
 router : okU s.router
 restart : okI s.restart
 untl : okI s.untl
end Go.AM.IR
set_option maxHeartbeats 4000000
set_option maxRecDepth 20000
namespace Go.AM.IR
def eW (x n : Nat) : Nat := x / 2 ^ (32 - n) * 2 ^ (32 - n)
def iA (n : Nat) : Nat := 4294967296 - 2 ^ (32 - n)
theorem pw (x n j : Nat) (hn : n ≤ 32) : (eW x n).testBit j = (decide (32 - n ≤ j) && x.testBit j) := by
 unfold eW
 rw [Nat.testBit_mul_two_pow]
 by_cases h : 32 - n ≤ j
 ·simp only [h, decide_true, Bool.true_and]
  rw [Nat.testBit_div_two_pow]; congr 1; omega
 ·simp [h]
theorem P0 (n : Nat) (hn : n ≤ 32) : iA n = (2 ^ n - 1) * 2 ^ (32 - n) := by
 unfold iA
 rw [Nat.sub_mul, ← Nat.pow_add, show n + (32 - n) = 32 by omega]; omega
theorem KP (n j : Nat) (hn : n ≤ 32) : (iA n).testBit j = (decide (32 - n ≤ j) && decide (j < 32)) := by
 rw [P0 n hn, Nat.testBit_mul_two_pow, Nat.testBit_two_pow_sub_one]
 by_cases h : 32 - n ≤ j
 ·simp only [h, decide_true, Bool.true_and]
  congr 1; simp; omega
 ·simp [h]
theorem SI (x n : Nat) (hx : x < 4294967296) (hn : n ≤ 32) : x &&& iA n = eW x n := by
 apply Nat.eq_of_testBit_eq
 intro j
 rw [Nat.testBit_and, pw x n j hn, KP n j hn]
 by_cases hj : j < 32
 ·simp [hj, Bool.and_comm]
 ·have : x.testBit j = false := Nat.testBit_lt_two_pow (Nat.lt_of_lt_of_le hx (by rw [show 4294967296 = 2 ^ 32 from rfl]; exact Nat.pow_le_pow_right (by omega) (by omega)))
  simp [this]
theorem sw (x n : Nat) : eW x n ≤ x := Nat.div_mul_le_self _ _
theorem Jw (x n : Nat) (hn : n < 32) : eW x n ||| (x / 2 ^ (31 - n) % 2 * 2 ^ (31 - n)) = eW x (n + 1) := by
 apply Nat.eq_of_testBit_eq
 intro j
 rw [Nat.testBit_or, pw x n j (by omega), pw x (n + 1) j (by omega), Nat.testBit_mul_two_pow]
 have e1 : ∀ q : Nat, (x / 2 ^ (31 - n) % 2).testBit q = (decide (q < 1) && (x / 2 ^ (31 - n)).testBit q) := fun q => by
  have := Nat.testBit_mod_two_pow (x / 2 ^ (31 - n)) 1 q
  simpa using this
 rw [e1, Nat.testBit_div_two_pow]
 by_cases h1 : 32 - n ≤ j
 ·have h2 : 32 - (n + 1) ≤ j := by omega
  have h3 : ¬ (j - (31 - n) < 1) := by omega
  simp [h1, h2, h3]; intro _; omega
 ·by_cases h2 : j = 31 - n
  ·subst h2
   have h3 : 32 - (n + 1) ≤ 31 - n := by omega
   simp [h1, h3]
  ·have h3 : ¬ 32 - (n + 1) ≤ j := by omega
   have h4 : ¬ 31 - n ≤ j := by omega
   simp [h1, h3, h4]
theorem Jv (x : Nat) (hx : x < 4294967296) : eW x 0 = 0 := by
 unfold eW; rw [Nat.div_eq_of_lt (by simpa using hx), Nat.zero_mul]
def cj (n : Int) : Nat := if n ≤ 0 then 0 else if n ≤ 32 then n.toNat else 32
theorem qf (n : Int) : cj n ≤ 32 := by
 unfold cj
 repeat' split
 all_goals omega
section
variable {k : AV → Prop}
theorem CA (r : Nat) (hr : r < 4294967296) : IntKind.wrap .u32 (r : Int) = (r : Int) := by
 simp [IntKind.wrap, IntKind.signed, IntKind.bits]; omega
theorem qH (a : Nat) (ha : a < 4294967296) : (BitVec.ofInt 32 (a : Int)).toNat = a := by
 rw [BitVec.toNat_ofInt]; omega
theorem IW (a b : Nat) (ha : a < 4294967296) (hb : b < 4294967296) : intBits .and .u32 (a : Int) (b : Int) = ((a &&& b : Nat) : Int) := by
 have hl : a &&& b < 4294967296 := Nat.lt_of_le_of_lt Nat.and_le_left ha
 show IntKind.wrap .u32 (((BitVec.ofInt 32 (a : Int) &&& BitVec.ofInt 32 (b : Int)).toNat : Nat) : Int) = _
 rw [BitVec.toNat_and, qH a ha, qH b hb]; exact CA _ hl
theorem ZU (a b : Nat) (ha : a < 4294967296) (hb : b < 4294967296) : intBits .or .u32 (a : Int) (b : Int) = ((a ||| b : Nat) : Int) := by
 have hl : a ||| b < 4294967296 := Nat.or_lt_two_pow (n := 32) ha hb
 show IntKind.wrap .u32 (((BitVec.ofInt 32 (a : Int) ||| BitVec.ofInt 32 (b : Int)).toNat : Nat) : Int) = _
 rw [BitVec.toNat_or, qH a ha, qH b hb]; exact CA _ hl
theorem Zy {a b : Nat} (h : k (.int .u32 ((a &&& b : Nat) : Int))) (ha : a < 4294967296 := by omega) (hb : b < 4294967296 := by omega) : ∃ v, ca .and (.int .u32 (a : Int)) (.int .u32 (b : Int)) = some v ∧ k v := ⟨_, by show some (AV.int .u32 (intBits .and .u32 _ _)) = _; rw [IW a b ha hb], h⟩
theorem alH {a b : Nat} (h : k (.int .u32 ((a ||| b : Nat) : Int))) (ha : a < 4294967296) (hb : b < 4294967296) : ∃ v, ca .or (.int .u32 (a : Int)) (.int .u32 (b : Int)) = some v ∧ k v := ⟨_, by show some (AV.int .u32 (intBits .or .u32 _ _)) = _; rw [ZU a b ha hb], h⟩
theorem alI {n : Nat} {j : Int} (h : k (.int .u32 ((iA n : Nat) : Int))) (hj : j = 32 - (n : Int)) (hn : n ≤ 32) : ∃ v, ca .shl (.int .u32 4294967295) (.int .i64 j) = some v ∧ k v := by
 refine ⟨_, ?_, h⟩
 show (if j < 0 then none else some (AV.int .u32 (IntKind.wrap .u32 (4294967295 * 2 ^ (min j.toNat 32))))) = _
 rw [if_neg (by omega), show min j.toNat 32 = 32 - n by omega]
 have h1 : (2 : Nat) ^ (32 - n) ≤ 2 ^ 32 := Nat.pow_le_pow_right (by omega) (by omega)
 have h2 : 0 < (2 : Nat) ^ (32 - n) := Nat.pow_pos (by omega)
 have e : (4294967295 * 2 ^ (32 - n) : Int) = ((iA n : Nat) : Int) + 4294967296 * ((2 ^ (32 - n) - 1 : Nat) : Int) := by
  unfold iA
  have : ((2 ^ (32 - n) : Nat) : Int) = (2 : Int) ^ (32 - n) := by simp
  rw [← this]; omega
 congr 2
 rw [e]
 have h3 : iA n < 4294967296 := by unfold iA; omega
 simp [IntKind.wrap, IntKind.signed, IntKind.bits]; omega
theorem Zu {x : Nat} {j : Int} (h : k (.int .u32 ((x / 2 ^ j.toNat : Nat) : Int))) (h0 : 0 ≤ j) (h1 : j ≤ 32) : ∃ v, ca .shr (.int .u32 (x : Int)) (.int .u64 j) = some v ∧ k v := by
 refine ⟨_, ?_, h⟩
 show (if j < 0 then none else some (AV.int .u32 ((x : Int).fdiv (2 ^ (min j.toNat 32))))) = _
 rw [if_neg (by omega), show min j.toNat 32 = j.toNat by omega]
 congr 2
 rw [Int.fdiv_eq_ediv_of_nonneg _ (by exact Int.le_of_lt (Int.pow_pos (by omega)))]
 simp
theorem alG {b m : Nat} {j : Int} (h : k (.int .u32 ((b * 2 ^ m : Nat) : Int))) (hj : j = m) (hm : m < 32) (hb : b < 2) : ∃ v, ca .shl (.int .u32 (b : Int)) (.int .u64 j) = some v ∧ k v := by
 refine ⟨_, ?_, h⟩
 show (if j < 0 then none else some (AV.int .u32 (IntKind.wrap .u32 ((b : Int) * 2 ^ (min j.toNat 32))))) = _
 rw [if_neg (by omega), show min j.toNat 32 = m by omega]
 have h1 : (2 : Nat) ^ m ≤ 2 ^ 31 := Nat.pow_le_pow_right (by omega) (by omega)
 have e : ((b : Int) * 2 ^ m : Int) = ((b * 2 ^ m : Nat) : Int) := by simp
 rw [e]
 have h3 : b * 2 ^ m < 4294967296 := by
  have : b * 2 ^ m ≤ 1 * 2 ^ m := Nat.mul_le_mul_right _ (by omega)
  omega
 congr 2
 simp only [IntKind.wrap, IntKind.signed, IntKind.bits]; simp; omega
theorem alJ {x : Nat} (hx : x < 4294967296) (h : k (.int .u32 ((x % 2 : Nat) : Int))) : ∃ v, ca .and (.int .u32 (x : Int)) (.int .u32 1) = some v ∧ k v :=
 ⟨_, by
  show some (AV.int .u32 (intBits .and .u32 (x : Int) ((1 : Nat) : Int))) = _
  rw [IW x 1 hx (by omega), Nat.and_one_is_mod], h⟩
end
end Go.AM.IR
namespace Go.AM.IR
theorem vR (n : Int) : ah G 186 [.int .i64 n, .int .i64 32] [] ⟨.int .i64 (cj n : Nat), []⟩ := by
 by_cases h0 : n ≤ 0
 ·rw [show cj n = 0 from by simp [cj, h0]]
  by_cases h1 : n = 0
  ·subst h1
   refine ae (F := vt) rfl rfl (az 300 _ _ _ _ ?_)
   repeat' (first | refine ab ?_ | (refine aa ?_ ?_ <;> intro h))
   refine ax ?_; rfl
  ·have h2 : n < 0 := by omega
   refine ae (F := vt) rfl rfl (az 300 _ _ _ _ ?_)
   repeat' (first | refine ab ?_ | (refine aa ?_ ?_ <;> intro h))
   refine ax ?_; first | rfl | (simp [h2])
 ·by_cases h1 : n ≤ 32
  ·rw [show ((cj n : Nat) : Int) = n from by simp [cj, h0, h1]; omega]
   refine ae (F := vt) rfl rfl (az 300 _ _ _ _ ?_)
   repeat' (first | refine ab ?_ | (refine aa ?_ ?_ <;> intro h))
   refine ax ?_; rfl
  ·rw [show cj n = 32 from by simp [cj, h0, h1]]
   refine ae (F := vt) rfl rfl (az 300 _ _ _ _ ?_)
   repeat' (first | refine ab ?_ | (refine aa ?_ ?_ <;> intro h))
   refine ax ?_; rfl
theorem yU (n : Int) : ah G 184 [.int .i64 n, .int .i64 32] [] ⟨.int .i64 (cj n : Nat), []⟩ := by
 by_cases h0 : n ≤ 0
 ·rw [show cj n = 0 from by simp [cj, h0]]
  by_cases h1 : n = 0
  ·subst h1
   refine ae (F := vu) rfl rfl (az 300 _ _ _ _ ?_)
   repeat' (first | refine ab ?_ | (refine aa ?_ ?_ <;> intro h))
   refine ax ?_; rfl
  ·have h2 : n < 0 := by omega
   refine ae (F := vu) rfl rfl (az 300 _ _ _ _ ?_)
   repeat' (first | refine ab ?_ | (refine aa ?_ ?_ <;> intro h))
   refine ax ?_; first | rfl | (simp [h2])
 ·by_cases h1 : n ≤ 32
  ·rw [show ((cj n : Nat) : Int) = n from by simp [cj, h0, h1]; omega]
   refine ae (F := vu) rfl rfl (az 300 _ _ _ _ ?_)
   repeat' (first | refine ab ?_ | (refine aa ?_ ?_ <;> intro h))
   refine ax ?_; rfl
  ·rw [show cj n = 32 from by simp [cj, h0, h1]]
   refine ae (F := vu) rfl rfl (az 300 _ _ _ _ ?_)
   repeat' (first | refine ab ?_ | (refine aa ?_ ?_ <;> intro h))
   refine ax ?_; rfl
theorem xl (n : Int) : ah G 183 [.int .i64 n] [] ⟨.int .u32 (iA (cj n) : Nat), []⟩ := by
 have hc := vR n
 have hl := qf n
 generalize cj n = c at *
 refine ae (F := QS) rfl rfl (az 300 _ _ _ _ ?_)
 repeat' ((conv => whnf); first | refine alI (n := c) ?_ (by omega) (by omega) | refine dz ?_ | (refine aa ?_ ?_ <;> intro h))
 refine ax ?_; rfl
theorem xo (x : Nat) (n : Int) (hx : x < 4294967296) : ah G 181 [.int .u32 (x : Int), .int .i64 n] [] ⟨.int .u32 (eW x (cj n) : Nat), []⟩ := by
 have hm := xl n
 have hl := qf n
 rw [← SI x (cj n) hx hl]
 have hb : iA (cj n) < 4294967296 := by unfold iA; have := Nat.pow_pos (n := 32 - cj n) (show 0 < 2 by omega); omega
 generalize iA (cj n) = mk at *
 refine ae (F := QW) rfl rfl (az 300 _ _ _ _ ?_)
 repeat' ((conv => whnf); first | refine Zy ?_ hx hb | refine dz ?_ | (refine aa ?_ ?_ <;> intro h))
 refine ax ?_; rfl
theorem Cr (x i : Nat) (hx : x < 4294967296) (hi : i < 32) : ah G 185 [.int .u32 (x : Int), .int .i64 (i : Int)] [] ⟨.int .i64 (x / 2 ^ (31 - i) % 2 : Nat), []⟩ := by
 have he : (31 - (i : Int)).toNat = 31 - i := by omega
 have hd : x / 2 ^ (31 - i) < 4294967296 := Nat.lt_of_le_of_lt (Nat.div_le_self _ _) hx
 have hm : x / 2 ^ (31 - i) % 2 < 2 := Nat.mod_lt _ (by omega)
 rw [← he] at hd hm ⊢
 refine ae (F := QR) rfl rfl (az 300 _ _ _ _ ?_)
 repeat' ((conv => whnf); first | refine Zu ?_ (by omega) (by omega) | refine alJ hd ?_ | refine dz ?_ | (refine aa ?_ ?_ <;> intro h))
 refine ax ?_; rfl
theorem pv (x c : Nat) (hx : x < 4294967296) (hc : c ≤ 32) : ∀ (d i : Nat) (T : List (Nat × AV)) (H : aq) (ct : Nat) (hd : d + i = c),
  Ev G ⟨QT, ⟨(9, .int .i64 (i : Int)) :: (0, .int .u32 (x : Int)) :: (5, .int .u32 (eW x i : Nat)) :: (8, .int .i64 (c : Int)) :: T, H, ct⟩, [.t 4], 0⟩ ⟨.int .u32 (eW x c : Nat), []⟩
 | 0, i, T, H, ct, hd => by
  obtain rfl : i = c := by omega
  refine evl ?_
  repeat' (first | refine ab ?_ | (refine aa ?_ ?_ <;> intro h))
  refine ax ?_; rfl
 | d + 1, i, T, H, ct, hd => by
  have ha := Cr x i hx (by omega)
  have hb : x / 2 ^ (31 - i) % 2 < 2 := Nat.mod_lt _ (by omega)
  have hk := Jw x i (by omega)
  have hl := sw x i
  have hs : x / 2 ^ (31 - i) % 2 * 2 ^ (31 - i) < 4294967296 := by
   have h1 : (2 : Nat) ^ (31 - i) ≤ 2 ^ 31 := Nat.pow_le_pow_right (by omega) (by omega)
   have h2 := Nat.mul_le_mul_right (2 ^ (31 - i)) (show x / 2 ^ (31 - i) % 2 ≤ 1 by omega)
   omega
  generalize x / 2 ^ (31 - i) % 2 = b at *
  generalize hki : eW x i = ki at *
  refine evl ?_
  repeat' ((conv => whnf); first | refine alG (m := 31 - i) ?_ (by omega) (by omega) hb | refine alH ?_ (by omega) hs | refine dz ?_ | (refine aa ?_ ?_ <;> intro h))
  rw [hk]
  refine ag [9, 0, 5, 8] [] ?_
  exact pv x c hx hc d (i + 1) _ _ _ (by omega)
theorem xn (x : Nat) (n : Int) (hx : x < 4294967296) : ah G 182 [.int .u32 (x : Int), .int .i64 n] [] ⟨.int .u32 (eW x (cj n) : Nat), []⟩ := by
 have hm := yU n
 have hl := qf n
 have h0 := Jv x hx
 generalize cj n = c at *
 refine ae (F := QV) rfl rfl (az 300 _ _ _ _ ?_)
 repeat' (first | refine ab ?_ | (refine aa ?_ ?_ <;> intro h))
 refine ag [9, 0, 5, 8] [] ?_
 have := pv x c hx hl c 0
 rw [h0] at this
 exact this _ _ _ rfl
def bF (p : Pfx) : Bool := decide (0 ≤ p.len ∧ p.len ≤ 32 ∧ (eW p.addr.toNat p.len.toNat : Int) = p.addr)
theorem mY (p : Pfx) (h : p.ok) : ah G 178 [.agg p.enc] [] ⟨.bool (bF p), []⟩ := by
 obtain ⟨a, n⟩ := p
 obtain ⟨x, rfl⟩ : ∃ x : Nat, a = x := ⟨a.toNat, by have := h.addr; unfold okU at this; simp only at this; omega⟩
 have hx : x < 4294967296 := by have := h.addr; unfold okU at this; simp only at this; omega
 have hk := xo x n hx
 have hkl := sw x (cj n)
 by_cases hn : 0 ≤ n ∧ n ≤ 32
 ·obtain ⟨n0, n1⟩ := hn
  have hc : cj n = n.toNat := by unfold cj; repeat' split <;> omega
  rw [hc] at hk hkl
  by_cases hq : eW x n.toNat = x
  ·rw [show bF ⟨x, n⟩ = true from by simp [bF, n0, n1, hq]]
   rw [hq] at hk
   refine ae (F := vx) rfl rfl (az 300 _ _ _ _ ?_)
   repeat' (first | refine ab ?_ | (refine aa ?_ ?_ <;> intro h))
   refine ax ?_; simp
  ·rw [show bF ⟨x, n⟩ = false from by simp only [bF, decide_eq_false_iff_not]; intro hh; exact hq (by have := hh.2.2; simp only [Int.toNat_natCast] at this; omega)]
   have hq2 : ¬ ((eW x n.toNat : Nat) : Int) = (x : Int) := by omega
   generalize eW x n.toNat = kq at *
   refine ae (F := vx) rfl rfl (az 300 _ _ _ _ ?_)
   repeat' (first | refine ab ?_ | (refine aa ?_ ?_ <;> intro h))
   refine ax ?_; simp [hq2]
 ·rw [show bF ⟨x, n⟩ = false from by simp [bF]; omega]
  by_cases n0 : 0 ≤ n
  ·have n1 : ¬ n ≤ 32 := by omega
   refine ae (F := vx) rfl rfl (az 300 _ _ _ _ ?_)
   repeat' (first | refine ab ?_ | (refine aa ?_ ?_ <;> intro h))
   refine ax ?_; rfl
  ·refine ae (F := vx) rfl rfl (az 300 _ _ _ _ ?_)
   repeat' (first | refine ab ?_ | (refine aa ?_ ?_ <;> intro h))
   refine ax ?_; rfl
end Go.AM.IR
namespace Go.AM.IR
theorem uG (p : Pfx) (h : p.ok) : ah G 179 [.agg p.enc] [] ⟨.bool (bF p), []⟩ := by
 obtain ⟨a, n⟩ := p
 obtain ⟨x, rfl⟩ : ∃ x : Nat, a = x := ⟨a.toNat, by have := h.addr; unfold okU at this; simp only at this; omega⟩
 have hx : x < 4294967296 := by have := h.addr; unfold okU at this; simp only at this; omega
 have hk := xn x n hx
 have hkl := sw x (cj n)
 by_cases hn : 0 ≤ n ∧ n ≤ 32
 ·obtain ⟨n0, n1⟩ := hn
  have hc : cj n = n.toNat := by unfold cj; repeat' split <;> omega
  rw [hc] at hk hkl
  by_cases hq : eW x n.toNat = x
  ·rw [show bF ⟨x, n⟩ = true from by simp [bF, n0, n1, hq]]
   rw [hq] at hk
   refine ae (F := vv) rfl rfl (az 300 _ _ _ _ ?_)
   repeat' (first | refine ab ?_ | (refine aa ?_ ?_ <;> intro h))
   refine ax ?_; simp
  ·rw [show bF ⟨x, n⟩ = false from by simp only [bF, decide_eq_false_iff_not]; intro hh; exact hq (by have := hh.2.2; simp only [Int.toNat_natCast] at this; omega)]
   have hq2 : ¬ ((eW x n.toNat : Nat) : Int) = (x : Int) := by omega
   generalize eW x n.toNat = kq at *
   refine ae (F := vv) rfl rfl (az 300 _ _ _ _ ?_)
   repeat' (first | refine ab ?_ | (refine aa ?_ ?_ <;> intro h))
   refine ax ?_; simp [hq2]
 ·rw [show bF ⟨x, n⟩ = false from by simp [bF]; omega]
  by_cases n0 : 0 ≤ n
  ·have n1 : ¬ n ≤ 32 := by omega
   refine ae (F := vv) rfl rfl (az 300 _ _ _ _ ?_)
   repeat' (first | refine ab ?_ | (refine aa ?_ ?_ <;> intro h))
   refine ax ?_; rfl
  ·refine ae (F := vv) rfl rfl (az 300 _ _ _ _ ?_)
   repeat' (first | refine ab ?_ | (refine aa ?_ ?_ <;> intro h))
   refine ax ?_; rfl
def bT (p q : Pfx) : Int := if p.addr < q.addr ∨ (p.addr = q.addr ∧ p.len < q.len) then -1 else if p = q then 0 else 1
theorem qd (p q : Pfx) : ah G 172 [.agg p.enc, .agg q.enc] [] ⟨.int .i64 (bT p q), []⟩ := by
 have hee : (p = q) ↔ (p.addr = q.addr ∧ p.len = q.len) := by cases p; cases q; simp
 by_cases h1 : p.addr < q.addr
 ·rw [show bT p q = -1 from by simp [bT, h1]]
  refine ae (F := sJ) rfl rfl (az 300 _ _ _ _ ?_)
  repeat' (first | refine ab ?_ | (refine aa ?_ ?_ <;> intro h))
  all_goals (refine ax ?_; first | rfl | (exfalso; omega))
 ·by_cases h2 : p.addr = q.addr
  ·by_cases h3 : p.len < q.len
   ·rw [show bT p q = -1 from by simp [bT, h2, h3]]
    refine ae (F := sJ) rfl rfl (az 300 _ _ _ _ ?_)
    repeat' (first | refine ab ?_ | (refine aa ?_ ?_ <;> intro h))
    all_goals (refine ax ?_; first | rfl | (exfalso; omega))
   ·by_cases h4 : p.len = q.len
    ·rw [show bT p q = 0 from by simp [bT, h2, h4, hee]]
     refine ae (F := sJ) rfl rfl (az 300 _ _ _ _ ?_)
     repeat' (first | refine ab ?_ | (refine aa ?_ ?_ <;> intro h))
     all_goals (refine ax ?_; first | rfl | (exfalso; omega))
    ·rw [show bT p q = 1 from by simp [bT, h2, h3, h4, hee]]
     refine ae (F := sJ) rfl rfl (az 300 _ _ _ _ ?_)
     repeat' (first | refine ab ?_ | (refine aa ?_ ?_ <;> intro h))
     all_goals (refine ax ?_; first | rfl | (exfalso; omega))
  ·rw [show bT p q = 1 from by simp [bT, h1, h2, hee]]
   refine ae (F := sJ) rfl rfl (az 300 _ _ _ _ ?_)
   repeat' (first | refine ab ?_ | (refine aa ?_ ?_ <;> intro h))
   all_goals (refine ax ?_; first | rfl | (exfalso; omega))
theorem qc (p q : Pfx) : ah G 180 [.agg p.enc, .agg q.enc] [] ⟨.int .i64 (bT p q), []⟩ := by
 have hee : (p = q) ↔ (p.addr = q.addr ∧ p.len = q.len) := by cases p; cases q; simp
 by_cases h1 : p.addr < q.addr
 ·rw [show bT p q = -1 from by simp [bT, h1]]
  refine ae (F := sI) rfl rfl (az 300 _ _ _ _ ?_)
  repeat' (first | refine ab ?_ | (refine aa ?_ ?_ <;> intro h))
  all_goals (refine ax ?_; first | rfl | (exfalso; omega))
 ·by_cases h2 : p.addr = q.addr
  ·by_cases h3 : p.len < q.len
   ·rw [show bT p q = -1 from by simp [bT, h2, h3]]
    refine ae (F := sI) rfl rfl (az 300 _ _ _ _ ?_)
    repeat' (first | refine ab ?_ | (refine aa ?_ ?_ <;> intro h))
    all_goals (refine ax ?_; first | rfl | (exfalso; omega))
   ·by_cases h4 : p.len = q.len
    ·rw [show bT p q = 0 from by simp [bT, h2, h4, hee]]
     refine ae (F := sI) rfl rfl (az 300 _ _ _ _ ?_)
     repeat' (first | refine ab ?_ | (refine aa ?_ ?_ <;> intro h))
     all_goals (refine ax ?_; first | rfl | (exfalso; omega))
    ·rw [show bT p q = 1 from by simp [bT, h2, h3, h4, hee]]
     refine ae (F := sI) rfl rfl (az 300 _ _ _ _ ?_)
     repeat' (first | refine ab ?_ | (refine aa ?_ ?_ <;> intro h))
     all_goals (refine ax ?_; first | rfl | (exfalso; omega))
  ·rw [show bT p q = 1 from by simp [bT, h1, h2, hee]]
   refine ae (F := sI) rfl rfl (az 300 _ _ _ _ ?_)
   repeat' (first | refine ab ?_ | (refine aa ?_ ?_ <;> intro h))
   all_goals (refine ax ?_; first | rfl | (exfalso; omega))
end Go.AM.IR
namespace Go.AM.IR
theorem Ou (p q : Pfx) : bT p q = 0 ↔ p = q := by
 unfold bT
 split
 ·rename_i h
  constructor
  ·intro h1; omega
  ·rintro rfl; omega
 ·split <;> simp_all
theorem wO (p q : Pfx) : bT q p = - bT p q := by
 have hee : (p = q) ↔ (p.addr = q.addr ∧ p.len = q.len) := by cases p; cases q; simp
 have hee2 : (q = p) ↔ (p.addr = q.addr ∧ p.len = q.len) := by rw [← hee]; exact eq_comm
 unfold bT
 simp only [hee, hee2]
 repeat' split
 all_goals omega
def br : Option Pfx → List Pfx → Int
 | _, [] => 0
 | p, x :: r => if bF x = false then 1 else if p.any (fun q => decide (bT x q ≤ 0)) then 16 else br (some x) r
theorem mG (l : List Pfx) (hok : ∀ x ∈ l, x.ok) (hl : l.length < 2 ^ 40) (ln : Int) (hln : ln = l.length) : ∀ (rest done : List Pfx) (p : Option Pfx) (T : List (Nat × AV)) (H : aq) (c : Nat) (n : Int) (e : l = done ++ rest) (hn : n = done.length) (hp : p = done.getLast?), Ev G ⟨Rf, ⟨(5, .sl 2 (l.map Pfx.enc)) :: (6, .int .i64 ln) :: (7, .int .i64 n) :: (0, .sl 2 (l.map Pfx.enc)) :: T, H, c⟩, [.t 2], 0⟩ (⟨.int .i64 (br p rest), []⟩)
 | [], done, p, T, H, c, n, e, hn, hp => by
  have hd : l.length = done.length := by simp [e]
  have hll : (l.map Pfx.enc).length = l.length := by simp
  refine evl ?_
  repeat' (first | refine ab ?_ | (refine aa ?_ ?_ <;> intro h))
  all_goals try (refine ax ?_; first | rfl | (simp [br, Bool.cond_eq_ite, *]; done) | (simp [br, Bool.cond_eq_ite, *]; omega) | (unfold br; repeat' split; all_goals first | rfl | (exfalso; omega) | (simp_all; done) | (simp_all; omega)))
 | x :: r, done, p, T, H, c, n, e, hn, hp => by
  have hd : l.length = done.length + (r.length + 1) := by simp [e]
  have hll : (l.map Pfx.enc).length = l.length := by simp
  have hx : (l.map Pfx.enc)[n.toNat]? = some (Pfx.enc x) := by simp [e, hn]
  have hv := mY x (hok x (by simp [e]))
  rcases List.eq_nil_or_concat done with hd0 | ⟨d, q, hd1⟩
  ·have hn' : n = 0 := by rw [hn, hd0]; rfl
   obtain rfl : p = none := by rw [hp, hd0]; rfl
   cases hvx : bF x
   ·rw [hvx] at hv
    rw [show br none (x :: r) = 1 from by simp [br, hvx]]
    refine evl ?_
    repeat' (first | refine ab ?_ | (refine aa ?_ ?_ <;> intro h))
    refine ax ?_; rfl
   ·rw [hvx] at hv
    rw [show br none (x :: r) = br (some x) r from by simp [br, hvx]]
    refine evl ?_
    repeat' (first | refine ab ?_ | (refine aa ?_ ?_ <;> intro h))
    refine ag [5, 6, 7, 0] [] ?_; exact mG l hok hl ln hln r (done ++ [x]) (some x) _ _ _ (n + 1) (by simp [e]) (by simp [hn] <;> omega) (by simp)
  ·have hn' : n - 1 = d.length := by rw [hn, hd1]; simp
   have hn2 : n > 0 := by omega
   obtain rfl : p = some q := by rw [hp, hd1]; simp
   have hy : (l.map Pfx.enc)[(n - 1).toNat]? = some (Pfx.enc q) := by rw [e, hd1, hn']; simp
   have hb : (n - 1).toNat < (l.map Pfx.enc).length := by rw [hll, hd, hd1]; simp; omega
   have hc := qd x q
   cases hvx : bF x
   ·rw [hvx] at hv
    rw [show br (some q) (x :: r) = 1 from by simp [br, hvx]]
    refine evl ?_
    repeat' (first | refine ab ?_ | (refine aa ?_ ?_ <;> intro h))
    refine ax ?_; rfl
   ·rw [hvx] at hv
    by_cases hcx : bT x q ≤ 0
    ·rw [show br (some q) (x :: r) = 16 from by simp [br, hvx, hcx]]
     generalize bT x q = cv at *
     refine evl ?_
     repeat' (first | refine ab ?_ | (refine aa ?_ ?_ <;> intro h))
     refine ax ?_; rfl
    ·rw [show br (some q) (x :: r) = br (some x) r from by simp [br, hvx, hcx]]
     generalize bT x q = cv at *
     refine evl ?_
     repeat' (first | refine ab ?_ | (refine aa ?_ ?_ <;> intro h))
     refine ag [5, 6, 7, 0] [] ?_; exact mG l hok hl ln hln r (done ++ [x]) (some x) _ _ _ (n + 1) (by simp [e]) (by simp [hn] <;> omega) (by simp)
theorem oU (l : List Pfx) (hl : l.length < 2 ^ 40) (hok : ∀ x ∈ l, x.ok) : ah G 171 [.sl 2 (l.map Pfx.enc)] [] ⟨.int .i64 (br none l), []⟩ := by
 have l1 : (l.map Pfx.enc).length = l.length := by simp
 refine ae (F := Rh) rfl rfl (az 300 _ _ _ _ ?_)
 repeat' (first | refine ab ?_ | (refine aa ?_ ?_ <;> intro h))
 refine ag [5, 6, 7, 0] [] ?_
 rw [l1]
 exact mG l hok hl _ rfl l [] none _ _ _ 0 rfl rfl rfl
theorem mF (l : List Pfx) (hok : ∀ x ∈ l, x.ok) (hl : l.length < 2 ^ 40) (ln : Int) (hln : ln = l.length) : ∀ (rest done : List Pfx) (p : Option Pfx) (T : List (Nat × AV)) (H : aq) (c : Nat) (n : Int) (e : l = done ++ rest) (hn : n = done.length) (hp : p = done.getLast?), Ev G ⟨QZ, ⟨(5, .sl 2 (l.map Pfx.enc)) :: (6, .int .i64 ln) :: (7, .int .i64 n) :: (0, .sl 2 (l.map Pfx.enc)) :: T, H, c⟩, [.t 2], 0⟩ (⟨.int .i64 (br p rest), []⟩)
 | [], done, p, T, H, c, n, e, hn, hp => by
  have hd : l.length = done.length := by simp [e]
  have hll : (l.map Pfx.enc).length = l.length := by simp
  refine evl ?_
  repeat' (first | refine ab ?_ | (refine aa ?_ ?_ <;> intro h))
  all_goals try (refine ax ?_; first | rfl | (simp [br, Bool.cond_eq_ite, *]; done) | (simp [br, Bool.cond_eq_ite, *]; omega) | (unfold br; repeat' split; all_goals first | rfl | (exfalso; omega) | (simp_all; done) | (simp_all; omega)))
 | x :: r, done, p, T, H, c, n, e, hn, hp => by
  have hd : l.length = done.length + (r.length + 1) := by simp [e]
  have hll : (l.map Pfx.enc).length = l.length := by simp
  have hx : (l.map Pfx.enc)[n.toNat]? = some (Pfx.enc x) := by simp [e, hn]
  have hv := uG x (hok x (by simp [e]))
  rcases List.eq_nil_or_concat done with hd0 | ⟨d, q, hd1⟩
  ·have hn' : n = 0 := by rw [hn, hd0]; rfl
   obtain rfl : p = none := by rw [hp, hd0]; rfl
   cases hvx : bF x
   ·rw [hvx] at hv
    rw [show br none (x :: r) = 1 from by simp [br, hvx]]
    refine evl ?_
    repeat' (first | refine ab ?_ | (refine aa ?_ ?_ <;> intro h))
    refine ax ?_; rfl
   ·rw [hvx] at hv
    rw [show br none (x :: r) = br (some x) r from by simp [br, hvx]]
    refine evl ?_
    repeat' (first | refine ab ?_ | (refine aa ?_ ?_ <;> intro h))
    refine ag [5, 6, 7, 0] [] ?_; exact mF l hok hl ln hln r (done ++ [x]) (some x) _ _ _ (n + 1) (by simp [e]) (by simp [hn] <;> omega) (by simp)
  ·have hn' : n - 1 = d.length := by rw [hn, hd1]; simp
   have hn2 : n > 0 := by omega
   obtain rfl : p = some q := by rw [hp, hd1]; simp
   have hy : (l.map Pfx.enc)[(n - 1).toNat]? = some (Pfx.enc q) := by rw [e, hd1, hn']; simp
   have hb : (n - 1).toNat < (l.map Pfx.enc).length := by rw [hll, hd, hd1]; simp; omega
   have hc := qc q x
   have hsw := wO x q
   cases hvx : bF x
   ·rw [hvx] at hv
    rw [show br (some q) (x :: r) = 1 from by simp [br, hvx]]
    refine evl ?_
    repeat' (first | refine ab ?_ | (refine aa ?_ ?_ <;> intro h))
    refine ax ?_; rfl
   ·rw [hvx] at hv
    by_cases hcx : bT x q ≤ 0
    ·rw [show br (some q) (x :: r) = 16 from by simp [br, hvx, hcx]]
     generalize bT x q = cv at *
     generalize bT q x = cw at *
     refine evl ?_
     repeat' (first | refine ab ?_ | (refine aa ?_ ?_ <;> intro h))
     refine ax ?_; rfl
    ·rw [show br (some q) (x :: r) = br (some x) r from by simp [br, hvx, hcx]]
     generalize bT x q = cv at *
     generalize bT q x = cw at *
     refine evl ?_
     repeat' (first | refine ab ?_ | (refine aa ?_ ?_ <;> intro h))
     refine ag [5, 6, 7, 0] [] ?_; exact mF l hok hl ln hln r (done ++ [x]) (some x) _ _ _ (n + 1) (by simp [e]) (by simp [hn] <;> omega) (by simp)
theorem oT (l : List Pfx) (hl : l.length < 2 ^ 40) (hok : ∀ x ∈ l, x.ok) : ah G 174 [.sl 2 (l.map Pfx.enc)] [] ⟨.int .i64 (br none l), []⟩ := by
 have l1 : (l.map Pfx.enc).length = l.length := by simp
 refine ae (F := Rc) rfl rfl (az 300 _ _ _ _ ?_)
 repeat' (first | refine ab ?_ | (refine aa ?_ ?_ <;> intro h))
 refine ag [5, 6, 7, 0] [] ?_
 rw [l1]
 exact mF l hok hl _ rfl l [] none _ _ _ 0 rfl rfl rfl
def e9 : Nat → List Pfx → List Pfx → Bool
 | 0, _, _ => false
 | _ + 1, [], _ => false
 | _ + 1, _ :: _, [] => false
 | N + 1, x :: a, y :: b => if bT x y = 0 then true else if bT x y < 0 then e9 N a (y :: b) else e9 N (x :: a) b
theorem mQ (a b : List Pfx) (ha : a.length < 2 ^ 40) (hb : b.length < 2 ^ 40) : ∀ (N : Nat) (ra da rb db : List Pfx) (T : List (Nat × AV)) (H : aq) (c : Nat) (i k : Int) (e1 : a = da ++ ra) (e2 : b = db ++ rb) (hi : i = da.length) (hk : k = db.length) (hN : ra.length + rb.length < N),
  Ev G ⟨QX, ⟨(5, .int .i64 i) :: (6, .int .i64 k) :: (1, .sl 2 (b.map Pfx.enc)) :: (0, .sl 2 (a.map Pfx.enc)) :: T, H, c⟩, [.t 4], 0⟩ (⟨.bool (e9 N ra rb), []⟩)
 | 0, _, _, _, _, _, _, _, _, _, _, _, _, _, hN => by omega
 | N + 1, [], da, rb, db, T, H, c, i, k, e1, e2, hi, hk, hN => by
  have hd : a.length = da.length := by simp [e1]
  have hll : (a.map Pfx.enc).length = a.length := by simp
  rw [show e9 (N + 1) [] rb = false from rfl]
  refine evl ?_
  repeat' (first | refine ab ?_ | (refine aa ?_ ?_ <;> intro h))
  refine ax ?_; rfl
 | N + 1, x :: ra, da, [], db, T, H, c, i, k, e1, e2, hi, hk, hN => by
  have hd : a.length = da.length + (ra.length + 1) := by simp [e1]
  have hd2 : b.length = db.length := by simp [e2]
  have hll : (a.map Pfx.enc).length = a.length := by simp
  have hl2 : (b.map Pfx.enc).length = b.length := by simp
  rw [show e9 (N + 1) (x :: ra) [] = false from rfl]
  refine evl ?_
  repeat' (first | refine ab ?_ | (refine aa ?_ ?_ <;> intro h))
  refine ax ?_; rfl
 | N + 1, x :: ra, da, y :: rb, db, T, H, c, i, k, e1, e2, hi, hk, hN => by
  have hd : a.length = da.length + (ra.length + 1) := by simp [e1]
  have hd2 : b.length = db.length + (rb.length + 1) := by simp [e2]
  have hll : (a.map Pfx.enc).length = a.length := by simp
  have hl2 : (b.map Pfx.enc).length = b.length := by simp
  have hx : (a.map Pfx.enc)[i.toNat]? = some x.enc := by simp [e1, hi]
  have hy : (b.map Pfx.enc)[k.toNat]? = some y.enc := by simp [e2, hk]
  have hc := qc x y
  simp only [List.length_cons] at hN
  by_cases h0 : bT x y = 0
  ·rw [show e9 (N + 1) (x :: ra) (y :: rb) = true from by simp [e9, h0]]
   generalize bT x y = cv at *
   refine evl ?_
   repeat' (first | refine ab ?_ | (refine aa ?_ ?_ <;> intro h))
   refine ax ?_; rfl
  ·by_cases h1 : bT x y < 0
   ·rw [show e9 (N + 1) (x :: ra) (y :: rb) = e9 N ra (y :: rb) from by simp [e9, h0, h1]]
    generalize bT x y = cv at *
    refine evl ?_
    repeat' (first | refine ab ?_ | (refine aa ?_ ?_ <;> intro h))
    refine ag [5, 6, 1, 0] [] ?_; exact mQ a b ha hb N ra (da ++ [x]) (y :: rb) db _ _ _ (i + 1) k (by simp [e1]) e2 (by simp [hi]) hk (by simp only [List.length_cons]; omega)
   ·rw [show e9 (N + 1) (x :: ra) (y :: rb) = e9 N (x :: ra) rb from by simp [e9, h0, h1]]
    generalize bT x y = cv at *
    refine evl ?_
    repeat' (first | refine ab ?_ | (refine aa ?_ ?_ <;> intro h))
    refine ag [5, 6, 1, 0] [] ?_; exact mQ a b ha hb N (x :: ra) da rb (db ++ [y]) _ _ _ i (k + 1) e1 (by simp [e2]) hi (by simp [hk]) (by simp only [List.length_cons]; omega)
def nT (a b : List Pfx) : Bool := e9 (a.length + b.length + 1) a b
theorem Bp (a b : List Pfx) (ha : a.length < 2 ^ 40) (hb : b.length < 2 ^ 40) : ah G 175 [.sl 2 (a.map Pfx.enc), .sl 2 (b.map Pfx.enc)] [] ⟨.bool (nT a b), []⟩ := by
 refine ae (F := QY) rfl rfl (az 300 _ _ _ _ ?_)
 repeat' (first | refine ab ?_ | (refine aa ?_ ?_ <;> intro h))
 refine ag [5, 6, 1, 0] [] ?_
 exact mQ a b ha hb (a.length + b.length + 1) a [] b [] _ _ _ 0 0 rfl rfl rfl rfl (by omega)
end Go.AM.IR
namespace Go.AM.IR
theorem w0 (acc : List UInt8) (x j : Nat) (i : Int) (hi : i = j) : byteCells acc ++ [[AV.int .u8 (UInt8.ofNat (x / 2 ^ (8 * i).toNat)).toNat]] = byteCells (acc ++ [UInt8.ofNat (x / 256 ^ j)]) := by
 subst hi
 rw [show (8 * (j : Int)).toNat = 8 * j from by omega, TR]
 simp [byteCells]
theorem rC (x : Nat) : ∀ (j : Nat) (acc : List UInt8) (T : List (Nat × AV)) (H : aq) (c g m : Nat) (key : Nat) (es : List (List AV)) (i : Int) (hk : key = 69) (hi : i = (j : Int) - 1) (hj : j ≤ 8) (hm : m = acc.length) (hes : es = byteCells acc) (ha : acc.length + j < 2 ^ 40),
  Ev G ⟨RC, ⟨(6, .int .i64 i) :: (1, .int .u64 (x : Int)) :: (5, .vs 69 g m) :: T, (69, some (g, .vec 1 es)) :: H, c⟩, [.t 4], 0⟩ (rB (acc ++ be j x))
 | 0, acc, T, H, c, g, m, key, es, i, hk, hi, hj, hm, hes, ha => by
  refine evl ?_
  repeat' (first | refine ab ?_ | (refine aa ?_ ?_ <;> intro h))
  refine e7 69 ⟨_, _, _, rfl, rfl, ?_, ?_⟩
  ·simp [hm, be]
  ·simp [hes, be]
 | j + 1, acc, T, H, c, g, m, key, es, i, hk, hi, hj, hm, hes, ha => by
  have hel : es.length = acc.length := by simp [hes]
  rw [show acc ++ be (j + 1) x = acc ++ [UInt8.ofNat (x / 256 ^ j)] ++ be j x from by simp [be]]
  refine evl ?_
  repeat' (first | refine ab ?_ | (refine aa ?_ ?_ <;> intro h))
  refine ag [6, 1, 5] [69] ?_
  refine rC x j (acc ++ [UInt8.ofNat (x / 256 ^ j)]) _ _ _ _ _ key _ (i - 1) hk (by omega) (by omega) ?_ ?_ ?_
  ·simp [hm]
  ·rw [hes]; exact w0 acc x j i (by omega)
  ·simp; omega
theorem tP (n x : Nat) (hn : n ≤ 8) : ah G 120 [.int .i64 n, .int .u64 (x : Int)] [] (rB (be n x)) := by
 refine ae (F := RE) rfl rfl (az 300 _ _ _ _ ?_)
 repeat' (first | refine ab ?_ | (refine aa ?_ ?_ <;> intro h))
 refine cH 69 1 [(5, .vs 69 _ 0)] [] ⟨LeP.nilV _ _ _, trivial⟩ trivial ?_
 refine ag [6, 1, 5] [69] ?_
 exact rC x n [] _ _ _ _ _ 69 _ _ rfl rfl hn rfl rfl (by simp; omega)
def cat (l : List (List UInt8)) : List UInt8 := l.flatMap id
def gA (l : List UInt8) : List AV := [.sl 1 (byteCells l)]
theorem rX (l : List (List UInt8)) (hc : (cat l).length < 2 ^ 40) (hl : l.length < 2 ^ 40) (ln : Int) (hln : ln = l.length) : ∀ (rest done : List (List UInt8)) (g m : Nat) (es : List (List AV)) (T : List (Nat × AV)) (H : aq) (c : Nat) (n : Int) (e : l = done ++ rest) (hn : n = done.length) (hm : m = (cat done).length) (hes : es = byteCells (cat done)), Ev G ⟨Nm, ⟨(22, .sl 1 (l.map gA)) :: (23, .int .i64 ln) :: (24, .int .i64 n) :: (6, .vs 85 g m) :: T, (85, some (g, .vec 1 es)) :: H, c⟩, [.t 2], 0⟩ (rB (cat l))
 | [], done, g, m, es, T, H, c, n, e, hn, hm, hes => by
  have hd : l.length = done.length := by simp [e]
  have hll : (l.map gA).length = l.length := by simp
  obtain rfl : l = done := by simpa using e
  refine evl ?_
  repeat' (first | refine ab ?_ | (refine aa ?_ ?_ <;> intro h))
  exact e7 85 ⟨_, _, _, rfl, rfl, hm, hes⟩
 | x :: r, done, g, m, es, T, H, c, n, e, hn, hm, hes => by
  have hd : l.length = done.length + (r.length + 1) := by simp [e]
  have hll : (l.map gA).length = l.length := by simp
  have hx : (l.map gA)[n.toNat]? = some (gA x) := by simp [e, hn]
  have hcl : (cat l).length = (cat done).length + (x.length + (cat r).length) := by rw [e]; simp [cat]
  have hbl := au x
  have hel : m = es.length := by rw [hm, hes]; simp
  refine evl ?_
  repeat' (first | refine ab ?_ | (refine aa ?_ ?_ <;> intro h))
  refine ag [22, 23, 24, 6] [85] ?_; exact rX l hc hl ln hln r (done ++ [x]) _ _ _ _ _ _ (n + 1) (by simp [e]) (by simp [hn] <;> omega) (by simp [hm, cat]) (by rw [hes]; simp [cat])
theorem rG (l : List (List UInt8)) (hc : (cat l).length < 2 ^ 40) (hl : l.length < 2 ^ 40) (ln : Int) (hln : ln = l.length) : ∀ (rest done : List (List UInt8)) (s : Int) (T : List (Nat × AV)) (H : aq) (c : Nat) (n : Int) (e : l = done ++ rest) (hn : n = done.length) (hs : s = (cat done).length), Ev G ⟨RF, ⟨(9, .sl 1 (l.map gA)) :: (10, .int .i64 ln) :: (11, .int .i64 n) :: (3, .int .i64 s) :: (0, .sl 1 (l.map gA)) :: T, H, c⟩, [.t 2], 0⟩ (rB (cat l))
 | [], done, s, T, H, c, n, e, hn, hs => by
  have hd : l.length = done.length := by simp [e]
  have hll : (l.map gA).length = l.length := by simp
  obtain rfl : l = done := by simpa using e
  refine evl ?_
  repeat' (first | refine ab ?_ | (refine aa ?_ ?_ <;> intro h))
  refine ag [22, 23, 24, 6] [85] ?_
  exact rX l hc hl _ (by simp) l [] _ 0 _ _ _ _ 0 rfl rfl rfl rfl
 | x :: r, done, s, T, H, c, n, e, hn, hs => by
  have hd : l.length = done.length + (r.length + 1) := by simp [e]
  have hll : (l.map gA).length = l.length := by simp
  have hx : (l.map gA)[n.toNat]? = some (gA x) := by simp [e, hn]
  have hcl : (cat l).length = (cat done).length + (x.length + (cat r).length) := by rw [e]; simp [cat]
  have hbl := au x
  refine evl ?_
  repeat' (first | refine ab ?_ | (refine aa ?_ ?_ <;> intro h))
  refine ag [9, 10, 11, 3, 0] [] ?_; exact rG l hc hl ln hln r (done ++ [x]) _ _ _ _ (n + 1) (by simp [e]) (by simp [hn] <;> omega) (by rw [hs]; simp [cat])
theorem xp (l : List (List UInt8)) (hl : l.length < 2 ^ 40) (hc : (cat l).length < 2 ^ 40) : ah G 119 [.sl 1 (l.map gA)] [] (rB (cat l)) := by
 refine ae (F := RG) rfl rfl (az 300 _ _ _ _ ?_)
 repeat' (first | refine ab ?_ | (refine aa ?_ ?_ <;> intro h))
 refine ag [9, 10, 11, 3, 0] [] ?_
 exact rG l hc hl _ (by simp) l [] _ _ _ _ 0 rfl rfl rfl
theorem cQ (b : List UInt8) (hb : b.length < 2 ^ 39) (n x : Nat) (hn : n ≤ 8) : ah G 109 [.sl 1 (byteCells b), .int .i64 n, .int .u64 (x : Int)] [] (rB (b ++ be n x)) := by
 have hj := xp [b, be n x] (by simp) (by simp [cat, bu]; omega)
 rw [show cat [b, be n x] = b ++ be n x from by simp [cat]] at hj
 refine ae (F := RX) rfl rfl (az 300 _ _ _ _ ?_)
 repeat' (first | refine ab ?_ | refine kN (tP n x hn) ?_ | refine kB [(76, _, _)] ⟨rfl, pz trivial⟩ ?_ | refine kX [] [(77, _, _)] trivial ⟨rfl, pz trivial⟩ (hj) ?_ | (refine aa ?_ ?_ <;> intro h))
 exact e7 78 ⟨_, _, _, rfl, rfl, rfl, rfl⟩
end Go.AM.IR
namespace Go.AM.IR
def bC (l : List Seg) : List Int := l.flatMap (·.as)
def fY (l : List TLV) : Int := (l.map fun t => (t.value.length : Int) / 8).sum
structure AB (a : Attrs) : Prop where
 path : a.path.length < 2 ^ 40
 flat : (bC a.path).length < 2 ^ 40
 comms : a.comms.length < 2 ^ 40
 clusters : a.clusters.length < 2 ^ 40
 unknown : a.unknown.length < 2 ^ 40
 vals : ∀ t ∈ a.unknown, t.value.length < 2 ^ 40
 unk : fY a.unknown < 2 ^ 40
end Go.AM.IR
namespace Go.AM.IR
@[irreducible] def ic (k : Int) : Bool := k == 1 || k == 4
@[irreducible] def fc (k : Int) : Bool := k == 3 || k == 4
theorem jS (k : Int) : ah G 117 [.int .i64 k] [] ⟨.bool (ic k), []⟩ := by
 refine ae (F := RI) rfl rfl (az 300 _ _ _ _ ?_)
 repeat' (first | refine ab ?_ | (refine aa ?_ ?_ <;> intro h))
 all_goals try (refine ax ?_; first | rfl | (simp [ic, Bool.cond_eq_ite, *]; done) | (simp [ic, Bool.cond_eq_ite, *]; omega) | (unfold ic; repeat' split; all_goals first | rfl | (exfalso; omega) | (simp_all; done) | (simp_all; omega)))
theorem jx (k : Int) : ah G 118 [.int .i64 k] [] ⟨.bool (fc k), []⟩ := by
 refine ae (F := RH) rfl rfl (az 300 _ _ _ _ ?_)
 repeat' (first | refine ab ?_ | (refine aa ?_ ?_ <;> intro h))
 all_goals try (refine ax ?_; first | rfl | (simp [fc, Bool.cond_eq_ite, *]; done) | (simp [fc, Bool.cond_eq_ite, *]; omega) | (unfold fc; repeat' split; all_goals first | rfl | (exfalso; omega) | (simp_all; done) | (simp_all; omega)))
theorem xZ (k : Int) : ah G 81 [.int .i64 k] [] ⟨.bool (decide (0 ≤ k) && decide (k ≤ 4294967295)), []⟩ := by
 refine ae (F := f81) rfl rfl (az 300 _ _ _ _ ?_)
 repeat' (first | refine ab ?_ | (refine aa ?_ ?_ <;> intro h))
 all_goals try exact dnA
theorem ya (b : Bool) (e : Int) : ah G 74 [.bool b, .int .i64 e] [] ⟨.int .i64 (if b = true then e else 0), []⟩ := by
 refine ae (F := f74) rfl rfl (az 300 _ _ _ _ ?_)
 repeat' (first | refine ab ?_ | (refine aa ?_ ?_ <;> intro h))
 all_goals try exact dnA
def jM (has : Bool) (n low : Int) : Int := if has = true then (if n < low ∨ n > 4294967295 then 5 else 0) else (if n = 0 then 0 else 1)
theorem sm (has : Bool) (n low : Int) : ah G 76 [.bool has, .int .i64 n, .int .i64 low] [] ⟨.int .i64 (jM has n low), []⟩ := by
 refine ae (F := f76) rfl rfl (az 300 _ _ _ _ ?_)
 repeat' (first | refine ab ?_ | (refine aa ?_ ?_ <;> intro h))
 all_goals try (refine ax ?_; first | rfl | (simp [jM, Bool.cond_eq_ite, *]; done) | (simp [jM, Bool.cond_eq_ite, *]; omega) | (unfold jM; repeat' split; all_goals first | rfl | (exfalso; omega) | (simp_all; done) | (simp_all; omega)))
end Go.AM.IR
namespace Go.AM.IR
def cR : List Int → Int
 | [] => 0
 | x :: r => if x = 0 then cR r else x
theorem pE (l : List Int)  (hl : l.length < 2 ^ 40) (ln : Int) (hln : ln = l.length) : ∀ (rest done : List Int)  (T : List (Nat × AV)) (H : aq) (c : Nat) (n : Int) (e : l = done ++ rest) (hn : n = done.length) , Ev G ⟨UA, ⟨(5, .sl 1 (l.map bj)) :: (6, .int .i64 ln) :: (7, .int .i64 n) :: T, H, c⟩, [.t 2], 0⟩ ⟨.int .i64 (cR rest), []⟩
 | [], done,  T, H, c, n, e, hn => by
  have hd : l.length = done.length := by simp [e]
  have hll : (l.map bj).length = l.length := by simp
  refine evl ?_
  repeat' (first | refine ab ?_ | (refine aa ?_ ?_ <;> intro h))
  all_goals try (refine ax ?_; first | rfl | (simp [cR, Bool.cond_eq_ite, *]; done) | (simp [cR, Bool.cond_eq_ite, *]; omega) | (unfold cR; repeat' split; all_goals first | rfl | (exfalso; omega) | (simp_all; done) | (simp_all; omega)))
 | x :: r, done,  T, H, c, n, e, hn => by
  have hd : l.length = done.length + (r.length + 1) := by simp [e]
  have hll : (l.map bj).length = l.length := by simp
  have hx : (l.map bj)[n.toNat]? = some (bj x) := by simp [e, hn]
  refine evl ?_
  repeat' (first | refine ab ?_ | (refine aa ?_ ?_ <;> intro h))
  all_goals try (refine ax ?_; first | rfl | (simp [cR, Bool.cond_eq_ite, *]; done) | (simp [cR, Bool.cond_eq_ite, *]; omega) | (unfold cR; repeat' split; all_goals first | rfl | (exfalso; omega) | (simp_all; done) | (simp_all; omega)))
  rw [show cR (x :: r) = cR r from by simp [cR, *]]
  refine ag [5, 6, 7] [] ?_; exact pE l  hl ln hln r (done ++ [x])  _ _ _ (n + 1) (by simp [e]) (by simp [hn] <;> omega)
theorem xq (l : List Int) (hl : l.length < 2 ^ 40) : ah G 73 [.sl 1 (l.map bj)] [] ⟨.int .i64 (cR l), []⟩ := by
 refine ae (F := f73) rfl rfl (az 300 _ _ _ _ ?_)
 repeat' (first | refine ab ?_ | (refine aa ?_ ?_ <;> intro h))
 refine ag [5, 6, 7] [] ?_
 exact pE l hl _ (by simp) l [] _ _ _ 0 rfl rfl
theorem ot (l : List Int) (k : Int) (hl : l.length < 2 ^ 40) (ln : Int) (hln : ln = l.length) : ∀ (rest done : List Int)  (T : List (Nat × AV)) (H : aq) (c : Nat) (n : Int) (e : l = done ++ rest) (hn : n = done.length) , Ev G ⟨RZ, ⟨(7, .sl 1 (l.map bj)) :: (8, .int .i64 ln) :: (9, .int .i64 n) :: (0, .int .i64 k) :: T, H, c⟩, [.t 4], 0⟩ ⟨.bool (rest.any (· == k)), []⟩
 | [], done,  T, H, c, n, e, hn => by
  have hd : l.length = done.length := by simp [e]
  have hll : (l.map bj).length = l.length := by simp
  refine evl ?_
  repeat' (first | refine ab ?_ | (refine aa ?_ ?_ <;> intro h))
  all_goals try exact dnA
 | x :: r, done,  T, H, c, n, e, hn => by
  have hd : l.length = done.length + (r.length + 1) := by simp [e]
  have hll : (l.map bj).length = l.length := by simp
  have hx : (l.map bj)[n.toNat]? = some (bj x) := by simp [e, hn]
  refine evl ?_
  repeat' (first | refine ab ?_ | (refine aa ?_ ?_ <;> intro h))
  all_goals try exact dnA
  rw [show (x :: r).any (· == k) = r.any (· == k) from by simp [*]]
  refine ag [7, 8, 9, 0] [] ?_; exact ot l k hl ln hln r (done ++ [x])  _ _ _ (n + 1) (by simp [e]) (by simp [hn] <;> omega)
theorem iJ (k : Int) (l : List Int) (hl : l.length < 2 ^ 40) : ah G 107 [.int .i64 k, .sl 1 (l.map bj)] [] ⟨.bool (l.any (· == k)), []⟩ := by
 refine ae (F := R0) rfl rfl (az 300 _ _ _ _ ?_)
 repeat' (first | refine ab ?_ | (refine aa ?_ ?_ <;> intro h))
 refine ag [7, 8, 9, 0] [] ?_
 exact ot l k hl _ (by simp) l [] _ _ _ 0 rfl rfl
def clS : List Int → Int
 | [] => 0
 | x :: r => if x = 0 then 1 else clS r
theorem mu (l : List Int)  (hl : l.length < 2 ^ 40) (ln : Int) (hln : ln = l.length) : ∀ (rest done : List Int)  (T : List (Nat × AV)) (H : aq) (c : Nat) (n : Int) (e : l = done ++ rest) (hn : n = done.length) , Ev G ⟨Uy, ⟨(8, .sl 1 (l.map bf)) :: (9, .int .i64 ln) :: (10, .int .i64 n) :: T, H, c⟩, [.t 2], 0⟩ ⟨.int .i64 (clS rest), []⟩
 | [], done,  T, H, c, n, e, hn => by
  have hd : l.length = done.length := by simp [e]
  have hll : (l.map bf).length = l.length := by simp
  refine evl ?_
  repeat' (first | refine ab ?_ | (refine aa ?_ ?_ <;> intro h))
  all_goals try (refine ax ?_; first | rfl | (simp [clS, Bool.cond_eq_ite, *]; done) | (simp [clS, Bool.cond_eq_ite, *]; omega) | (unfold clS; repeat' split; all_goals first | rfl | (exfalso; omega) | (simp_all; done) | (simp_all; omega)))
 | x :: r, done,  T, H, c, n, e, hn => by
  have hd : l.length = done.length + (r.length + 1) := by simp [e]
  have hll : (l.map bf).length = l.length := by simp
  have hx : (l.map bf)[n.toNat]? = some (bf x) := by simp [e, hn]
  refine evl ?_
  repeat' (first | refine ab ?_ | (refine aa ?_ ?_ <;> intro h))
  all_goals try (refine ax ?_; first | rfl | (simp [clS, Bool.cond_eq_ite, *]; done) | (simp [clS, Bool.cond_eq_ite, *]; omega) | (unfold clS; repeat' split; all_goals first | rfl | (exfalso; omega) | (simp_all; done) | (simp_all; omega)))
  rw [show clS (x :: r) = clS r from by simp [clS, *]]
  refine ag [8, 9, 10] [] ?_; exact mu l  hl ln hln r (done ++ [x])  _ _ _ (n + 1) (by simp [e]) (by simp [hn] <;> omega)
def dI (l : List Int) : Int := if l.length > 64 then 4 else clS l
theorem sX (l : List Int) (hl : l.length < 2 ^ 40) : ah G 78 [.sl 1 (l.map bf)] [] ⟨.int .i64 (dI l), []⟩ := by
 have ll : (l.map bf).length = l.length := by simp
 refine ae (F := f78) rfl rfl (az 300 _ _ _ _ ?_)
 repeat' (first | refine ab ?_ | (refine aa ?_ ?_ <;> intro h))
 all_goals try (refine ax ?_; first | rfl | (simp [dI, Bool.cond_eq_ite, *]; done) | (simp [dI, Bool.cond_eq_ite, *]; omega) | (unfold dI; repeat' split; all_goals first | rfl | (exfalso; omega) | (simp_all; done) | (simp_all; omega)))
 rw [show dI l = clS l from by simp [dI]; omega]
 refine ag [8, 9, 10] [] ?_
 exact mu l hl _ (by simp) l [] _ _ _ 0 rfl rfl
end Go.AM.IR
namespace Go.AM.IR
theorem mt (k : Int) : ah G 106 [.int .i64 k] [] ⟨.bool (fc k), []⟩ := by
 have hr : ([3, 4] : List Int).any (· == k) = fc k := by
  unfold fc; simp only [List.any_cons, List.any_nil, Bool.or_false]
  rw [Bool.eq_iff_iff]; simp; omega
 have e1 := iJ k [3, 4] (by simp)
 rw [hr] at e1
 refine ae (F := Sb) rfl rfl (az 300 _ _ _ _ ?_)
 repeat' (first | refine ab ?_ | (refine aa ?_ ?_ <;> intro h))
 refine uz [(68, _, .vec 1 [bj 3, bj 4])] ⟨rfl, rfl, trivial⟩ rfl (by simp) rfl rfl e1 rfl ?_
 repeat' (first | refine ab ?_ | (refine aa ?_ ?_ <;> intro h))
 all_goals try exact dnA
def fC (p : Int) : List Int → Int
 | [] => 0
 | x :: r => if x ≤ p then 16 else fC x r
def jt : List Int → Int
 | [] => 0
 | x :: r => fC x r
theorem o0 (l : List Int) (hl : l.length < 2 ^ 40) (ln : Int) (hln : ln = l.length) : ∀ (rest done : List Int) (p : Int) (T : List (Nat × AV)) (H : aq) (c : Nat) (n : Int) (e : l = done ++ p :: rest) (hn : n = done.length + 1),
  Ev G ⟨Uz, ⟨(7, .sl 1 (l.map bf)) :: (8, .int .i64 ln) :: (9, .int .i64 n) :: (0, .sl 1 (l.map bf)) :: T, H, c⟩, [.t 2], 0⟩ ⟨.int .i64 (fC p rest), []⟩
 | [], done, p, T, H, c, n, e, hn => by
  have hd : l.length = done.length + 1 := by simp [e]
  refine evl ?_
  repeat' (first | refine ab ?_ | (refine aa ?_ ?_ <;> intro h))
  all_goals try (refine ax ?_; first | rfl | (simp [fC, Bool.cond_eq_ite, *]; done) | (simp [fC, Bool.cond_eq_ite, *]; omega) | (unfold fC; repeat' split; all_goals first | rfl | (exfalso; omega) | (simp_all; done) | (simp_all; omega)))
 | x :: r, done, p, T, H, c, n, e, hn => by
  have hd : l.length = done.length + (r.length + 2) := by simp [e]
  have ll : (l.map bf).length = l.length := by simp
  have hn1 : (n - 1).toNat = done.length := by omega
  have hn0 : n.toNat = done.length + 1 := by omega
  have hx : (l.map bf)[n.toNat]? = some (bf x) := by rw [hn0, e]; simp
  have hy : (l.map bf)[(n - 1).toNat]? = some (bf p) := by rw [hn1, e]; simp
  refine evl ?_
  repeat' (first | refine ab ?_ | (refine aa ?_ ?_ <;> intro h))
  all_goals try (refine ax ?_; first | rfl | (simp [fC, Bool.cond_eq_ite, *]; done) | (simp [fC, Bool.cond_eq_ite, *]; omega) | (unfold fC; repeat' split; all_goals first | rfl | (exfalso; omega) | (simp_all; done) | (simp_all; omega)))
  rw [show fC p (x :: r) = fC x r from by simp [fC, *]]
  refine ag [7, 8, 9, 0] [] ?_
  exact o0 l hl ln hln r (done ++ [p]) x _ _ _ (n + 1) (by simp [e]) (by simp [hn])
def fp (l : List Int) : Int := if l.length > 255 then 4 else jt l
theorem Bn (l : List Int) (hl : l.length < 2 ^ 40) : ah G 77 [.sl 1 (l.map bf)] [] ⟨.int .i64 (fp l), []⟩ := by
 have ll : (l.map bf).length = l.length := by simp
 cases l with
 | nil =>
  refine ae (F := f77) rfl rfl (az 300 _ _ _ _ ?_)
  repeat' (first | refine ab ?_ | (refine aa ?_ ?_ <;> intro h))
  refine evl ?_
  repeat' (first | refine ab ?_ | (refine aa ?_ ?_ <;> intro h))
  all_goals try (refine ax ?_; first | rfl | (simp [fp, jt, Bool.cond_eq_ite, *]; done) | (simp [fp, jt, Bool.cond_eq_ite, *]; omega) | (unfold fp jt; repeat' split; all_goals first | rfl | (exfalso; omega) | (simp_all; done) | (simp_all; omega)))
 | cons x r =>
  have hx : ((x :: r).map bf)[(0 : Int).toNat]? = some (bf x) := rfl
  have h2 := ll
  simp only [List.length_cons] at hl
  rw [List.length_cons] at h2
  refine ae (F := f77) rfl rfl (az 300 _ _ _ _ ?_)
  repeat' (first | refine ab ?_ | (refine aa ?_ ?_ <;> intro h))
  all_goals try (refine ax ?_; first | rfl | (simp [fp, Bool.cond_eq_ite, *]; done) | (simp [fp, Bool.cond_eq_ite, *]; omega) | (unfold fp; repeat' split; all_goals first | rfl | (exfalso; omega) | (simp_all; done) | (simp_all; omega)))
  rw [show fp (x :: r) = fC x r from by simp [fp, jt]; omega]
  refine evl ?_
  repeat' (first | refine ab ?_ | (refine aa ?_ ?_ <;> intro h))
  refine ag [7, 8, 9, 0] [] ?_
  exact o0 (x :: r) hl _ (by simp) r [] x _ _ _ 1 rfl rfl
theorem oZ (l : List Int) (hl : l.length < 2 ^ 40) : ∀ (rest done : List Int) (p : Int) (T : List (Nat × AV)) (H : aq) (c : Nat) (n : Int) (e : l = done ++ p :: rest) (hn : n = done.length + 1),
  Ev G ⟨Ux, ⟨(3, .int .i64 n) :: (0, .sl 1 (l.map bf)) :: T, H, c⟩, [.t 2], 0⟩ ⟨.int .i64 (fC p rest), []⟩
 | [], done, p, T, H, c, n, e, hn => by
  have hd : l.length = done.length + 1 := by simp [e]
  have ll : (l.map bf).length = l.length := by simp
  refine evl ?_
  repeat' (first | refine ab ?_ | (refine aa ?_ ?_ <;> intro h))
  all_goals try (refine ax ?_; first | rfl | (simp [fC, Bool.cond_eq_ite, *]; done) | (simp [fC, Bool.cond_eq_ite, *]; omega) | (unfold fC; repeat' split; all_goals first | rfl | (exfalso; omega) | (simp_all; done) | (simp_all; omega)))
 | x :: r, done, p, T, H, c, n, e, hn => by
  have hd : l.length = done.length + (r.length + 2) := by simp [e]
  have ll : (l.map bf).length = l.length := by simp
  have hn1 : (n - 1).toNat = done.length := by omega
  have hn0 : n.toNat = done.length + 1 := by omega
  have hx : (l.map bf)[n.toNat]? = some (bf x) := by rw [hn0, e]; simp
  have hy : (l.map bf)[(n - 1).toNat]? = some (bf p) := by rw [hn1, e]; simp
  refine evl ?_
  repeat' (first | refine ab ?_ | (refine aa ?_ ?_ <;> intro h))
  all_goals try (refine ax ?_; first | rfl | (simp [fC, Bool.cond_eq_ite, *]; done) | (simp [fC, Bool.cond_eq_ite, *]; omega) | (unfold fC; repeat' split; all_goals first | rfl | (exfalso; omega) | (simp_all; done) | (simp_all; omega)))
  rw [show fC p (x :: r) = fC x r from by simp [fC, *]]
  refine ag [3, 0] [] ?_
  exact oZ l hl r (done ++ [p]) x _ _ _ (n + 1) (by simp [e]) (by simp [hn])
theorem Bm (l : List Int) (hl : l.length < 2 ^ 40) : ah G 82 [.sl 1 (l.map bf)] [] ⟨.int .i64 (fp l), []⟩ := by
 have ll : (l.map bf).length = l.length := by simp
 cases l with
 | nil =>
  refine ae (F := f82) rfl rfl (az 300 _ _ _ _ ?_)
  repeat' (first | refine ab ?_ | (refine aa ?_ ?_ <;> intro h))
  refine evl ?_
  repeat' (first | refine ab ?_ | (refine aa ?_ ?_ <;> intro h))
  all_goals try (refine ax ?_; first | rfl | (simp [fp, jt, Bool.cond_eq_ite, *]; done) | (simp [fp, jt, Bool.cond_eq_ite, *]; omega) | (unfold fp jt; repeat' split; all_goals first | rfl | (exfalso; omega) | (simp_all; done) | (simp_all; omega)))
 | cons x r =>
  have h2 := ll
  simp only [List.length_cons] at hl
  rw [List.length_cons] at h2
  refine ae (F := f82) rfl rfl (az 300 _ _ _ _ ?_)
  repeat' (first | refine ab ?_ | (refine aa ?_ ?_ <;> intro h))
  all_goals try (refine ax ?_; first | rfl | (simp [fp, Bool.cond_eq_ite, *]; done) | (simp [fp, Bool.cond_eq_ite, *]; omega) | (unfold fp; repeat' split; all_goals first | rfl | (exfalso; omega) | (simp_all; done) | (simp_all; omega)))
  rw [show fp (x :: r) = fC x r from by simp [fp, jt]; omega]
  refine ag [3, 0] [] ?_
  exact oZ (x :: r) hl r [] x _ _ _ 1 rfl rfl
end Go.AM.IR
namespace Go.AM.IR
def fv : List Int → Bool
 | [] => true
 | x :: r => decide (1 ≤ x ∧ x ≤ 4294967295) && fv r
def dp (k : Int) : Option Int → List Int → Bool
 | _, [] => true
 | none, x :: r => dp k (some x) r
 | some p, x :: r => !(ic k && decide (x ≤ p)) && dp k (some x) r
def f0 (s : Seg) : Int := if s.kind < 1 ∨ s.kind > 4 then 15 else if s.as.length = 0 then 1 else if s.as.length > 255 then 4 else if fv s.as = false then 5 else if dp s.kind none s.as = false then 16 else 0
theorem alv (k : Int) : ah G 107 [.int .i64 k, .sl 1 [bj 1, bj 4]] [] ⟨.bool (ic k), []⟩ := by
 have hr : ([1, 4] : List Int).any (· == k) = ic k := by
  unfold ic; simp only [List.any_cons, List.any_nil, Bool.or_false]
  rw [Bool.eq_iff_iff]; simp; omega
 rw [← hr]; exact iJ k [1, 4] (by simp)
theorem alu (k : Int) : ah G 107 [.int .i64 k, .sl 1 [bj 1, bj 2, bj 3, bj 4]] [] ⟨.bool (decide (1 ≤ k ∧ k ≤ 4)), []⟩ := by
 have hr : ([1, 2, 3, 4] : List Int).any (· == k) = decide (1 ≤ k ∧ k ≤ 4) := by
  simp only [List.any_cons, List.any_nil, Bool.or_false]
  rw [Bool.eq_iff_iff]; simp; omega
 rw [← hr]; exact iJ k [1, 2, 3, 4] (by simp)
theorem alt (k : Int) : ah G 107 [.int .i64 k, .sl 1 [bj 2, bj 3]] [] ⟨.bool (decide (k = 2 ∨ k = 3)), []⟩ := by
 have hr : ([2, 3] : List Int).any (· == k) = decide (k = 2 ∨ k = 3) := by
  simp only [List.any_cons, List.any_nil, Bool.or_false]
  rw [Bool.eq_iff_iff]; simp; omega
 rw [← hr]; exact iJ k [2, 3] (by simp)
theorem mH (s : Seg) (hl : s.as.length < 2 ^ 40) : ∀ (rest done : List Int) (p : Option Int) (T : List (Nat × AV)) (H : aq) (c : Nat) (n : Int) (e : s.as = done ++ rest) (hn : n = done.length) (hp : p = done.getLast?),
  Ev G ⟨Nw, ⟨(39, .int .i64 n) :: (1, .ref 65 1 0) :: (38, .int .i64 s.as.length) :: T, (65, some (1, .cells s.enc)) :: H, c⟩, [.t 2], 0⟩ ⟨.int .i64 (if dp s.kind p rest = false then 16 else 0), []⟩
 | [], done, p, T, H, c, n, e, hn, hp => by
  have hd : s.as.length = done.length := by simp [e]
  refine evl ?_
  repeat' (first | refine ab ?_ | (refine aa ?_ ?_ <;> intro h))
  all_goals try (refine ax ?_; first | rfl | (simp [dp, ic, Bool.cond_eq_ite, *]; done) | (simp [dp, ic, Bool.cond_eq_ite, *]; omega) | (unfold dp ic; repeat' split; all_goals first | rfl | (exfalso; omega) | (simp_all; done) | (simp_all; omega)))
 | x :: r, done, p, T, H, c, n, e, hn, hp => by
  have hd : s.as.length = done.length + (r.length + 1) := by simp [e]
  have hx : (s.as.map bj)[n.toNat]? = some (bj x) := by simp [e, hn]
  rcases List.eq_nil_or_concat done with rfl | ⟨d, q, rfl⟩
  ·obtain rfl : p = none := by simp [hp]
   simp only [List.length_nil] at hn hd
   refine evl ?_
   repeat' (first | refine ab ?_ | (refine aa ?_ ?_ <;> intro h))
   rw [show dp s.kind none (x :: r) = dp s.kind (some x) r from rfl]
   refine ag [39, 1, 38] [65] ?_; exact mH s hl r [x] _ _ _ _ (n + 1) (by simp [e]) (by simp [hn]) rfl
  ·obtain rfl : p = some q := by simp [hp]
   simp only [List.concat_eq_append, List.length_append, List.length_singleton] at hn hd
   have hn1 : (n - 1).toNat = d.length := by omega
   have hy : (s.as.map bj)[(n - 1).toNat]? = some (bj q) := by rw [hn1, e]; simp
   refine evl ?_
   repeat' (first | refine ab ?_ | (refine aa ?_ ?_ <;> intro h))
   all_goals refine uz [(111, _, .vec 1 [bj 1, bj 4])] ⟨rfl, rfl, trivial⟩ rfl (by simp) rfl (by simp [ch, AV.ren, φF, bj, bf, gJ, Nat.beq_refl]) (alv s.kind) rfl ?_
   repeat' (first | refine ab ?_ | (refine aa ?_ ?_ <;> intro h))
   all_goals try (refine ax ?_; first | rfl | (simp [dp, ic, Bool.cond_eq_ite, *]; done) | (simp [dp, ic, Bool.cond_eq_ite, *]; omega) | (unfold dp ic; repeat' split; all_goals first | rfl | (exfalso; omega) | (simp_all; done) | (simp_all; omega)))
   all_goals (rw [show dp s.kind (some q) (x :: r) = dp s.kind (some x) r from by simp [dp, ic, *]]; refine ag [39, 1, 38] [65] ?_; exact mH s hl r (d ++ [q] ++ [x]) _ _ _ _ (n + 1) (by simp [e]) (by simp [hn] <;> omega) (by simp))
end Go.AM.IR
namespace Go.AM.IR
theorem rh (l : List Int) (s : Seg) (hs : s.as = l) (hl : l.length < 2 ^ 40) (ln : Int) (hln : ln = l.length) : ∀ (rest done : List Int)  (T : List (Nat × AV)) (H : aq) (c : Nat) (n : Int) (e : l = done ++ rest) (hn : n = done.length) , Ev G ⟨Nx, ⟨(23, .sl 1 (l.map bj)) :: (24, .int .i64 ln) :: (25, .int .i64 n) :: (1, .ref 65 1 0) :: T, (65, some (1, .cells s.enc)) :: H, c⟩, [.t 2], 0⟩ ⟨.int .i64 (if fv rest = false then 5 else if dp s.kind none l = false then 16 else 0), []⟩
 | [], done,  T, H, c, n, e, hn => by
  have hd : l.length = done.length := by simp [e]
  have hll : (l.map bj).length = l.length := by simp
  subst hs
  refine evl ?_
  repeat' (first | refine ab ?_ | (refine aa ?_ ?_ <;> intro h))
  refine ag [39, 1, 38] [65] ?_
  rw [show (if fv [] = false then (5 : Int) else if dp s.kind none s.as = false then 16 else 0) = if dp s.kind none s.as = false then 16 else 0 from by simp [fv]]
  simp only [List.length_map]
  exact mH s hl s.as [] none _ _ _ 0 rfl rfl rfl
 | x :: r, done,  T, H, c, n, e, hn => by
  have hd : l.length = done.length + (r.length + 1) := by simp [e]
  have hll : (l.map bj).length = l.length := by simp
  have hx : (l.map bj)[n.toNat]? = some (bj x) := by simp [e, hn]
  refine evl ?_
  repeat' (first | refine ab ?_ | (refine aa ?_ ?_ <;> intro h))
  all_goals try (refine ax ?_; first | rfl | (simp [fv, Bool.cond_eq_ite, *]; done) | (simp [fv, Bool.cond_eq_ite, *]; omega) | (unfold fv; repeat' split; all_goals first | rfl | (exfalso; omega) | (simp_all; done) | (simp_all; omega)))
  rw [show fv (x :: r) = fv r from by simp [fv]; omega]
  refine ag [23, 24, 25, 1] [65] ?_; exact rh l s hs hl ln hln r (done ++ [x])  _ _ _ (n + 1) (by simp [e]) (by simp [hn] <;> omega)
theorem lz (s : Seg) (hl : s.as.length < 2 ^ 40) : ah G 105 [.agg s.enc] [] ⟨.int .i64 (f0 s), []⟩ := by
 have ll : (s.as.map bj).length = s.as.length := by simp
 refine ae (F := Sc) rfl rfl (az 300 _ _ _ _ ?_)
 repeat' (first | refine ab ?_ | refine uz [(73, _, .vec 1 [bj 1, bj 2, bj 3, bj 4])] ⟨rfl, rfl, trivial⟩ rfl (by simp) rfl (by simp [ch, AV.ren, φF, bj, bf, gJ, Nat.beq_refl]) (alu s.kind) rfl ?_ | (refine aa ?_ ?_ <;> intro h))
 all_goals try (refine ax ?_; first | rfl | (simp [f0, Bool.cond_eq_ite, *]; done) | (simp [f0, Bool.cond_eq_ite, *]; omega) | (unfold f0; repeat' split; all_goals first | rfl | (exfalso; omega) | (simp_all; done) | (simp_all; omega)))
 rw [show f0 s = (if fv s.as = false then 5 else if dp s.kind none s.as = false then 16 else 0) from by unfold f0; rw [if_neg (by omega), if_neg (by omega), if_neg (by omega)]]
 refine ag [23, 24, 25, 1] [65] ?_
 exact rh s.as s rfl hl _ (by simp) s.as [] _ _ _ 0 rfl rfl
def iB : Option Seg → Seg → Bool
 | some q, s => (decide (s.kind = 2 ∨ s.kind = 3) && (q.kind == s.kind)) && decide (q.as.length < 255)
 | none, _ => false
def eT (pl : Bool) (prev : Option Seg) : List Seg → Int
 | [] => 0
 | s :: r => if f0 s ≠ 0 then f0 s else if (fc s.kind && pl) = true then 1 else if iB prev s = true then 1 else eT (pl || !fc s.kind) (some s) r
def g7 (p : List Seg) : Int := if p.length > 64 then 4 else eT false none p
theorem tI {pl : Bool} {p : Option Seg} {x : Seg} {r : List Seg} (h1 : f0 x = 0) (h2 : (fc x.kind && pl) = false) (h3 : iB p x = false) : eT pl p (x :: r) = eT (pl || !fc x.kind) (some x) r := by
 rw [eT, if_neg (by simp [h1]), if_neg (by simp [h2]), if_neg (by simp [h3])]
theorem me (l : List Seg) (hs : ∀ s ∈ l, s.as.length < 2 ^ 40) (hl : l.length < 2 ^ 40) (ln : Int) (hln : ln = l.length) : ∀ (rest done : List Seg) (pl pS : Bool) (p : Option Seg) (T : List (Nat × AV)) (H : aq) (c : Nat) (n : Int) (e : l = done ++ rest) (hn : n = done.length) (hpl : pl = pS) (hp : p = done.getLast?), Ev G ⟨Qn, ⟨(10, .sl 2 (l.map Seg.enc)) :: (11, .int .i64 ln) :: (12, .int .i64 n) :: (3, .bool pl) :: (0, .sl 2 (l.map Seg.enc)) :: T, H, c⟩, [.t 2], 0⟩ ⟨.int .i64 (eT pS p rest), []⟩
 | [], done, pl, pS, p, T, H, c, n, e, hn, hpl, hp => by
  have hd : l.length = done.length := by simp [e]
  have hll : (l.map Seg.enc).length = l.length := by simp
  refine evl ?_
  repeat' (first | refine ab ?_ | (refine aa ?_ ?_ <;> intro h))
  all_goals try (refine ax ?_; first | rfl | (simp [eT, Bool.cond_eq_ite, *]; done) | (simp [eT, Bool.cond_eq_ite, *]; omega) | (unfold eT; repeat' split; all_goals first | rfl | (exfalso; omega) | (simp_all; done) | (simp_all; omega)))
 | x :: r, done, pl, pS, p, T, H, c, n, e, hn, hpl, hp => by
  have hd : l.length = done.length + (r.length + 1) := by simp [e]
  have hll : (l.map Seg.enc).length = l.length := by simp
  have hx : (l.map Seg.enc)[n.toNat]? = some (Seg.enc x) := by simp [e, hn]
  subst hpl
  have hsx := hs x (by simp [e])
  have hxl : (x.as.map bj).length = x.as.length := by simp
  rcases List.eq_nil_or_concat done with rfl | ⟨d, q, rfl⟩
  ·obtain rfl : p = none := by simp [hp]
   simp only [List.length_nil] at hn hd
   refine evl ?_
   repeat' (first | refine ab ?_ | refine kV (lz x hsx) ?_ | refine kV (mt x.kind) ?_ | (refine aa ?_ ?_ <;> intro h))
   all_goals try (refine ax ?_; first | rfl | (simp [eT, iB, Bool.cond_eq_ite, *]; done) | (simp [eT, iB, Bool.cond_eq_ite, *]; omega) | (unfold eT iB; repeat' split; all_goals first | rfl | (exfalso; omega) | (simp_all; done) | (simp_all; omega)))
   all_goals (rw [tI (by assumption) (by simp [*]) (by simp [iB, *])]; refine ag [10, 11, 12, 3, 0] [] ?_; exact me l hs hl ln hln r [x] _ _ (some x) _ _ _ (n + 1) (by simp [e]) (by simp [hn] <;> omega) (by simp [*]) (by simp))
  ·obtain rfl : p = some q := by simp [hp]
   simp only [List.concat_eq_append, List.length_append, List.length_singleton] at hn hd
   have hn1 : (n - 1).toNat = d.length := by omega
   have hy : (l.map Seg.enc)[(n - 1).toNat]? = some (Seg.enc q) := by rw [hn1, e]; simp
   have hql : (q.as.map bj).length = q.as.length := by simp
   refine evl ?_
   repeat' (first | refine ab ?_ | refine kV (lz x hsx) ?_ | refine kV (mt x.kind) ?_ | refine uz [(97, _, .vec 1 [bj 2, bj 3])] ⟨rfl, rfl, trivial⟩ rfl (by simp) rfl (by simp [ch, AV.ren, φF, bj, bf, gJ, Nat.beq_refl]) (alt x.kind) rfl ?_ | (refine aa ?_ ?_ <;> intro h))
   all_goals try (refine ax ?_; first | rfl | (simp [eT, iB, Bool.cond_eq_ite, *]; done) | (simp [eT, iB, Bool.cond_eq_ite, *]; omega) | (unfold eT iB; repeat' split; all_goals first | rfl | (exfalso; omega) | (simp_all; done) | (simp_all; omega)))
   all_goals (rw [tI (by assumption) (by simp [*]) (by simp [iB, *] <;> omega)]; refine ag [10, 11, 12, 3, 0] [] ?_; exact me l hs hl ln hln r (d ++ [q] ++ [x]) _ _ (some x) _ _ _ (n + 1) (by simp [e]) (by simp [hn] <;> omega) (by simp [*]) (by simp))
theorem xx (l : List Seg) (hl : l.length < 2 ^ 40) (hs : ∀ s ∈ l, s.as.length < 2 ^ 40) : ah G 75 [.sl 2 (l.map Seg.enc)] [] ⟨.int .i64 (g7 l), []⟩ := by
 have ll : (l.map Seg.enc).length = l.length := by simp
 refine ae (F := f75) rfl rfl (az 300 _ _ _ _ ?_)
 repeat' (first | refine ab ?_ | (refine aa ?_ ?_ <;> intro h))
 all_goals try (refine ax ?_; first | rfl | (simp [g7, Bool.cond_eq_ite, *]; done) | (simp [g7, Bool.cond_eq_ite, *]; omega) | (unfold g7; repeat' split; all_goals first | rfl | (exfalso; omega) | (simp_all; done) | (simp_all; omega)))
 rw [show g7 l = eT false none l from by simp [g7]; omega]
 refine ag [10, 11, 12, 3, 0] [] ?_
 exact me l hs hl _ (by simp) l [] _ _ _ _ _ _ 0 rfl rfl rfl rfl
end Go.AM.IR
namespace Go.AM.IR
def fm : Option Seg → Seg → Bool
 | some q, s => (!ic s.kind && (q.kind == s.kind)) && decide (q.as.length < 255)
 | none, _ => false
def fk (dn : List Seg) (s : Seg) : Int := if (fc s.kind && dn.any fun t => !fc t.kind) = true then 1 else if fm dn.getLast? s = true then 1 else 0
theorem ma (dn : List Seg) (l : List Seg) (s : Seg) (rs : List Seg) (g : Nat) (hL : l = dn ++ s :: rs) (hlL : l.length < 2 ^ 40) (hs : ∀ s ∈ l, s.as.length < 2 ^ 40) (hl : dn.length < 2 ^ 40) (ln : Int) (hln : ln = dn.length) : ∀ (rest done : List Seg)  (T : List (Nat × AV)) (H : aq) (c : Nat) (n : Int) (e : dn = done ++ rest) (hn : n = done.length) , Ev G ⟨Ns, ⟨(74, .sl 2 (dn.map Seg.enc)) :: (75, .int .i64 ln) :: (76, .int .i64 n) :: (1, .int .i64 dn.length) :: (0, .sl 2 (l.map Seg.enc)) :: (5, .ref 69 g 0) :: T, (69, some (g, .cells s.enc)) :: H, c⟩, [.t 4], 0⟩ ⟨.int .i64 (if rest.any (fun t => !fc t.kind) = true then 1 else if fm dn.getLast? s = true then 1 else 0), []⟩
 | [], done,  T, H, c, n, e, hn => by
  have hd : dn.length = done.length := by simp [e]
  have hll : (dn.map Seg.enc).length = dn.length := by simp
  rw [show (if ([] : List Seg).any (fun t => !fc t.kind) = true then (1 : Int) else if fm dn.getLast? s = true then 1 else 0) = if fm dn.getLast? s = true then 1 else 0 from by simp]
  clear e
  have hll2 : (l.map Seg.enc).length = l.length := by simp
  rcases List.eq_nil_or_concat dn with rfl | ⟨d, q, rfl⟩
  ·refine evl ?_
   repeat' (first | refine ab ?_ | (refine aa ?_ ?_ <;> intro h))
   all_goals try (refine ax ?_; first | rfl | (simp [fm, Bool.cond_eq_ite, *]; done) | (simp [fm, Bool.cond_eq_ite, *]; omega) | (unfold fm; repeat' split; all_goals first | rfl | (exfalso; omega) | (simp_all; done) | (simp_all; omega)))
  ·have hql : (q.as.map bj).length = q.as.length := by simp
   simp only [List.concat_eq_append, List.length_append, List.length_singleton] at *
   have hy : (l.map Seg.enc)[((d.length + 1 : Nat) - 1 : Int).toNat]? = some (Seg.enc q) := by rw [show ((d.length + 1 : Nat) - 1 : Int).toNat = d.length from by omega, hL]; simp
   rw [List.getLast?_concat]
   have hdl : l.length = d.length + 1 + (rs.length + 1) := by rw [hL]; simp; omega
   have hqs := hs q (by rw [hL]; simp)
   refine evl ?_
   repeat' (first | refine ab ?_ | refine kV (jS s.kind) ?_ | (refine aa ?_ ?_ <;> intro h))
   all_goals try (refine ax ?_; first | rfl | (simp [fm, Bool.cond_eq_ite, *]; done) | (simp [fm, Bool.cond_eq_ite, *]; omega) | (unfold fm; repeat' split; all_goals first | rfl | (exfalso; omega) | (simp_all; done) | (simp_all; omega)))
 | x :: r, done,  T, H, c, n, e, hn => by
  have hd : dn.length = done.length + (r.length + 1) := by simp [e]
  have hll : (dn.map Seg.enc).length = dn.length := by simp
  have hx : (dn.map Seg.enc)[n.toNat]? = some (Seg.enc x) := by simp [e, hn]
  refine evl ?_
  repeat' (first | refine ab ?_ | refine kV (jx x.kind) ?_ | (refine aa ?_ ?_ <;> intro h))
  all_goals try exact dnA
  rw [show (x :: r).any (fun t => !fc t.kind) = r.any (fun t => !fc t.kind) from by simp [*]]
  refine ag [74, 75, 76, 1, 0, 5] [69] ?_; exact ma dn l s rs g hL hlL hs hl ln hln r (done ++ [x])  _ _ _ (n + 1) (by simp [e]) (by simp [hn] <;> omega)
theorem rz (l : List Seg) (s : Seg) (dn rs : List Seg) (g : Nat) (hL : l = dn ++ s :: rs) (hlL : l.length < 2 ^ 40) (hs : ∀ s ∈ l, s.as.length < 2 ^ 40) : ∀ (rest done : List Int) (p : Int) (T : List (Nat × AV)) (H : aq) (c : Nat) (n : Int) (e : s.as = done ++ p :: rest) (hn : n = done.length + 1),
  Ev G ⟨Nt, ⟨(8, .int .i64 n) :: (5, .ref 69 g 0) :: (1, .int .i64 dn.length) :: (0, .sl 2 (l.map Seg.enc)) :: T, (69, some (g, .cells s.enc)) :: H, c⟩, [.t 4], 0⟩ ⟨.int .i64 (if dp s.kind (some p) rest = false then 16 else fk dn s), []⟩
 | [], done, p, T, H, c, n, e, hn => by
  have hsl := hs s (by rw [hL]; simp)
  have hd : s.as.length = done.length + 1 := by simp [e]
  have ll : (s.as.map bj).length = s.as.length := by simp
  have hll2 : (l.map Seg.enc).length = l.length := by simp
  have hdl : l.length = dn.length + (rs.length + 1) := by rw [hL]; simp
  have hslice : ((l.map Seg.enc).drop 0).take ((dn.length : Int).toNat - 0) = dn.map Seg.enc := by rw [hL]; simp
  rw [show (if dp s.kind (some p) [] = false then 16 else fk dn s) = fk dn s from by simp [dp]]
  clear e
  rcases List.eq_nil_or_concat dn with rfl | ⟨d, q, rfl⟩
  ·refine evl ?_
   repeat' (first | refine ab ?_ | refine kV (jx s.kind) ?_ | (refine aa ?_ ?_ <;> intro h))
   all_goals try (refine ax ?_; first | rfl | (simp [fk, fm, Bool.cond_eq_ite, *]; done) | (simp [fk, fm, Bool.cond_eq_ite, *]; omega) | (unfold fk fm; repeat' split; all_goals first | rfl | (exfalso; omega) | (simp_all; done) | (simp_all; omega)))
   refine ag [74, 75, 76, 1, 0, 5] [69] ?_
   refine (?_ : Ev G _ _)
   rw [hslice, show fk [] s = 0 from by simp [fk, fm]]
   exact ma [] l s rs g hL hlL hs (by simp) _ rfl [] [] _ _ _ 0 rfl rfl
  ·have hql : (q.as.map bj).length = q.as.length := by simp
   simp only [List.concat_eq_append, List.length_append, List.length_singleton] at *
   have hy : (l.map Seg.enc)[((d.length + 1 : Nat) - 1 : Int).toNat]? = some (Seg.enc q) := by rw [show ((d.length + 1 : Nat) - 1 : Int).toNat = d.length from by omega, hL]; simp
   have hqs := hs q (by rw [hL]; simp)
   refine evl ?_
   repeat' (first | refine ab ?_ | refine kV (jx s.kind) ?_ | refine kV (jS s.kind) ?_ | (refine aa ?_ ?_ <;> intro h))
   all_goals try (refine ax ?_; first | rfl | (simp [fk, fm, Bool.cond_eq_ite, *]; done) | (simp [fk, fm, Bool.cond_eq_ite, *]; omega) | (unfold fk fm; repeat' split; all_goals first | rfl | (exfalso; omega) | (simp_all; done) | (simp_all; omega)))
   refine ag [74, 75, 76, 1, 0, 5] [69] ?_
   refine (?_ : Ev G _ _)
   rw [hslice, show fk (d ++ [q]) s = if (d ++ [q]).any (fun t => !fc t.kind) = true then 1 else if fm (d ++ [q]).getLast? s = true then 1 else 0 from by unfold fk; simp only [*, Bool.true_and]]
   rw [show d.length + 1 = (d ++ [q]).length from by simp]
   exact ma (d ++ [q]) l s rs g hL hlL hs (by simp; omega) _ (by simp) (d ++ [q]) [] _ _ _ 0 rfl rfl
 | x :: r, done, p, T, H, c, n, e, hn => by
  have hsl := hs s (by rw [hL]; simp)
  have hd : s.as.length = done.length + (r.length + 2) := by simp [e]
  have ll : (s.as.map bj).length = s.as.length := by simp
  have hn1 : (n - 1).toNat = done.length := by omega
  have hn0 : n.toNat = done.length + 1 := by omega
  have hx : (s.as.map bj)[n.toNat]? = some (bj x) := by rw [hn0, e]; simp
  have hy : (s.as.map bj)[(n - 1).toNat]? = some (bj p) := by rw [hn1, e]; simp
  refine evl ?_
  repeat' (first | refine ab ?_ | refine kV (jS s.kind) ?_ | (refine aa ?_ ?_ <;> intro h))
  all_goals try (refine ax ?_; first | rfl | (simp [dp, Bool.cond_eq_ite, *]; done) | (simp [dp, Bool.cond_eq_ite, *]; omega) | (unfold dp; repeat' split; all_goals first | rfl | (exfalso; omega) | (simp_all; done) | (simp_all; omega)))
  all_goals (rw [show dp s.kind (some p) (x :: r) = dp s.kind (some x) r from by simp [dp, *]]; refine ag [8, 5, 1, 0] [69] ?_; exact rz l s dn rs g hL hlL hs r (done ++ [p]) x _ _ _ (n + 1) (by simp [e]) (by simp [hn]))
theorem rg (as : List Int) (l : List Seg) (s : Seg) (dn rs : List Seg) (g : Nat) (hL : l = dn ++ s :: rs) (hlL : l.length < 2 ^ 40) (hs : ∀ s ∈ l, s.as.length < 2 ^ 40) (has : s.as = as) (h0 : as.length ≠ 0) (hl : as.length < 2 ^ 40) (ln : Int) (hln : ln = as.length) : ∀ (rest done : List Int)  (T : List (Nat × AV)) (H : aq) (c : Nat) (n : Int) (e : as = done ++ rest) (hn : n = done.length) , Ev G ⟨Nu, ⟨(32, .sl 1 (as.map bj)) :: (33, .int .i64 ln) :: (34, .int .i64 n) :: (5, .ref 69 g 0) :: (1, .int .i64 dn.length) :: (0, .sl 2 (l.map Seg.enc)) :: T, (69, some (g, .cells s.enc)) :: H, c⟩, [.t 4], 0⟩ ⟨.int .i64 (if fv rest = false then 5 else if dp s.kind none as = false then 16 else fk dn s), []⟩
 | [], done,  T, H, c, n, e, hn => by
  have hd : as.length = done.length := by simp [e]
  have hll : (as.map bj).length = as.length := by simp
  subst has
  rw [show (if fv [] = false then (5 : Int) else if dp s.kind none s.as = false then 16 else fk dn s) = if dp s.kind none s.as = false then 16 else fk dn s from by simp [fv]]
  refine evl ?_
  repeat' (first | refine ab ?_ | (refine aa ?_ ?_ <;> intro h))
  refine ag [8, 5, 1, 0] [69] ?_
  have hne : s.as ≠ [] := fun q => h0 (by rw [q]; rfl)
  obtain ⟨p, r, hpr⟩ := List.exists_cons_of_ne_nil hne
  rw [show dp s.kind none s.as = dp s.kind (some p) r from by rw [hpr]; rfl]
  exact rz l s dn rs g hL hlL hs r [] p _ _ _ 1 hpr rfl
 | x :: r, done,  T, H, c, n, e, hn => by
  have hd : as.length = done.length + (r.length + 1) := by simp [e]
  have hll : (as.map bj).length = as.length := by simp
  have hx : (as.map bj)[n.toNat]? = some (bj x) := by simp [e, hn]
  refine evl ?_
  repeat' (first | refine ab ?_ | (refine aa ?_ ?_ <;> intro h))
  all_goals try (refine ax ?_; first | rfl | (simp [fv, Bool.cond_eq_ite, *]; done) | (simp [fv, Bool.cond_eq_ite, *]; omega) | (unfold fv; repeat' split; all_goals first | rfl | (exfalso; omega) | (simp_all; done) | (simp_all; omega)))
  rw [show fv (x :: r) = fv r from by simp [fv]; omega]
  refine ag [32, 33, 34, 5, 1, 0] [69] ?_; exact rg as l s dn rs g hL hlL hs has h0 hl ln hln r (done ++ [x])  _ _ _ (n + 1) (by simp [e]) (by simp [hn] <;> omega)
def kF (dn : List Seg) (s : Seg) : Int := if f0 s ≠ 0 then f0 s else fk dn s
theorem sd (l : List Seg) (s : Seg) (dn rs : List Seg) (hL : l = dn ++ s :: rs) (hlL : l.length < 2 ^ 40) (hs : ∀ s ∈ l, s.as.length < 2 ^ 40) : ah G 108 [.sl 2 (l.map Seg.enc), .int .i64 dn.length] [] ⟨.int .i64 (kF dn s), []⟩ := by
 have hsl := hs s (by rw [hL]; simp)
 have ll : (s.as.map bj).length = s.as.length := by simp
 have hll2 : (l.map Seg.enc).length = l.length := by simp
 have hdl : l.length = dn.length + (rs.length + 1) := by rw [hL]; simp
 have hx : (l.map Seg.enc)[(dn.length : Int).toNat]? = some (Seg.enc s) := by rw [hL]; simp
 refine ae (F := RY) rfl rfl (az 300 _ _ _ _ ?_)
 repeat' (first | refine ab ?_ | (refine aa ?_ ?_ <;> intro h))
 all_goals try (refine ax ?_; first | rfl | (simp [kF, f0, Bool.cond_eq_ite, *]; done) | (simp [kF, f0, Bool.cond_eq_ite, *]; omega) | (unfold kF f0; repeat' split; all_goals first | rfl | (exfalso; omega) | (simp_all; done) | (simp_all; omega)))
 refine ag [32, 33, 34, 5, 1, 0] [69] ?_
 rw [show kF dn s = if fv s.as = false then 5 else if dp s.kind none s.as = false then 16 else fk dn s from by
  unfold kF f0; rw [if_neg (by omega : ¬ (s.kind < 1 ∨ s.kind > 4)), if_neg (by omega : ¬ s.as.length = 0), if_neg (by omega : ¬ s.as.length > 255)]
  by_cases h1 : fv s.as = false
  ·simp [h1]
  ·by_cases h2 : dp s.kind none s.as = false
   ·simp [h1, h2]
   ·simp [h1, h2]]
 exact rg s.as l s dn rs _ hL hlL hs rfl (by omega) hsl _ (by simp) s.as [] _ _ _ 0 rfl rfl
def jd (dn : List Seg) : List Seg → Int
 | [] => 0
 | s :: r => if kF dn s ≠ 0 then kF dn s else jd (dn ++ [s]) r
theorem qh (l : List Seg) (hs : ∀ s ∈ l, s.as.length < 2 ^ 40) (hl : l.length < 2 ^ 40) (ln : Int) (hln : ln = l.length) : ∀ (rest done : List Seg)  (T : List (Nat × AV)) (H : aq) (c : Nat) (n : Int) (e : l = done ++ rest) (hn : n = done.length) , Ev G ⟨Qj, ⟨(0, .sl 2 (l.map Seg.enc)) :: (9, .int .i64 ln) :: (10, .int .i64 n) :: T, H, c⟩, [.t 2], 0⟩ ⟨.int .i64 (jd done rest), []⟩
 | [], done,  T, H, c, n, e, hn => by
  have hd : l.length = done.length := by simp [e]
  have hll : (l.map Seg.enc).length = l.length := by simp
  refine evl ?_
  repeat' (first | refine ab ?_ | (refine aa ?_ ?_ <;> intro h))
  all_goals try (refine ax ?_; first | rfl | (simp [jd, Bool.cond_eq_ite, *]; done) | (simp [jd, Bool.cond_eq_ite, *]; omega) | (unfold jd; repeat' split; all_goals first | rfl | (exfalso; omega) | (simp_all; done) | (simp_all; omega)))
 | x :: r, done,  T, H, c, n, e, hn => by
  have hd : l.length = done.length + (r.length + 1) := by simp [e]
  have hll : (l.map Seg.enc).length = l.length := by simp
  have hx : (l.map Seg.enc)[n.toNat]? = some (Seg.enc x) := by simp [e, hn]
  subst hn
  refine evl ?_
  repeat' (first | refine ab ?_ | refine kV (sd l x done r e hl hs) ?_ | (refine aa ?_ ?_ <;> intro h))
  all_goals try (refine ax ?_; first | rfl | (simp [jd, Bool.cond_eq_ite, *]; done) | (simp [jd, Bool.cond_eq_ite, *]; omega) | (unfold jd; repeat' split; all_goals first | rfl | (exfalso; omega) | (simp_all; done) | (simp_all; omega)))
  rw [show jd done (x :: r) = jd (done ++ [x]) r from by simp [jd, *]]
  refine ag [0, 9, 10] [] ?_; exact qh l hs hl ln hln r (done ++ [x]) _ _ _ _ (by simp [e]) (by simp)
theorem IJ : ∀ (l dn : List Seg), jd dn l = eT (dn.any fun t => !fc t.kind) dn.getLast? l
 | [], _ => by simp [jd, eT]
 | s :: r, dn => by
  have ih := IJ r (dn ++ [s])
  rw [jd, eT]
  by_cases h1 : f0 s = 0
  ·have hk : s.kind = 1 ∨ s.kind = 2 ∨ s.kind = 3 ∨ s.kind = 4 := by
    unfold f0 at h1
    split at h1
    ·omega
    ·omega
   have hj : fm dn.getLast? s = iB dn.getLast? s := by
    cases dn.getLast? with
    | none => rfl
    | some q =>
     unfold fm iB ic
     rcases hk with h | h | h | h <;> simp [h]
   have e1 : kF dn s = fk dn s := by unfold kF; rw [if_neg (by simp [h1])]
   rw [e1]
   unfold fk
   rw [hj, if_neg (by simp [h1] : ¬ f0 s ≠ 0)]
   by_cases h2 : (fc s.kind && dn.any fun t => !fc t.kind) = true
   ·simp [h2]
   ·rw [if_neg h2, if_neg h2]
    by_cases h3 : iB dn.getLast? s = true
    ·simp [h3]
    ·rw [if_neg h3, if_neg h3, if_neg (by simp), ih]
     simp [List.any_append]
  ·have e1 : kF dn s = f0 s := by unfold kF; rw [if_pos h1]
   rw [e1, if_pos h1, if_pos h1]
theorem xw (l : List Seg) (hl : l.length < 2 ^ 40) (hs : ∀ s ∈ l, s.as.length < 2 ^ 40) : ah G 80 [.sl 2 (l.map Seg.enc)] [] ⟨.int .i64 (g7 l), []⟩ := by
 have ll : (l.map Seg.enc).length = l.length := by simp
 refine ae (F := f80) rfl rfl (az 300 _ _ _ _ ?_)
 repeat' (first | refine ab ?_ | (refine aa ?_ ?_ <;> intro h))
 all_goals try (refine ax ?_; first | rfl | (simp [g7, Bool.cond_eq_ite, *]; done) | (simp [g7, Bool.cond_eq_ite, *]; omega) | (unfold g7; repeat' split; all_goals first | rfl | (exfalso; omega) | (simp_all; done) | (simp_all; omega)))
 rw [show g7 l = jd [] l from by rw [IJ]; simp [g7]; omega]
 refine ag [0, 9, 10] [] ?_
 exact qh l hs hl _ (by simp) l [] _ _ _ 0 rfl rfl
end Go.AM.IR
namespace Go.AM.IR
def cp : Option Int → List TLV → Int
 | _, [] => 0
 | none, t :: r => if t.kind ≤ 10 ∨ t.kind > 255 then 15 else if t.value.length > 255 then 4 else cp (some t.kind) r
 | some p, t :: r => if t.kind ≤ 10 ∨ t.kind > 255 then 15 else if t.kind ≤ p then 16 else if t.value.length > 255 then 4 else cp (some t.kind) r
def cO (l : List TLV) : Int := if l.length > 64 then 4 else cp none l
theorem jH (l : List TLV) (hv : ∀ t ∈ l, t.value.length < 2 ^ 40) (hl : l.length < 2 ^ 40) (ln : Int) (hln : ln = l.length) : ∀ (rest done : List TLV) (p : Option Int) (T : List (Nat × AV)) (H : aq) (c : Nat) (n : Int) (e : l = done ++ rest) (hn : n = done.length) (hp : p = done.getLast?.map (·.kind)), Ev G ⟨Qm, ⟨(8, .sl 2 (l.map TLV.enc)) :: (9, .int .i64 ln) :: (10, .int .i64 n) :: (0, .sl 2 (l.map TLV.enc)) :: T, H, c⟩, [.t 2], 0⟩ ⟨.int .i64 (cp p rest), []⟩
 | [], done, p, T, H, c, n, e, hn, hp => by
  have hd : l.length = done.length := by simp [e]
  have hll : (l.map TLV.enc).length = l.length := by simp
  refine evl ?_
  repeat' (first | refine ab ?_ | (refine aa ?_ ?_ <;> intro h))
  all_goals try (refine ax ?_; first | rfl | (simp [cp, Bool.cond_eq_ite, *]; done) | (simp [cp, Bool.cond_eq_ite, *]; omega) | (unfold cp; repeat' split; all_goals first | rfl | (exfalso; omega) | (simp_all; done) | (simp_all; omega)))
 | x :: r, done, p, T, H, c, n, e, hn, hp => by
  have hd : l.length = done.length + (r.length + 1) := by simp [e]
  have hll : (l.map TLV.enc).length = l.length := by simp
  have hx : (l.map TLV.enc)[n.toNat]? = some (TLV.enc x) := by simp [e, hn]
  have hxv : x.value.length < 2 ^ 40 := hv x (by simp [e])
  have hbl : (byteCells x.value).length = x.value.length := by simp [byteCells]
  rcases List.eq_nil_or_concat done with rfl | ⟨d, q, rfl⟩
  ·obtain rfl : p = none := by simp [hp]
   simp only [List.length_nil] at hn hd
   refine evl ?_
   repeat' (first | refine ab ?_ | (refine aa ?_ ?_ <;> intro h))
   all_goals try (refine ax ?_; first | rfl | (simp [cp, Bool.cond_eq_ite, *]; done) | (simp [cp, Bool.cond_eq_ite, *]; omega) | (unfold cp; repeat' split; all_goals first | rfl | (exfalso; omega) | (simp_all; done) | (simp_all; omega)))
   rw [show cp none (x :: r) = cp (some x.kind) r from by simp [cp]; omega]
   refine ag [8, 9, 10, 0] [] ?_; exact jH l hv hl ln hln r [x] _ _ _ _ (n + 1) (by simp [e]) (by simp [hn] <;> omega) (by simp)
  ·obtain rfl : p = some q.kind := by simp [hp]
   simp only [List.concat_eq_append, List.length_append, List.length_singleton] at hn hd
   have hn1 : (n - 1).toNat = d.length := by omega
   have hy : (l.map TLV.enc)[(n - 1).toNat]? = some (TLV.enc q) := by rw [hn1, e]; simp
   refine evl ?_
   repeat' (first | refine ab ?_ | (refine aa ?_ ?_ <;> intro h))
   all_goals try (refine ax ?_; first | rfl | (simp [cp, Bool.cond_eq_ite, *]; done) | (simp [cp, Bool.cond_eq_ite, *]; omega) | (unfold cp; repeat' split; all_goals first | rfl | (exfalso; omega) | (simp_all; done) | (simp_all; omega)))
   rw [show cp (some q.kind) (x :: r) = cp (some x.kind) r from by simp [cp]; omega]
   refine ag [8, 9, 10, 0] [] ?_; exact jH l hv hl ln hln r (d ++ [q] ++ [x]) _ _ _ _ (n + 1) (by simp [e]) (by simp [hn] <;> omega) (by simp)
theorem tk (l : List TLV) (hl : l.length < 2 ^ 40) (hv : ∀ t ∈ l, t.value.length < 2 ^ 40) : ah G 79 [.sl 2 (l.map TLV.enc)] [] ⟨.int .i64 (cO l), []⟩ := by
 have ll : (l.map TLV.enc).length = l.length := by simp
 refine ae (F := f79) rfl rfl (az 300 _ _ _ _ ?_)
 repeat' (first | refine ab ?_ | (refine aa ?_ ?_ <;> intro h))
 all_goals try (refine ax ?_; first | rfl | (simp [cO, Bool.cond_eq_ite, *]; done) | (simp [cO, Bool.cond_eq_ite, *]; omega) | (unfold cO; repeat' split; all_goals first | rfl | (exfalso; omega) | (simp_all; done) | (simp_all; omega)))
 rw [show cO l = cp none l from by simp [cO]; omega]
 refine ag [8, 9, 10, 0] [] ?_
 exact jH l hv hl _ (by simp) l [] _ _ _ _ 0 rfl rfl rfl
end Go.AM.IR
namespace Go.AM.IR
def mo (h : Bool) (x : Int) : Int := if h = (x == 0) then 1 else 0
def gy (a : Attrs) : List Int := [if a.origin < 0 ∨ a.origin > 2 then 5 else 0, g7 a.path, if a.nextHop = 0 then 1 else 0, jM a.hasMED a.med 0, jM a.hasPref a.pref 0, jM a.hasAggr a.aggrAS 1, if a.hasAggr = false ∧ a.aggrAddr ≠ 0 then 1 else 0, fp a.comms, mo a.hasOrig a.orig, dI a.clusters, cO a.unknown]
def bW (a : Attrs) : Int := cR (gy a)
structure LenB (a : Attrs) : Prop where
 path : a.path.length < 2 ^ 40
 segs : ∀ s ∈ a.path, s.as.length < 2 ^ 40
 comms : a.comms.length < 2 ^ 40
 clusters : a.clusters.length < 2 ^ 40
 unknown : a.unknown.length < 2 ^ 40
 vals : ∀ t ∈ a.unknown, t.value.length < 2 ^ 40
theorem i6 (a : Attrs) (h : LenB a) : ah G 65 [.agg a.enc] [] ⟨.int .i64 (bW a), []⟩ := by
 obtain ⟨h1, h2, h3, h4, h5, h6⟩ := h
 refine ae (F := f65) rfl rfl (az 300 _ _ _ _ ?_)
 repeat' (first | refine ab ?_ | refine kV (ya _ _) ?_ | refine kV (sm _ _ _) ?_ | refine kV (xx a.path h1 h2) ?_ | refine kV (Bn a.comms h3) ?_ | refine kV (sX a.clusters h4) ?_ | refine kV (tk a.unknown h5 h6) ?_ | (refine aa ?_ ?_ <;> intro h))
 all_goals (refine uz [(123, _, .vec 1 _)] ⟨rfl, rfl, trivial⟩ rfl (by simp) rfl rfl (xq [_, _, _, _, _, _, _, _, _, _, _] (by simp)) rfl ?_)
 repeat' (first | refine ab ?_ | (refine aa ?_ ?_ <;> intro h))
 all_goals (refine ax ?_; refine congrArg (fun x => Ret.mk (.int .i64 x) []) ?_; unfold bW; refine congrArg cR ?_; simp [gy, mo, *]; try omega)
end Go.AM.IR
namespace Go.AM.IR
def u64 (n : Int) : Nat := (n % 18446744073709551616).toNat
theorem zCU {k : Eff → Prop} {x : Opd} {g key : Nat} {hg : Nat → Option (Nat × Blk)} {n : Int} (h : k { res := .int .u64 ((u64 n : Nat) : Int) }) : ∃ e, aQ (.conv .u64 x) g key [.int .i64 n] hg = some e ∧ k e :=
 ⟨_, by
  show some (({ res := .int .u64 (IntKind.wrap .u64 n) } : Eff)) = _
  have : IntKind.wrap .u64 n = ((u64 n : Nat) : Int) := by
   simp [IntKind.wrap, IntKind.signed, IntKind.bits, u64]; omega
  rw [this], h⟩
theorem fw (n x : Nat) (hn : n ≤ 8) : ah G 109 [.con (.slice none 0 0), .int .i64 n, .int .u64 (x : Int)] [] (rB (be n x)) :=
 iq rfl (cQ [] (by simp) n x hn) ⟨LeP.nil 1, .refl _, .refl _, trivial⟩
def zeroA : Attrs := ⟨0, [], 0, false, 0, false, 0, false, false, 0, 0, [], false, 0, [], []⟩
def ap : PMsg := ⟨0, 0, 0, 0, 0, [], [], zeroA, [], 0, 0, []⟩
theorem rBl {p q : Bool} (h : p = q) : (⟨.bool p, []⟩ : Ret) = ⟨.bool q, []⟩ := by rw [h]
end Go.AM.IR
namespace Go.AM.IR
deriving instance DecidableEq for Seg, TLV, Attrs
theorem uk (la lb : List Int) (hlen : la.length = lb.length) (hl : la.length < 2 ^ 40) : ∀ (r1 d1 r2 d2 : List Int) (T : List (Nat × AV)) (H : aq) (c : Nat) (n : Int) (e1 : la = d1 ++ r1) (e2 : lb = d2 ++ r2) (hn1 : n = d1.length) (hn2 : n = d2.length),
  Ev G ⟨Sd, ⟨(13, .int .i64 n) :: (1, .sl 1 (lb.map bf)) :: (0, .sl 1 (la.map bf)) :: (12, .int .i64 la.length) :: T, H, c⟩, [.t 4], 0⟩ ⟨.bool (decide (r1 = r2)), []⟩
 | [], d1, [], d2, T, H, c, n, e1, e2, hn1, hn2 => by
  have hd : la.length = d1.length := by simp [e1]
  refine evl ?_
  repeat' (first | refine ab ?_ | (refine aa ?_ ?_ <;> intro h))
  all_goals try exact dnA
 | x :: r1, d1, y :: r2, d2, T, H, c, n, e1, e2, hn1, hn2 => by
  have hd : la.length = d1.length + (r1.length + 1) := by simp [e1]
  have hx : (la.map bf)[n.toNat]? = some (bf x) := by simp [e1, hn1]
  have hy : (lb.map bf)[n.toNat]? = some (bf y) := by simp [e2, hn2]
  refine evl ?_
  repeat' (first | refine ab ?_ | (refine aa ?_ ?_ <;> intro h))
  all_goals try exact dnA
  rw [show decide (x :: r1 = y :: r2) = decide (r1 = r2) from by simp [*]]
  refine ag [13, 1, 0, 12] [] ?_; exact uk la lb hlen hl r1 (d1 ++ [x]) r2 (d2 ++ [y]) _ _ _ (n + 1) (by simp [e1]) (by simp [e2]) (by simp [hn1]) (by simp; omega)
 | [], d1, y :: r2, d2, T, H, c, n, e1, e2, hn1, hn2 => by
  exfalso; rw [e1, e2] at hlen; simp at hlen; omega
 | x :: r1, d1, [], d2, T, H, c, n, e1, e2, hn1, hn2 => by
  exfalso; rw [e1, e2] at hlen; simp at hlen; omega
theorem j8 (la lb : List Int) (h1 : la.length < 2 ^ 40) (h2 : lb.length < 2 ^ 40) : ah G 104 [.sl 1 (la.map bf), .sl 1 (lb.map bf)] [] ⟨.bool (decide (la = lb)), []⟩ := by
 have l1 : (la.map bf).length = la.length := by simp
 have l2 : (lb.map bf).length = lb.length := by simp
 by_cases hlen : la.length = lb.length
 ·refine ae (F := JI) rfl rfl (az 300 _ _ _ _ ?_)
  repeat' (first | refine ab ?_ | (refine aa ?_ ?_ <;> intro h))
  refine ag [13, 1, 0, 12] [] ?_
  rw [l1]
  exact uk la lb hlen h1 la [] lb [] _ _ _ 0 rfl rfl rfl rfl
 ·rw [show decide (la = lb) = false from by simp; intro h; exact hlen (by rw [h])]
  refine ae (F := JI) rfl rfl (az 300 _ _ _ _ ?_)
  repeat' (first | refine ab ?_ | (refine aa ?_ ?_ <;> intro h))
  all_goals try exact dnA
theorem wG (la lb : List Int) (hlen : la.length = lb.length) (hl : la.length < 2 ^ 40) : ∀ (r1 d1 r2 d2 : List Int) (T : List (Nat × AV)) (H : aq) (c : Nat) (n : Int) (e1 : la = d1 ++ r1) (e2 : lb = d2 ++ r2) (hn1 : n = d1.length) (hn2 : n = d2.length),
  Ev G ⟨Uq, ⟨(13, .int .i64 n) :: (1, .sl 1 (lb.map bf)) :: (0, .sl 1 (la.map bf)) :: (12, .int .i64 la.length) :: T, H, c⟩, [.t 4], 0⟩ ⟨.bool (decide (r1 = r2)), []⟩
 | [], d1, [], d2, T, H, c, n, e1, e2, hn1, hn2 => by
  have hd : la.length = d1.length := by simp [e1]
  refine evl ?_
  repeat' (first | refine ab ?_ | (refine aa ?_ ?_ <;> intro h))
  all_goals try exact dnA
 | x :: r1, d1, y :: r2, d2, T, H, c, n, e1, e2, hn1, hn2 => by
  have hd : la.length = d1.length + (r1.length + 1) := by simp [e1]
  have hx : (la.map bf)[n.toNat]? = some (bf x) := by simp [e1, hn1]
  have hy : (lb.map bf)[n.toNat]? = some (bf y) := by simp [e2, hn2]
  refine evl ?_
  repeat' (first | refine ab ?_ | (refine aa ?_ ?_ <;> intro h))
  all_goals try exact dnA
  rw [show decide (x :: r1 = y :: r2) = decide (r1 = r2) from by simp [*]]
  refine ag [13, 1, 0, 12] [] ?_; exact wG la lb hlen hl r1 (d1 ++ [x]) r2 (d2 ++ [y]) _ _ _ (n + 1) (by simp [e1]) (by simp [e2]) (by simp [hn1]) (by simp; omega)
 | [], d1, y :: r2, d2, T, H, c, n, e1, e2, hn1, hn2 => by
  exfalso; rw [e1, e2] at hlen; simp at hlen; omega
 | x :: r1, d1, [], d2, T, H, c, n, e1, e2, hn1, hn2 => by
  exfalso; rw [e1, e2] at hlen; simp at hlen; omega
theorem gg (la lb : List Int) (h1 : la.length < 2 ^ 40) (h2 : lb.length < 2 ^ 40) : ah G 99 [.sl 1 (la.map bf), .sl 1 (lb.map bf)] [] ⟨.bool (decide (la = lb)), []⟩ := by
 have l1 : (la.map bf).length = la.length := by simp
 have l2 : (lb.map bf).length = lb.length := by simp
 by_cases hlen : la.length = lb.length
 ·refine ae (F := f99) rfl rfl (az 300 _ _ _ _ ?_)
  repeat' (first | refine ab ?_ | (refine aa ?_ ?_ <;> intro h))
  refine ag [13, 1, 0, 12] [] ?_
  rw [l1]
  exact wG la lb hlen h1 la [] lb [] _ _ _ 0 rfl rfl rfl rfl
 ·rw [show decide (la = lb) = false from by simp; intro h; exact hlen (by rw [h])]
  refine ae (F := f99) rfl rfl (az 300 _ _ _ _ ?_)
  repeat' (first | refine ab ?_ | (refine aa ?_ ?_ <;> intro h))
  all_goals try exact dnA
theorem tZ (pa pb : List Seg) (hlen : pa.length = pb.length) (hl : pa.length < 2 ^ 40) (i : Int) (s t : Seg) (h0 : 0 ≤ i) (hs : (pa.map Seg.enc)[i.toNat]? = some s.enc) (ht : (pb.map Seg.enc)[i.toNat]? = some t.enc) (hi : i < 2 ^ 40)
  (hst : s.as.length = t.as.length) (hsl : s.as.length < 2 ^ 40) (R : Bool)
  (go : ∀ T H c, Ev G ⟨wC, ⟨(14, .int .i64 (i + 1)) :: (1, .sl 2 (pb.map Seg.enc)) :: (0, .sl 2 (pa.map Seg.enc)) :: (13, .int .i64 pa.length) :: T, H, c⟩, [.t 4], 0⟩ ⟨.bool R, []⟩) : ∀ (r1 d1 r2 d2 : List Int) (T : List (Nat × AV)) (H : aq) (c : Nat) (n : Int) (e1 : s.as = d1 ++ r1) (e2 : t.as = d2 ++ r2) (hn1 : n = d1.length) (hn2 : n = d2.length),
  Ev G ⟨Ny, ⟨(49, .int .i64 n) :: (5, .int .i64 i) :: (1, .sl 2 (pb.map Seg.enc)) :: (0, .sl 2 (pa.map Seg.enc)) :: (13, .int .i64 pa.length) :: (14, .int .i64 i) :: (48, .int .i64 s.as.length) :: T, H, c⟩, [.t 4], 0⟩ ⟨.bool (decide (r1 = r2) && R), []⟩
 | [], d1, [], d2, T, H, c, n, e1, e2, hn1, hn2 => by
  have hd : s.as.length = d1.length := by simp [e1]
  refine evl ?_
  repeat' (first | refine ab ?_ | (refine aa ?_ ?_ <;> intro h))
  refine ag [14, 1, 0, 13] [] ?_
  rw [show (decide (([] : List Int) = []) && R) = R from by simp]
  exact go _ _ _
 | x :: r1, d1, y :: r2, d2, T, H, c, n, e1, e2, hn1, hn2 => by
  have hd : s.as.length = d1.length + (r1.length + 1) := by simp [e1]
  have hx : (s.as.map bj)[n.toNat]? = some (bj x) := by simp [e1, hn1]
  have hy : (t.as.map bj)[n.toNat]? = some (bj y) := by simp [e2, hn2]
  refine evl ?_
  repeat' (first | refine ab ?_ | (refine aa ?_ ?_ <;> intro h))
  all_goals try exact dnA
  rw [show decide (x :: r1 = y :: r2) = decide (r1 = r2) from by simp [*]]
  refine ag [49, 5, 1, 0, 13, 14, 48] [] ?_; exact tZ pa pb hlen hl i s t h0 hs ht hi hst hsl R go r1 (d1 ++ [x]) r2 (d2 ++ [y]) _ _ _ (n + 1) (by simp [e1]) (by simp [e2]) (by simp [hn1]) (by simp; omega)
 | [], d1, y :: r2, d2, T, H, c, n, e1, e2, hn1, hn2 => by
  exfalso; rw [e1, e2] at hst; simp at hst; omega
 | x :: r1, d1, [], d2, T, H, c, n, e1, e2, hn1, hn2 => by
  exfalso; rw [e1, e2] at hst; simp at hst; omega
theorem ry (pa pb : List Seg) (hlen : pa.length = pb.length) (hl : pa.length < 2 ^ 40) (ha : ∀ s ∈ pa, s.as.length < 2 ^ 40) (hb : ∀ s ∈ pb, s.as.length < 2 ^ 40) : ∀ (r1 d1 r2 d2 : List Seg) (T : List (Nat × AV)) (H : aq) (c : Nat) (n : Int) (e1 : pa = d1 ++ r1) (e2 : pb = d2 ++ r2) (hn1 : n = d1.length) (hn2 : n = d2.length),
  Ev G ⟨wC, ⟨(14, .int .i64 n) :: (1, .sl 2 (pb.map Seg.enc)) :: (0, .sl 2 (pa.map Seg.enc)) :: (13, .int .i64 pa.length) :: T, H, c⟩, [.t 4], 0⟩ ⟨.bool (decide (r1 = r2)), []⟩
 | [], d1, [], d2, T, H, c, n, e1, e2, hn1, hn2 => by
  have hd : pa.length = d1.length := by simp [e1]
  refine evl ?_
  repeat' (first | refine ab ?_ | (refine aa ?_ ?_ <;> intro h))
  all_goals try exact dnA
 | x :: r1, d1, y :: r2, d2, T, H, c, n, e1, e2, hn1, hn2 => by
  have hd : pa.length = d1.length + (r1.length + 1) := by simp [e1]
  have hx : (pa.map Seg.enc)[n.toNat]? = some x.enc := by simp [e1, hn1]
  have hy : (pb.map Seg.enc)[n.toNat]? = some y.enc := by simp [e2, hn2]
  have hxl := ha x (by simp [e1])
  have hyl := hb y (by simp [e2])
  have l1 : (x.as.map bj).length = x.as.length := by simp
  have l2 : (y.as.map bj).length = y.as.length := by simp
  have hee : (x = y) ↔ (x.kind = y.kind ∧ x.as = y.as) := by cases x; cases y; simp
  have ih := fun T H c => ry pa pb hlen hl ha hb r1 (d1 ++ [x]) r2 (d2 ++ [y]) T H c (n + 1) (by simp [e1]) (by simp [e2]) (by simp [hn1]) (by simp; omega)
  by_cases hk : x.kind = y.kind
  ·by_cases hal : x.as.length = y.as.length
   ·refine evl ?_
    repeat' (first | refine ab ?_ | (refine aa ?_ ?_ <;> intro h))
    refine ag [49, 5, 1, 0, 13, 14, 48] [] ?_
    rw [l1]
    have := tZ pa pb hlen hl n x y (by omega) hx hy (by omega) hal hxl _ ih x.as [] y.as []
    rw [show decide (x :: r1 = y :: r2) = (decide (x.as = y.as) && decide (r1 = r2)) from by simp [hee, hk]]
    exact this _ _ _ 0 rfl rfl rfl rfl
   ·rw [show decide (x :: r1 = y :: r2) = false from by simp [hee]; intro _ h; exact absurd (by rw [h]) hal]
    refine evl ?_
    repeat' (first | refine ab ?_ | (refine aa ?_ ?_ <;> intro h))
    all_goals try exact dnA
  ·rw [show decide (x :: r1 = y :: r2) = false from by simp [hee, hk]]
   refine evl ?_
   repeat' (first | refine ab ?_ | (refine aa ?_ ?_ <;> intro h))
   all_goals try exact dnA
 | [], d1, y :: r2, d2, T, H, c, n, e1, e2, hn1, hn2 => by
  exfalso; rw [e1, e2] at hlen; simp at hlen; omega
 | x :: r1, d1, [], d2, T, H, c, n, e1, e2, hn1, hn2 => by
  exfalso; rw [e1, e2] at hlen; simp at hlen; omega
theorem ob (pa pb : List Seg) (h1 : pa.length < 2 ^ 40) (h2 : pb.length < 2 ^ 40) (ha : ∀ s ∈ pa, s.as.length < 2 ^ 40) (hb : ∀ s ∈ pb, s.as.length < 2 ^ 40) : ah G 103 [.sl 2 (pa.map Seg.enc), .sl 2 (pb.map Seg.enc)] [] ⟨.bool (decide (pa = pb)), []⟩ := by
 have l1 : (pa.map Seg.enc).length = pa.length := by simp
 have l2 : (pb.map Seg.enc).length = pb.length := by simp
 by_cases hlen : pa.length = pb.length
 ·refine ae (F := JK) rfl rfl (az 300 _ _ _ _ ?_)
  repeat' (first | refine ab ?_ | (refine aa ?_ ?_ <;> intro h))
  refine ag [14, 1, 0, 13] [] ?_
  rw [l1]
  exact ry pa pb hlen h1 ha hb pa [] pb [] _ _ _ 0 rfl rfl rfl rfl
 ·rw [show decide (pa = pb) = false from by simp; intro h; exact hlen (by rw [h])]
  refine ae (F := JK) rfl rfl (az 300 _ _ _ _ ?_)
  repeat' (first | refine ab ?_ | (refine aa ?_ ?_ <;> intro h))
  all_goals try exact dnA
theorem wu (pa pb : List Seg) (hlen : pa.length = pb.length) (hl : pa.length < 2 ^ 40) (i : Int) (s t : Seg) (h0 : 0 ≤ i) (hs : (pa.map Seg.enc)[i.toNat]? = some s.enc) (ht : (pb.map Seg.enc)[i.toNat]? = some t.enc) (hi : i < 2 ^ 40)
  (hst : s.as.length = t.as.length) (hsl : s.as.length < 2 ^ 40) (R : Bool)
  (go : ∀ T H c, Ev G ⟨zm, ⟨(14, .int .i64 (i + 1)) :: (1, .sl 2 (pb.map Seg.enc)) :: (0, .sl 2 (pa.map Seg.enc)) :: (13, .int .i64 pa.length) :: T, H, c⟩, [.t 4], 0⟩ ⟨.bool R, []⟩) : ∀ (r1 d1 r2 d2 : List Int) (T : List (Nat × AV)) (H : aq) (c : Nat) (n : Int) (e1 : s.as = d1 ++ r1) (e2 : t.as = d2 ++ r2) (hn1 : n = d1.length) (hn2 : n = d2.length),
  Ev G ⟨Qg, ⟨(49, .int .i64 n) :: (5, .int .i64 i) :: (1, .sl 2 (pb.map Seg.enc)) :: (0, .sl 2 (pa.map Seg.enc)) :: (13, .int .i64 pa.length) :: (14, .int .i64 i) :: (48, .int .i64 s.as.length) :: T, H, c⟩, [.t 4], 0⟩ ⟨.bool (decide (r1 = r2) && R), []⟩
 | [], d1, [], d2, T, H, c, n, e1, e2, hn1, hn2 => by
  have hd : s.as.length = d1.length := by simp [e1]
  refine evl ?_
  repeat' (first | refine ab ?_ | (refine aa ?_ ?_ <;> intro h))
  refine ag [14, 1, 0, 13] [] ?_
  rw [show (decide (([] : List Int) = []) && R) = R from by simp]
  exact go _ _ _
 | x :: r1, d1, y :: r2, d2, T, H, c, n, e1, e2, hn1, hn2 => by
  have hd : s.as.length = d1.length + (r1.length + 1) := by simp [e1]
  have hx : (s.as.map bj)[n.toNat]? = some (bj x) := by simp [e1, hn1]
  have hy : (t.as.map bj)[n.toNat]? = some (bj y) := by simp [e2, hn2]
  refine evl ?_
  repeat' (first | refine ab ?_ | (refine aa ?_ ?_ <;> intro h))
  all_goals try exact dnA
  rw [show decide (x :: r1 = y :: r2) = decide (r1 = r2) from by simp [*]]
  refine ag [49, 5, 1, 0, 13, 14, 48] [] ?_; exact wu pa pb hlen hl i s t h0 hs ht hi hst hsl R go r1 (d1 ++ [x]) r2 (d2 ++ [y]) _ _ _ (n + 1) (by simp [e1]) (by simp [e2]) (by simp [hn1]) (by simp; omega)
 | [], d1, y :: r2, d2, T, H, c, n, e1, e2, hn1, hn2 => by
  exfalso; rw [e1, e2] at hst; simp at hst; omega
 | x :: r1, d1, [], d2, T, H, c, n, e1, e2, hn1, hn2 => by
  exfalso; rw [e1, e2] at hst; simp at hst; omega
theorem tJ (pa pb : List Seg) (hlen : pa.length = pb.length) (hl : pa.length < 2 ^ 40) (ha : ∀ s ∈ pa, s.as.length < 2 ^ 40) (hb : ∀ s ∈ pb, s.as.length < 2 ^ 40) : ∀ (r1 d1 r2 d2 : List Seg) (T : List (Nat × AV)) (H : aq) (c : Nat) (n : Int) (e1 : pa = d1 ++ r1) (e2 : pb = d2 ++ r2) (hn1 : n = d1.length) (hn2 : n = d2.length),
  Ev G ⟨zm, ⟨(14, .int .i64 n) :: (1, .sl 2 (pb.map Seg.enc)) :: (0, .sl 2 (pa.map Seg.enc)) :: (13, .int .i64 pa.length) :: T, H, c⟩, [.t 4], 0⟩ ⟨.bool (decide (r1 = r2)), []⟩
 | [], d1, [], d2, T, H, c, n, e1, e2, hn1, hn2 => by
  have hd : pa.length = d1.length := by simp [e1]
  refine evl ?_
  repeat' (first | refine ab ?_ | (refine aa ?_ ?_ <;> intro h))
  all_goals try exact dnA
 | x :: r1, d1, y :: r2, d2, T, H, c, n, e1, e2, hn1, hn2 => by
  have hd : pa.length = d1.length + (r1.length + 1) := by simp [e1]
  have hx : (pa.map Seg.enc)[n.toNat]? = some x.enc := by simp [e1, hn1]
  have hy : (pb.map Seg.enc)[n.toNat]? = some y.enc := by simp [e2, hn2]
  have hxl := ha x (by simp [e1])
  have hyl := hb y (by simp [e2])
  have l1 : (x.as.map bj).length = x.as.length := by simp
  have l2 : (y.as.map bj).length = y.as.length := by simp
  have hee : (x = y) ↔ (x.kind = y.kind ∧ x.as = y.as) := by cases x; cases y; simp
  have ih := fun T H c => tJ pa pb hlen hl ha hb r1 (d1 ++ [x]) r2 (d2 ++ [y]) T H c (n + 1) (by simp [e1]) (by simp [e2]) (by simp [hn1]) (by simp; omega)
  by_cases hk : x.kind = y.kind
  ·by_cases hal : x.as.length = y.as.length
   ·refine evl ?_
    repeat' (first | refine ab ?_ | (refine aa ?_ ?_ <;> intro h))
    refine ag [49, 5, 1, 0, 13, 14, 48] [] ?_
    rw [l1]
    have := wu pa pb hlen hl n x y (by omega) hx hy (by omega) hal hxl _ ih x.as [] y.as []
    rw [show decide (x :: r1 = y :: r2) = (decide (x.as = y.as) && decide (r1 = r2)) from by simp [hee, hk]]
    exact this _ _ _ 0 rfl rfl rfl rfl
   ·rw [show decide (x :: r1 = y :: r2) = false from by simp [hee]; intro _ h; exact absurd (by rw [h]) hal]
    refine evl ?_
    repeat' (first | refine ab ?_ | (refine aa ?_ ?_ <;> intro h))
    all_goals try exact dnA
  ·rw [show decide (x :: r1 = y :: r2) = false from by simp [hee, hk]]
   refine evl ?_
   repeat' (first | refine ab ?_ | (refine aa ?_ ?_ <;> intro h))
   all_goals try exact dnA
 | [], d1, y :: r2, d2, T, H, c, n, e1, e2, hn1, hn2 => by
  exfalso; rw [e1, e2] at hlen; simp at hlen; omega
 | x :: r1, d1, [], d2, T, H, c, n, e1, e2, hn1, hn2 => by
  exfalso; rw [e1, e2] at hlen; simp at hlen; omega
theorem oA (pa pb : List Seg) (h1 : pa.length < 2 ^ 40) (h2 : pb.length < 2 ^ 40) (ha : ∀ s ∈ pa, s.as.length < 2 ^ 40) (hb : ∀ s ∈ pb, s.as.length < 2 ^ 40) : ah G 97 [.sl 2 (pa.map Seg.enc), .sl 2 (pb.map Seg.enc)] [] ⟨.bool (decide (pa = pb)), []⟩ := by
 have l1 : (pa.map Seg.enc).length = pa.length := by simp
 have l2 : (pb.map Seg.enc).length = pb.length := by simp
 by_cases hlen : pa.length = pb.length
 ·refine ae (F := f97) rfl rfl (az 300 _ _ _ _ ?_)
  repeat' (first | refine ab ?_ | (refine aa ?_ ?_ <;> intro h))
  refine ag [14, 1, 0, 13] [] ?_
  rw [l1]
  exact tJ pa pb hlen h1 ha hb pa [] pb [] _ _ _ 0 rfl rfl rfl rfl
 ·rw [show decide (pa = pb) = false from by simp; intro h; exact hlen (by rw [h])]
  refine ae (F := f97) rfl rfl (az 300 _ _ _ _ ?_)
  repeat' (first | refine ab ?_ | (refine aa ?_ ?_ <;> intro h))
  all_goals try exact dnA
end Go.AM.IR
