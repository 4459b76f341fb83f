/- Part AP. -/
import Derived.Test.YtlnpoabdcheleaaDoorA2
namespace Ab.AP
open Go Ab
abbrev m (d s : Nat) : ak := ⟨some d, .mv (.t s), none⟩
abbrev k (d : Nat) (v : AV) : ak := ⟨some d, .mv (.c v), none⟩
abbrev mg (d s g : Nat) (w : Bool) : ak := ⟨some d, .mv (.t s), some (g, w)⟩
abbrev u (d : Nat) (o : ch) : ak := ⟨some d, o, none⟩
abbrev g (d k : Nat) (w : Bool) (o : ch) : ak := ⟨some d, o, some (k, w)⟩
abbrev ld (d n s : Nat) : ak := ⟨some d, .load false n (.t s), none⟩
abbrev fa (d n s : Nat) : ak := ⟨some d, .pJ n (.t s), none⟩
abbrev nc (d s : Nat) : ak := ⟨some d, .pS (.t s), none⟩
abbrev ex (d s i : Nat) : ak := ⟨some d, .pG (.t s) i, none⟩
abbrev b (d : Nat) (o : Bo) (x y : X) : ak := ⟨some d, .bin o x y, none⟩
abbrev pk (d : Nat) (x y z : X) : ak := ⟨some d, .pick x y z, none⟩
abbrev cl (d f : Nat) (x : List X) : ak := ⟨some d, .call (.c (.fn f [] [])) x, none⟩
abbrev i (n : Int) : AV := .int .i64 n
abbrev c (n : Int) : X := .c (.int .i64 n)
abbrev f : X := .c (.bool false)
abbrev y : X := .c (.bool true)
abbrev s (a : List ak) (k : List Nat) (r : aH) : aH := .seq (.qx a k) r
abbrev a (n : Nat) (r : List RV) (p : Bool) (c : aH) : fR := ⟨n, r, p, c⟩
def f7L0 : aH := (.seq (s [m 20 8,
 u 21 (.not (.t 20)),
 m 22 21,
 mg 23 7 22 true,
 g 24 22 true (.pS (.t 23)),
 g 25 22 true (.pJ 3 (.t 24)),
 g 26 22 true (.load false 1 (.t 25)),
 g 27 22 true (.bin .eql (.t 26) (c 0)),
 pk 28 (.t 22) (.t 27) f] [7, 28] (.cond (.t 28) .skip (.exit 0) [7])) (.block 1 (.qx [m 29 7,
 cl 30 15 [(.t 29)],
 m 8 30] [7, 8]) [7, 8]))
def f7 : fR := a 2 [.tmp 4, .tmp 5, .tmp 6] true
 (s [k 4 (.str ⟨#[]⟩),
 k 5 (i 0),
 k 6 (i 0)] [0, 1] (.seq (s [m 9 1,
 b 10 .lss (.t 9) (c 0),
 m 11 10,
 mg 12 1 11 false,
 g 13 11 false (.bin .gtr (.t 12) (c 8192)),
 pk 14 (.t 11) y (.t 13)] [0, 1, 14] (.cond (.t 14) (s [k 4 (.str ⟨#[]⟩),
 k 5 (i 0),
 k 6 (i 700)] [4, 5, 6]
 .ret)
 .skip [0, 1]))
 (s [m 15 0,
 cl 16 14 [(.t 15)],
 m 17 1,
 u 18 (.build [.cO, .aQ, i 0, i 0] [(0, 1, (.t 16)), (2, 1, (.t 17))]),
 u 19 (.box 4 (.t 18)),
 m 7 19] [7] (.seq (s [k 8 (.bool false)] [7, 8] (.block 0 (.loop [7, 8] f7L0) [7])) (.seq (s [m 31 7,
 nc 32 31,
 fa 33 3 32,
 ld 34 1 33,
 b 35 .neq (.t 34) (c 0)] [7, 35] (.cond (.t 35) (.seq (.jD [0, 1, 2, 3, 4, 5, 6] [m 36 7,
 nc 37 36,
 fa 38 3 37,
 ld 39 1 38,
 k 4 (.str ⟨#[]⟩),
 k 5 (i 0),
 m 6 39] [] [4, 5, 6])
 .ret)
 .skip [7]))
 (s [m 40 7,
 nc 41 40,
 fa 42 0 41,
 ld 43 1 42,
 cl 44 16 [(.t 43)]] [7] (.seq (.jD [0, 1, 2, 3, 4, 5, 6, 7, 8, 9, 10, 11, 12, 13] [m 45 7,
 nc 46 45,
 fa 47 1 46,
 ld 48 1 47,
 u 49 (.mG (.t 48)),
 m 50 7,
 nc 51 50,
 fa 52 0 51,
 ld 53 1 52,
 cl 54 17 [(.t 53)],
 b 55 .quo (.t 54) (c 8),
 m 4 49,
 m 5 55,
 k 6 (i 0)] [(3, [1]), (4, [1])] [4, 5, 6])
 .ret)))))))
def f9 : fR := a 1 [.tmp 2] true
 (s [k 2 (i 0)] [0]
 (s [m 3 0,
 m 2 3] [2]
 .ret))
def f14 : fR := a 1 [.tmp 2] false
 (s [k 2 (.cO)] [0]
 (s [m 3 0,
 u 4 (.build [.str ⟨#[]⟩, i 0] [(0, 1, (.t 3))]),
 u 5 (.box 2 (.t 4)),
 m 2 5] [2]
 .ret))
def f15 : fR := a 1 [.tmp 2] false
 (s [k 2 (.bool false)] [0]
 (s [m 4 0,
 cl 5 38 [(.t 4), (c 1)],
 b 6 .eql (.t 5) (c 1),
 m 3 6] [0, 3] (.seq (s [m 7 0,
 cl 8 38 [(.t 7), (c 2)]] [0, 3, 8] (.block 0 (s [b 12 .eql (.t 8) (c 0),
 m 11 12] [0, 3, 8, 11] (.cond (.t 11) (s [m 13 0,
 nc 14 13,
 fa 15 3 14,
 ld 16 1 15,
 b 17 .eql (.t 16) (c 0)] [0, 3, 17] (.cond (.t 17) (.qx [m 18 0,
 cl 19 39 [(.t 18)]] [3])
 .skip [3]))
 (s [b 21 .eql (.t 8) (c 1),
 m 20 21] [0, 3, 8, 20] (.cond (.t 20) (.qx [m 22 0,
 cl 23 42 [],
 cl 24 41 [(.t 23)],
 u 25 (.dg 1 1 [i 0] [(0, (c 5))]),
 cl 26 43 [(.t 25), (c 30)],
 cl 27 41 [(.t 26)],
 cl 28 40 [(.t 22), (.t 24), (.t 27)]] [3])
 (s [b 30 .eql (.t 8) (c 2),
 m 29 30] [0, 3, 29] (.cond (.t 29) (.qx [m 31 0,
 cl 32 44 [(.t 31)]] [3])
 (.qx [m 9 0,
 cl 10 45 [(.t 9), (c 700)]] [3]) [3])) [3])) [3])) [3]))
 (s [m 33 3,
 m 2 33] [2]
 .ret))))
def f16 : fR := a 1 [.tmp 2] false
 (s [k 2 (i 0)] [0] (.seq (s [m 3 0,
 u 4 (.mM 0 false (.t 3) (.c (.cO)))] [0, 4] (.cond (.t 4) (s [k 2 (i 1)] [2]
 .ret)
 .skip [0]))
 (s [m 5 0,
 m 6 0,
 nc 7 6,
 fa 8 1 7,
 ld 9 1 8,
 b 10 .add (.t 9) (c 8),
 b 11 .sub (.t 10) (c 1),
 b 12 .quo (.t 11) (c 8),
 b 13 .mul (.t 12) (c 8),
 nc 14 5,
 fa 15 1 14,
 ⟨none, .store 1 (.t 15) (.t 13), none⟩] []
 (s [k 2 (i 0)] [2]
 .ret))))
def f17 : fR := a 1 [.tmp 2] false
 (s [k 2 (i 0)] [0] (.seq (s [m 3 0,
 u 4 (.mM 0 false (.t 3) (.c (.cO)))] [0, 4] (.cond (.t 4) (s [k 2 (i 0)] [2]
 .ret)
 .skip [0]))
 (s [m 5 0,
 nc 6 5,
 fa 7 1 6,
 ld 8 1 7,
 m 2 8] [2]
 .ret)))
def f38 : fR := a 2 [.tmp 4] false
 (s [k 4 (i 0)] [0, 1]
 (s [m 8 0,
 nc 9 8,
 fa 10 0 9,
 ld 11 1 10,
 m 12 1,
 cl 13 58 [(.t 11), (.t 12)],
 m 7 13,
 ex 14 7 0,
 ex 15 7 1,
 m 5 14,
 m 6 15] [0, 5, 6] (.seq (s [m 16 6,
 b 17 .neq (.t 16) (c 0)] [0, 5, 17] (.cond (.t 17) (.qx [m 18 0,
 cl 19 45 [(.t 18), (c 700)]] [5])
 .skip [5]))
 (s [m 20 5,
 m 4 20] [4]
 .ret))))
def f39L0 : aH := (.seq (s [m 18 2,
 b 19 .gtr (.t 18) (c 0),
 m 20 19,
 mg 21 0 20 true,
 g 22 20 true (.pS (.t 21)),
 g 23 20 true (.pJ 3 (.t 22)),
 g 24 20 true (.load false 1 (.t 23)),
 g 25 20 true (.bin .eql (.t 24) (c 0)),
 pk 26 (.t 20) (.t 25) f] [0, 2, 26] (.cond (.t 26) .skip (.exit 0) [0, 2])) (.seq (.block 1 (s [m 29 0,
 cl 30 38 [(.t 29), (c 8)],
 m 3 30] [0, 2, 3]
 (s [m 31 0,
 nc 32 31,
 fa 33 3 32,
 ld 34 1 33,
 b 35 .eql (.t 34) (c 0)] [0, 2, 3, 35] (.cond (.t 35) (.qx [m 36 0,
 m 37 3,
 u 38 (.conv .u8 (.t 37)),
 cl 39 59 [(.t 36), (.t 38)]] [0, 2])
 .skip [0, 2]))) [0, 2])
 (.qx [m 27 2,
 b 28 .sub (.t 27) (c 1),
 m 2 28] [0, 2])))
def f39 : fR := a 1 [] false
 (s [m 4 0,
 nc 5 4,
 fa 6 0 5,
 ld 7 1 6,
 cl 8 16 [(.t 7)]] [0]
 (s [m 9 0,
 cl 10 38 [(.t 9), (c 16)],
 m 2 10] [0, 2] (.seq (s [m 11 0,
 cl 12 38 [(.t 11), (c 16)],
 m 13 2,
 b 14 .xor (.t 13) (c 65535),
 b 15 .neq (.t 12) (.t 14)] [0, 2, 15] (.cond (.t 15) (.qx [m 16 0,
 cl 17 45 [(.t 16), (c 700)]] [0, 2])
 .skip [0, 2])) (.block 0 (.loop [0, 2] f39L0) []))))
def f40L0 : aH := (.seq (s [m 7 0,
 nc 8 7,
 fa 9 3 8,
 ld 10 1 9,
 b 11 .eql (.t 10) (c 0)] [0, 1, 2, 11] (.cond (.t 11) .skip (.exit 0) [0, 1, 2])) (.block 1 (s [m 12 0,
 m 13 1,
 cl 14 60 [(.t 12), (.t 13)],
 m 6 14] [0, 1, 2, 6] (.block 2 (s [m 20 6,
 b 21 .lss (.t 20) (c 256),
 m 19 21] [0, 1, 2, 6, 19] (.cond (.t 19) (.qx [m 22 0,
 m 23 6,
 u 24 (.conv .u8 (.t 23)),
 cl 25 59 [(.t 22), (.t 24)]] [0, 1, 2])
 (s [m 27 6,
 b 28 .eql (.t 27) (c 256),
 m 26 28] [0, 1, 2, 6, 26] (.cond (.t 26) .ret
 (.qx [m 15 0,
 m 16 6,
 m 17 2,
 cl 18 61 [(.t 15), (.t 16), (.t 17)]] [0, 1, 2]) [0, 1, 2])) [0, 1, 2])) [0, 1, 2])) [0, 1, 2]))
def f40 : fR := a 3 [] false (.block 0 (.loop [0, 1, 2] f40L0) [])
def f41L0 : aH := (.seq (s [m 44 7,
 b 45 .leq (.t 44) (c 15)] [3, 6, 7, 45] (.cond (.t 45) .skip (.exit 2) [3, 6, 7])) (.seq (.block 3 (s [m 48 6,
 m 49 3,
 m 50 7,
 b 51 .sub (.t 50) (c 1),
 nc 52 49,
 fa 53 16 52,
 u 54 (.mr 16 1 (.t 53) (.t 51)),
 ld 55 1 54,
 b 56 .add (.t 48) (.t 55),
 b 57 .mul (.t 56) (c 2),
 m 6 57] [3, 6, 7]
 (s [m 58 3,
 m 59 7,
 m 60 6,
 nc 61 58,
 fa 62 0 61,
 u 63 (.mr 16 1 (.t 62) (.t 59)),
 ⟨none, .store 1 (.t 63) (.t 60), none⟩] [3, 6, 7]
 (.jD [0, 1, 2, 3, 4, 5, 6, 7, 8, 9, 10, 11, 12, 13, 14, 15] [m 64 3,
 m 65 3,
 nc 66 65,
 fa 67 48 66,
 ld 68 1 67,
 b 69 .mul (.t 68) (c 2),
 m 70 3,
 m 71 7,
 nc 72 70,
 fa 73 16 72,
 u 74 (.mr 16 1 (.t 73) (.t 71)),
 ld 75 1 74,
 b 76 .sub (.t 69) (.t 75),
 nc 77 64,
 fa 78 48 77,
 ⟨none, .store 1 (.t 78) (.t 76), none⟩] [] [3, 6, 7]))) [3, 6, 7])
 (.qx [m 46 7,
 b 47 .add (.t 46) (c 1),
 m 7 47] [3, 6, 7])))
def f41L1 : aH :=
 (s [b 13 .lss (.t 12) (.t 11)] [3, 10, 11, 12, 13] (.seq (.cond (.t 13) .skip (.exit 0) [3, 10, 11, 12]) (.seq (.block 1 (s [m 14 12,
 u 15 (.pK 1 (.t 10) (.t 12)),
 ld 16 1 15,
 m 4 14,
 m 5 16] [3, 4, 5, 10, 11, 12]
 (s [m 17 5,
 b 18 .gtr (.t 17) (c 0)] [3, 4, 5, 10, 11, 12, 18] (.cond (.t 18) (.seq (.jD [0, 1, 2, 3, 4, 5, 6, 7, 8, 9, 10] [m 19 3,
 m 20 5,
 nc 21 19,
 fa 22 16 21,
 u 23 (.mr 16 1 (.t 22) (.t 20)),
 ld 24 1 23,
 b 25 .add (.t 24) (c 1),
 nc 26 19,
 fa 27 16 26,
 u 28 (.mr 16 1 (.t 27) (.t 20)),
 ⟨none, .store 1 (.t 28) (.t 25), none⟩] [] [3, 4, 5, 10, 11, 12])
 (.jD [0, 1, 2, 3, 4, 5, 6, 7, 8, 9, 10, 11, 12, 13, 14] [m 29 3,
 m 30 5,
 m 31 3,
 m 32 5,
 nc 33 31,
 fa 34 32 33,
 u 35 (.mr 16 1 (.t 34) (.t 32)),
 ld 36 1 35,
 m 37 4,
 u 38 (.dg 1 1 [i 0] [(0, (.t 37))]),
 u 39 (.app 1 8 (.t 36) (.t 38)),
 nc 40 29,
 fa 41 32 40,
 u 42 (.mr 16 1 (.t 41) (.t 30)),
 ⟨none, .store 1 (.t 42) (.t 39), none⟩] [] [3, 10, 11, 12]))
 .skip [3, 10, 11, 12]))) [3, 10, 11, 12])
 (.qx [b 43 .add (.t 12) (c 1),
 m 12 43] [3, 10, 11, 12]))))
def f41 : fR := a 1 [.tmp 2] true
 (s [k 2 (.cO)] [0]
 (s [u 8 (.build [i 0, i 0, i 0, i 0, i 0, i 0, i 0, i 0, i 0, i 0, i 0, i 0, i 0, i 0, i 0, i 0, i 0, i 0, i 0, i 0, i 0, i 0, i 0, i 0, i 0, i 0, i 0, i 0, i 0, i 0, i 0, i 0, .aQ, .aQ, .aQ, .aQ, .aQ, .aQ, .aQ, .aQ, .aQ, .aQ, .aQ, .aQ, .aQ, .aQ, .aQ, .aQ, i 0] [(48, 1, (c 1))]),
 u 9 (.box 49 (.t 8)),
 m 3 9] [0, 3] (.seq (s [m 10 0,
 u 11 (.len false (.t 10)),
 k 12 (i 0)] [3, 10, 11, 12] (.block 0 (.loop [3, 10, 11, 12] f41L1) [3]))
 (s [k 6 (i 0)] [3, 6] (.seq (s [k 7 (i 1)] [3, 6, 7] (.block 2 (.loop [3, 6, 7] f41L0) [3]))
 (s [m 79 3,
 m 2 79] [2]
 .ret))))))
def f42 : fR := a 0 [.tmp 0] true
 (s [k 0 (.aQ)] []
 (s [u 1 (.dg 1 1 [i 0] [(0, (c 8))]),
 cl 2 43 [(.t 1), (c 144)],
 u 3 (.dg 1 1 [i 0] [(0, (c 9))]),
 cl 4 43 [(.t 3), (c 112)],
 u 5 (.dg 1 1 [i 0] [(0, (c 7))]),
 cl 6 43 [(.t 5), (c 24)],
 u 7 (.dg 1 1 [i 0] [(0, (c 8))]),
 cl 8 43 [(.t 7), (c 8)],
 u 9 (.dg 1 4 [.aQ] [(0, (.t 2)), (1, (.t 4)), (2, (.t 6)), (3, (.t 8))]),
 cl 10 62 [(.t 9)],
 m 0 10] [0]
 .ret))
def f43L0 : aH := (.seq (s [m 34 8,
 m 35 7,
 u 36 (.len false (.t 35)),
 b 37 .lss (.t 34) (.t 36)] [7, 8, 37] (.cond (.t 37) .skip (.exit 0) [7, 8])) (.block 1 (.jD [0, 1, 2, 3, 4, 5, 6, 7, 8, 9] [m 38 8,
 m 39 7,
 m 40 8,
 u 41 (.sl 1 (.t 39) (some (.t 40)) none none),
 m 42 7,
 m 43 8,
 u 44 (.sl 1 (.t 42) none (some (.t 43)) none),
 u 45 (.copy 1 (.t 41) (.t 44)),
 b 46 .add (.t 38) (.t 45),
 m 8 46] [] [7, 8]) [7, 8]))
def f43 : fR := a 2 [.tmp 4] true
 (s [k 4 (.aQ)] [0, 1] (.seq (s [m 9 1,
 b 10 .lss (.t 9) (c 0)] [0, 1, 10] (.cond (.t 10) (.qx [u 11 (.pR 0 (.c (.str ⟨#[99, 97, 110, 110, 111, 116, 32, 98, 101, 32, 110, 101, 103, 97, 116, 105, 118, 101]⟩))),
 ⟨none, .vW , none⟩] [0, 1])
 .skip [0, 1]))
 (s [m 13 0,
 u 14 (.len false (.t 13)),
 u 15 (.conv .u64 (.t 14)),
 m 16 1,
 u 17 (.conv .u64 (.t 16)),
 cl 18 63 [(.t 15), (.t 17)],
 m 12 18,
 ex 19 12 0,
 ex 20 12 1,
 m 5 19,
 m 6 20] [0, 5, 6] (.seq (s [m 21 5,
 b 22 .gtr (.t 21) (.c (.int .u64 0)),
 m 23 22,
 mg 24 6 23 false,
 g 25 23 false (.bin .gtr (.t 24) (.c (.int .u64 9223372036854775807))),
 pk 26 (.t 23) y (.t 25)] [0, 6, 26] (.cond (.t 26) (.qx [u 27 (.pR 0 (.c (.str ⟨#[116, 104, 101, 32, 114, 101, 115, 117, 108, 116, 32, 111, 102, 32, 40, 108, 101, 110, 40, 120, 41, 32, 42, 32, 99, 111, 117, 110, 116, 41, 32, 111, 118, 101, 114, 102, 108, 111, 119, 115]⟩))),
 ⟨none, .vW , none⟩] [0, 6])
 .skip [0, 6]))
 (s [m 28 6,
 u 29 (.conv .i64 (.t 28)),
 u 30 (.jF 1 8 [i 0] (.t 29) (.t 29)),
 m 7 30] [0, 7]
 (s [m 31 7,
 m 32 0,
 u 33 (.copy 1 (.t 31) (.t 32)),
 m 8 33] [7, 8] (.seq (.block 0 (.loop [7, 8] f43L0) [7])
 (s [m 47 7,
 m 4 47] [4]
 .ret))))))))
def f44 : fR := a 1 [] false
 (s [m 7 0,
 cl 8 38 [(.t 7), (c 5)],
 b 9 .add (.t 8) (c 257),
 m 10 0,
 cl 11 38 [(.t 10), (c 5)],
 b 12 .add (.t 11) (c 1),
 m 2 9,
 m 3 12] [0, 2, 3] (.seq (s [m 13 0,
 nc 14 13,
 fa 15 3 14,
 ld 16 1 15,
 b 17 .neq (.t 16) (c 0),
 m 18 17,
 mg 19 2 18 false,
 g 20 18 false (.bin .gtr (.t 19) (c 286)),
 pk 21 (.t 18) y (.t 20),
 m 22 21,
 mg 23 3 22 false,
 g 24 22 false (.bin .gtr (.t 23) (c 30)),
 pk 25 (.t 22) y (.t 24)] [0, 2, 3, 25] (.cond (.t 25) (s [m 26 0,
 cl 27 45 [(.t 26), (c 700)]] []
 .ret)
 .skip [0, 2, 3]))
 (s [m 28 0,
 m 29 2,
 m 30 3,
 b 31 .add (.t 29) (.t 30),
 cl 32 64 [(.t 28), (.t 31)],
 m 4 32] [0, 2, 4] (.seq (s [m 33 0,
 nc 34 33,
 fa 35 3 34,
 ld 36 1 35,
 b 37 .neq (.t 36) (c 0)] [0, 2, 4, 37] (.cond (.t 37) .ret
 .skip [0, 2, 4])) (.seq (.jD [0, 1, 2, 3, 4, 5, 6, 7] [m 38 4,
 m 39 2,
 u 40 (.sl 1 (.t 38) none (some (.t 39)) none),
 m 41 4,
 m 42 2,
 u 43 (.sl 1 (.t 41) (some (.t 42)) none none),
 m 5 40,
 m 6 43] [] [0, 5, 6]) (.seq (s [m 44 5,
 cl 45 65 [(.t 44)],
 b 46 .neq (.t 45) (c 0),
 m 47 46,
 mg 48 5 47 false,
 g 49 47 false (.pK 1 (.t 48) (c 256)),
 g 50 47 false (.load false 1 (.t 49)),
 g 51 47 false (.bin .eql (.t 50) (c 0)),
 pk 52 (.t 47) y (.t 51),
 m 53 52,
 mg 54 6 53 false,
 g 55 53 false (.call (.c (.fn 65 [] [])) [(.t 54)]),
 g 56 53 false (.bin .neq (.t 55) (c 0)),
 mg 57 56 53 false,
 mg 58 6 57 true,
 g 59 57 true (.call (.c (.fn 66 [] [])) [(.t 58)]),
 g 60 57 true (.not (.t 59)),
 g 61 53 false (.pick (.t 57) (.t 60) f),
 pk 62 (.t 53) y (.t 61)] [0, 5, 6, 62] (.cond (.t 62) (s [m 63 0,
 cl 64 45 [(.t 63), (c 700)]] []
 .ret)
 .skip [0, 5, 6]))
 (.qx [m 65 0,
 m 66 5,
 cl 67 41 [(.t 66)],
 m 68 6,
 cl 69 41 [(.t 68)],
 cl 70 40 [(.t 65), (.t 67), (.t 69)]] [])))))))
def f45 : fR := a 2 [] false
 (s [m 4 0,
 nc 5 4,
 fa 6 3 5,
 ld 7 1 6,
 b 8 .eql (.t 7) (c 0)] [0, 1, 8] (.cond (.t 8) (.qx [m 9 0,
 m 10 1,
 nc 11 9,
 fa 12 3 11,
 ⟨none, .store 1 (.t 12) (.t 10), none⟩] [])
 .skip []))
def f58L0 : aH :=
 (s [b 34 .lss (.t 33) (.t 32)] [0, 6, 32, 33, 34] (.seq (.cond (.t 34) .skip (.exit 1) [0, 6, 32, 33]) (.seq (.block 2 (s [m 35 33,
 m 7 35] [0, 6, 7, 32, 33] (.seq (.jD [0, 1, 2, 3, 4, 5, 6, 7, 8, 9, 10, 11, 12, 13, 14, 15, 16, 17, 18, 19, 20, 21, 22] [m 36 6,
 m 37 0,
 nc 38 37,
 fa 39 0 38,
 ld 40 1 39,
 m 41 0,
 nc 42 41,
 fa 43 1 42,
 ld 44 1 43,
 b 45 .quo (.t 44) (c 8),
 u 46 (.idxs (.t 40) (.t 45)),
 m 47 0,
 nc 48 47,
 fa 49 1 48,
 ld 50 1 49,
 b 51 .rem (.t 50) (c 8),
 b 52 .shr (.t 46) (.t 51),
 b 53 .and (.t 52) (.c (.int .u8 1)),
 u 54 (.conv .i64 (.t 53)),
 m 55 7,
 b 56 .shl (.t 54) (.t 55),
 b 57 .or (.t 36) (.t 56),
 m 6 57] [] [0, 6, 32, 33])
 (.qx [m 58 0,
 nc 59 58,
 fa 60 1 59,
 ld 61 1 60,
 b 62 .add (.t 61) (c 1),
 nc 63 58,
 fa 64 1 63,
 ⟨none, .store 1 (.t 64) (.t 62), none⟩] [0, 6, 32, 33]))) [0, 6, 32, 33])
 (.qx [b 65 .add (.t 33) (c 1),
 m 33 65] [0, 6, 32, 33]))))
def f58 : fR := a 2 [.tmp 4, .tmp 5] false
 (s [k 4 (i 0),
 k 5 (i 0)] [0, 1] (.seq (.block 0 (s [m 9 0,
 u 10 (.mM 0 false (.t 9) (.c (.cO))),
 m 8 10] [0, 1, 8] (.cond (.t 8) (s [k 4 (i 0),
 k 5 (i 1)] [4, 5]
 .ret)
 (s [m 12 1,
 b 13 .lss (.t 12) (c 0),
 m 14 13,
 mg 15 1 14 false,
 g 16 14 false (.bin .gtr (.t 15) (c 16)),
 pk 17 (.t 14) y (.t 16),
 m 11 17] [0, 1, 11] (.cond (.t 11) (s [k 4 (i 0),
 k 5 (i 100)] [4, 5]
 .ret) (.seq (.jD [0, 1, 2, 3, 4, 5, 6, 7, 8, 9, 10, 11, 12, 13] [m 19 1,
 m 20 0,
 nc 21 20,
 fa 22 0 21,
 ld 23 1 22,
 u 24 (.len true (.t 23)),
 b 25 .mul (c 8) (.t 24),
 m 26 0,
 nc 27 26,
 fa 28 1 27,
 ld 29 1 28,
 b 30 .sub (.t 25) (.t 29),
 b 31 .gtr (.t 19) (.t 30),
 m 18 31] [] [0, 1, 18]) (.cond (.t 18) (s [k 4 (i 0),
 k 5 (i 101)] [4, 5]
 .ret)
 .skip [0, 1])) [0, 1])) [0, 1])) [0, 1])
 (s [k 6 (i 0)] [0, 1, 6] (.seq (s [m 32 1,
 k 33 (i 0)] [0, 6, 32, 33] (.block 1 (.loop [0, 6, 32, 33] f58L0) [6]))
 (s [m 66 6,
 m 4 66,
 k 5 (i 0)] [4, 5]
 .ret)))))
def f59 : fR := a 2 [] false (.seq (.seq (.jD [0, 1, 2, 3, 4, 5, 6, 7, 8, 9] [m 4 0,
 nc 5 4,
 fa 6 1 5,
 ld 7 1 6,
 u 8 (.len false (.t 7)),
 m 9 0,
 nc 10 9,
 fa 11 2 10,
 ld 12 1 11,
 b 13 .geq (.t 8) (.t 12)] [] [0, 1, 13]) (.cond (.t 13) (.qx [m 14 0,
 cl 15 45 [(.t 14), (c 701)]] [0, 1])
 .skip [0, 1]))
 (s [m 16 0,
 nc 17 16,
 fa 18 3 17,
 ld 19 1 18,
 b 20 .eql (.t 19) (c 0)] [0, 1, 20] (.cond (.t 20) (.qx [m 21 0,
 m 22 0,
 nc 23 22,
 fa 24 1 23,
 ld 25 1 24,
 m 26 1,
 u 27 (.dg 1 1 [.int .u8 0] [(0, (.t 26))]),
 u 28 (.app 1 1 (.t 25) (.t 27)),
 nc 29 21,
 fa 30 1 29,
 ⟨none, .store 1 (.t 30) (.t 28), none⟩] [])
 .skip [])))
def f60L0 : aH := (.seq (s [m 9 6,
 b 10 .leq (.t 9) (c 15),
 m 11 10,
 mg 12 0 11 true,
 g 13 11 true (.pS (.t 12)),
 g 14 11 true (.pJ 3 (.t 13)),
 g 15 11 true (.load false 1 (.t 14)),
 g 16 11 true (.bin .eql (.t 15) (c 0)),
 pk 17 (.t 11) (.t 16) f] [0, 1, 5, 6, 17] (.cond (.t 17) .skip (.exit 0) [0, 1, 5, 6])) (.seq (.block 1 (s [m 20 5,
 b 21 .mul (.t 20) (c 2),
 m 22 0,
 cl 23 38 [(.t 22), (c 1)],
 b 24 .add (.t 21) (.t 23),
 m 5 24] [0, 1, 5, 6]
 (s [m 26 1,
 m 27 6,
 m 28 5,
 cl 29 72 [(.t 26), (.t 27), (.t 28)],
 m 25 29,
 ex 30 25 0,
 ex 31 25 1,
 m 7 30,
 m 8 31] [0, 1, 5, 6, 7, 8]
 (s [m 32 8,
 m 33 32,
 mg 34 0 33 true,
 g 35 33 true (.pS (.t 34)),
 g 36 33 true (.pJ 3 (.t 35)),
 g 37 33 true (.load false 1 (.t 36)),
 g 38 33 true (.bin .eql (.t 37) (c 0)),
 pk 39 (.t 33) (.t 38) f] [0, 1, 5, 6, 7, 39] (.cond (.t 39) (s [m 40 7,
 m 4 40] [4]
 .ret)
 .skip [0, 1, 5, 6])))) [0, 1, 5, 6])
 (.qx [m 18 6,
 b 19 .add (.t 18) (c 1),
 m 6 19] [0, 1, 5, 6])))
def f60 : fR := a 2 [.tmp 4] false
 (s [k 4 (i 0)] [0, 1]
 (s [k 5 (i 0)] [0, 1, 5] (.seq (s [k 6 (i 1)] [0, 1, 5, 6] (.block 0 (.loop [0, 1, 5, 6] f60L0) [0]))
 (s [m 41 0,
 cl 42 45 [(.t 41), (c 700)]] []
 (s [k 4 (i 256)] [4]
 .ret)))))
def f61L0 : aH := (.seq (s [m 45 6,
 b 46 .gtr (.t 45) (c 0),
 m 47 46,
 mg 48 0 47 true,
 g 49 47 true (.pS (.t 48)),
 g 50 47 true (.pJ 3 (.t 49)),
 g 51 47 true (.load false 1 (.t 50)),
 g 52 47 true (.bin .eql (.t 51) (c 0)),
 pk 53 (.t 47) (.t 52) f] [0, 6, 8, 53] (.cond (.t 53) .skip (.exit 0) [0, 6, 8])) (.seq (.block 1 (.jD [0, 1, 2, 3, 4, 5, 6, 7, 8, 9, 10, 11, 12, 13, 14] [m 56 0,
 m 57 0,
 nc 58 57,
 fa 59 1 58,
 ld 60 1 59,
 m 61 0,
 nc 62 61,
 fa 63 1 62,
 ld 64 1 63,
 u 65 (.len false (.t 64)),
 m 66 8,
 b 67 .sub (.t 65) (.t 66),
 u 68 (.pK 1 (.t 60) (.t 67)),
 ld 69 1 68,
 cl 70 59 [(.t 56), (.t 69)]] [] [0, 6, 8]) [0, 6, 8])
 (.qx [m 54 6,
 b 55 .sub (.t 54) (c 1),
 m 6 55] [0, 6, 8])))
def f61 : fR := a 3 [] false
 (s [m 9 0,
 m 10 1,
 cl 11 74 [(.t 10)],
 ex 12 11 0,
 ex 13 11 1,
 ex 14 11 2,
 cl 15 73 [(.t 9), (.t 12), (.t 13), (.t 14)],
 m 6 15] [0, 2, 6] (.seq (s [m 16 0,
 nc 17 16,
 fa 18 3 17,
 ld 19 1 18,
 b 20 .neq (.t 19) (c 0)] [0, 2, 6, 20] (.cond (.t 20) .ret
 .skip [0, 2, 6]))
 (s [m 21 0,
 m 22 2,
 cl 23 60 [(.t 21), (.t 22)],
 m 7 23] [0, 6, 7] (.seq (s [m 24 0,
 nc 25 24,
 fa 26 3 25,
 ld 27 1 26,
 b 28 .neq (.t 27) (c 0)] [0, 6, 7, 28] (.cond (.t 28) .ret
 .skip [0, 6, 7]))
 (s [m 29 0,
 m 30 7,
 cl 31 75 [(.t 30)],
 ex 32 31 0,
 ex 33 31 1,
 ex 34 31 2,
 cl 35 73 [(.t 29), (.t 32), (.t 33), (.t 34)],
 m 8 35] [0, 6, 8] (.seq (s [m 36 8,
 m 37 0,
 nc 38 37,
 fa 39 1 38,
 ld 40 1 39,
 u 41 (.len false (.t 40)),
 b 42 .gtr (.t 36) (.t 41)] [0, 6, 8, 42] (.cond (.t 42) (.qx [m 43 0,
 cl 44 45 [(.t 43), (c 700)]] [0, 6, 8])
 .skip [0, 6, 8])) (.block 0 (.loop [0, 6, 8] f61L0) [])))))))
def f62L0 : aH :=
 (s [b 28 .lss (.t 27) (.t 26)] [6, 25, 26, 27, 28] (.seq (.cond (.t 28) .skip (.exit 2) [6, 25, 26, 27]) (.seq (.block 3 (s [u 29 (.pK 1 (.t 25) (.t 27)),
 ld 30 1 29,
 m 8 30] [6, 8, 25, 26, 27]
 (.qx [m 31 6,
 m 32 8,
 u 33 (.app 1 8 (.t 31) (.t 32)),
 m 6 33] [6, 25, 26, 27])) [6, 25, 26, 27])
 (.qx [b 34 .add (.t 27) (c 1),
 m 27 34] [6, 25, 26, 27]))))
def f62L1 : aH :=
 (s [b 12 .lss (.t 11) (.t 10)] [0, 3, 9, 10, 11, 12] (.seq (.cond (.t 12) .skip (.exit 0) [0, 3, 9, 10, 11]) (.seq (.block 1 (s [u 13 (.pK 1 (.t 9) (.t 11)),
 ld 14 1 13,
 m 5 14] [0, 3, 5, 9, 10, 11]
 (s [m 15 3,
 m 16 5,
 u 17 (.len false (.t 16)),
 b 18 .add (.t 15) (.t 17),
 m 3 18] [0, 3, 9, 10, 11]
 (s [m 19 3,
 b 20 .lss (.t 19) (c 0)] [0, 3, 9, 10, 11, 20] (.cond (.t 20) (.qx [u 21 (.pR 0 (.c (.str ⟨#[108, 101, 110, 32, 111, 117, 116, 32, 111, 102, 32, 114, 97, 110, 103, 101]⟩))),
 ⟨none, .vW , none⟩] [0, 3, 9, 10, 11])
 .skip [0, 3, 9, 10, 11])))) [0, 3, 9, 10, 11])
 (.qx [b 22 .add (.t 11) (c 1),
 m 11 22] [0, 3, 9, 10, 11]))))
def f62 : fR := a 1 [.tmp 2] true
 (s [k 2 (.aQ)] [0]
 (s [k 3 (i 0)] [0, 3] (.seq (s [m 9 0,
 u 10 (.len false (.t 9)),
 k 11 (i 0)] [0, 3, 9, 10, 11] (.block 0 (.loop [0, 3, 9, 10, 11] f62L1) [0, 3]))
 (s [m 23 3,
 cl 24 76 [(.c (.aQ)), (.t 23)],
 m 6 24] [0, 6] (.seq (s [m 25 0,
 u 26 (.len false (.t 25)),
 k 27 (i 0)] [6, 25, 26, 27] (.block 2 (.loop [6, 25, 26, 27] f62L0) [6]))
 (s [m 35 6,
 m 2 35] [2]
 .ret))))))
def f63 : fR := a 2 [.tmp 4, .tmp 5] true
 (s [k 4 (.int .u64 0),
 k 5 (.int .u64 0)] [0, 1] (.seq (.cond f (s [m 11 0,
 u 12 (.conv .u32 (.t 11)),
 m 13 1,
 u 14 (.conv .u32 (.t 13)),
 cl 15 77 [(.t 12), (.t 14)],
 m 10 15,
 ex 16 10 0,
 ex 17 10 1,
 m 6 16,
 m 7 17] [6, 7]
 (s [m 18 6,
 u 19 (.conv .u64 (.t 18)),
 m 20 7,
 u 21 (.conv .u64 (.t 20)),
 m 4 19,
 m 5 21] [4, 5]
 .ret))
 .skip [0, 1])
 (s [m 23 0,
 m 24 1,
 cl 25 78 [(.t 23), (.t 24)],
 m 22 25,
 ex 26 22 0,
 ex 27 22 1,
 m 8 26,
 m 9 27] [8, 9]
 (s [m 28 8,
 m 29 9,
 m 4 28,
 m 5 29] [4, 5]
 .ret))))
def f64L0 : aH := (.seq (s [m 36 10,
 u 37 (.len false (.t 36)),
 m 38 1,
 b 39 .lss (.t 37) (.t 38),
 m 40 39,
 mg 41 0 40 true,
 g 42 40 true (.pS (.t 41)),
 g 43 40 true (.pJ 3 (.t 42)),
 g 44 40 true (.load false 1 (.t 43)),
 g 45 40 true (.bin .eql (.t 44) (c 0)),
 pk 46 (.t 40) (.t 45) f] [0, 1, 9, 10, 46] (.cond (.t 46) .skip (.exit 2) [0, 1, 9, 10])) (.block 3 (s [m 48 0,
 m 49 0,
 m 50 9,
 cl 51 60 [(.t 49), (.t 50)],
 m 52 10,
 cl 53 80 [(.t 48), (.t 51), (.t 52)],
 m 47 53,
 ex 54 47 0,
 ex 55 47 1,
 m 11 54,
 m 12 55] [0, 1, 9, 10, 11, 12]
 (.qx [m 56 10,
 m 57 11,
 u 58 (.dg 1 1 [i 0] [(0, (.t 57))]),
 m 59 12,
 cl 60 43 [(.t 58), (.t 59)],
 u 61 (.app 1 8 (.t 56) (.t 60)),
 m 10 61] [0, 1, 9, 10])) [0, 1, 9, 10]))
def f64L1 : aH :=
 (s [b 21 .lss (.t 20) (.t 19)] [0, 1, 5, 18, 19, 20, 21] (.seq (.cond (.t 21) .skip (.exit 0) [0, 1, 5, 18, 19, 20]) (.seq (.block 1 (s [u 22 (.pK 1 (.t 18) (.t 20)),
 ld 23 1 22,
 m 8 23] [0, 1, 5, 8, 18, 19, 20]
 (.qx [m 24 8,
 m 25 0,
 cl 26 38 [(.t 25), (c 3)],
 u 27 (.mr 19 1 (.t 5) (.t 24)),
 ⟨none, .store 1 (.t 27) (.t 26), none⟩] [0, 1, 5, 18, 19, 20])) [0, 1, 5, 18, 19, 20])
 (.qx [b 28 .add (.t 20) (c 1),
 m 20 28] [0, 1, 5, 18, 19, 20]))))
def f64 : fR := a 2 [.tmp 4] false
 (s [k 4 (.aQ)] [0, 1]
 (s [u 5 (.alloc [i 0, i 0, i 0, i 0, i 0, i 0, i 0, i 0, i 0, i 0, i 0, i 0, i 0, i 0, i 0, i 0, i 0, i 0, i 0])] [0, 1, 5]
 (s [cl 13 79 [],
 m 6 13] [0, 1, 5, 6] (.seq (s [m 14 6,
 m 15 0,
 cl 16 38 [(.t 15), (c 4)],
 b 17 .add (.t 16) (c 4),
 u 18 (.sl 1 (.t 14) none (some (.t 17)) none),
 u 19 (.len false (.t 18)),
 k 20 (i 0)] [0, 1, 5, 18, 19, 20] (.block 0 (.loop [0, 1, 5, 18, 19, 20] f64L1) [0, 1, 5])) (.seq (s [u 29 (.ue 19 1 (.t 5) none none),
 cl 30 65 [(.t 29)],
 b 31 .neq (.t 30) (c 0)] [0, 1, 5, 31] (.cond (.t 31) (.qx [m 32 0,
 cl 33 45 [(.t 32), (c 700)]] [0, 1, 5])
 .skip [0, 1, 5]))
 (s [u 34 (.ue 19 1 (.t 5) none none),
 cl 35 41 [(.t 34)],
 m 9 35] [0, 1, 9]
 (s [k 10 (.aQ)] [0, 1, 9, 10] (.seq (.block 2 (.loop [0, 1, 9, 10] f64L0) [0, 1, 10]) (.seq (s [m 62 10,
 u 63 (.len false (.t 62)),
 m 64 1,
 b 65 .gtr (.t 63) (.t 64)] [0, 10, 65] (.cond (.t 65) (.qx [m 66 0,
 cl 67 45 [(.t 66), (c 700)]] [10])
 .skip [10]))
 (s [m 68 10,
 m 4 68] [4]
 .ret))))))))))
def f65 : fR := a 1 [.tmp 2] true
 (s [k 2 (i 0)] [0] (.seq (s [m 4 0,
 cl 5 81 [(.t 4)],
 u 6 (.not (.t 5))] [0, 6] (.cond (.t 6) (s [k 2 (i 300)] [2]
 .ret)
 .skip [0])) (.seq (s [m 7 0,
 cl 8 41 [(.t 7)],
 nc 9 8,
 fa 10 48 9,
 ld 11 1 10,
 m 3 11] [3] (.block 0 (s [m 13 3,
 b 14 .lss (.t 13) (c 0),
 m 12 14] [3, 12] (.cond (.t 12) (s [k 2 (i 301)] [2]
 .ret)
 (s [m 16 3,
 b 17 .gtr (.t 16) (c 0),
 m 15 17] [15] (.cond (.t 15) (s [k 2 (i 302)] [2]
 .ret)
 .skip [])) [])) []))
 (s [k 2 (i 0)] [2]
 .ret))))
def f66L0 : aH :=
 (s [b 9 .lss (.t 8) (.t 7)] [3, 6, 7, 8, 9] (.seq (.cond (.t 9) .skip (.exit 0) [3, 6, 7, 8]) (.seq (.block 1 (s [u 10 (.pK 1 (.t 6) (.t 8)),
 ld 11 1 10,
 m 5 11] [3, 5, 6, 7, 8]
 (.qx [m 12 3,
 m 13 5,
 b 14 .add (.t 12) (.t 13),
 m 3 14] [3, 6, 7, 8])) [3, 6, 7, 8])
 (.qx [b 15 .add (.t 8) (c 1),
 m 8 15] [3, 6, 7, 8]))))
def f66 : fR := a 1 [.tmp 2] true
 (s [k 2 (.bool false)] [0]
 (s [k 3 (i 0)] [0, 3] (.seq (s [m 6 0,
 u 7 (.len false (.t 6)),
 k 8 (i 0)] [3, 6, 7, 8] (.block 0 (.loop [3, 6, 7, 8] f66L0) [3]))
 (s [m 16 3,
 b 17 .leq (.t 16) (c 1),
 m 2 17] [2]
 .ret))))
def f72 : fR := a 3 [.tmp 6, .tmp 7] false
 (s [k 6 (i 0),
 k 7 (.bool false)] [0, 1, 2] (.seq (.seq (.jD [0, 1, 2, 3, 4, 5, 6, 7, 8, 9, 10, 11, 12, 13, 14, 15, 16, 17, 18, 19, 20, 21, 22, 23, 24, 25, 26, 27, 28, 29, 30, 31, 32] [m 8 1,
 b 9 .lss (.t 8) (c 1),
 m 10 9,
 mg 11 1 10 false,
 g 12 10 false (.bin .gtr (.t 11) (c 15)),
 pk 13 (.t 10) y (.t 12),
 m 14 13,
 mg 15 2 14 false,
 mg 16 0 14 false,
 mg 17 1 14 false,
 g 18 14 false (.pS (.t 16)),
 g 19 14 false (.pJ 0 (.t 18)),
 g 20 14 false (.mr 16 1 (.t 19) (.t 17)),
 g 21 14 false (.load false 1 (.t 20)),
 g 22 14 false (.bin .lss (.t 15) (.t 21)),
 pk 23 (.t 14) y (.t 22),
 m 24 23,
 mg 25 2 24 false,
 mg 26 0 24 false,
 mg 27 1 24 false,
 g 28 24 false (.pS (.t 26)),
 g 29 24 false (.pJ 0 (.t 28)),
 g 30 24 false (.mr 16 1 (.t 29) (.t 27)),
 g 31 24 false (.load false 1 (.t 30)),
 g 32 24 false (.bin .sub (.t 25) (.t 31)),
 mg 33 0 24 false,
 mg 34 1 24 false,
 g 35 24 false (.pS (.t 33)),
 g 36 24 false (.pJ 16 (.t 35)),
 g 37 24 false (.mr 16 1 (.t 36) (.t 34)),
 g 38 24 false (.load false 1 (.t 37)),
 g 39 24 false (.bin .geq (.t 32) (.t 38)),
 pk 40 (.t 24) y (.t 39)] [] [0, 1, 2, 40]) (.cond (.t 40) (s [k 6 (i 0),
 k 7 (.bool false)] [6, 7]
 .ret)
 .skip [0, 1, 2])) (.seq (.jD [0, 1, 2, 3, 4, 5, 6, 7, 8, 9, 10, 11, 12, 13, 14, 15, 16, 17] [m 41 0,
 m 42 1,
 nc 43 41,
 fa 44 32 43,
 u 45 (.mr 16 1 (.t 44) (.t 42)),
 ld 46 1 45,
 m 47 2,
 m 48 0,
 m 49 1,
 nc 50 48,
 fa 51 0 50,
 u 52 (.mr 16 1 (.t 51) (.t 49)),
 ld 53 1 52,
 b 54 .sub (.t 47) (.t 53),
 u 55 (.pK 1 (.t 46) (.t 54)),
 ld 56 1 55,
 m 6 56,
 k 7 (.bool true)] [] [6, 7])
 .ret)))
def f73 : fR := a 4 [.tmp 8] false
 (s [k 8 (i 0)] [0, 1, 2, 3] (.seq (s [m 9 3,
 b 10 .neq (.t 9) (c 0)] [0, 1, 2, 10] (.cond (.t 10) (.qx [m 11 0,
 cl 12 45 [(.t 11), (c 700)]] [0, 1, 2])
 .skip [0, 1, 2]))
 (s [m 13 1,
 m 14 0,
 m 15 2,
 cl 16 38 [(.t 14), (.t 15)],
 b 17 .add (.t 13) (.t 16),
 m 8 17] [8]
 .ret)))
def f74 : fR := a 1 [.tmp 2, .tmp 3, .tmp 4] true
 (s [k 2 (i 0),
 k 3 (i 0),
 k 4 (i 0)] [0]
 (s [m 7 0,
 b 8 .sub (.t 7) (c 256),
 b 9 .sub (.t 8) (c 1),
 m 5 9] [0, 5] (.seq (.block 0 (s [m 11 0,
 b 12 .leq (.t 11) (c 256),
 m 13 12,
 mg 14 0 13 false,
 g 15 13 false (.bin .gtr (.t 14) (c 285)),
 pk 16 (.t 13) y (.t 15),
 m 10 16] [0, 5, 10] (.cond (.t 10) (s [k 2 (i 0),
 k 3 (i 0),
 k 4 (i 600)] [2, 3, 4]
 .ret)
 (s [m 18 0,
 b 19 .eql (.t 18) (c 285),
 m 17 19] [5, 17] (.cond (.t 17) (s [k 2 (i 258),
 k 3 (i 0),
 k 4 (i 0)] [2, 3, 4]
 .ret)
 (s [m 21 5,
 b 22 .lss (.t 21) (c 8),
 m 20 22] [5, 20] (.cond (.t 20) (s [m 23 5,
 b 24 .add (c 3) (.t 23),
 m 2 24,
 k 3 (i 0),
 k 4 (i 0)] [2, 3, 4]
 .ret)
 .skip [5])) [5])) [5])) [5])
 (s [m 25 5,
 b 26 .quo (.t 25) (c 4),
 b 27 .sub (.t 26) (c 1),
 m 6 27] [5, 6]
 (s [m 28 5,
 b 29 .rem (.t 28) (c 4),
 b 30 .add (c 4) (.t 29),
 m 31 6,
 b 32 .shl (.t 30) (.t 31),
 b 33 .add (c 3) (.t 32),
 m 34 6,
 m 2 33,
 m 3 34,
 k 4 (i 0)] [2, 3, 4]
 .ret)))))
def f75 : fR := a 1 [.tmp 2, .tmp 3, .tmp 4] true
 (s [k 2 (i 0),
 k 3 (i 0),
 k 4 (i 0)] [0] (.seq (.block 0 (s [m 7 0,
 b 8 .lss (.t 7) (c 0),
 m 9 8,
 mg 10 0 9 false,
 g 11 9 false (.bin .geq (.t 10) (c 30)),
 pk 12 (.t 9) y (.t 11),
 m 6 12] [0, 6] (.cond (.t 6) (s [k 2 (i 0),
 k 3 (i 0),
 k 4 (i 600)] [2, 3, 4]
 .ret)
 (s [m 14 0,
 b 15 .lss (.t 14) (c 4),
 m 13 15] [0, 13] (.cond (.t 13) (s [m 16 0,
 b 17 .add (c 1) (.t 16),
 m 2 17,
 k 3 (i 0),
 k 4 (i 0)] [2, 3, 4]
 .ret)
 .skip [0])) [0])) [0])
 (s [m 18 0,
 b 19 .quo (.t 18) (c 2),
 b 20 .sub (.t 19) (c 1),
 m 5 20] [0, 5]
 (s [m 21 0,
 b 22 .rem (.t 21) (c 2),
 b 23 .add (c 2) (.t 22),
 m 24 5,
 b 25 .shl (.t 23) (.t 24),
 b 26 .add (c 1) (.t 25),
 m 27 5,
 m 2 26,
 m 3 27,
 k 4 (i 0)] [2, 3, 4]
 .ret))))
def f76 : fR := a 2 [.tmp 4] false
 (s [k 4 (.aQ)] [0, 1] (.seq (s [m 5 1,
 b 6 .lss (.t 5) (c 0)] [0, 1, 6] (.cond (.t 6) (.qx [u 7 (.pR 0 (.c (.str ⟨#[99, 97, 110, 110, 111, 116, 32, 98, 101, 32, 110, 101, 103, 97, 116, 105, 118, 101]⟩))),
 ⟨none, .vW , none⟩] [0, 1])
 .skip [0, 1])) (.seq (s [m 8 1,
 m 9 0,
 u 10 (.cap (.t 9)),
 m 11 0,
 u 12 (.len false (.t 11)),
 b 13 .sub (.t 10) (.t 12),
 b 14 .sub (.t 8) (.t 13),
 m 1 14] [0, 1]
 (s [m 15 1,
 b 16 .gtr (.t 15) (c 0)] [0, 1, 16] (.cond (.t 16) (.qx [m 17 0,
 m 18 0,
 u 19 (.cap (.t 18)),
 u 20 (.sl 1 (.t 17) none (some (.t 19)) none),
 m 21 1,
 u 22 (.kJ 1 8 [i 0] (.t 20) (.t 21)),
 m 23 0,
 u 24 (.len false (.t 23)),
 u 25 (.sl 1 (.t 22) none (some (.t 24)) none),
 m 0 25] [0])
 .skip [0])))
 (s [m 26 0,
 m 4 26] [4]
 .ret))))
def f77 : fR := a 2 [.tmp 4, .tmp 5] true
 (s [k 4 (.int .u32 0),
 k 5 (.int .u32 0)] [0, 1]
 (s [m 7 0,
 u 8 (.conv .u64 (.t 7)),
 m 9 1,
 u 10 (.conv .u64 (.t 9)),
 b 11 .mul (.t 8) (.t 10),
 m 6 11] [6]
 (s [m 12 6,
 b 13 .shr (.t 12) (.c (.int .u64 32)),
 u 14 (.conv .u32 (.t 13)),
 m 15 6,
 u 16 (.conv .u32 (.t 15)),
 m 4 14,
 m 5 16] [4, 5]
 .ret)))
def f78 : fR := a 2 [.tmp 4, .tmp 5] true
 (s [k 4 (.int .u64 0),
 k 5 (.int .u64 0)] [0, 1]
 (s [m 14 0,
 b 15 .and (.t 14) (.c (.int .u64 4294967295)),
 m 6 15] [0, 1, 6]
 (s [m 16 0,
 b 17 .shr (.t 16) (.c (.int .u64 32)),
 m 7 17] [0, 1, 6, 7]
 (s [m 18 1,
 b 19 .and (.t 18) (.c (.int .u64 4294967295)),
 m 8 19] [0, 1, 6, 7, 8]
 (s [m 20 1,
 b 21 .shr (.t 20) (.c (.int .u64 32)),
 m 9 21] [0, 1, 6, 7, 8, 9]
 (s [m 22 6,
 m 23 8,
 b 24 .mul (.t 22) (.t 23),
 m 10 24] [0, 1, 6, 7, 8, 9, 10]
 (s [m 25 7,
 m 26 8,
 b 27 .mul (.t 25) (.t 26),
 m 28 10,
 b 29 .shr (.t 28) (.c (.int .u64 32)),
 b 30 .add (.t 27) (.t 29),
 m 11 30] [0, 1, 6, 7, 9, 11]
 (s [m 31 11,
 b 32 .and (.t 31) (.c (.int .u64 4294967295)),
 m 12 32] [0, 1, 6, 7, 9, 11, 12]
 (s [m 33 11,
 b 34 .shr (.t 33) (.c (.int .u64 32)),
 m 13 34] [0, 1, 6, 7, 9, 12, 13]
 (s [m 35 12,
 m 36 6,
 m 37 9,
 b 38 .mul (.t 36) (.t 37),
 b 39 .add (.t 35) (.t 38),
 m 12 39] [0, 1, 7, 9, 12, 13]
 (s [m 40 7,
 m 41 9,
 b 42 .mul (.t 40) (.t 41),
 m 43 13,
 b 44 .add (.t 42) (.t 43),
 m 45 12,
 b 46 .shr (.t 45) (.c (.int .u64 32)),
 b 47 .add (.t 44) (.t 46),
 m 4 47] [0, 1, 4]
 (s [m 48 0,
 m 49 1,
 b 50 .mul (.t 48) (.t 49),
 m 5 50] [4, 5]
 .ret))))))))))))
def f79 : fR := a 0 [.tmp 0] true
 (s [k 0 (.aQ)] []
 (s [u 1 (.dg 1 19 [i 0] [(0, (c 16)), (1, (c 17)), (2, (c 18)), (3, (c 0)), (4, (c 8)), (5, (c 7)), (6, (c 9)), (7, (c 6)), (8, (c 10)), (9, (c 5)), (10, (c 11)), (11, (c 4)), (12, (c 12)), (13, (c 3)), (14, (c 13)), (15, (c 2)), (16, (c 14)), (17, (c 1)), (18, (c 15))]),
 m 0 1] [0]
 .ret))
def f80 : fR := a 3 [.tmp 6, .tmp 7] false
 (s [k 6 (i 0),
 k 7 (i 0)] [0, 1, 2] (.seq (s [m 8 1] [0, 1, 2, 8] (.block 0 (s [b 10 .eql (.t 8) (c 16),
 m 9 10] [0, 1, 2, 8, 9] (.cond (.t 9) (.seq (s [m 11 2,
 u 12 (.len false (.t 11)),
 b 13 .eql (.t 12) (c 0)] [0, 2, 13] (.cond (.t 13) (s [m 14 0,
 cl 15 45 [(.t 14), (c 700)]] []
 (s [k 6 (i 0),
 k 7 (i 0)] [6, 7]
 .ret))
 .skip [0, 2])) (.seq (.jD [0, 1, 2, 3, 4, 5, 6, 7, 8, 9, 10] [m 16 2,
 m 17 2,
 u 18 (.len false (.t 17)),
 b 19 .sub (.t 18) (c 1),
 u 20 (.pK 1 (.t 16) (.t 19)),
 ld 21 1 20,
 m 22 0,
 cl 23 38 [(.t 22), (c 2)],
 b 24 .add (c 3) (.t 23),
 m 6 21,
 m 7 24] [(5, [1])] [6, 7])
 .ret))
 (s [b 26 .eql (.t 8) (c 17),
 m 25 26] [0, 1, 8, 25] (.cond (.t 25) (s [m 27 0,
 cl 28 38 [(.t 27), (c 3)],
 b 29 .add (c 3) (.t 28),
 k 6 (i 0),
 m 7 29] [6, 7]
 .ret)
 (s [b 31 .eql (.t 8) (c 18),
 m 30 31] [0, 1, 30] (.cond (.t 30) (s [m 32 0,
 cl 33 38 [(.t 32), (c 7)],
 b 34 .add (c 11) (.t 33),
 k 6 (i 0),
 m 7 34] [6, 7]
 .ret)
 .skip [1])) [1])) [1])) [1]))
 (s [m 35 1,
 m 6 35,
 k 7 (i 1)] [6, 7]
 .ret)))
def f81 : fR := a 1 [.tmp 2] true
 (s [k 2 (.bool false)] [0]
 (s [k 3 (.fn 82 [] [])] [0, 3]
 (s [m 4 0,
 u 5 (.len false (.t 4)),
 b 6 .geq (.t 5) (c 1),
 m 7 6,
 mg 8 0 7 true,
 g 9 7 true (.len false (.t 8)),
 g 10 7 true (.bin .leq (.t 9) (c 288)),
 pk 11 (.t 7) (.t 10) f,
 m 12 11,
 mg 13 0 12 true,
 mg 14 3 12 true,
 g 15 12 true (.call (.c (.fn 83 [] [])) [(.t 13), (.t 14)]),
 g 16 12 true (.not (.t 15)),
 pk 17 (.t 12) (.t 16) f,
 m 2 17] [2]
 .ret)))
def f82 : fR := a 1 [.tmp 2] true
 (s [k 2 (.bool false)] [0]
 (s [m 3 0,
 b 4 .lss (.t 3) (c 0),
 m 5 4,
 mg 6 0 5 false,
 g 7 5 false (.bin .gtr (.t 6) (c 15)),
 pk 8 (.t 5) y (.t 7),
 m 2 8] [2]
 .ret))
def f83 : fR := a 2 [.tmp 4] true
 (s [k 4 (.bool false)] [0, 1]
 (s [m 5 0,
 m 6 1,
 cl 7 84 [(.t 5), (.t 6)],
 b 8 .geq (.t 7) (c 0),
 m 4 8] [4]
 .ret))
def f84L0 : aH :=
 (s [b 9 .lss (.t 8) (.t 7)] [0, 1, 7, 8, 9] (.seq (.cond (.t 9) .skip (.exit 0) [0, 1, 7, 8]) (.seq (.block 1 (s [m 10 8,
 m 5 10] [0, 1, 5, 7, 8]
 (s [m 11 1,
 m 12 0,
 m 13 5,
 u 14 (.pK 1 (.t 12) (.t 13)),
 ld 15 1 14,
 u 16 (.call (.t 11) [(.t 15)])] [0, 1, 5, 7, 8, 16] (.cond (.t 16) (s [m 17 5,
 m 4 17] [4]
 .ret)
 .skip [0, 1, 7, 8]))) [0, 1, 7, 8])
 (.qx [b 18 .add (.t 8) (c 1),
 m 8 18] [0, 1, 7, 8]))))
def f84 : fR := a 2 [.tmp 4] true
 (s [k 4 (i 0)] [0, 1] (.seq (s [m 6 0,
 u 7 (.len false (.t 6)),
 k 8 (i 0)] [0, 1, 7, 8] (.block 0 (.loop [0, 1, 7, 8] f84L0) []))
 (s [k 4 (i (-1))] [4]
 .ret)))
def f91L0 : aH :=
 (s [b 31 .lss (.t 30) (.t 29)] [6, 7, 28, 29, 30, 31] (.seq (.cond (.t 31) .skip (.exit 0) [6, 7, 28, 29, 30]) (.seq (.block 1 (s [u 32 (.pK 1 (.t 28) (.t 30)),
 ld 33 1 32,
 m 9 33] [6, 7, 9, 28, 29, 30]
 (.qx [m 34 6,
 m 35 7,
 m 36 9,
 u 37 (.call (.t 34) [(.t 35), (.t 36)]),
 m 7 37] [6, 7, 28, 29, 30])) [6, 7, 28, 29, 30])
 (.qx [b 38 .add (.t 30) (c 1),
 m 30 38] [6, 7, 28, 29, 30]))))
def f91 : fR := a 1 [.tmp 2, .tmp 3] true
 (s [u 1 (.box 9 (.t 0)),
 k 2 (i 0),
 k 3 (i 0)] [1] (.seq (s [u 10 (.load true 9 (.t 1)),
 cl 11 96 [(.t 10)],
 u 12 (.not (.t 11))] [1, 12] (.cond (.t 12) (s [k 2 (i 0),
 k 3 (i 1500)] [2, 3]
 .ret)
 .skip [1]))
 (s [u 14 (.load true 9 (.t 1)),
 cl 15 102 [(.t 14)],
 m 13 15,
 ex 16 13 0,
 ex 17 13 1,
 m 4 16,
 m 5 17] [1, 4]
 (s [k 6 (.fn 103 [] [])] [1, 4, 6]
 (s [k 7 (i 0)] [1, 4, 6, 7] (.seq (.seq (.jD [0, 1, 2, 3, 4, 5, 6, 7, 8, 9, 10, 11, 12] [fa 18 0 1,
 ld 19 1 18,
 u 20 (.len true (.t 19)),
 cl 21 104 [(.t 20), (c 1)],
 fa 22 0 1,
 ld 23 1 22,
 m 24 4,
 fa 25 8 1,
 ld 26 1 25,
 cl 27 104 [(.t 26), (c 4)],
 u 28 (.dg 1 4 [.str ⟨#[]⟩] [(0, (.t 21)), (1, (.t 23)), (2, (.t 24)), (3, (.t 27))]),
 u 29 (.len false (.t 28)),
 k 30 (i 0)] [(5, [0, 2]), (8, [0])] [6, 7, 28, 29, 30]) (.block 0 (.loop [6, 7, 28, 29, 30] f91L0) [7]))
 (s [m 39 7,
 m 2 39,
 k 3 (i 0)] [2, 3]
 .ret)))))))
def f93L0 : aH :=
 (s [b 10 .lss (.t 9) (.t 8)] [4, 7, 8, 9, 10] (.seq (.cond (.t 10) .skip (.exit 0) [4, 7, 8, 9]) (.seq (.block 1 (s [u 11 (.pK 1 (.t 7) (.t 9)),
 ld 12 1 11,
 m 6 12] [4, 6, 7, 8, 9] (.seq (s [m 13 6,
 cl 14 105 [(.t 13)],
 u 15 (.not (.t 14))] [4, 6, 7, 8, 9, 15] (.cond (.t 15) (s [k 2 (i 0),
 k 3 (i 1500)] [2, 3]
 .ret)
 .skip [4, 6, 7, 8, 9]))
 (.qx [m 16 4,
 m 17 6,
 cl 18 104 [(.t 17), (c 4)],
 cl 19 103 [(.t 16), (.t 18)],
 m 4 19] [4, 7, 8, 9]))) [4, 7, 8, 9])
 (.qx [b 20 .add (.t 9) (c 1),
 m 9 20] [4, 7, 8, 9]))))
def f93 : fR := a 1 [.tmp 2, .tmp 3] true
 (s [k 2 (i 0),
 k 3 (i 0)] [0]
 (s [k 4 (i 0)] [0, 4] (.seq (s [m 7 0,
 u 8 (.len false (.t 7)),
 k 9 (i 0)] [4, 7, 8, 9] (.block 0 (.loop [4, 7, 8, 9] f93L0) [4]))
 (s [m 21 4,
 m 2 21,
 k 3 (i 0)] [2, 3]
 .ret))))
def f96 : fR := a 1 [.tmp 2] true
 (s [u 1 (.box 9 (.t 0)),
 k 2 (.bool false)] [1]
 (s [u 6 (.load true 9 (.t 1)),
 cl 7 107 [(.t 6)],
 m 5 7,
 ex 8 5 0,
 ex 9 5 1,
 m 3 8,
 m 4 9] [4]
 (s [m 10 4,
 m 2 10] [2]
 .ret)))
def f101 : fR := a 1 [.tmp 2] true
 (s [k 2 (i 0)] [0]
 (s [m 3 0,
 cl 4 111 [(.c (.int .u32 4294967295)), (.t 3)],
 u 5 (.inv (.t 4)),
 u 6 (.conv .i64 (.t 5)),
 m 2 6] [2]
 .ret))
def f102L0 : aH :=
 (s [b 17 .lss (.t 16) (.t 15)] [1, 4, 14, 15, 16, 17] (.seq (.cond (.t 17) .skip (.exit 0) [1, 4, 14, 15, 16]) (.seq (.block 1 (s [u 18 (.pK 1 (.t 14) (.t 16)),
 ld 19 1 18,
 m 6 19] [1, 4, 6, 14, 15, 16]
 (.qx [m 20 4,
 m 21 6,
 cl 22 104 [(.t 21), (c 4)],
 b 23 .add (.t 20) (.t 22),
 m 4 23] [1, 4, 14, 15, 16])) [1, 4, 14, 15, 16])
 (.qx [b 24 .add (.t 16) (c 1),
 m 16 24] [1, 4, 14, 15, 16]))))
def f102 : fR := a 1 [.tmp 2, .tmp 3] true
 (s [u 1 (.box 9 (.t 0)),
 k 2 (.str ⟨#[]⟩),
 k 3 (i 0)] [1] (.seq (s [cl 8 112 [(.t 1)],
 u 9 (.not (.t 8))] [1, 9] (.cond (.t 9) (s [k 2 (.str ⟨#[]⟩),
 k 3 (i 1200)] [2, 3]
 .ret)
 .skip [1]))
 (s [cl 10 104 [(c 20592), (c 2)],
 cl 11 104 [(c 22), (c 2)],
 b 12 .add (.t 10) (.t 11),
 m 4 12] [1, 4] (.seq (s [fa 13 2 1,
 ld 14 1 13,
 u 15 (.len false (.t 14)),
 k 16 (i 0)] [1, 4, 14, 15, 16] (.block 0 (.loop [1, 4, 14, 15, 16] f102L0) [1, 4]))
 (s [k 7 (i 0)] [1, 4, 7] (.seq (s [fa 25 1 1,
 ld 26 1 25] [1, 4, 7, 26] (.cond (.t 26) (.qx [k 7 (i 1)] [1, 4, 7])
 .skip [1, 4, 7])) (.seq (.jD [0, 1, 2, 3, 4, 5, 6, 7, 8, 9, 10, 11, 12, 13] [m 27 4,
 fa 28 3 1,
 ld 29 1 28,
 cl 30 104 [(.t 29), (c 4)],
 b 31 .add (.t 27) (.t 30),
 fa 32 4 1,
 ld 33 1 32,
 cl 34 104 [(.t 33), (c 1)],
 b 35 .add (.t 31) (.t 34),
 m 36 7,
 cl 37 104 [(.t 36), (c 1)],
 b 38 .add (.t 35) (.t 37),
 m 2 38,
 k 3 (i 0)] [(6, [0])] [2, 3])
 .ret)))))))
def f103L0 : aH :=
 (s [b 23 .lss (.t 22) (c 8)] [1, 5, 12, 13, 22, 23] (.seq (.cond (.t 23) .skip (.exit 2) [1, 5, 12, 13, 22]) (.seq (.block 3 (s [m 24 5,
 b 25 .and (.t 24) (.c (.int .u32 1)),
 m 7 25] [1, 5, 7, 12, 13, 22]
 (s [m 26 5,
 b 27 .shr (.t 26) (.c (.int .u64 1)),
 m 5 27] [1, 5, 7, 12, 13, 22]
 (s [m 28 7,
 b 29 .eql (.t 28) (.c (.int .u32 1))] [1, 5, 12, 13, 22, 29] (.cond (.t 29) (.qx [m 30 5,
 b 31 .xor (.t 30) (.c (.int .u32 3988292384)),
 m 5 31] [1, 5, 12, 13, 22])
 .skip [1, 5, 12, 13, 22])))) [1, 5, 12, 13, 22])
 (.qx [b 32 .add (.t 22) (c 1),
 m 22 32] [1, 5, 12, 13, 22]))))
def f103L1 : aH :=
 (s [b 14 .lss (.t 13) (.t 12)] [1, 5, 12, 13, 14] (.seq (.cond (.t 14) .skip (.exit 0) [1, 5, 12, 13]) (.seq (.block 1 (s [m 15 13,
 m 6 15] [1, 5, 6, 12, 13]
 (s [m 16 5,
 m 17 1,
 m 18 6,
 u 19 (.idxs (.t 17) (.t 18)),
 u 20 (.conv .u32 (.t 19)),
 b 21 .xor (.t 16) (.t 20),
 m 5 21] [1, 5, 12, 13]
 (s [k 22 (i 0)] [1, 5, 12, 13, 22] (.block 2 (.loop [1, 5, 12, 13, 22] f103L0) [1, 5, 12, 13])))) [1, 5, 12, 13])
 (.qx [b 33 .add (.t 13) (c 1),
 m 13 33] [1, 5, 12, 13]))))
def f103 : fR := a 2 [.tmp 4] true
 (s [k 4 (i 0)] [0, 1]
 (s [m 8 0,
 u 9 (.conv .u32 (.t 8)),
 u 10 (.inv (.t 9)),
 m 5 10] [1, 5] (.seq (s [m 11 1,
 u 12 (.len true (.t 11)),
 k 13 (i 0)] [1, 5, 12, 13] (.block 0 (.loop [1, 5, 12, 13] f103L1) [5]))
 (s [m 34 5,
 u 35 (.inv (.t 34)),
 u 36 (.conv .i64 (.t 35)),
 m 4 36] [4]
 .ret))))
def f104L0 : aH :=
 (s [b 12 .lss (.t 11) (.t 10)] [0, 5, 10, 11, 12] (.seq (.cond (.t 12) .skip (.exit 0) [0, 5, 10, 11]) (.seq (.block 1 (s [m 13 11,
 m 6 13] [0, 5, 6, 10, 11]
 (.qx [m 14 5,
 m 15 6,
 m 16 0,
 m 17 6,
 b 18 .mul (c 8) (.t 17),
 b 19 .shr (.t 16) (.t 18),
 u 20 (.conv .u8 (.t 19)),
 u 21 (.pK 1 (.t 14) (.t 15)),
 ⟨none, .store 1 (.t 21) (.t 20), none⟩] [0, 5, 10, 11])) [0, 5, 10, 11])
 (.qx [b 22 .add (.t 11) (c 1),
 m 11 22] [0, 5, 10, 11]))))
def f104 : fR := a 2 [.tmp 4] true
 (s [k 4 (.str ⟨#[]⟩)] [0, 1]
 (s [m 7 1,
 u 8 (.jF 1 1 [.int .u8 0] (.t 7) (.t 7)),
 m 5 8] [0, 5] (.seq (s [m 9 5,
 u 10 (.len false (.t 9)),
 k 11 (i 0)] [0, 5, 10, 11] (.block 0 (.loop [0, 5, 10, 11] f104L0) [5]))
 (s [m 23 5,
 u 24 (.mG (.t 23)),
 m 4 24] [4]
 .ret))))
def f105 : fR := a 1 [.tmp 2] true
 (s [k 2 (.bool false)] [0]
 (s [m 3 0,
 b 4 .geq (.t 3) (c 0),
 m 5 4,
 mg 6 0 5 true,
 g 7 5 true (.bin .leq (.t 6) (c 4294967295)),
 pk 8 (.t 5) (.t 7) f,
 m 2 8] [2]
 .ret))
def f106L0 : aH := (.seq (s [m 11 5,
 m 12 0,
 u 13 (.len false (.t 12)),
 b 14 .lss (.t 11) (.t 13)] [0, 1, 5, 14] (.cond (.t 14) .skip (.exit 0) [0, 1, 5])) (.seq (.block 1 (.seq (.jD [0, 1, 2, 3, 4, 5, 6, 7, 8] [m 17 0,
 m 18 5,
 u 19 (.pK 1 (.t 17) (.t 18)),
 ld 20 1 19,
 m 21 1,
 m 22 5,
 u 23 (.pK 1 (.t 21) (.t 22)),
 ld 24 1 23,
 b 25 .neq (.t 20) (.t 24)] [] [0, 1, 5, 25]) (.cond (.t 25) (s [k 4 (.bool false)] [4]
 .ret)
 .skip [0, 1, 5])) [0, 1, 5])
 (.qx [m 15 5,
 b 16 .add (.t 15) (c 1),
 m 5 16] [0, 1, 5])))
def f106 : fR := a 2 [.tmp 4] true
 (s [k 4 (.bool false)] [0, 1] (.seq (s [m 6 0,
 u 7 (.len false (.t 6)),
 m 8 1,
 u 9 (.len false (.t 8)),
 b 10 .neq (.t 7) (.t 9)] [0, 1, 10] (.cond (.t 10) (s [k 4 (.bool false)] [4]
 .ret)
 .skip [0, 1])) (.seq (s [k 5 (i 0)] [0, 1, 5] (.block 0 (.loop [0, 1, 5] f106L0) []))
 (s [k 4 (.bool true)] [4]
 .ret))))
def f107 : fR := a 1 [.tmp 2, .tmp 3] true
 (s [u 1 (.box 9 (.t 0)),
 k 2 (.str ⟨#[]⟩),
 k 3 (.bool false)] [1] (.seq (s [u 6 (.load true 9 (.t 1)),
 u 7 (.dg 9 1 [.str ⟨#[]⟩, .bool false, .aQ, i 0, i 0, i 0, .str ⟨#[]⟩, i 0, i 0] [(0, (.t 6))]),
 u 8 (.build [.aQ] [(0, 1, (.t 7))]),
 cl 9 113 [(.t 8)],
 u 10 (.not (.t 9))] [1, 10] (.cond (.t 10) (s [k 2 (.str ⟨#[]⟩),
 k 3 (.bool false)] [2, 3]
 .ret)
 .skip [1])) (.seq (s [fa 11 1 1,
 ld 12 1 11] [1, 12] (.cond (.t 12) (s [k 2 (.str ⟨#[]⟩),
 k 3 (.bool true)] [2, 3]
 .ret)
 .skip [1]))
 (s [fa 14 5 1,
 ld 15 1 14,
 fa 16 6 1,
 ld 17 1 16,
 fa 18 7 1,
 ld 19 1 18,
 cl 20 114 [(.t 15), (.t 17), (.t 19)],
 m 13 20,
 ex 21 13 0,
 ex 22 13 1,
 m 4 21,
 m 5 22] [1, 4, 5] (.seq (.jD [0, 1, 2, 3, 4, 5, 6, 7, 8, 9, 10, 11] [m 23 4,
 m 24 5,
 b 25 .eql (.t 24) (c 0),
 m 26 25,
 mg 27 4 26 true,
 g 28 26 true (.call (.c (.fn 115 [] [])) [(.t 27)]),
 g 29 26 true (.pJ 8 (.t 1)),
 g 30 26 true (.load false 1 (.t 29)),
 g 31 26 true (.bin .eql (.t 28) (.t 30)),
 pk 32 (.t 26) (.t 31) f,
 m 2 23,
 m 3 32] [(7, [0])] [2, 3])
 .ret)))))
def f111L0 : aH := (.seq (s [m 19 6,
 b 20 .lss (.t 19) (c 8)] [0, 1, 5, 6, 20] (.cond (.t 20) .skip (.exit 2) [0, 1, 5, 6])) (.seq (.block 3 (s [m 23 0,
 b 24 .and (.t 23) (.c (.int .u32 1)),
 b 25 .eql (.t 24) (.c (.int .u32 1))] [0, 1, 5, 6, 25] (.cond (.t 25) (.qx [m 26 0,
 b 27 .shr (.t 26) (.c (.int .u64 1)),
 b 28 .xor (.t 27) (.c (.int .u32 3988292384)),
 m 0 28] [0, 1, 5, 6])
 (.qx [m 29 0,
 b 30 .shr (.t 29) (.c (.int .u64 1)),
 m 0 30] [0, 1, 5, 6]) [0, 1, 5, 6])) [0, 1, 5, 6])
 (.qx [m 21 6,
 b 22 .add (.t 21) (c 1),
 m 6 22] [0, 1, 5, 6])))
def f111L1 : aH := (.seq (s [m 7 5,
 m 8 1,
 u 9 (.len true (.t 8)),
 b 10 .lss (.t 7) (.t 9)] [0, 1, 5, 10] (.cond (.t 10) .skip (.exit 0) [0, 1, 5])) (.seq (.block 1 (s [m 13 0,
 m 14 1,
 m 15 5,
 u 16 (.idxs (.t 14) (.t 15)),
 u 17 (.conv .u32 (.t 16)),
 b 18 .xor (.t 13) (.t 17),
 m 0 18] [0, 1, 5]
 (s [k 6 (i 0)] [0, 1, 5, 6] (.block 2 (.loop [0, 1, 5, 6] f111L0) [0, 1, 5]))) [0, 1, 5])
 (.qx [m 11 5,
 b 12 .add (.t 11) (c 1),
 m 5 12] [0, 1, 5])))
def f111 : fR := a 2 [.tmp 4] true
 (s [k 4 (.int .u32 0)] [0, 1] (.seq (s [k 5 (i 0)] [0, 1, 5] (.block 0 (.loop [0, 1, 5] f111L1) [0]))
 (s [m 31 0,
 m 4 31] [4]
 .ret)))
def f112 : fR := a 1 [.tmp 2] false
 (s [k 2 (.bool false)] [0]
 (s [m 3 0,
 nc 4 3,
 fa 5 2 4,
 ld 6 1 5,
 cl 7 117 [(.t 6)],
 m 8 7,
 mg 9 0 8 true,
 g 10 8 true (.pS (.t 9)),
 g 11 8 true (.pJ 3 (.t 10)),
 g 12 8 true (.load false 1 (.t 11)),
 g 13 8 true (.bin .geq (.t 12) (c 1)),
 pk 14 (.t 8) (.t 13) f,
 m 15 14,
 mg 16 0 15 true,
 g 17 15 true (.pS (.t 16)),
 g 18 15 true (.pJ 3 (.t 17)),
 g 19 15 true (.load false 1 (.t 18)),
 g 20 15 true (.call (.c (.fn 119 [] [])) [(.t 19)]),
 pk 21 (.t 15) (.t 20) f,
 m 22 21,
 mg 23 0 22 true,
 g 24 22 true (.pS (.t 23)),
 g 25 22 true (.pJ 4 (.t 24)),
 g 26 22 true (.load false 1 (.t 25)),
 g 27 22 true (.call (.c (.fn 120 [] [])) [(.t 26)]),
 pk 28 (.t 22) (.t 27) f,
 m 2 28] [2]
 .ret))
def f113L0 : aH :=
 (s [b 9 .lss (.t 8) (.t 7)] [1, 7, 8, 9] (.seq (.cond (.t 9) .skip (.exit 0) [1, 7, 8]) (.seq (.block 1 (s [m 10 8,
 m 3 10] [1, 3, 7, 8]
 (s [fa 11 0 1,
 ld 12 1 11,
 m 13 3,
 u 14 (.pK 9 (.t 12) (.t 13)),
 m 4 14] [1, 3, 4, 7, 8] (.seq (.jD [0, 1, 2, 3, 4, 5, 6, 7, 8, 9, 10, 11, 12, 13, 14, 15, 16, 17, 18, 19, 20, 21, 22, 23, 24, 25, 26, 27, 28, 29, 30, 31, 32, 33] [m 15 4,
 nc 16 15,
 fa 17 0 16,
 ld 18 1 17,
 cl 19 121 [(.t 18)],
 u 20 (.not (.t 19)),
 m 21 20,
 mg 22 3 21 false,
 g 23 21 false (.bin .gtr (.t 22) (c 0)),
 mg 24 23 21 false,
 g 25 24 true (.pJ 0 (.t 1)),
 g 26 24 true (.load false 1 (.t 25)),
 mg 27 3 24 true,
 g 28 24 true (.bin .sub (.t 27) (c 1)),
 g 29 24 true (.pK 9 (.t 26) (.t 28)),
 g 30 24 true (.pJ 0 (.t 29)),
 g 31 24 true (.load false 1 (.t 30)),
 mg 32 4 24 true,
 g 33 24 true (.pS (.t 32)),
 g 34 24 true (.pJ 0 (.t 33)),
 g 35 24 true (.load false 1 (.t 34)),
 g 36 24 true (.bin .geq (.t 31) (.t 35)),
 g 37 21 false (.pick (.t 24) (.t 36) f),
 pk 38 (.t 21) y (.t 37),
 m 39 38,
 mg 40 4 39 false,
 g 41 39 false (.call (.c (.fn 112 [] [])) [(.t 40)]),
 g 42 39 false (.not (.t 41)),
 pk 43 (.t 39) y (.t 42),
 m 44 43,
 mg 45 4 44 false,
 g 46 44 false (.call (.c (.fn 122 [] [])) [(.t 45)]),
 g 47 44 false (.not (.t 46)),
 pk 48 (.t 44) y (.t 47)] [] [1, 7, 8, 48]) (.cond (.t 48) (s [k 2 (.bool false)] [2]
 .ret)
 .skip [1, 7, 8])))) [1, 7, 8])
 (.qx [b 49 .add (.t 8) (c 1),
 m 8 49] [1, 7, 8]))))
def f113 : fR := a 1 [.tmp 2] true
 (s [u 1 (.box 1 (.t 0)),
 k 2 (.bool false)] [1] (.seq (s [fa 5 0 1,
 ld 6 1 5,
 u 7 (.len false (.t 6)),
 k 8 (i 0)] [1, 7, 8] (.block 0 (.loop [1, 7, 8] f113L0) [1]))
 (s [fa 50 0 1,
 ld 51 1 50,
 u 52 (.len false (.t 51)),
 b 53 .leq (.t 52) (c 6),
 m 2 53] [2]
 .ret)))
def f114 : fR := a 3 [.tmp 6, .tmp 7] true
 (s [k 6 (.str ⟨#[]⟩),
 k 7 (i 0)] [0, 1, 2] (.seq (s [m 11 2,
 b 12 .lss (.t 11) (c 0),
 m 13 12,
 mg 14 2 13 false,
 g 15 13 false (.bin .gtr (.t 14) (c 300)),
 pk 16 (.t 13) y (.t 15)] [0, 1, 2, 16] (.cond (.t 16) (s [k 6 (.str ⟨#[]⟩),
 k 7 (i 900)] [6, 7]
 .ret)
 .skip [0, 1, 2])) (.seq (s [m 17 0] [1, 2, 17] (.block 0 (s [b 19 .eql (.t 17) (c 0),
 m 18 19] [1, 2, 17, 18] (.cond (.t 18) (s [m 20 1,
 u 21 (.len true (.t 20)),
 m 22 2,
 b 23 .eql (.t 21) (.t 22)] [1, 23] (.cond (.t 23) (s [m 24 1,
 m 6 24,
 k 7 (i 0)] [6, 7]
 .ret)
 .skip []))
 (s [b 26 .eql (.t 17) (c 8),
 m 25 26] [1, 2, 25] (.cond (.t 25) (s [m 28 1,
 m 29 2,
 cl 30 7 [(.t 28), (.t 29)],
 m 27 30,
 ex 31 27 0,
 ex 32 27 1,
 ex 33 27 2,
 m 8 31,
 m 9 32,
 m 10 33] [1, 2, 8, 9, 10]
 (s [m 34 10,
 b 35 .eql (.t 34) (c 0),
 m 36 35,
 mg 37 8 36 true,
 g 38 36 true (.len true (.t 37)),
 mg 39 2 36 true,
 g 40 36 true (.bin .eql (.t 38) (.t 39)),
 pk 41 (.t 36) (.t 40) f,
 m 42 41,
 mg 43 9 42 true,
 mg 44 1 42 true,
 g 45 42 true (.len true (.t 44)),
 g 46 42 true (.bin .eql (.t 43) (.t 45)),
 pk 47 (.t 42) (.t 46) f] [8, 47] (.cond (.t 47) (s [m 48 8,
 m 6 48,
 k 7 (i 0)] [6, 7]
 .ret)
 .skip [])))
 .skip [])) [])) []))
 (s [k 6 (.str ⟨#[]⟩),
 k 7 (i 900)] [6, 7]
 .ret))))
def f115 : fR := a 1 [.tmp 2] true
 (s [k 2 (i 0)] [0]
 (s [m 3 0,
 cl 4 103 [(c 0), (.t 3)],
 m 2 4] [2]
 .ret))
def f117 : fR := a 1 [.tmp 2] true
 (s [k 2 (.bool false)] [0]
 (s [m 3 0,
 u 4 (.len false (.t 3)),
 b 5 .eql (.t 4) (c 4),
 m 6 5,
 mg 7 0 6 true,
 g 8 6 true (.call (.c (.fn 83 [] [])) [(.t 7), (.c (.fn 123 [] []))]),
 g 9 6 true (.not (.t 8)),
 pk 10 (.t 6) (.t 9) f,
 m 2 10] [2]
 .ret))
def f118 : fR := a 1 [.tmp 2] false
 (s [k 2 (.aQ)] [0] (.seq (s [m 3 0,
 u 4 (.mM 1 false (.t 3) (.c (.aQ)))] [0, 4] (.cond (.t 4) (s [k 2 (.aQ)] [2]
 .ret)
 .skip [0]))
 (s [u 5 (.dg 1 0 [i 0] []),
 m 6 0,
 u 7 (.app 1 8 (.t 5) (.t 6)),
 m 2 7] [2]
 .ret)))
def f119 : fR := a 1 [.tmp 2] true
 (s [k 2 (.bool false)] [0]
 (s [m 3 0,
 b 4 .geq (.t 3) (c 0),
 m 5 4,
 mg 6 0 5 true,
 g 7 5 true (.bin .leq (.t 6) (c 1048576)),
 pk 8 (.t 5) (.t 7) f,
 m 2 8] [2]
 .ret))
def f120 : fR := a 1 [.tmp 2] true
 (s [k 2 (.bool false)] [0]
 (s [m 3 0,
 b 4 .geq (.t 3) (c 0),
 m 5 4,
 mg 6 0 5 true,
 g 7 5 true (.bin .lss (.t 6) (c 4)),
 pk 8 (.t 5) (.t 7) f,
 m 2 8] [2]
 .ret))
def f121 : fR := a 1 [.tmp 2] true
 (s [k 2 (.bool false)] [0]
 (s [m 3 0,
 u 4 (.len true (.t 3)),
 b 5 .geq (.t 4) (c 1),
 m 6 5,
 mg 7 0 6 true,
 g 8 6 true (.len true (.t 7)),
 g 9 6 true (.bin .leq (.t 8) (c 8)),
 pk 10 (.t 6) (.t 9) f,
 m 11 10,
 mg 12 0 11 true,
 g 13 11 true (.call (.c (.fn 124 [] [])) [(.t 12), (.c (.str ⟨#[97, 98, 99, 100, 101, 102, 103, 104, 105, 106, 107, 108, 109, 110, 111, 112, 113, 114, 115, 116, 117, 118, 119, 120, 121, 122, 48, 49, 50, 51, 52, 53, 54, 55, 56, 57, 46, 45, 95]⟩))]),
 g 14 11 true (.bin .eql (.t 13) (.c (.str ⟨#[]⟩))),
 pk 15 (.t 11) (.t 14) f,
 m 16 15,
 mg 17 0 16 true,
 g 18 16 true (.bin .neq (.t 17) (.c (.str ⟨#[46]⟩))),
 pk 19 (.t 16) (.t 18) f,
 m 20 19,
 mg 21 0 20 true,
 g 22 20 true (.bin .neq (.t 21) (.c (.str ⟨#[46, 46]⟩))),
 pk 23 (.t 20) (.t 22) f,
 m 2 23] [2]
 .ret))
def f122 : fR := a 1 [.tmp 2] false
 (s [k 2 (.bool false)] [0] (.seq (s [m 3 0,
 nc 4 3,
 fa 5 1 4,
 ld 6 1 5] [0, 6] (.cond (.t 6) (s [m 7 0,
 nc 8 7,
 fa 9 5 8,
 ld 10 1 9,
 b 11 .eql (.t 10) (c 0),
 m 12 11,
 mg 13 0 12 true,
 g 14 12 true (.pS (.t 13)),
 g 15 12 true (.pJ 6 (.t 14)),
 g 16 12 true (.load false 1 (.t 15)),
 g 17 12 true (.bin .eql (.t 16) (.c (.str ⟨#[]⟩))),
 pk 18 (.t 12) (.t 17) f,
 m 19 18,
 mg 20 0 19 true,
 g 21 19 true (.pS (.t 20)),
 g 22 19 true (.pJ 7 (.t 21)),
 g 23 19 true (.load false 1 (.t 22)),
 g 24 19 true (.bin .eql (.t 23) (c 0)),
 pk 25 (.t 19) (.t 24) f,
 m 26 25,
 mg 27 0 26 true,
 g 28 26 true (.pS (.t 27)),
 g 29 26 true (.pJ 8 (.t 28)),
 g 30 26 true (.load false 1 (.t 29)),
 g 31 26 true (.bin .eql (.t 30) (c 0)),
 pk 32 (.t 26) (.t 31) f,
 m 2 32] [2]
 .ret)
 .skip [0])) (.seq (s [m 33 0,
 nc 34 33,
 fa 35 5 34,
 ld 36 1 35] [0, 36] (.block 0 (s [b 38 .eql (.t 36) (c 0),
 m 37 38] [0, 36, 37] (.cond (.t 37) (.seq (.jD [0, 1, 2, 3, 4, 5, 6, 7, 8, 9] [m 39 0,
 nc 40 39,
 fa 41 6 40,
 ld 42 1 41,
 u 43 (.len true (.t 42)),
 m 44 0,
 nc 45 44,
 fa 46 7 45,
 ld 47 1 46,
 b 48 .neq (.t 43) (.t 47)] [] [0, 48]) (.cond (.t 48) (s [k 2 (.bool false)] [2]
 .ret)
 .skip [0]))
 (s [b 50 .eql (.t 36) (c 8),
 m 49 50] [0, 49] (.cond (.t 49) (s [m 51 0,
 nc 52 51,
 fa 53 6 52,
 ld 54 1 53,
 u 55 (.len true (.t 54)),
 b 56 .gtr (.t 55) (c 300)] [0, 56] (.cond (.t 56) (s [k 2 (.bool false)] [2]
 .ret)
 .skip [0]))
 (s [k 2 (.bool false)] [2]
 .ret) [0])) [0])) [0]))
 (s [m 57 0,
 nc 58 57,
 fa 59 7 58,
 ld 60 1 59,
 b 61 .geq (.t 60) (c 0),
 m 62 61,
 mg 63 0 62 true,
 g 64 62 true (.pS (.t 63)),
 g 65 62 true (.pJ 7 (.t 64)),
 g 66 62 true (.load false 1 (.t 65)),
 g 67 62 true (.bin .leq (.t 66) (c 300)),
 pk 68 (.t 62) (.t 67) f,
 m 69 68,
 mg 70 0 69 true,
 g 71 69 true (.pS (.t 70)),
 g 72 69 true (.pJ 8 (.t 71)),
 g 73 69 true (.load false 1 (.t 72)),
 g 74 69 true (.call (.c (.fn 105 [] [])) [(.t 73)]),
 pk 75 (.t 69) (.t 74) f,
 m 2 75] [2]
 .ret))))
def f123 : fR := a 1 [.tmp 2] true
 (s [k 2 (.bool false)] [0]
 (s [m 3 0,
 cl 4 119 [(.t 3)],
 u 5 (.not (.t 4)),
 m 2 5] [2]
 .ret))
def f124 : fR := a 2 [.tmp 4] true
 (s [k 4 (.str ⟨#[]⟩)] [0, 1] (.seq (s [m 7 0,
 b 8 .eql (.t 7) (.c (.str ⟨#[]⟩)),
 m 9 8,
 mg 10 1 9 false,
 g 11 9 false (.bin .eql (.t 10) (.c (.str ⟨#[]⟩))),
 pk 12 (.t 9) y (.t 11)] [0, 1, 12] (.cond (.t 12) (s [m 13 0,
 m 4 13] [4]
 .ret)
 .skip [0, 1])) (.seq (s [m 14 1,
 u 15 (.len true (.t 14)),
 b 16 .eql (.t 15) (c 1),
 m 17 16,
 mg 18 1 17 true,
 g 19 17 true (.idxs (.t 18) (c 0)),
 g 20 17 true (.bin .lss (.t 19) (.c (.int .u8 128))),
 pk 21 (.t 17) (.t 20) f] [0, 1, 21] (.cond (.t 21) (.seq (.jD [0, 1, 2, 3, 4, 5, 6, 7] [m 22 0,
 m 23 1,
 u 24 (.idxs (.t 23) (c 0)),
 cl 25 126 [(.t 22), (.t 24)],
 m 26 1,
 u 27 (.idxs (.t 26) (c 0)),
 cl 28 125 [(.t 25), (.t 27)],
 m 4 28] [] [4])
 .ret)
 .skip [0, 1])) (.seq (s [m 30 1,
 cl 31 127 [(.t 30)],
 m 29 31,
 ex 32 29 0,
 ex 33 29 1,
 u 5 (.alloc [.bool false, .bool false, .bool false, .bool false, .bool false, .bool false, .bool false, .bool false, .bool false, .bool false, .bool false, .bool false, .bool false, .bool false, .bool false, .bool false, .bool false, .bool false, .bool false, .bool false, .bool false, .bool false, .bool false, .bool false, .bool false, .bool false, .bool false, .bool false, .bool false, .bool false, .bool false, .bool false, .bool false, .bool false, .bool false, .bool false, .bool false, .bool false, .bool false, .bool false, .bool false, .bool false, .bool false, .bool false, .bool false, .bool false, .bool false, .bool false, .bool false, .bool false, .bool false, .bool false, .bool false, .bool false, .bool false, .bool false, .bool false, .bool false, .bool false, .bool false, .bool false, .bool false, .bool false, .bool false, .bool false, .bool false, .bool false, .bool false, .bool false, .bool false, .bool false, .bool false, .bool false, .bool false, .bool false, .bool false, .bool false, .bool false, .bool false, .bool false, .bool false, .bool false, .bool false, .bool false, .bool false, .bool false, .bool false, .bool false, .bool false, .bool false, .bool false, .bool false, .bool false, .bool false, .bool false, .bool false, .bool false, .bool false, .bool false, .bool false, .bool false, .bool false, .bool false, .bool false, .bool false, .bool false, .bool false, .bool false, .bool false, .bool false, .bool false, .bool false, .bool false, .bool false, .bool false, .bool false, .bool false, .bool false, .bool false, .bool false, .bool false, .bool false, .bool false, .bool false, .bool false, .bool false, .bool false, .bool false, .bool false, .bool false, .bool false, .bool false, .bool false, .bool false, .bool false, .bool false, .bool false, .bool false, .bool false, .bool false, .bool false, .bool false, .bool false, .bool false, .bool false, .bool false, .bool false, .bool false, .bool false, .bool false, .bool false, .bool false, .bool false, .bool false, .bool false, .bool false, .bool false, .bool false, .bool false, .bool false, .bool false, .bool false, .bool false, .bool false, .bool false, .bool false, .bool false, .bool false, .bool false, .bool false, .bool false, .bool false, .bool false, .bool false, .bool false, .bool false, .bool false, .bool false, .bool false, .bool false, .bool false, .bool false, .bool false, .bool false, .bool false, .bool false, .bool false, .bool false, .bool false, .bool false, .bool false, .bool false, .bool false, .bool false, .bool false, .bool false, .bool false, .bool false, .bool false, .bool false, .bool false, .bool false, .bool false, .bool false, .bool false, .bool false, .bool false, .bool false, .bool false, .bool false, .bool false, .bool false, .bool false, .bool false, .bool false, .bool false, .bool false, .bool false, .bool false, .bool false, .bool false, .bool false, .bool false, .bool false, .bool false, .bool false, .bool false, .bool false, .bool false, .bool false, .bool false, .bool false, .bool false, .bool false, .bool false, .bool false, .bool false, .bool false, .bool false, .bool false, .bool false, .bool false, .bool false, .bool false, .bool false, .bool false, .bool false, .bool false, .bool false, .bool false, .bool false, .bool false, .bool false, .bool false, .bool false, .bool false]),
 ⟨none, .store 256 (.t 5) (.t 32), none⟩,
 m 6 33] [0, 1, 5, 6]
 (s [m 34 6] [0, 1, 5, 34] (.cond (.t 34) (s [m 35 0,
 cl 36 129 [(.t 35), (.t 5)],
 cl 37 128 [(.t 36), (.t 5)],
 m 4 37] [4]
 .ret)
 .skip [0, 1])))
 (s [m 38 0,
 m 39 1,
 cl 40 131 [(.t 38), (.t 39)],
 m 41 1,
 cl 42 130 [(.t 40), (.t 41)],
 m 4 42] [4]
 .ret)))))
def f125L0 : aH := (.seq (s [m 5 0,
 u 6 (.len true (.t 5)),
 b 7 .gtr (.t 6) (c 0),
 m 8 7,
 mg 9 0 8 true,
 g 10 8 true (.idxs (.t 9) (c 0)),
 mg 11 1 8 true,
 g 12 8 true (.bin .eql (.t 10) (.t 11)),
 pk 13 (.t 8) (.t 12) f] [0, 1, 13] (.cond (.t 13) .skip (.exit 0) [0, 1])) (.block 1 (.qx [m 14 0,
 u 15 (.vI (.t 14) (some (c 1)) none),
 m 0 15] [0, 1]) [0, 1]))
def f125 : fR := a 2 [.tmp 4] true
 (s [k 4 (.str ⟨#[]⟩)] [0, 1] (.seq (.block 0 (.loop [0, 1] f125L0) [0])
 (s [m 16 0,
 m 4 16] [4]
 .ret)))
def f126L0 : aH := (.seq (s [m 5 0,
 u 6 (.len true (.t 5)),
 b 7 .gtr (.t 6) (c 0),
 m 8 7,
 mg 9 0 8 true,
 mg 10 0 8 true,
 g 11 8 true (.len true (.t 10)),
 g 12 8 true (.bin .sub (.t 11) (c 1)),
 g 13 8 true (.idxs (.t 9) (.t 12)),
 mg 14 1 8 true,
 g 15 8 true (.bin .eql (.t 13) (.t 14)),
 pk 16 (.t 8) (.t 15) f] [0, 1, 16] (.cond (.t 16) .skip (.exit 0) [0, 1])) (.block 1 (.qx [m 17 0,
 m 18 0,
 u 19 (.len true (.t 18)),
 b 20 .sub (.t 19) (c 1),
 u 21 (.vI (.t 17) none (some (.t 20))),
 m 0 21] [0, 1]) [0, 1]))
def f126 : fR := a 2 [.tmp 4] true
 (s [k 4 (.str ⟨#[]⟩)] [0, 1] (.seq (.block 0 (.loop [0, 1] f126L0) [0])
 (s [m 22 0,
 m 4 22] [4]
 .ret)))
def f127L0 : aH := (.seq (s [m 6 4,
 m 7 0,
 u 8 (.len true (.t 7)),
 b 9 .lss (.t 6) (.t 8)] [0, 2, 4, 9] (.cond (.t 9) .skip (.exit 0) [0, 2, 4])) (.seq (.block 1 (s [m 12 0,
 m 13 4,
 u 14 (.idxs (.t 12) (.t 13)),
 m 5 14] [0, 2, 4, 5] (.seq (s [m 15 5,
 b 16 .geq (.t 15) (.c (.int .u8 128))] [0, 2, 4, 5, 16] (.cond (.t 16) (s [u 17 (.load true 256 (.t 2)),
 ⟨none, .store 256 (.t 2) (.t 17), none⟩,
 k 3 (.bool false)] [2, 3]
 .ret)
 .skip [0, 2, 4, 5]))
 (.qx [m 18 5,
 u 19 (.mr 256 1 (.t 2) (.t 18)),
 ⟨none, .store 1 (.t 19) y, none⟩] [0, 2, 4]))) [0, 2, 4])
 (.qx [m 10 4,
 b 11 .add (.t 10) (c 1),
 m 4 11] [0, 2, 4])))
def f127 : fR := a 1 [.cell 2 true 256, .tmp 3] true
 (s [u 2 (.alloc [.bool false, .bool false, .bool false, .bool false, .bool false, .bool false, .bool false, .bool false, .bool false, .bool false, .bool false, .bool false, .bool false, .bool false, .bool false, .bool false, .bool false, .bool false, .bool false, .bool false, .bool false, .bool false, .bool false, .bool false, .bool false, .bool false, .bool false, .bool false, .bool false, .bool false, .bool false, .bool false, .bool false, .bool false, .bool false, .bool false, .bool false, .bool false, .bool false, .bool false, .bool false, .bool false, .bool false, .bool false, .bool false, .bool false, .bool false, .bool false, .bool false, .bool false, .bool false, .bool false, .bool false, .bool false, .bool false, .bool false, .bool false, .bool false, .bool false, .bool false, .bool false, .bool false, .bool false, .bool false, .bool false, .bool false, .bool false, .bool false, .bool false, .bool false, .bool false, .bool false, .bool false, .bool false, .bool false, .bool false, .bool false, .bool false, .bool false, .bool false, .bool false, .bool false, .bool false, .bool false, .bool false, .bool false, .bool false, .bool false, .bool false, .bool false, .bool false, .bool false, .bool false, .bool false, .bool false, .bool false, .bool false, .bool false, .bool false, .bool false, .bool false, .bool false, .bool false, .bool false, .bool false, .bool false, .bool false, .bool false, .bool false, .bool false, .bool false, .bool false, .bool false, .bool false, .bool false, .bool false, .bool false, .bool false, .bool false, .bool false, .bool false, .bool false, .bool false, .bool false, .bool false, .bool false, .bool false, .bool false, .bool false, .bool false, .bool false, .bool false, .bool false, .bool false, .bool false, .bool false, .bool false, .bool false, .bool false, .bool false, .bool false, .bool false, .bool false, .bool false, .bool false, .bool false, .bool false, .bool false, .bool false, .bool false, .bool false, .bool false, .bool false, .bool false, .bool false, .bool false, .bool false, .bool false, .bool false, .bool false, .bool false, .bool false, .bool false, .bool false, .bool false, .bool false, .bool false, .bool false, .bool false, .bool false, .bool false, .bool false, .bool false, .bool false, .bool false, .bool false, .bool false, .bool false, .bool false, .bool false, .bool false, .bool false, .bool false, .bool false, .bool false, .bool false, .bool false, .bool false, .bool false, .bool false, .bool false, .bool false, .bool false, .bool false, .bool false, .bool false, .bool false, .bool false, .bool false, .bool false, .bool false, .bool false, .bool false, .bool false, .bool false, .bool false, .bool false, .bool false, .bool false, .bool false, .bool false, .bool false, .bool false, .bool false, .bool false, .bool false, .bool false, .bool false, .bool false, .bool false, .bool false, .bool false, .bool false, .bool false, .bool false, .bool false, .bool false, .bool false, .bool false, .bool false, .bool false, .bool false, .bool false, .bool false, .bool false, .bool false, .bool false, .bool false, .bool false, .bool false, .bool false, .bool false, .bool false, .bool false, .bool false, .bool false, .bool false, .bool false, .bool false, .bool false, .bool false, .bool false, .bool false, .bool false, .bool false, .bool false]),
 k 3 (.bool false)] [0, 2] (.seq (s [k 4 (i 0)] [0, 2, 4] (.block 0 (.loop [0, 2, 4] f127L0) [2]))
 (s [u 20 (.load true 256 (.t 2)),
 ⟨none, .store 256 (.t 2) (.t 20), none⟩,
 k 3 (.bool true)] [2, 3]
 .ret)))
def f128L0 : aH := (.seq (s [m 5 0,
 u 6 (.len true (.t 5)),
 b 7 .gtr (.t 6) (c 0)] [0, 1, 7] (.cond (.t 7) .skip (.exit 0) [0, 1])) (.block 1 (.seq (s [m 8 1,
 m 9 0,
 u 10 (.idxs (.t 9) (c 0)),
 cl 11 132 [(.t 8), (.t 10)],
 u 12 (.not (.t 11))] [0, 1, 12] (.cond (.t 12) (.exit 0)
 .skip [0, 1]))
 (.qx [m 13 0,
 u 14 (.vI (.t 13) (some (c 1)) none),
 m 0 14] [0, 1])) [0, 1]))
def f128 : fR := a 2 [.tmp 4] false
 (s [k 4 (.str ⟨#[]⟩)] [0, 1] (.seq (.block 0 (.loop [0, 1] f128L0) [0])
 (s [m 15 0,
 m 4 15] [4]
 .ret)))
def f129L0 : aH := (.seq (s [m 5 0,
 u 6 (.len true (.t 5)),
 b 7 .gtr (.t 6) (c 0)] [0, 1, 7] (.cond (.t 7) .skip (.exit 0) [0, 1])) (.block 1 (.seq (s [m 8 1,
 m 9 0,
 m 10 0,
 u 11 (.len true (.t 10)),
 b 12 .sub (.t 11) (c 1),
 u 13 (.idxs (.t 9) (.t 12)),
 cl 14 132 [(.t 8), (.t 13)],
 u 15 (.not (.t 14))] [0, 1, 15] (.cond (.t 15) (.exit 0)
 .skip [0, 1]))
 (.qx [m 16 0,
 m 17 0,
 u 18 (.len true (.t 17)),
 b 19 .sub (.t 18) (c 1),
 u 20 (.vI (.t 16) none (some (.t 19))),
 m 0 20] [0, 1])) [0, 1]))
def f129 : fR := a 2 [.tmp 4] false
 (s [k 4 (.str ⟨#[]⟩)] [0, 1] (.seq (.block 0 (.loop [0, 1] f129L0) [0])
 (s [m 21 0,
 m 4 21] [4]
 .ret)))
def f130L0 : aH := (.seq (s [m 7 0,
 u 8 (.len true (.t 7)),
 b 9 .gtr (.t 8) (c 0)] [0, 1, 9] (.cond (.t 9) .skip (.exit 0) [0, 1])) (.block 1 (s [m 11 0,
 cl 12 133 [(.t 11)],
 m 10 12,
 ex 13 10 0,
 ex 14 10 1,
 m 5 13,
 m 6 14] [0, 1, 5, 6] (.seq (s [m 15 1,
 m 16 5,
 cl 17 134 [(.t 15), (.t 16)],
 u 18 (.not (.t 17))] [0, 1, 6, 18] (.cond (.t 18) (.exit 0)
 .skip [0, 1, 6]))
 (.qx [m 19 0,
 m 20 6,
 u 21 (.vI (.t 19) (some (.t 20)) none),
 m 0 21] [0, 1]))) [0, 1]))
def f130 : fR := a 2 [.tmp 4] true
 (s [k 4 (.str ⟨#[]⟩)] [0, 1] (.seq (.block 0 (.loop [0, 1] f130L0) [0])
 (s [m 22 0,
 m 4 22] [4]
 .ret)))
def f131L0 : aH := (.seq (s [m 7 0,
 u 8 (.len true (.t 7)),
 b 9 .gtr (.t 8) (c 0)] [0, 1, 9] (.cond (.t 9) .skip (.exit 0) [0, 1])) (.block 1 (s [m 10 0,
 m 11 0,
 u 12 (.len true (.t 11)),
 b 13 .sub (.t 12) (c 1),
 u 14 (.idxs (.t 10) (.t 13)),
 u 15 (.conv .i32 (.t 14)),
 m 5 15,
 k 6 (i 1)] [0, 1, 5, 6] (.seq (s [m 16 5,
 b 17 .geq (.t 16) (.c (.int .i32 128))] [0, 1, 5, 6, 17] (.cond (.t 17) (.qx [m 19 0,
 cl 20 135 [(.t 19)],
 m 18 20,
 ex 21 18 0,
 ex 22 18 1,
 m 5 21,
 m 6 22] [0, 1, 5, 6])
 .skip [0, 1, 5, 6])) (.seq (s [m 23 1,
 m 24 5,
 cl 25 134 [(.t 23), (.t 24)],
 u 26 (.not (.t 25))] [0, 1, 6, 26] (.cond (.t 26) (.exit 0)
 .skip [0, 1, 6]))
 (.qx [m 27 0,
 m 28 0,
 u 29 (.len true (.t 28)),
 m 30 6,
 b 31 .sub (.t 29) (.t 30),
 u 32 (.vI (.t 27) none (some (.t 31))),
 m 0 32] [0, 1])))) [0, 1]))
def f131 : fR := a 2 [.tmp 4] true
 (s [k 4 (.str ⟨#[]⟩)] [0, 1] (.seq (.block 0 (.loop [0, 1] f131L0) [0])
 (s [m 33 0,
 m 4 33] [4]
 .ret)))
def f132 : fR := a 2 [.tmp 4] false
 (s [k 4 (.bool false)] [0, 1]
 (s [m 5 0,
 m 6 1,
 nc 7 5,
 u 8 (.mr 256 1 (.t 7) (.t 6)),
 ld 9 1 8,
 m 4 9] [4]
 .ret))
def f133 : fR := a 1 [.tmp 2, .tmp 3] true
 (s [k 2 (.int .i32 0),
 k 3 (i 0)] [0] (.seq (s [m 4 0,
 b 5 .neq (.t 4) (.c (.str ⟨#[]⟩)),
 m 6 5,
 mg 7 0 6 true,
 g 8 6 true (.idxs (.t 7) (c 0)),
 g 9 6 true (.bin .lss (.t 8) (.c (.int .u8 128))),
 pk 10 (.t 6) (.t 9) f] [0, 10] (.cond (.t 10) (s [m 11 0,
 u 12 (.idxs (.t 11) (c 0)),
 u 13 (.conv .i32 (.t 12)),
 m 2 13,
 k 3 (i 1)] [2, 3]
 .ret)
 (.qx [m 15 0,
 cl 16 136 [(.t 15)],
 m 14 16,
 ex 17 14 0,
 ex 18 14 1,
 m 2 17,
 m 3 18] [2, 3]) [2, 3]))
 .ret))
def f134 : fR := a 2 [.tmp 4] true
 (s [k 4 (.bool false)] [0, 1]
 (s [m 5 0,
 m 6 1,
 cl 7 137 [(.t 5), (.t 6)],
 b 8 .geq (.t 7) (c 0),
 m 4 8] [4]
 .ret))
def f135L0 : aH := (.seq (s [m 25 5,
 m 26 6,
 b 27 .geq (.t 25) (.t 26)] [0, 4, 5, 6, 27] (.cond (.t 27) .skip (.exit 0) [0, 4, 5, 6])) (.seq (.block 1 (s [m 30 0,
 m 31 5,
 u 32 (.idxs (.t 30) (.t 31)),
 cl 33 138 [(.t 32)]] [0, 4, 5, 6, 33] (.cond (.t 33) (.exit 0)
 .skip [0, 4, 5, 6])) [0, 4, 5, 6])
 (.qx [m 28 5,
 b 29 .sub (.t 28) (c 1),
 m 5 29] [0, 4, 5, 6])))
def f135 : fR := a 1 [.tmp 2, .tmp 3] true
 (s [k 2 (.int .i32 0),
 k 3 (i 0)] [0]
 (s [m 7 0,
 u 8 (.len true (.t 7)),
 m 4 8] [0, 4] (.seq (s [m 9 4,
 b 10 .eql (.t 9) (c 0)] [0, 4, 10] (.cond (.t 10) (s [k 2 (.int .i32 65533),
 k 3 (i 0)] [2, 3]
 .ret)
 .skip [0, 4]))
 (s [m 11 4,
 b 12 .sub (.t 11) (c 1),
 m 5 12] [0, 4, 5]
 (s [m 13 0,
 m 14 5,
 u 15 (.idxs (.t 13) (.t 14)),
 u 16 (.conv .i32 (.t 15)),
 m 2 16] [0, 2, 4, 5] (.seq (s [m 17 2,
 b 18 .lss (.t 17) (.c (.int .i32 128))] [0, 2, 4, 5, 18] (.cond (.t 18) (s [m 19 2,
 m 2 19,
 k 3 (i 1)] [2, 3]
 .ret)
 .skip [0, 4, 5]))
 (s [m 20 4,
 b 21 .sub (.t 20) (c 4),
 u 22 (.mx [(.t 21), (c 0)]),
 m 6 22] [0, 4, 5, 6] (.seq (s [m 23 5,
 b 24 .sub (.t 23) (c 1),
 m 5 24] [0, 4, 5, 6] (.block 0 (.loop [0, 4, 5, 6] f135L0) [0, 4, 5])) (.seq (s [m 34 5,
 b 35 .lss (.t 34) (c 0)] [0, 4, 5, 35] (.cond (.t 35) (.qx [k 5 (i 0)] [0, 4, 5])
 .skip [0, 4, 5]))
 (s [m 37 0,
 m 38 5,
 m 39 4,
 u 40 (.vI (.t 37) (some (.t 38)) (some (.t 39))),
 cl 41 133 [(.t 40)],
 m 36 41,
 ex 42 36 0,
 ex 43 36 1,
 m 2 42,
 m 3 43] [2, 3, 4, 5] (.seq (s [m 44 5,
 m 45 3,
 b 46 .add (.t 44) (.t 45),
 m 47 4,
 b 48 .neq (.t 46) (.t 47)] [2, 3, 48] (.cond (.t 48) (s [k 2 (.int .i32 65533),
 k 3 (i 1)] [2, 3]
 .ret)
 .skip [2, 3]))
 (s [m 49 2,
 m 50 3,
 m 2 49,
 m 3 50] [2, 3]
 .ret))))))))))))
def f138 : fR := a 1 [.tmp 2] true
 (s [k 2 (.bool false)] [0]
 (s [m 3 0,
 b 4 .and (.t 3) (.c (.int .u8 192)),
 b 5 .neq (.t 4) (.c (.int .u8 128)),
 m 2 5] [2]
 .ret))
def f139 : fR := a 2 [.tmp 4] true
 (s [k 4 (i 0)] [0, 1]
 (s [m 5 0,
 m 6 1,
 cl 7 143 [(.t 5), (.t 6)],
 m 4 7] [4]
 .ret))
def f140 : fR := a 1 [.tmp 2] true
 (s [k 2 (.bool false)] [0] (.seq (.block 0 (s [m 4 0,
 b 5 .leq (.c (.int .i32 0)) (.t 4),
 m 6 5,
 mg 7 0 6 true,
 g 8 6 true (.bin .lss (.t 7) (.c (.int .i32 55296))),
 pk 9 (.t 6) (.t 8) f,
 m 3 9] [0, 3] (.cond (.t 3) (s [k 2 (.bool true)] [2]
 .ret)
 (s [m 11 0,
 b 12 .lss (.c (.int .i32 57343)) (.t 11),
 m 13 12,
 mg 14 0 13 true,
 g 15 13 true (.bin .leq (.t 14) (.c (.int .i32 1114111))),
 pk 16 (.t 13) (.t 15) f,
 m 10 16] [10] (.cond (.t 10) (s [k 2 (.bool true)] [2]
 .ret)
 .skip [])) [])) [])
 (s [k 2 (.bool false)] [2]
 .ret)))
def f141 : fR := a 1 [.tmp 2] true
 (s [k 2 (i 0)] [0]
 (s [m 3 0,
 b 4 .add (.t 3) (c 16),
 b 5 .quo (.t 4) (c 8),
 m 2 5] [2]
 .ret))
def f175L0 : aH := (.seq (s [m 140 16,
 b 141 .lss (.t 140) (c 8)] [2, 5, 11, 12, 14, 16, 141] (.cond (.t 141) .skip (.exit 4) [2, 5, 11, 12, 14, 16])) (.seq (.block 5 (.seq (.jD [0, 1, 2, 3, 4, 5, 6, 7, 8, 9, 10, 11, 12, 13] [m 144 16,
 m 145 11,
 b 146 .neq (.t 144) (.t 145),
 m 147 146,
 mg 148 14 147 true,
 mg 149 16 147 true,
 g 150 147 true (.pK 1 (.t 148) (.t 149)),
 g 151 147 true (.load false 1 (.t 150)),
 mg 152 5 147 true,
 mg 153 16 147 true,
 g 154 147 true (.pK 1 (.t 152) (.t 153)),
 g 155 147 true (.load false 1 (.t 154)),
 g 156 147 true (.bin .neq (.t 151) (.t 155)),
 pk 157 (.t 147) (.t 156) f] [] [2, 5, 11, 12, 14, 16, 157]) (.cond (.t 157) (s [k 4 (.bool false)] [4]
 .ret)
 .skip [2, 5, 11, 12, 14, 16])) [2, 5, 11, 12, 14, 16])
 (.qx [m 142 16,
 b 143 .add (.t 142) (c 1),
 m 16 143] [2, 5, 11, 12, 14, 16])))
def f175L1 : aH := (.seq (s [m 107 13,
 fa 108 0 2,
 ld 109 1 108,
 u 110 (.len false (.t 109)),
 b 111 .lss (.t 107) (.t 110)] [2, 5, 10, 11, 12, 13, 111] (.cond (.t 111) .skip (.exit 2) [2, 5, 10, 11, 12, 13])) (.seq (.block 3 (s [m 114 13,
 m 115 10,
 b 116 .neq (.t 114) (.t 115)] [2, 5, 10, 11, 12, 13, 116] (.cond (.t 116) (.jD [0, 1, 2, 3, 4, 5, 6, 7, 8, 9, 10] [fa 117 0 12,
 ld 118 1 117,
 fa 119 0 2,
 ld 120 1 119,
 m 121 13,
 u 122 (.pK 9 (.t 120) (.t 121)),
 u 123 (.load true 9 (.t 122)),
 u 124 (.dg 9 1 [.str ⟨#[]⟩, .bool false, .aQ, i 0, i 0, i 0, .str ⟨#[]⟩, i 0, i 0] [(0, (.t 123))]),
 u 125 (.app 9 104 (.t 118) (.t 124)),
 fa 126 0 12,
 ⟨none, .store 1 (.t 126) (.t 125), none⟩] [] [2, 5, 10, 11, 12, 13])
 .skip [2, 5, 10, 11, 12, 13])) [2, 5, 10, 11, 12, 13])
 (.qx [m 112 13,
 b 113 .add (.t 112) (c 1),
 m 13 113] [2, 5, 10, 11, 12, 13])))
def f175L2 : aH := (.seq (s [m 56 9,
 m 57 7,
 u 58 (.len false (.t 57)),
 b 59 .lss (.t 56) (.t 58)] [1, 2, 5, 7, 9, 59] (.cond (.t 59) .skip (.exit 0) [1, 2, 5, 7, 9])) (.seq (.block 1 (.seq (.jD [0, 1, 2, 3, 4, 5, 6, 7, 8, 9, 10, 11, 12, 13, 14, 15, 16, 17, 18, 19, 20, 21, 22, 23, 24, 25, 26] [m 62 7,
 m 63 9,
 u 64 (.pK 2 (.t 62) (.t 63)),
 fa 65 0 64,
 ld 66 1 65,
 fa 67 0 2,
 ld 68 1 67,
 m 69 9,
 u 70 (.pK 9 (.t 68) (.t 69)),
 fa 71 0 70,
 ld 72 1 71,
 b 73 .neq (.t 66) (.t 72),
 m 74 73,
 mg 75 7 74 false,
 mg 76 9 74 false,
 g 77 74 false (.pK 2 (.t 75) (.t 76)),
 g 78 74 false (.pJ 1 (.t 77)),
 g 79 74 false (.load false 1 (.t 78)),
 g 80 74 false (.pJ 0 (.t 2)),
 g 81 74 false (.load false 1 (.t 80)),
 mg 82 9 74 false,
 g 83 74 false (.pK 9 (.t 81) (.t 82)),
 g 84 74 false (.pJ 2 (.t 83)),
 g 85 74 false (.load false 1 (.t 84)),
 g 86 74 false (.call (.c (.fn 106 [] [])) [(.t 79), (.t 85)]),
 g 87 74 false (.not (.t 86)),
 pk 88 (.t 74) y (.t 87)] [] [1, 2, 5, 7, 9, 88]) (.cond (.t 88) (s [k 4 (.bool false)] [4]
 .ret)
 .skip [1, 2, 5, 7, 9])) [1, 2, 5, 7, 9])
 (.qx [m 60 9,
 b 61 .add (.t 60) (c 1),
 m 9 61] [1, 2, 5, 7, 9])))
def f175 : fR := a 2 [.tmp 4] true
 (s [u 2 (.box 1 (.t 0)),
 k 4 (.bool false)] [1, 2] (.seq (s [cl 21 176 [],
 u 22 (.not (.t 21))] [1, 2, 22] (.cond (.t 22) (s [k 4 (.bool false)] [4]
 .ret)
 .skip [1, 2]))
 (s [u 24 (.load true 1 (.t 2)),
 cl 25 177 [(.t 24)],
 m 23 25,
 ex 26 23 0,
 ex 27 23 1,
 m 5 26,
 m 6 27] [1, 2, 5, 6] (.seq (s [m 28 6,
 cl 29 9 [(.t 28)],
 b 30 .neq (.t 29) (c 0)] [1, 2, 5, 30] (.cond (.t 30) (s [m 31 5,
 u 32 (.len false (.t 31)),
 b 33 .eql (.t 32) (c 0),
 m 4 33] [4]
 .ret)
 .skip [1, 2, 5]))
 (s [u 35 (.load true 1 (.t 2)),
 u 36 (.dg 1 8 [i 0] [(0, (c 0)), (1, (c 1)), (2, (c 2)), (3, (c 3)), (4, (c 4)), (5, (c 5)), (6, (c 6)), (7, (c 7))]),
 cl 37 178 [(.t 35), (.t 36)],
 m 34 37,
 ex 38 34 0,
 ex 39 34 1,
 m 7 38,
 m 8 39] [1, 2, 5, 7, 8] (.seq (s [m 40 8,
 cl 41 9 [(.t 40)],
 b 42 .neq (.t 41) (c 0),
 m 43 42,
 mg 44 7 43 false,
 g 45 43 false (.len false (.t 44)),
 g 46 43 false (.pJ 0 (.t 2)),
 g 47 43 false (.load false 1 (.t 46)),
 g 48 43 false (.len false (.t 47)),
 g 49 43 false (.bin .neq (.t 45) (.t 48)),
 pk 50 (.t 43) y (.t 49),
 m 51 50,
 mg 52 5 51 false,
 g 53 51 false (.len false (.t 52)),
 g 54 51 false (.bin .neq (.t 53) (c 8)),
 pk 55 (.t 51) y (.t 54)] [1, 2, 5, 7, 55] (.cond (.t 55) (s [k 4 (.bool false)] [4]
 .ret)
 .skip [1, 2, 5, 7])) (.seq (s [k 9 (i 0)] [1, 2, 5, 7, 9] (.block 0 (.loop [1, 2, 5, 7, 9] f175L2) [1, 2, 5, 7])) (.seq (s [m 89 7,
 u 90 (.len false (.t 89)),
 b 91 .eql (.t 90) (c 0)] [1, 2, 5, 91] (.cond (.t 91) (s [k 4 (.bool true)] [4]
 .ret)
 .skip [1, 2, 5]))
 (s [m 92 1,
 u 93 (.conv .u64 (.t 92)),
 fa 94 0 2,
 ld 95 1 94,
 u 96 (.len false (.t 95)),
 u 97 (.conv .u64 (.t 96)),
 b 98 .rem (.t 93) (.t 97),
 u 99 (.conv .i64 (.t 98)),
 m 10 99] [2, 5, 10]
 (s [fa 100 0 2,
 ld 101 1 100,
 m 102 10,
 u 103 (.pK 9 (.t 101) (.t 102)),
 fa 104 0 103,
 ld 105 1 104,
 cl 106 179 [(.t 105)],
 m 11 106] [2, 5, 10, 11]
 (s [u 12 (.alloc [.aQ])] [2, 5, 10, 11, 12] (.seq (s [k 13 (i 0)] [2, 5, 10, 11, 12, 13] (.block 2 (.loop [2, 5, 10, 11, 12, 13] f175L1) [2, 5, 11, 12]))
 (s [u 128 (.load true 1 (.t 12)),
 cl 129 177 [(.t 128)],
 m 127 129,
 ex 130 127 0,
 ex 131 127 1,
 m 14 130,
 m 15 131] [2, 5, 11, 12, 14, 15] (.seq (s [m 132 15,
 cl 133 9 [(.t 132)],
 b 134 .neq (.t 133) (c 0),
 m 135 134,
 mg 136 14 135 false,
 g 137 135 false (.len false (.t 136)),
 g 138 135 false (.bin .neq (.t 137) (c 8)),
 pk 139 (.t 135) y (.t 138)] [2, 5, 11, 12, 14, 139] (.cond (.t 139) (s [k 4 (.bool false)] [4]
 .ret)
 .skip [2, 5, 11, 12, 14])) (.seq (s [k 16 (i 0)] [2, 5, 11, 12, 14, 16] (.block 4 (.loop [2, 5, 11, 12, 14, 16] f175L0) [2, 11, 12]))
 (s [u 159 (.load true 1 (.t 12)),
 m 160 11,
 u 161 (.dg 1 1 [i 0] [(0, (.t 160))]),
 cl 162 178 [(.t 159), (.t 161)],
 m 158 162,
 ex 163 158 0,
 ex 164 158 1,
 m 17 163,
 m 18 164] [2, 11, 17, 18]
 (s [u 166 (.load true 1 (.t 2)),
 m 167 11,
 u 168 (.dg 1 1 [i 0] [(0, (.t 167))]),
 cl 169 178 [(.t 166), (.t 168)],
 m 165 169,
 ex 170 165 0,
 ex 171 165 1,
 m 19 170,
 m 20 171] [17, 18, 19, 20]
 (s [m 172 18,
 cl 173 9 [(.t 172)],
 b 174 .eql (.t 173) (c 0),
 m 175 174,
 mg 176 20 175 true,
 g 177 175 true (.call (.c (.fn 9 [] [])) [(.t 176)]),
 g 178 175 true (.bin .eql (.t 177) (c 0)),
 pk 179 (.t 175) (.t 178) f,
 m 180 179,
 mg 181 19 180 true,
 g 182 180 true (.len false (.t 181)),
 mg 183 17 180 true,
 g 184 180 true (.len false (.t 183)),
 g 185 180 true (.bin .add (.t 184) (c 1)),
 g 186 180 true (.bin .eql (.t 182) (.t 185)),
 pk 187 (.t 180) (.t 186) f,
 m 4 187] [4]
 .ret))))))))))))))))))
def f176 : fR := a 0 [.tmp 0] true
 (s [k 0 (.bool false)] []
 (s [cl 15 180 [(.c (.str ⟨#[97]⟩)), (c 0), (c 1), (.c (.str ⟨#[104, 105]⟩))],
 u 16 (.dg 9 1 [.str ⟨#[]⟩, .bool false, .aQ, i 0, i 0, i 0, .str ⟨#[]⟩, i 0, i 0] [(0, (.t 15))]),
 u 17 (.build [.aQ] [(0, 1, (.t 16))]),
 u 1 (.alloc [.aQ]),
 ⟨none, .store 1 (.t 1) (.t 17), none⟩] [1]
 (s [u 19 (.load true 1 (.t 1)),
 cl 20 177 [(.t 19)],
 m 18 20,
 ex 21 18 0,
 ex 22 18 1,
 m 2 21,
 m 3 22] [1, 2, 3]
 (s [u 24 (.build [.aQ] []),
 cl 25 177 [(.t 24)],
 m 23 25,
 ex 26 23 0,
 ex 27 23 1,
 m 4 26,
 m 5 27] [1, 2, 3, 4, 5]
 (s [m 29 2,
 cl 30 181 [(.t 29)],
 m 28 30,
 ex 31 28 0,
 ex 32 28 1,
 m 6 31,
 m 7 32] [1, 2, 3, 4, 5, 6, 7]
 (s [cl 33 179 [(.c (.str ⟨#[97]⟩))],
 m 8 33] [1, 2, 3, 4, 5, 6, 7, 8]
 (s [u 35 (.load true 1 (.t 1)),
 m 36 8,
 u 37 (.dg 1 1 [i 0] [(0, (.t 36))]),
 cl 38 178 [(.t 35), (.t 37)],
 m 34 38,
 ex 39 34 0,
 ex 40 34 1,
 m 9 39,
 m 10 40] [1, 2, 3, 4, 5, 6, 7, 8, 9, 10]
 (s [u 42 (.load true 1 (.t 1)),
 u 43 (.dg 1 1 [i 0] [(0, (c 8))]),
 cl 44 178 [(.t 42), (.t 43)],
 m 41 44,
 ex 45 41 0,
 ex 46 41 1,
 m 11 45,
 m 12 46] [2, 3, 4, 5, 6, 7, 8, 9, 10, 12]
 (s [cl 48 181 [(.c (.aQ))],
 m 47 48,
 ex 49 47 0,
 ex 50 47 1,
 m 13 49,
 m 14 50] [2, 3, 4, 5, 6, 7, 8, 9, 10, 12, 14] (.seq (s [m 51 2,
 u 52 (.len false (.t 51)),
 b 53 .neq (.t 52) (c 8),
 m 54 53,
 mg 55 8 54 false,
 g 56 54 false (.bin .lss (.t 55) (c 0)),
 pk 57 (.t 54) y (.t 56),
 m 58 57,
 mg 59 8 58 false,
 g 60 58 false (.bin .geq (.t 59) (c 8)),
 pk 61 (.t 58) y (.t 60)] [2, 3, 4, 5, 6, 7, 8, 9, 10, 12, 14, 61] (.cond (.t 61) (s [k 0 (.bool false)] [0]
 .ret)
 .skip [2, 3, 4, 5, 6, 7, 8, 9, 10, 12, 14]))
 (s [m 62 3,
 cl 63 9 [(.t 62)],
 b 64 .eql (.t 63) (c 0),
 m 65 64,
 mg 66 5 65 true,
 g 67 65 true (.call (.c (.fn 9 [] [])) [(.t 66)]),
 g 68 65 true (.bin .eql (.t 67) (c 0)),
 pk 69 (.t 65) (.t 68) f,
 m 70 69,
 mg 71 4 70 true,
 g 72 70 true (.jF 1 8 [i 0] (c 8) (c 8)),
 g 73 70 true (.call (.c (.fn 106 [] [])) [(.t 71), (.t 72)]),
 pk 74 (.t 70) (.t 73) f,
 m 75 74,
 mg 76 2 75 true,
 mg 77 8 75 true,
 g 78 75 true (.pK 1 (.t 76) (.t 77)),
 g 79 75 true (.load false 1 (.t 78)),
 g 80 75 true (.bin .neq (.t 79) (c 0)),
 pk 81 (.t 75) (.t 80) f,
 m 82 81,
 mg 83 6 82 true,
 g 84 82 true (.bin .neq (.t 83) (c 0)),
 pk 85 (.t 82) (.t 84) f,
 m 86 85,
 mg 87 7 86 true,
 g 88 86 true (.call (.c (.fn 9 [] [])) [(.t 87)]),
 g 89 86 true (.bin .eql (.t 88) (c 0)),
 pk 90 (.t 86) (.t 89) f,
 m 91 90,
 mg 92 9 91 true,
 g 93 91 true (.dg 1 4 [i 0] [(0, (c 1)), (1, (c 0)), (2, (c 0)), (3, (c 0))]),
 g 94 91 true (.build [.str ⟨#[]⟩, .aQ] [(0, 1, (.c (.str ⟨#[97]⟩))), (1, 1, (.t 93))]),
 g 95 91 true (.dg 2 1 [.str ⟨#[]⟩, .aQ] [(0, (.t 94))]),
 g 96 91 true (.call (.c (.fn 182 [] [])) [(.t 92), (.t 95)]),
 pk 97 (.t 91) (.t 96) f,
 m 98 97,
 mg 99 10 98 true,
 g 100 98 true (.call (.c (.fn 9 [] [])) [(.t 99)]),
 g 101 98 true (.bin .eql (.t 100) (c 0)),
 pk 102 (.t 98) (.t 101) f,
 m 103 102,
 mg 104 12 103 true,
 g 105 103 true (.call (.c (.fn 9 [] [])) [(.t 104)]),
 g 106 103 true (.bin .eql (.t 105) (c 1600)),
 pk 107 (.t 103) (.t 106) f,
 m 108 107,
 mg 109 14 108 true,
 g 110 108 true (.call (.c (.fn 9 [] [])) [(.t 109)]),
 g 111 108 true (.bin .eql (.t 110) (c 1600)),
 pk 112 (.t 108) (.t 111) f,
 m 0 112] [0]
 .ret)))))))))))
def f177L0 : aH :=
 (s [b 44 .lss (.t 43) (c 8)] [10, 42, 43, 44] (.seq (.cond (.t 44) .skip (.exit 2) [10, 42, 43]) (.seq (.block 3 (s [u 45 (.pN false 8 1 (.t 42) (.t 43)),
 m 12 45] [10, 12, 42, 43]
 (s [m 47 12,
 cl 48 93 [(.t 47)],
 m 46 48,
 ex 49 46 0,
 ex 50 46 1,
 m 13 49,
 m 14 50] [10, 13, 42, 43]
 (.qx [m 51 10,
 m 52 13,
 u 53 (.dg 1 1 [i 0] [(0, (.t 52))]),
 u 54 (.app 1 8 (.t 51) (.t 53)),
 m 10 54] [10, 42, 43]))) [10, 42, 43])
 (.qx [b 55 .add (.t 43) (c 1),
 m 43 55] [10, 42, 43]))))
def f177L1 : aH :=
 (s [b 22 .lss (.t 21) (.t 20)] [4, 19, 20, 21, 22] (.seq (.cond (.t 22) .skip (.exit 0) [4, 19, 20, 21]) (.seq (.block 1 (s [u 23 (.pK 9 (.t 19) (.t 21)),
 u 24 (.load true 9 (.t 23)),
 u 6 (.alloc [.str ⟨#[]⟩, .bool false, .aQ, i 0, i 0, i 0, .str ⟨#[]⟩, i 0, i 0]),
 ⟨none, .store 9 (.t 6) (.t 24), none⟩] [4, 6, 19, 20, 21]
 (s [u 26 (.load true 9 (.t 6)),
 cl 27 91 [(.t 26)],
 m 25 27,
 ex 28 25 0,
 ex 29 25 1,
 m 7 28,
 m 8 29] [4, 6, 7, 19, 20, 21]
 (s [fa 30 0 6,
 ld 31 1 30,
 cl 32 179 [(.t 31)],
 m 9 32] [4, 7, 9, 19, 20, 21]
 (.qx [m 33 9,
 m 34 9,
 u 35 (.mr 8 1 (.t 4) (.t 34)),
 ld 36 1 35,
 m 37 7,
 u 38 (.dg 1 1 [i 0] [(0, (.t 37))]),
 u 39 (.app 1 8 (.t 36) (.t 38)),
 u 40 (.mr 8 1 (.t 4) (.t 33)),
 ⟨none, .store 1 (.t 40) (.t 39), none⟩] [4, 19, 20, 21])))) [4, 19, 20, 21])
 (.qx [b 41 .add (.t 21) (c 1),
 m 21 41] [4, 19, 20, 21]))))
def f177 : fR := a 1 [.tmp 2, .tmp 3] false
 (s [u 1 (.box 1 (.t 0)),
 k 2 (.aQ),
 k 3 (i 0)] [1] (.seq (s [u 15 (.load true 1 (.t 1)),
 cl 16 183 [(.t 15)],
 u 17 (.not (.t 16))] [1, 17] (.cond (.t 17) (s [k 2 (.aQ),
 k 3 (i 1600)] [2, 3]
 .ret)
 .skip [1]))
 (s [u 4 (.alloc [.aQ, .aQ, .aQ, .aQ, .aQ, .aQ, .aQ, .aQ])] [1, 4] (.seq (s [fa 18 0 1,
 ld 19 1 18,
 u 20 (.len false (.t 19)),
 k 21 (i 0)] [4, 19, 20, 21] (.block 0 (.loop [4, 19, 20, 21] f177L1) [4]))
 (s [k 10 (.aQ)] [4, 10] (.seq (s [u 42 (.load true 8 (.t 4)),
 k 43 (i 0)] [10, 42, 43] (.block 2 (.loop [10, 42, 43] f177L0) [10]))
 (s [m 56 10,
 m 2 56,
 k 3 (i 0)] [2, 3]
 .ret)))))))
def f178L0 : aH :=
 (s [b 21 .lss (.t 20) (.t 19)] [1, 6, 18, 19, 20, 21] (.seq (.cond (.t 21) .skip (.exit 0) [1, 6, 18, 19, 20]) (.seq (.block 1 (s [u 22 (.pK 9 (.t 18) (.t 20)),
 u 23 (.load true 9 (.t 22)),
 u 8 (.alloc [.str ⟨#[]⟩, .bool false, .aQ, i 0, i 0, i 0, .str ⟨#[]⟩, i 0, i 0]),
 ⟨none, .store 9 (.t 8) (.t 23), none⟩] [1, 6, 8, 18, 19, 20]
 (s [m 24 1,
 fa 25 0 8,
 ld 26 1 25,
 cl 27 179 [(.t 26)],
 cl 28 185 [(.t 24), (.t 27)]] [1, 6, 8, 18, 19, 20, 28] (.cond (.t 28) (.jD [0, 1, 2, 3, 4, 5, 6, 7, 8, 9] [m 29 6,
 fa 30 0 8,
 ld 31 1 30,
 fa 32 2 8,
 ld 33 1 32,
 cl 34 118 [(.t 33)],
 u 35 (.build [.str ⟨#[]⟩, .aQ] [(0, 1, (.t 31)), (1, 1, (.t 34))]),
 u 36 (.dg 2 1 [.str ⟨#[]⟩, .aQ] [(0, (.t 35))]),
 u 37 (.app 2 40 (.t 29) (.t 36)),
 m 6 37] [(2, [1])] [1, 6, 18, 19, 20])
 .skip [1, 6, 18, 19, 20]))) [1, 6, 18, 19, 20])
 (.qx [b 38 .add (.t 20) (c 1),
 m 20 38] [1, 6, 18, 19, 20]))))
def f178 : fR := a 2 [.tmp 4, .tmp 5] false
 (s [u 2 (.box 1 (.t 0)),
 k 4 (.aQ),
 k 5 (i 0)] [1, 2] (.seq (s [u 9 (.load true 1 (.t 2)),
 cl 10 183 [(.t 9)],
 u 11 (.not (.t 10)),
 m 12 11,
 mg 13 1 12 false,
 g 14 12 false (.call (.c (.fn 184 [] [])) [(.t 13)]),
 g 15 12 false (.not (.t 14)),
 pk 16 (.t 12) y (.t 15)] [1, 2, 16] (.cond (.t 16) (s [k 4 (.aQ),
 k 5 (i 1600)] [4, 5]
 .ret)
 .skip [1, 2]))
 (s [k 6 (.aQ)] [1, 2, 6] (.seq (s [fa 17 0 2,
 ld 18 1 17,
 u 19 (.len false (.t 18)),
 k 20 (i 0)] [1, 6, 18, 19, 20] (.block 0 (.loop [1, 6, 18, 19, 20] f178L0) [6]))
 (s [m 39 6,
 m 4 39,
 k 5 (i 0)] [4, 5]
 .ret)))))
def f179 : fR := a 1 [.tmp 2] true
 (s [k 2 (i 0)] [0]
 (s [m 3 0,
 cl 4 115 [(.t 3)],
 b 5 .rem (.t 4) (c 8),
 m 2 5] [2]
 .ret))
def f180 : fR := a 4 [.cell 8 true 9] true
 (s [u 8 (.alloc [.str ⟨#[]⟩, .bool false, .aQ, i 0, i 0, i 0, .str ⟨#[]⟩, i 0, i 0])] [0, 1, 2, 3, 8]
 (s [u 10 (.jF 1 8 [i 0] (c 4) (c 4)),
 m 9 10] [0, 1, 2, 3, 8, 9]
 (s [m 11 9,
 m 12 1,
 m 13 2,
 u 14 (.pK 1 (.t 11) (.t 12)),
 ⟨none, .store 1 (.t 14) (.t 13), none⟩] [0, 1, 2, 3, 8, 9]
 (s [m 15 0,
 m 16 9,
 m 17 2,
 m 18 1,
 m 19 3,
 m 20 3,
 u 21 (.len true (.t 20)),
 m 22 3,
 cl 23 101 [(.t 22)],
 u 24 (.build [.str ⟨#[]⟩, .bool false, .aQ, i 0, i 0, i 0, .str ⟨#[]⟩, i 0, i 0] [(0, 1, (.t 15)), (2, 1, (.t 16)), (3, 1, (.t 17)), (4, 1, (.t 18)), (6, 1, (.t 19)), (7, 1, (.t 21)), (8, 1, (.t 23))]),
 ⟨none, .store 9 (.t 8) (.t 24), none⟩] [8]
 .ret))))
def f181 : fR := a 1 [.tmp 2, .tmp 3] true
 (s [k 2 (i 0),
 k 3 (i 0)] [0]
 (s [m 7 0,
 cl 8 93 [(.t 7)],
 m 6 8,
 ex 9 6 0,
 ex 10 6 1,
 m 4 9,
 m 5 10] [0, 4, 5] (.seq (s [m 11 5,
 b 12 .neq (.t 11) (c 0),
 m 13 12,
 mg 14 0 13 false,
 g 15 13 false (.len false (.t 14)),
 g 16 13 false (.bin .neq (.t 15) (c 8)),
 pk 17 (.t 13) y (.t 16)] [4, 17] (.cond (.t 17) (s [k 2 (i 0),
 k 3 (i 1600)] [2, 3]
 .ret)
 .skip [4]))
 (s [m 18 4,
 m 2 18,
 k 3 (i 0)] [2, 3]
 .ret))))
def f182L0 : aH := (.seq (s [m 11 5,
 m 12 0,
 u 13 (.len false (.t 12)),
 b 14 .lss (.t 11) (.t 13)] [0, 1, 5, 14] (.cond (.t 14) .skip (.exit 0) [0, 1, 5])) (.seq (.block 1 (.seq (.jD [0, 1, 2, 3, 4, 5, 6, 7, 8, 9, 10, 11, 12, 13, 14, 15, 16, 17, 18, 19, 20, 21, 22, 23, 24] [m 17 0,
 m 18 5,
 u 19 (.pK 2 (.t 17) (.t 18)),
 fa 20 0 19,
 ld 21 1 20,
 m 22 1,
 m 23 5,
 u 24 (.pK 2 (.t 22) (.t 23)),
 fa 25 0 24,
 ld 26 1 25,
 b 27 .neq (.t 21) (.t 26),
 m 28 27,
 mg 29 0 28 false,
 mg 30 5 28 false,
 g 31 28 false (.pK 2 (.t 29) (.t 30)),
 g 32 28 false (.pJ 1 (.t 31)),
 g 33 28 false (.load false 1 (.t 32)),
 mg 34 1 28 false,
 mg 35 5 28 false,
 g 36 28 false (.pK 2 (.t 34) (.t 35)),
 g 37 28 false (.pJ 1 (.t 36)),
 g 38 28 false (.load false 1 (.t 37)),
 g 39 28 false (.call (.c (.fn 106 [] [])) [(.t 33), (.t 38)]),
 g 40 28 false (.not (.t 39)),
 pk 41 (.t 28) y (.t 40)] [] [0, 1, 5, 41]) (.cond (.t 41) (s [k 4 (.bool false)] [4]
 .ret)
 .skip [0, 1, 5])) [0, 1, 5])
 (.qx [m 15 5,
 b 16 .add (.t 15) (c 1),
 m 5 16] [0, 1, 5])))
def f182 : fR := a 2 [.tmp 4] true
 (s [k 4 (.bool false)] [0, 1] (.seq (s [m 6 0,
 u 7 (.len false (.t 6)),
 m 8 1,
 u 9 (.len false (.t 8)),
 b 10 .neq (.t 7) (.t 9)] [0, 1, 10] (.cond (.t 10) (s [k 4 (.bool false)] [4]
 .ret)
 .skip [0, 1])) (.seq (s [k 5 (i 0)] [0, 1, 5] (.block 0 (.loop [0, 1, 5] f182L0) []))
 (s [k 4 (.bool true)] [4]
 .ret))))
def f183 : fR := a 1 [.tmp 2] true
 (s [u 1 (.box 1 (.t 0)),
 k 2 (.bool false)] [1]
 (s [u 3 (.load true 1 (.t 1)),
 cl 4 186 [(.t 3)],
 m 5 4,
 g 6 5 true (.pJ 0 (.t 1)),
 g 7 5 true (.load false 1 (.t 6)),
 g 8 5 true (.call (.c (.fn 187 [] [])) [(.t 7), (.c (.fn 188 [] []))]),
 g 9 5 true (.not (.t 8)),
 pk 10 (.t 5) (.t 9) f,
 m 2 10] [2]
 .ret))
def f184L0 : aH :=
 (s [b 8 .lss (.t 7) (.t 6)] [0, 5, 6, 7, 8] (.seq (.cond (.t 8) .skip (.exit 0) [0, 5, 6, 7]) (.seq (.block 1 (s [m 9 7,
 u 10 (.pK 1 (.t 5) (.t 7)),
 ld 11 1 10,
 m 3 9,
 m 4 11] [0, 3, 4, 5, 6, 7]
 (s [m 12 4,
 b 13 .lss (.t 12) (c 0),
 m 14 13,
 mg 15 4 14 false,
 g 16 14 false (.bin .geq (.t 15) (c 8)),
 pk 17 (.t 14) y (.t 16),
 m 18 17,
 mg 19 3 18 false,
 g 20 18 false (.bin .gtr (.t 19) (c 0)),
 mg 21 20 18 false,
 mg 22 0 21 true,
 mg 23 3 21 true,
 g 24 21 true (.bin .sub (.t 23) (c 1)),
 g 25 21 true (.pK 1 (.t 22) (.t 24)),
 g 26 21 true (.load false 1 (.t 25)),
 mg 27 4 21 true,
 g 28 21 true (.bin .geq (.t 26) (.t 27)),
 g 29 18 false (.pick (.t 21) (.t 28) f),
 pk 30 (.t 18) y (.t 29)] [0, 5, 6, 7, 30] (.cond (.t 30) (s [k 2 (.bool false)] [2]
 .ret)
 .skip [0, 5, 6, 7]))) [0, 5, 6, 7])
 (.qx [b 31 .add (.t 7) (c 1),
 m 7 31] [0, 5, 6, 7]))))
def f184 : fR := a 1 [.tmp 2] true
 (s [k 2 (.bool false)] [0] (.seq (s [m 5 0,
 u 6 (.len false (.t 5)),
 k 7 (i 0)] [0, 5, 6, 7] (.block 0 (.loop [0, 5, 6, 7] f184L0) []))
 (s [k 2 (.bool true)] [2]
 .ret)))
def f185 : fR := a 2 [.tmp 4] true
 (s [k 4 (.bool false)] [0, 1]
 (s [m 5 0,
 m 6 1,
 cl 7 189 [(.t 5), (.t 6)],
 b 8 .geq (.t 7) (c 0),
 m 4 8] [4]
 .ret))
def f186 : fR := a 1 [.tmp 2] true
 (s [u 1 (.box 1 (.t 0)),
 k 2 (.bool false)] [1]
 (s [u 4 (.load true 1 (.t 1)),
 cl 5 190 [(.t 4)],
 m 3 5] [3]
 (s [m 6 3,
 b 7 .gtr (.t 6) (c 0),
 m 8 7,
 mg 9 3 8 true,
 g 10 8 true (.bin .leq (.t 9) (c 4096)),
 pk 11 (.t 8) (.t 10) f,
 m 2 11] [2]
 .ret)))
def f187 : fR := a 2 [.tmp 4] true
 (s [k 4 (.bool false)] [0, 1]
 (s [m 5 0,
 m 6 1,
 cl 7 191 [(.t 5), (.t 6)],
 b 8 .geq (.t 7) (c 0),
 m 4 8] [4]
 .ret))
def f188 : fR := a 1 [.tmp 2] true
 (s [u 1 (.box 9 (.t 0)),
 k 2 (.bool false)] [1]
 (s [u 3 (.load true 9 (.t 1)),
 cl 4 96 [(.t 3)],
 u 5 (.not (.t 4)),
 m 2 5] [2]
 .ret))
def f189L0 : aH :=
 (s [b 9 .lss (.t 8) (.t 7)] [0, 1, 7, 8, 9] (.seq (.cond (.t 9) .skip (.exit 0) [0, 1, 7, 8]) (.seq (.block 1 (s [m 10 8,
 m 5 10] [0, 1, 5, 7, 8]
 (s [m 11 1,
 m 12 0,
 m 13 5,
 u 14 (.pK 1 (.t 12) (.t 13)),
 ld 15 1 14,
 b 16 .eql (.t 11) (.t 15)] [0, 1, 5, 7, 8, 16] (.cond (.t 16) (s [m 17 5,
 m 4 17] [4]
 .ret)
 .skip [0, 1, 7, 8]))) [0, 1, 7, 8])
 (.qx [b 18 .add (.t 8) (c 1),
 m 8 18] [0, 1, 7, 8]))))
def f189 : fR := a 2 [.tmp 4] true
 (s [k 4 (i 0)] [0, 1] (.seq (s [m 6 0,
 u 7 (.len false (.t 6)),
 k 8 (i 0)] [0, 1, 7, 8] (.block 0 (.loop [0, 1, 7, 8] f189L0) []))
 (s [k 4 (i (-1))] [4]
 .ret)))
def f190 : fR := a 1 [.tmp 2] true
 (s [u 1 (.box 1 (.t 0)),
 k 2 (i 0)] [1] (.seq (s [u 3 (.load true 1 (.t 1)),
 cl 4 113 [(.t 3)],
 u 5 (.not (.t 4))] [1, 5] (.cond (.t 5) (s [k 2 (i 0)] [2]
 .ret)
 .skip [1]))
 (s [cl 6 192 [(.t 1)],
 m 2 6] [2]
 .ret)))
def f191L0 : aH :=
 (s [b 9 .lss (.t 8) (.t 7)] [0, 1, 7, 8, 9] (.seq (.cond (.t 9) .skip (.exit 0) [0, 1, 7, 8]) (.seq (.block 1 (s [m 10 8,
 m 5 10] [0, 1, 5, 7, 8]
 (s [m 11 1,
 m 12 0,
 m 13 5,
 u 14 (.pK 9 (.t 12) (.t 13)),
 u 15 (.load true 9 (.t 14)),
 u 16 (.call (.t 11) [(.t 15)])] [0, 1, 5, 7, 8, 16] (.cond (.t 16) (s [m 17 5,
 m 4 17] [4]
 .ret)
 .skip [0, 1, 7, 8]))) [0, 1, 7, 8])
 (.qx [b 18 .add (.t 8) (c 1),
 m 8 18] [0, 1, 7, 8]))))
def f191 : fR := a 2 [.tmp 4] true
 (s [k 4 (i 0)] [0, 1] (.seq (s [m 6 0,
 u 7 (.len false (.t 6)),
 k 8 (i 0)] [0, 1, 7, 8] (.block 0 (.loop [0, 1, 7, 8] f191L0) []))
 (s [k 4 (i (-1))] [4]
 .ret)))
def f192L0 : aH :=
 (s [b 12 .lss (.t 11) (.t 10)] [0, 3, 10, 11, 12] (.seq (.cond (.t 12) .skip (.exit 0) [0, 3, 10, 11]) (.seq (.block 1 (s [m 13 11,
 m 4 13] [0, 3, 4, 10, 11]
 (s [m 14 0,
 nc 15 14,
 fa 16 0 15,
 ld 17 1 16,
 m 18 4,
 u 19 (.pK 9 (.t 17) (.t 18)),
 m 5 19] [0, 3, 5, 10, 11]
 (.jD [0, 1, 2, 3, 4, 5, 6, 7, 8, 9, 10, 11, 12, 13, 14, 15, 16] [m 20 3,
 m 21 5,
 nc 22 21,
 fa 23 0 22,
 ld 24 1 23,
 u 25 (.len true (.t 24)),
 b 26 .add (.t 25) (c 26),
 b 27 .mul (c 2) (.t 26),
 b 28 .add (c 76) (.t 27),
 m 29 5,
 nc 30 29,
 fa 31 6 30,
 ld 32 1 31,
 u 33 (.len true (.t 32)),
 b 34 .add (.t 28) (.t 33),
 b 35 .add (.t 20) (.t 34),
 m 3 35] [] [0, 3, 10, 11]))) [0, 3, 10, 11])
 (.qx [b 36 .add (.t 11) (c 1),
 m 11 36] [0, 3, 10, 11]))))
def f192 : fR := a 1 [.tmp 2] false
 (s [k 2 (i 0)] [0]
 (s [k 3 (i 22)] [0, 3] (.seq (s [m 6 0,
 nc 7 6,
 fa 8 0 7,
 ld 9 1 8,
 u 10 (.len false (.t 9)),
 k 11 (i 0)] [0, 3, 10, 11] (.block 0 (.loop [0, 3, 10, 11] f192L0) [3]))
 (s [m 37 3,
 m 2 37] [2]
 .ret))))
def f99 : fR := a 4 [.cell 8 true 9] true
 (s [u 8 (.alloc [.str ⟨#[]⟩, .bool false, .aQ, i 0, i 0, i 0, .str ⟨#[]⟩, i 0, i 0])] [0, 1, 2, 3, 8]
 (s [u 10 (.jF 1 8 [i 0] (c 4) (c 4)),
 m 9 10] [0, 1, 2, 3, 8, 9]
 (s [m 11 9,
 m 12 1,
 m 13 2,
 u 14 (.pK 1 (.t 11) (.t 12)),
 ⟨none, .store 1 (.t 14) (.t 13), none⟩] [0, 1, 2, 3, 8, 9]
 (s [m 15 0,
 m 16 9,
 m 17 2,
 m 18 1,
 m 19 3,
 m 20 3,
 u 21 (.len true (.t 20)),
 m 22 3,
 cl 23 101 [(.t 22)],
 u 24 (.build [.str ⟨#[]⟩, .bool false, .aQ, i 0, i 0, i 0, .str ⟨#[]⟩, i 0, i 0] [(0, 1, (.t 15)), (2, 1, (.t 16)), (3, 1, (.t 17)), (4, 1, (.t 18)), (6, 1, (.t 19)), (7, 1, (.t 21)), (8, 1, (.t 23))]),
 ⟨none, .store 9 (.t 8) (.t 24), none⟩] [8]
 .ret))))
def o7 : List (Nat × fR) := [(99, f99), (7, f7), (9, f9), (14, f14), (15, f15), (16, f16), (17, f17), (38, f38), (39, f39), (40, f40), (41, f41), (42, f42), (43, f43), (44, f44), (45, f45), (58, f58), (59, f59), (60, f60), (61, f61), (62, f62), (63, f63), (64, f64), (65, f65), (66, f66), (72, f72), (73, f73), (74, f74), (75, f75), (76, f76), (77, f77), (78, f78), (79, f79), (80, f80), (81, f81), (82, f82), (83, f83), (84, f84), (91, f91), (93, f93), (96, f96), (101, f101), (102, f102), (103, f103), (104, f104), (105, f105), (106, f106), (107, f107), (111, f111), (112, f112), (113, f113), (114, f114), (115, f115), (117, f117), (118, f118), (119, f119), (120, f120), (121, f121), (122, f122), (123, f123), (124, f124), (125, f125), (126, f126), (127, f127), (128, f128), (129, f129), (130, f130), (131, f131), (132, f132), (133, f133), (134, f134), (135, f135), (138, f138), (139, f139), (140, f140), (141, f141), (175, f175), (176, f176), (177, f177), (178, f178), (179, f179), (180, f180), (181, f181), (182, f182), (183, f183), (184, f184), (185, f185), (186, f186), (187, f187), (188, f188), (189, f189), (190, f190), (191, f191), (192, f192)]
def find : List (Nat × fR) → Nat → Option fR
 | [], _ => none
 | (i, f) :: r, k => if i = k then some f else find r k
def A : bh := find o7
end Ab.AP
