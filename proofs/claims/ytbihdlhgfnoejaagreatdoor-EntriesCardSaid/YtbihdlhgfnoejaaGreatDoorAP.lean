/- Part AP. -/
import Derived.Test.YtbihdlhgfnoejaaGreatDoorA2
namespace Ab.AP
open Go Ab
abbrev m (d s:Nat):ak:=⟨some d,.mv (.t s),none⟩
abbrev k (d:Nat) (v:AV):ak:=⟨some d,.mv (.c v),none⟩
abbrev mg (d s g:Nat) (w:Bool):ak:=⟨some d,.mv (.t s),some (g,w)⟩
abbrev u (d:Nat) (o:cy):ak:=⟨some d,o,none⟩
abbrev g (d k:Nat) (w:Bool) (o:cy):ak:=⟨some d,o,some (k,w)⟩
abbrev ld (d n s:Nat):ak:=⟨some d,.load false n (.t s),none⟩
abbrev fa (d n s:Nat):ak:=⟨some d,.qk n (.t s),none⟩
abbrev nc (d s:Nat):ak:=⟨some d,.qy (.t s),none⟩
abbrev ex (d s i:Nat):ak:=⟨some d,.qh (.t s) i,none⟩
abbrev b (d:Nat) (o:Bo) (x y:X):ak:=⟨some d,.bin o x y,none⟩
abbrev pk (d:Nat) (x y z:X):ak:=⟨some d,.pick x y z,none⟩
abbrev cl (d f:Nat) (x:List X):ak:=⟨some d,.call (.c (.fn f [] [])) x,none⟩
abbrev i (n:Int):AV:=.int .i64 n
abbrev c (n:Int):X:=.c (.int .i64 n)
abbrev f:X:=.c (.bool false)
abbrev y:X:=.c (.bool true)
abbrev s (a:List ak) (k:List Nat) (r:aK):aK:=.seq (.qZ a k) r
abbrev a (n:Nat) (r:List RV) (p:Bool) (c:aK):gI:=⟨n,r,p,c⟩
def f7L0:aK:=(.seq (s [m 20 8,
 u 21 (.not (.t 20)),
 m 22 21,
 mg 23 7 22 true,
 g 24 22 true (.qy (.t 23)),
 g 25 22 true (.qk 3 (.t 24)),
 g 26 22 true (.load false 1 (.t 25)),
 g 27 22 true (.bin .eql (.t 26) (c 0)),
 pk 28 (.t 22) (.t 27) f] [7,28] (.cond (.t 28) .skip (.exit 0) [7])) (.block 1 (.qZ [m 29 7,
 cl 30 15 [(.t 29)],
 m 8 30] [7,8]) [7,8]))
def f7:gI:=a 2 [.tmp 4,.tmp 5,.tmp 6] true
 (s [k 4 (.str ⟨#[]⟩),
 k 5 (i 0),
 k 6 (i 0)] [0,1] (.seq (s [m 9 1,
 b 10 .lss (.t 9) (c 0),
 m 11 10,
 mg 12 1 11 false,
 g 13 11 false (.bin .gtr (.t 12) (c 8192)),
 pk 14 (.t 11) y (.t 13)] [0,1,14] (.cond (.t 14) (s [k 4 (.str ⟨#[]⟩),
 k 5 (i 0),
 k 6 (i 700)] [4,5,6]
 .ret)
 .skip [0,1]))
 (s [m 15 0,
 cl 16 14 [(.t 15)],
 m 17 1,
 u 18 (.build [.c9,.aT,i 0,i 0] [(0,1,(.t 16)),(2,1,(.t 17))]),
 u 19 (.box 4 (.t 18)),
 m 7 19] [7] (.seq (s [k 8 (.bool false)] [7,8] (.block 0 (.loop [7,8] f7L0) [7])) (.seq (s [m 31 7,
 nc 32 31,
 fa 33 3 32,
 ld 34 1 33,
 b 35 .neq (.t 34) (c 0)] [7,35] (.cond (.t 35) (.seq (.jS [0,1,2,3,4,5,6] [m 36 7,
 nc 37 36,
 fa 38 3 37,
 ld 39 1 38,
 k 4 (.str ⟨#[]⟩),
 k 5 (i 0),
 m 6 39] [] [4,5,6])
 .ret)
 .skip [7]))
 (s [m 40 7,
 nc 41 40,
 fa 42 0 41,
 ld 43 1 42,
 cl 44 16 [(.t 43)]] [7] (.seq (.jS [0,1,2,3,4,5,6,7,8,9,10,11,12,13] [m 45 7,
 nc 46 45,
 fa 47 1 46,
 ld 48 1 47,
 u 49 (.mZ (.t 48)),
 m 50 7,
 nc 51 50,
 fa 52 0 51,
 ld 53 1 52,
 cl 54 17 [(.t 53)],
 b 55 .quo (.t 54) (c 8),
 m 4 49,
 m 5 55,
 k 6 (i 0)] [(3,[1]),(4,[1])] [4,5,6])
 .ret)))))))
def f8L0:aK:=(.seq (s [m 21 8,
 b 22 .eql (.t 21) (c 0),
 m 23 22,
 mg 24 7 23 true,
 g 25 23 true (.qy (.t 24)),
 g 26 23 true (.qk 4 (.t 25)),
 g 27 23 true (.load false 1 (.t 26)),
 g 28 23 true (.bin .eql (.t 27) (c 0)),
 pk 29 (.t 23) (.t 28) f] [7,29] (.cond (.t 29) .skip (.exit 0) [7])) (.block 1 (s [m 30 7,
 cl 31 18 [(.t 30),(c 1)],
 m 8 31] [7,8]
 (s [m 32 7,
 cl 33 18 [(.t 32),(c 2)],
 m 9 33] [7,8,9] (.seq (s [m 34 7,
 nc 35 34,
 fa 36 4 35,
 ld 37 1 36,
 b 38 .neq (.t 37) (c 0)] [7,8,9,38] (.cond (.t 38) (.exit 0)
 .skip [7,8,9]))
 (s [m 39 9] [7,8,39] (.block 2 (s [b 43 .eql (.t 39) (c 0),
 m 42 43] [7,8,39,42] (.cond (.t 42) (.qZ [m 44 7,
 cl 45 19 [(.t 44)]] [7,8])
 (s [b 47 .eql (.t 39) (c 1),
 m 46 47] [7,8,39,46] (.cond (.t 46) (.qZ [m 48 7,
 cl 49 22 [],
 cl 50 21 [(.t 49)],
 cl 51 23 [],
 cl 52 21 [(.t 51)],
 cl 53 20 [(.t 48),(.t 50),(.t 52)]] [7,8])
 (s [b 55 .eql (.t 39) (c 2),
 m 54 55] [7,8,54] (.cond (.t 54) (.qZ [m 56 7,
 cl 57 24 [(.t 56)]] [7,8])
 (.qZ [m 40 7,
 cl 41 25 [(.t 40)]] [7,8]) [7,8])) [7,8])) [7,8])) [7,8]))))) [7,8]))
def f8:gI:=a 2 [.tmp 4,.tmp 5,.tmp 6] true
 (s [k 4 (.str ⟨#[]⟩),
 k 5 (i 0),
 k 6 (i 0)] [0,1] (.seq (s [m 10 1,
 b 11 .lss (.t 10) (c 0),
 m 12 11,
 mg 13 1 12 false,
 g 14 12 false (.bin .gtr (.t 13) (c 8192)),
 pk 15 (.t 12) y (.t 14)] [0,1,15] (.cond (.t 15) (s [k 4 (.str ⟨#[]⟩),
 k 5 (i 0),
 k 6 (i 700)] [4,5,6]
 .ret)
 .skip [0,1]))
 (s [m 16 0,
 u 17 (.build [.str ⟨#[]⟩,i 0] [(0,1,(.t 16))]),
 m 18 1,
 u 19 (.build [.str ⟨#[]⟩,i 0,.aT,i 0,i 0] [(0,2,(.t 17)),(3,1,(.t 18))]),
 u 20 (.box 5 (.t 19)),
 m 7 20] [7] (.seq (s [k 8 (i 0)] [7,8] (.block 0 (.loop [7,8] f8L0) [7])) (.seq (s [m 58 7,
 nc 59 58,
 fa 60 4 59,
 ld 61 1 60,
 b 62 .neq (.t 61) (c 0)] [7,62] (.cond (.t 62) (.seq (.jS [0,1,2,3,4,5,6] [m 63 7,
 nc 64 63,
 fa 65 4 64,
 ld 66 1 65,
 k 4 (.str ⟨#[]⟩),
 k 5 (i 0),
 m 6 66] [] [4,5,6])
 .ret)
 .skip [7])) (.seq (.jS [0,1,2,3,4,5,6,7,8,9,10,11,12,13,14] [m 67 7,
 nc 68 67,
 fa 69 2 68,
 ld 70 1 69,
 u 71 (.mZ (.t 70)),
 m 72 7,
 nc 73 72,
 fa 74 0 73,
 fa 75 1 74,
 ld 76 1 75,
 b 77 .add (.t 76) (c 7),
 b 78 .quo (.t 77) (c 8),
 m 4 71,
 m 5 78,
 k 6 (i 0)] [] [4,5,6])
 .ret))))))
def f9:gI:=a 1 [.tmp 2] true
 (s [k 2 (i 0)] [0]
 (s [m 3 0,
 m 2 3] [2]
 .ret))
def f14:gI:=a 1 [.tmp 2] false
 (s [k 2 (.c9)] [0]
 (s [m 3 0,
 u 4 (.build [.str ⟨#[]⟩,i 0] [(0,1,(.t 3))]),
 u 5 (.box 2 (.t 4)),
 m 2 5] [2]
 .ret))
def f15:gI:=a 1 [.tmp 2] false
 (s [k 2 (.bool false)] [0]
 (s [m 4 0,
 cl 5 38 [(.t 4),(c 1)],
 b 6 .eql (.t 5) (c 1),
 m 3 6] [0,3] (.seq (s [m 7 0,
 cl 8 38 [(.t 7),(c 2)]] [0,3,8] (.block 0 (s [b 12 .eql (.t 8) (c 0),
 m 11 12] [0,3,8,11] (.cond (.t 11) (s [m 13 0,
 nc 14 13,
 fa 15 3 14,
 ld 16 1 15,
 b 17 .eql (.t 16) (c 0)] [0,3,17] (.cond (.t 17) (.qZ [m 18 0,
 cl 19 39 [(.t 18)]] [3])
 .skip [3]))
 (s [b 21 .eql (.t 8) (c 1),
 m 20 21] [0,3,8,20] (.cond (.t 20) (.qZ [m 22 0,
 cl 23 42 [],
 cl 24 41 [(.t 23)],
 u 25 (.dw 1 1 [i 0] [(0,(c 5))]),
 cl 26 43 [(.t 25),(c 30)],
 cl 27 41 [(.t 26)],
 cl 28 40 [(.t 22),(.t 24),(.t 27)]] [3])
 (s [b 30 .eql (.t 8) (c 2),
 m 29 30] [0,3,29] (.cond (.t 29) (.qZ [m 31 0,
 cl 32 44 [(.t 31)]] [3])
 (.qZ [m 9 0,
 cl 10 45 [(.t 9),(c 700)]] [3]) [3])) [3])) [3])) [3]))
 (s [m 33 3,
 m 2 33] [2]
 .ret))))
def f16:gI:=a 1 [.tmp 2] false
 (s [k 2 (i 0)] [0] (.seq (s [m 3 0,
 u 4 (.nj 0 false (.t 3) (.c (.c9)))] [0,4] (.cond (.t 4) (s [k 2 (i 1)] [2]
 .ret)
 .skip [0]))
 (s [m 5 0,
 m 6 0,
 nc 7 6,
 fa 8 1 7,
 ld 9 1 8,
 b 10 .add (.t 9) (c 8),
 b 11 .sub (.t 10) (c 1),
 b 12 .quo (.t 11) (c 8),
 b 13 .mul (.t 12) (c 8),
 nc 14 5,
 fa 15 1 14,
 ⟨none,.store 1 (.t 15) (.t 13),none⟩] []
 (s [k 2 (i 0)] [2]
 .ret))))
def f17:gI:=a 1 [.tmp 2] false
 (s [k 2 (i 0)] [0] (.seq (s [m 3 0,
 u 4 (.nj 0 false (.t 3) (.c (.c9)))] [0,4] (.cond (.t 4) (s [k 2 (i 0)] [2]
 .ret)
 .skip [0]))
 (s [m 5 0,
 nc 6 5,
 fa 7 1 6,
 ld 8 1 7,
 m 2 8] [2]
 .ret)))
def f18:gI:=a 2 [.tmp 4] false
 (s [k 4 (i 0)] [0,1]
 (s [m 8 0,
 nc 9 8,
 fa 10 0 9,
 m 11 1,
 cl 12 46 [(.t 10),(.t 11)],
 m 7 12,
 ex 13 7 0,
 ex 14 7 1,
 m 5 13,
 m 6 14] [0,5,6] (.seq (s [m 15 6,
 b 16 .neq (.t 15) (c 0),
 m 17 16,
 mg 18 0 17 true,
 g 19 17 true (.qy (.t 18)),
 g 20 17 true (.qk 4 (.t 19)),
 g 21 17 true (.load false 1 (.t 20)),
 g 22 17 true (.bin .eql (.t 21) (c 0)),
 pk 23 (.t 17) (.t 22) f] [0,5,23] (.cond (.t 23) (.qZ [m 24 0,
 nc 25 24,
 fa 26 4 25,
 ⟨none,.store 1 (.t 26) (c 700),none⟩] [5])
 .skip [5]))
 (s [m 27 5,
 m 4 27] [4]
 .ret))))
def f19L0:aK:=(.seq (s [m 27 4,
 m 28 2,
 b 29 .lss (.t 27) (.t 28),
 m 30 29,
 mg 31 0 30 true,
 g 32 30 true (.qy (.t 31)),
 g 33 30 true (.qk 4 (.t 32)),
 g 34 30 true (.load false 1 (.t 33)),
 g 35 30 true (.bin .eql (.t 34) (c 0)),
 pk 36 (.t 30) (.t 35) f] [0,2,4,36] (.cond (.t 36) .skip (.exit 0) [0,2,4])) (.seq (.block 1 (s [m 39 0,
 cl 40 18 [(.t 39),(c 8)],
 m 5 40] [0,2,4,5]
 (s [m 41 0,
 nc 42 41,
 fa 43 4 42,
 ld 44 1 43,
 b 45 .eql (.t 44) (c 0)] [0,2,4,5,45] (.cond (.t 45) (.qZ [m 46 0,
 m 47 5,
 u 48 (.conv .u8 (.t 47)),
 cl 49 48 [(.t 46),(.t 48)]] [0,2,4])
 .skip [0,2,4]))) [0,2,4])
 (.qZ [m 37 4,
 b 38 .add (.t 37) (c 1),
 m 4 38] [0,2,4])))
def f19:gI:=a 1 [] false
 (s [m 6 0,
 nc 7 6,
 fa 8 0 7,
 cl 9 47 [(.t 8)]] [0]
 (s [m 10 0,
 cl 11 18 [(.t 10),(c 16)],
 m 12 0,
 cl 13 18 [(.t 12),(c 16)],
 m 2 11,
 m 3 13] [0,2,3] (.seq (s [m 14 0,
 nc 15 14,
 fa 16 4 15,
 ld 17 1 16,
 b 18 .eql (.t 17) (c 0),
 m 19 18,
 mg 20 2 19 true,
 mg 21 3 19 true,
 g 22 19 true (.bin .xor (.t 20) (.t 21)),
 g 23 19 true (.bin .neq (.t 22) (c 65535)),
 pk 24 (.t 19) (.t 23) f] [0,2,24] (.cond (.t 24) (.qZ [m 25 0,
 cl 26 25 [(.t 25)]] [0,2])
 .skip [0,2]))
 (s [k 4 (i 0)] [0,2,4] (.block 0 (.loop [0,2,4] f19L0) [])))))
def f20L0:aK:=(.seq (s [m 98 15,
 m 99 10,
 b 100 .lss (.t 98) (.t 99),
 m 101 100,
 mg 102 0 101 true,
 g 103 101 true (.qy (.t 102)),
 g 104 101 true (.qk 4 (.t 103)),
 g 105 101 true (.load false 1 (.t 104)),
 g 106 101 true (.bin .eql (.t 105) (c 0)),
 pk 107 (.t 101) (.t 106) f] [0,1,2,10,14,15,107] (.cond (.t 107) .skip (.exit 2) [0,1,2,10,14,15])) (.seq (.block 3 (.jS [0,1,2,3,4,5,6,7,8,9,10,11,12,13,14] [m 110 0,
 m 111 0,
 nc 112 111,
 fa 113 2 112,
 ld 114 1 113,
 m 115 0,
 nc 116 115,
 fa 117 2 116,
 ld 118 1 117,
 u 119 (.len false (.t 118)),
 m 120 14,
 b 121 .sub (.t 119) (.t 120),
 u 122 (.qm 1 (.t 114) (.t 121)),
 ld 123 1 122,
 cl 124 48 [(.t 110),(.t 123)]] [] [0,1,2,10,14,15]) [0,1,2,10,14,15])
 (.qZ [m 108 15,
 b 109 .add (.t 108) (c 1),
 m 15 109] [0,1,2,10,14,15])))
def f20L1:aK:=(.seq (s [m 16 0,
 nc 17 16,
 fa 18 4 17,
 ld 19 1 18,
 b 20 .eql (.t 19) (c 0)] [0,1,2,20] (.cond (.t 20) .skip (.exit 0) [0,1,2])) (.block 1 (s [m 21 0,
 m 22 1,
 cl 23 49 [(.t 21),(.t 22)],
 m 6 23] [0,1,2,6] (.seq (s [m 24 0,
 nc 25 24,
 fa 26 4 25,
 ld 27 1 26,
 b 28 .neq (.t 27) (c 0),
 m 29 28,
 mg 30 6 29 false,
 g 31 29 false (.bin .eql (.t 30) (c 256)),
 pk 32 (.t 29) y (.t 31)] [0,1,2,6,32] (.cond (.t 32) .ret
 .skip [0,1,2,6])) (.seq (s [m 33 6,
 b 34 .lss (.t 33) (c 256)] [0,1,2,6,34] (.cond (.t 34) (s [m 35 0,
 m 36 6,
 u 37 (.conv .u8 (.t 36)),
 cl 38 48 [(.t 35),(.t 37)]] [0,1,2] (.exit 1))
 .skip [0,1,2,6]))
 (s [m 40 6,
 cl 41 50 [(.t 40)],
 m 39 41,
 ex 42 39 0,
 ex 43 39 1,
 ex 44 39 2,
 m 7 42,
 m 8 43,
 m 9 44] [0,1,2,7,8,9] (.seq (s [m 45 9,
 b 46 .neq (.t 45) (c 0)] [0,1,2,7,8,46] (.cond (.t 46) (s [m 47 0,
 cl 48 25 [(.t 47)]] []
 .ret)
 .skip [0,1,2,7,8]))
 (s [m 49 7,
 m 50 0,
 m 51 8,
 cl 52 18 [(.t 50),(.t 51)],
 b 53 .add (.t 49) (.t 52),
 m 10 53] [0,1,2,10] (.seq (s [m 54 0,
 nc 55 54,
 fa 56 4 55,
 ld 57 1 56,
 b 58 .neq (.t 57) (c 0)] [0,1,2,10,58] (.cond (.t 58) .ret
 .skip [0,1,2,10]))
 (s [m 59 0,
 m 60 2,
 cl 61 49 [(.t 59),(.t 60)],
 m 11 61] [0,1,2,10,11] (.seq (s [m 62 0,
 nc 63 62,
 fa 64 4 63,
 ld 65 1 64,
 b 66 .neq (.t 65) (c 0)] [0,1,2,10,11,66] (.cond (.t 66) .ret
 .skip [0,1,2,10,11]))
 (s [m 68 11,
 cl 69 51 [(.t 68)],
 m 67 69,
 ex 70 67 0,
 ex 71 67 1,
 ex 72 67 2,
 m 12 70,
 m 13 71,
 m 9 72] [0,1,2,9,10,12,13] (.seq (s [m 73 9,
 b 74 .neq (.t 73) (c 0)] [0,1,2,10,12,13,74] (.cond (.t 74) (s [m 75 0,
 cl 76 25 [(.t 75)]] []
 .ret)
 .skip [0,1,2,10,12,13]))
 (s [m 77 12,
 m 78 0,
 m 79 13,
 cl 80 18 [(.t 78),(.t 79)],
 b 81 .add (.t 77) (.t 80),
 m 14 81] [0,1,2,10,14] (.seq (s [m 82 0,
 nc 83 82,
 fa 84 4 83,
 ld 85 1 84,
 b 86 .eql (.t 85) (c 0),
 m 87 86,
 mg 88 14 87 true,
 mg 89 0 87 true,
 g 90 87 true (.qy (.t 89)),
 g 91 87 true (.qk 2 (.t 90)),
 g 92 87 true (.load false 1 (.t 91)),
 g 93 87 true (.len false (.t 92)),
 g 94 87 true (.bin .gtr (.t 88) (.t 93)),
 pk 95 (.t 87) (.t 94) f] [0,1,2,10,14,95] (.cond (.t 95) (.qZ [m 96 0,
 cl 97 25 [(.t 96)]] [0,1,2,10,14])
 .skip [0,1,2,10,14]))
 (s [k 15 (i 0)] [0,1,2,10,14,15] (.block 2 (.loop [0,1,2,10,14,15] f20L0) [0,1,2]))))))))))))))) [0,1,2]))
def f20:gI:=a 3 [] false (.block 0 (.loop [0,1,2] f20L1) [])
def f21L0:aK:=(.seq (s [m 12 5,
 m 13 0,
 u 14 (.len false (.t 13)),
 b 15 .lss (.t 12) (.t 14)] [0,3,4,5,15] (.cond (.t 15) .skip (.exit 2) [0,3,4,5])) (.seq (.block 3 (s [m 18 0,
 m 19 5,
 u 20 (.qm 1 (.t 18) (.t 19)),
 ld 21 1 20,
 m 22 4,
 b 23 .eql (.t 21) (.t 22)] [0,3,4,5,23] (.cond (.t 23) (.seq (.jS [0,1,2,3,4,5,6,7,8,9,10] [m 24 3,
 m 25 4,
 nc 26 24,
 fa 27 0 26,
 u 28 (.mQ 16 1 (.t 27) (.t 25)),
 ld 29 1 28,
 b 30 .add (.t 29) (c 1),
 nc 31 24,
 fa 32 0 31,
 u 33 (.mQ 16 1 (.t 32) (.t 25)),
 ⟨none,.store 1 (.t 33) (.t 30),none⟩] [] [0,3,4,5])
 (.qZ [m 34 3,
 m 35 3,
 nc 36 35,
 fa 37 16 36,
 ld 38 1 37,
 m 39 5,
 u 40 (.dw 1 1 [i 0] [(0,(.t 39))]),
 u 41 (.app 1 8 (.t 38) (.t 40)),
 nc 42 34,
 fa 43 16 42,
 ⟨none,.store 1 (.t 43) (.t 41),none⟩] [0,3,4,5]))
 .skip [0,3,4,5])) [0,3,4,5])
 (.qZ [m 16 5,
 b 17 .add (.t 16) (c 1),
 m 5 17] [0,3,4,5])))
def f21L1:aK:=(.seq (s [m 8 4,
 b 9 .leq (.t 8) (c 15)] [0,3,4,9] (.cond (.t 9) .skip (.exit 0) [0,3,4])) (.seq (.block 1 (s [k 5 (i 0)] [0,3,4,5] (.block 2 (.loop [0,3,4,5] f21L0) [0,3,4])) [0,3,4])
 (.qZ [m 10 4,
 b 11 .add (.t 10) (c 1),
 m 4 11] [0,3,4])))
def f21:gI:=a 1 [.tmp 2] true
 (s [k 2 (.c9)] [0]
 (s [u 6 (.build [i 0,i 0,i 0,i 0,i 0,i 0,i 0,i 0,i 0,i 0,i 0,i 0,i 0,i 0,i 0,i 0,.aT] []),
 u 7 (.box 17 (.t 6)),
 m 3 7] [0,3] (.seq (s [k 4 (i 1)] [0,3,4] (.block 0 (.loop [0,3,4] f21L1) [3]))
 (s [m 44 3,
 m 2 44] [2]
 .ret))))
def f22L0:aK:=(.seq (s [m 4 2,
 b 5 .lss (.t 4) (c 288)] [1,2,5] (.cond (.t 5) .skip (.exit 0) [1,2])) (.seq (.block 1 (s [k 3 (i 8)] [1,2,3] (.seq (s [m 8 2,
 b 9 .geq (.t 8) (c 144),
 m 10 9,
 mg 11 2 10 true,
 g 12 10 true (.bin .lss (.t 11) (c 256)),
 pk 13 (.t 10) (.t 12) f] [1,2,3,13] (.cond (.t 13) (.qZ [k 3 (i 9)] [1,2,3])
 (s [m 14 2,
 b 15 .geq (.t 14) (c 256),
 m 16 15,
 mg 17 2 16 true,
 g 18 16 true (.bin .lss (.t 17) (c 280)),
 pk 19 (.t 16) (.t 18) f] [1,2,3,19] (.cond (.t 19) (.qZ [k 3 (i 7)] [1,2,3])
 .skip [1,2,3])) [1,2,3]))
 (.qZ [m 20 1,
 m 21 3,
 u 22 (.dw 1 1 [i 0] [(0,(.t 21))]),
 u 23 (.app 1 8 (.t 20) (.t 22)),
 m 1 23] [1,2]))) [1,2])
 (.qZ [m 6 2,
 b 7 .add (.t 6) (c 1),
 m 2 7] [1,2])))
def f22:gI:=a 0 [.tmp 0] true
 (s [k 0 (.aT)] []
 (s [k 1 (.aT)] [1] (.seq (s [k 2 (i 0)] [1,2] (.block 0 (.loop [1,2] f22L0) [1]))
 (s [m 24 1,
 m 0 24] [0]
 .ret))))
def f23L0:aK:=(.seq (s [m 4 2,
 b 5 .lss (.t 4) (c 30)] [1,2,5] (.cond (.t 5) .skip (.exit 0) [1,2])) (.seq (.block 1 (.qZ [m 8 1,
 m 9 2,
 u 10 (.qm 1 (.t 8) (.t 9)),
 ⟨none,.store 1 (.t 10) (c 5),none⟩] [1,2]) [1,2])
 (.qZ [m 6 2,
 b 7 .add (.t 6) (c 1),
 m 2 7] [1,2])))
def f23:gI:=a 0 [.tmp 0] true
 (s [k 0 (.aT)] []
 (s [u 3 (.jU 1 8 [i 0] (c 30) (c 30)),
 m 1 3] [1] (.seq (s [k 2 (i 0)] [1,2] (.block 0 (.loop [1,2] f23L0) [1]))
 (s [m 11 1,
 m 0 11] [0]
 .ret))))
def f24L0:aK:=(.seq (s [m 35 7,
 m 36 4,
 b 37 .lss (.t 35) (.t 36)] [0,2,3,4,5,6,7,37] (.cond (.t 37) .skip (.exit 0) [0,2,3,4,5,6,7])) (.seq (.block 1 (.jS [0,1,2,3,4,5,6,7,8] [m 40 5,
 m 41 6,
 m 42 7,
 u 43 (.qm 1 (.t 41) (.t 42)),
 ld 44 1 43,
 m 45 0,
 cl 46 18 [(.t 45),(c 3)],
 u 47 (.qm 1 (.t 40) (.t 44)),
 ⟨none,.store 1 (.t 47) (.t 46),none⟩] [(4,[1])] [0,2,3,4,5,6,7]) [0,2,3,4,5,6,7])
 (.qZ [m 38 7,
 b 39 .add (.t 38) (c 1),
 m 7 39] [0,2,3,4,5,6,7])))
def f24:gI:=a 1 [] false
 (s [m 9 0,
 cl 10 18 [(.t 9),(c 5)],
 b 11 .add (c 257) (.t 10),
 m 2 11] [0,2]
 (s [m 12 0,
 cl 13 18 [(.t 12),(c 5)],
 b 14 .add (c 1) (.t 13),
 m 3 14] [0,2,3]
 (s [m 15 0,
 cl 16 18 [(.t 15),(c 4)],
 b 17 .add (c 4) (.t 16),
 m 4 17] [0,2,3,4] (.seq (s [m 18 0,
 nc 19 18,
 fa 20 4 19,
 ld 21 1 20,
 b 22 .neq (.t 21) (c 0),
 m 23 22,
 mg 24 2 23 false,
 g 25 23 false (.bin .gtr (.t 24) (c 286)),
 pk 26 (.t 23) y (.t 25),
 m 27 26,
 mg 28 3 27 false,
 g 29 27 false (.bin .gtr (.t 28) (c 30)),
 pk 30 (.t 27) y (.t 29)] [0,2,3,4,30] (.cond (.t 30) (s [m 31 0,
 cl 32 25 [(.t 31)]] []
 .ret)
 .skip [0,2,3,4]))
 (s [u 33 (.jU 1 8 [i 0] (c 19) (c 19)),
 m 5 33] [0,2,3,4,5]
 (s [cl 34 32 [],
 m 6 34] [0,2,3,4,5,6] (.seq (s [k 7 (i 0)] [0,2,3,4,5,6,7] (.block 0 (.loop [0,2,3,4,5,6,7] f24L0) [0,2,3,5])) (.seq (s [m 48 0,
 nc 49 48,
 fa 50 4 49,
 ld 51 1 50,
 b 52 .neq (.t 51) (c 0),
 m 53 52,
 mg 54 5 53 false,
 g 55 53 false (.call (.c (.fn 52 [] [])) [(.t 54)]),
 g 56 53 false (.bin .neq (.t 55) (c 0)),
 pk 57 (.t 53) y (.t 56)] [0,2,3,5,57] (.cond (.t 57) (s [m 58 0,
 cl 59 25 [(.t 58)]] []
 .ret)
 .skip [0,2,3,5]))
 (s [m 60 0,
 m 61 5,
 cl 62 21 [(.t 61)],
 m 63 2,
 m 64 3,
 b 65 .add (.t 63) (.t 64),
 cl 66 53 [(.t 60),(.t 62),(.t 65)],
 m 8 66] [0,2,8] (.seq (s [m 67 0,
 nc 68 67,
 fa 69 4 68,
 ld 70 1 69,
 b 71 .neq (.t 70) (c 0)] [0,2,8,71] (.cond (.t 71) .ret
 .skip [0,2,8])) (.seq (s [m 72 8,
 m 73 2,
 u 74 (.sl 1 (.t 72) none (some (.t 73)) none),
 cl 75 52 [(.t 74)],
 b 76 .neq (.t 75) (c 0),
 m 77 76,
 mg 78 8 77 false,
 g 79 77 false (.qm 1 (.t 78) (c 256)),
 g 80 77 false (.load false 1 (.t 79)),
 g 81 77 false (.bin .eql (.t 80) (c 0)),
 pk 82 (.t 77) y (.t 81),
 m 83 82,
 mg 84 8 83 false,
 mg 85 2 83 false,
 g 86 83 false (.sl 1 (.t 84) (some (.t 85)) none none),
 g 87 83 false (.call (.c (.fn 52 [] [])) [(.t 86)]),
 g 88 83 false (.bin .neq (.t 87) (c 0)),
 mg 89 88 83 false,
 mg 90 8 89 true,
 mg 91 2 89 true,
 g 92 89 true (.sl 1 (.t 90) (some (.t 91)) none none),
 g 93 89 true (.call (.c (.fn 54 [] [])) [(.t 92)]),
 g 94 89 true (.not (.t 93)),
 g 95 83 false (.pick (.t 89) (.t 94) f),
 pk 96 (.t 83) y (.t 95)] [0,2,8,96] (.cond (.t 96) (s [m 97 0,
 cl 98 25 [(.t 97)]] []
 .ret)
 .skip [0,2,8]))
 (.jS [0,1,2,3,4,5,6,7,8,9] [m 99 0,
 m 100 8,
 m 101 2,
 u 102 (.sl 1 (.t 100) none (some (.t 101)) none),
 cl 103 21 [(.t 102)],
 m 104 8,
 m 105 2,
 u 106 (.sl 1 (.t 104) (some (.t 105)) none none),
 cl 107 21 [(.t 106)],
 cl 108 20 [(.t 99),(.t 103),(.t 107)]] [(7,[0])] []))))))))))))
def f25:gI:=a 1 [] false
 (s [m 2 0,
 nc 3 2,
 fa 4 4 3,
 ld 5 1 4,
 b 6 .eql (.t 5) (c 0)] [0,6] (.cond (.t 6) (.qZ [m 7 0,
 nc 8 7,
 fa 9 4 8,
 ⟨none,.store 1 (.t 9) (c 700),none⟩] [])
 .skip []))
def f32:gI:=a 0 [.tmp 0] true
 (s [k 0 (.aT)] []
 (s [u 1 (.dw 1 19 [i 0] [(0,(c 16)),(1,(c 17)),(2,(c 18)),(3,(c 0)),(4,(c 8)),(5,(c 7)),(6,(c 9)),(7,(c 6)),(8,(c 10)),(9,(c 5)),(10,(c 11)),(11,(c 4)),(12,(c 12)),(13,(c 3)),(14,(c 13)),(15,(c 2)),(16,(c 14)),(17,(c 1)),(18,(c 15))]),
 m 0 1] [0]
 .ret))
def f38:gI:=a 2 [.tmp 4] false
 (s [k 4 (i 0)] [0,1]
 (s [m 8 0,
 nc 9 8,
 fa 10 0 9,
 ld 11 1 10,
 m 12 1,
 cl 13 58 [(.t 11),(.t 12)],
 m 7 13,
 ex 14 7 0,
 ex 15 7 1,
 m 5 14,
 m 6 15] [0,5,6] (.seq (s [m 16 6,
 b 17 .neq (.t 16) (c 0)] [0,5,17] (.cond (.t 17) (.qZ [m 18 0,
 cl 19 45 [(.t 18),(c 700)]] [5])
 .skip [5]))
 (s [m 20 5,
 m 4 20] [4]
 .ret))))
def f39L0:aK:=(.seq (s [m 18 2,
 b 19 .gtr (.t 18) (c 0),
 m 20 19,
 mg 21 0 20 true,
 g 22 20 true (.qy (.t 21)),
 g 23 20 true (.qk 3 (.t 22)),
 g 24 20 true (.load false 1 (.t 23)),
 g 25 20 true (.bin .eql (.t 24) (c 0)),
 pk 26 (.t 20) (.t 25) f] [0,2,26] (.cond (.t 26) .skip (.exit 0) [0,2])) (.seq (.block 1 (s [m 29 0,
 cl 30 38 [(.t 29),(c 8)],
 m 3 30] [0,2,3]
 (s [m 31 0,
 nc 32 31,
 fa 33 3 32,
 ld 34 1 33,
 b 35 .eql (.t 34) (c 0)] [0,2,3,35] (.cond (.t 35) (.qZ [m 36 0,
 m 37 3,
 u 38 (.conv .u8 (.t 37)),
 cl 39 59 [(.t 36),(.t 38)]] [0,2])
 .skip [0,2]))) [0,2])
 (.qZ [m 27 2,
 b 28 .sub (.t 27) (c 1),
 m 2 28] [0,2])))
def f39:gI:=a 1 [] false
 (s [m 4 0,
 nc 5 4,
 fa 6 0 5,
 ld 7 1 6,
 cl 8 16 [(.t 7)]] [0]
 (s [m 9 0,
 cl 10 38 [(.t 9),(c 16)],
 m 2 10] [0,2] (.seq (s [m 11 0,
 cl 12 38 [(.t 11),(c 16)],
 m 13 2,
 b 14 .xor (.t 13) (c 65535),
 b 15 .neq (.t 12) (.t 14)] [0,2,15] (.cond (.t 15) (.qZ [m 16 0,
 cl 17 45 [(.t 16),(c 700)]] [0,2])
 .skip [0,2])) (.block 0 (.loop [0,2] f39L0) []))))
def f40L0:aK:=(.seq (s [m 7 0,
 nc 8 7,
 fa 9 3 8,
 ld 10 1 9,
 b 11 .eql (.t 10) (c 0)] [0,1,2,11] (.cond (.t 11) .skip (.exit 0) [0,1,2])) (.block 1 (s [m 12 0,
 m 13 1,
 cl 14 60 [(.t 12),(.t 13)],
 m 6 14] [0,1,2,6] (.block 2 (s [m 20 6,
 b 21 .lss (.t 20) (c 256),
 m 19 21] [0,1,2,6,19] (.cond (.t 19) (.qZ [m 22 0,
 m 23 6,
 u 24 (.conv .u8 (.t 23)),
 cl 25 59 [(.t 22),(.t 24)]] [0,1,2])
 (s [m 27 6,
 b 28 .eql (.t 27) (c 256),
 m 26 28] [0,1,2,6,26] (.cond (.t 26) .ret
 (.qZ [m 15 0,
 m 16 6,
 m 17 2,
 cl 18 61 [(.t 15),(.t 16),(.t 17)]] [0,1,2]) [0,1,2])) [0,1,2])) [0,1,2])) [0,1,2]))
def f40:gI:=a 3 [] false (.block 0 (.loop [0,1,2] f40L0) [])
def f41L0:aK:=(.seq (s [m 44 7,
 b 45 .leq (.t 44) (c 15)] [3,6,7,45] (.cond (.t 45) .skip (.exit 2) [3,6,7])) (.seq (.block 3 (s [m 48 6,
 m 49 3,
 m 50 7,
 b 51 .sub (.t 50) (c 1),
 nc 52 49,
 fa 53 16 52,
 u 54 (.mQ 16 1 (.t 53) (.t 51)),
 ld 55 1 54,
 b 56 .add (.t 48) (.t 55),
 b 57 .mul (.t 56) (c 2),
 m 6 57] [3,6,7]
 (s [m 58 3,
 m 59 7,
 m 60 6,
 nc 61 58,
 fa 62 0 61,
 u 63 (.mQ 16 1 (.t 62) (.t 59)),
 ⟨none,.store 1 (.t 63) (.t 60),none⟩] [3,6,7]
 (.jS [0,1,2,3,4,5,6,7,8,9,10,11,12,13,14,15] [m 64 3,
 m 65 3,
 nc 66 65,
 fa 67 48 66,
 ld 68 1 67,
 b 69 .mul (.t 68) (c 2),
 m 70 3,
 m 71 7,
 nc 72 70,
 fa 73 16 72,
 u 74 (.mQ 16 1 (.t 73) (.t 71)),
 ld 75 1 74,
 b 76 .sub (.t 69) (.t 75),
 nc 77 64,
 fa 78 48 77,
 ⟨none,.store 1 (.t 78) (.t 76),none⟩] [] [3,6,7]))) [3,6,7])
 (.qZ [m 46 7,
 b 47 .add (.t 46) (c 1),
 m 7 47] [3,6,7])))
def f41L1:aK:=
 (s [b 13 .lss (.t 12) (.t 11)] [3,10,11,12,13] (.seq (.cond (.t 13) .skip (.exit 0) [3,10,11,12]) (.seq (.block 1 (s [m 14 12,
 u 15 (.qm 1 (.t 10) (.t 12)),
 ld 16 1 15,
 m 4 14,
 m 5 16] [3,4,5,10,11,12]
 (s [m 17 5,
 b 18 .gtr (.t 17) (c 0)] [3,4,5,10,11,12,18] (.cond (.t 18) (.seq (.jS [0,1,2,3,4,5,6,7,8,9,10] [m 19 3,
 m 20 5,
 nc 21 19,
 fa 22 16 21,
 u 23 (.mQ 16 1 (.t 22) (.t 20)),
 ld 24 1 23,
 b 25 .add (.t 24) (c 1),
 nc 26 19,
 fa 27 16 26,
 u 28 (.mQ 16 1 (.t 27) (.t 20)),
 ⟨none,.store 1 (.t 28) (.t 25),none⟩] [] [3,4,5,10,11,12])
 (.jS [0,1,2,3,4,5,6,7,8,9,10,11,12,13,14] [m 29 3,
 m 30 5,
 m 31 3,
 m 32 5,
 nc 33 31,
 fa 34 32 33,
 u 35 (.mQ 16 1 (.t 34) (.t 32)),
 ld 36 1 35,
 m 37 4,
 u 38 (.dw 1 1 [i 0] [(0,(.t 37))]),
 u 39 (.app 1 8 (.t 36) (.t 38)),
 nc 40 29,
 fa 41 32 40,
 u 42 (.mQ 16 1 (.t 41) (.t 30)),
 ⟨none,.store 1 (.t 42) (.t 39),none⟩] [] [3,10,11,12]))
 .skip [3,10,11,12]))) [3,10,11,12])
 (.qZ [b 43 .add (.t 12) (c 1),
 m 12 43] [3,10,11,12]))))
def f41:gI:=a 1 [.tmp 2] true
 (s [k 2 (.c9)] [0]
 (s [u 8 (.build [i 0,i 0,i 0,i 0,i 0,i 0,i 0,i 0,i 0,i 0,i 0,i 0,i 0,i 0,i 0,i 0,i 0,i 0,i 0,i 0,i 0,i 0,i 0,i 0,i 0,i 0,i 0,i 0,i 0,i 0,i 0,i 0,.aT,.aT,.aT,.aT,.aT,.aT,.aT,.aT,.aT,.aT,.aT,.aT,.aT,.aT,.aT,.aT,i 0] [(48,1,(c 1))]),
 u 9 (.box 49 (.t 8)),
 m 3 9] [0,3] (.seq (s [m 10 0,
 u 11 (.len false (.t 10)),
 k 12 (i 0)] [3,10,11,12] (.block 0 (.loop [3,10,11,12] f41L1) [3]))
 (s [k 6 (i 0)] [3,6] (.seq (s [k 7 (i 1)] [3,6,7] (.block 2 (.loop [3,6,7] f41L0) [3]))
 (s [m 79 3,
 m 2 79] [2]
 .ret))))))
def f42:gI:=a 0 [.tmp 0] true
 (s [k 0 (.aT)] []
 (s [u 1 (.dw 1 1 [i 0] [(0,(c 8))]),
 cl 2 43 [(.t 1),(c 144)],
 u 3 (.dw 1 1 [i 0] [(0,(c 9))]),
 cl 4 43 [(.t 3),(c 112)],
 u 5 (.dw 1 1 [i 0] [(0,(c 7))]),
 cl 6 43 [(.t 5),(c 24)],
 u 7 (.dw 1 1 [i 0] [(0,(c 8))]),
 cl 8 43 [(.t 7),(c 8)],
 u 9 (.dw 1 4 [.aT] [(0,(.t 2)),(1,(.t 4)),(2,(.t 6)),(3,(.t 8))]),
 cl 10 62 [(.t 9)],
 m 0 10] [0]
 .ret))
def f43L0:aK:=(.seq (s [m 34 8,
 m 35 7,
 u 36 (.len false (.t 35)),
 b 37 .lss (.t 34) (.t 36)] [7,8,37] (.cond (.t 37) .skip (.exit 0) [7,8])) (.block 1 (.jS [0,1,2,3,4,5,6,7,8,9] [m 38 8,
 m 39 7,
 m 40 8,
 u 41 (.sl 1 (.t 39) (some (.t 40)) none none),
 m 42 7,
 m 43 8,
 u 44 (.sl 1 (.t 42) none (some (.t 43)) none),
 u 45 (.copy 1 (.t 41) (.t 44)),
 b 46 .add (.t 38) (.t 45),
 m 8 46] [] [7,8]) [7,8]))
def f43:gI:=a 2 [.tmp 4] true
 (s [k 4 (.aT)] [0,1] (.seq (s [m 9 1,
 b 10 .lss (.t 9) (c 0)] [0,1,10] (.cond (.t 10) (.qZ [u 11 (.qx 0 (.c (.str ⟨#[99,97,110,110,111,116,32,98,101,32,110,101,103,97,116,105,118,101]⟩))),
 ⟨none,.wW,none⟩] [0,1])
 .skip [0,1]))
 (s [m 13 0,
 u 14 (.len false (.t 13)),
 u 15 (.conv .u64 (.t 14)),
 m 16 1,
 u 17 (.conv .u64 (.t 16)),
 cl 18 63 [(.t 15),(.t 17)],
 m 12 18,
 ex 19 12 0,
 ex 20 12 1,
 m 5 19,
 m 6 20] [0,5,6] (.seq (s [m 21 5,
 b 22 .gtr (.t 21) (.c (.int .u64 0)),
 m 23 22,
 mg 24 6 23 false,
 g 25 23 false (.bin .gtr (.t 24) (.c (.int .u64 9223372036854775807))),
 pk 26 (.t 23) y (.t 25)] [0,6,26] (.cond (.t 26) (.qZ [u 27 (.qx 0 (.c (.str ⟨#[116,104,101,32,114,101,115,117,108,116,32,111,102,32,40,108,101,110,40,120,41,32,42,32,99,111,117,110,116,41,32,111,118,101,114,102,108,111,119,115]⟩))),
 ⟨none,.wW,none⟩] [0,6])
 .skip [0,6]))
 (s [m 28 6,
 u 29 (.conv .i64 (.t 28)),
 u 30 (.jU 1 8 [i 0] (.t 29) (.t 29)),
 m 7 30] [0,7]
 (s [m 31 7,
 m 32 0,
 u 33 (.copy 1 (.t 31) (.t 32)),
 m 8 33] [7,8] (.seq (.block 0 (.loop [7,8] f43L0) [7])
 (s [m 47 7,
 m 4 47] [4]
 .ret))))))))
def f44:gI:=a 1 [] false
 (s [m 7 0,
 cl 8 38 [(.t 7),(c 5)],
 b 9 .add (.t 8) (c 257),
 m 10 0,
 cl 11 38 [(.t 10),(c 5)],
 b 12 .add (.t 11) (c 1),
 m 2 9,
 m 3 12] [0,2,3] (.seq (s [m 13 0,
 nc 14 13,
 fa 15 3 14,
 ld 16 1 15,
 b 17 .neq (.t 16) (c 0),
 m 18 17,
 mg 19 2 18 false,
 g 20 18 false (.bin .gtr (.t 19) (c 286)),
 pk 21 (.t 18) y (.t 20),
 m 22 21,
 mg 23 3 22 false,
 g 24 22 false (.bin .gtr (.t 23) (c 30)),
 pk 25 (.t 22) y (.t 24)] [0,2,3,25] (.cond (.t 25) (s [m 26 0,
 cl 27 45 [(.t 26),(c 700)]] []
 .ret)
 .skip [0,2,3]))
 (s [m 28 0,
 m 29 2,
 m 30 3,
 b 31 .add (.t 29) (.t 30),
 cl 32 64 [(.t 28),(.t 31)],
 m 4 32] [0,2,4] (.seq (s [m 33 0,
 nc 34 33,
 fa 35 3 34,
 ld 36 1 35,
 b 37 .neq (.t 36) (c 0)] [0,2,4,37] (.cond (.t 37) .ret
 .skip [0,2,4])) (.seq (.jS [0,1,2,3,4,5,6,7] [m 38 4,
 m 39 2,
 u 40 (.sl 1 (.t 38) none (some (.t 39)) none),
 m 41 4,
 m 42 2,
 u 43 (.sl 1 (.t 41) (some (.t 42)) none none),
 m 5 40,
 m 6 43] [] [0,5,6]) (.seq (s [m 44 5,
 cl 45 65 [(.t 44)],
 b 46 .neq (.t 45) (c 0),
 m 47 46,
 mg 48 5 47 false,
 g 49 47 false (.qm 1 (.t 48) (c 256)),
 g 50 47 false (.load false 1 (.t 49)),
 g 51 47 false (.bin .eql (.t 50) (c 0)),
 pk 52 (.t 47) y (.t 51),
 m 53 52,
 mg 54 6 53 false,
 g 55 53 false (.call (.c (.fn 65 [] [])) [(.t 54)]),
 g 56 53 false (.bin .neq (.t 55) (c 0)),
 mg 57 56 53 false,
 mg 58 6 57 true,
 g 59 57 true (.call (.c (.fn 66 [] [])) [(.t 58)]),
 g 60 57 true (.not (.t 59)),
 g 61 53 false (.pick (.t 57) (.t 60) f),
 pk 62 (.t 53) y (.t 61)] [0,5,6,62] (.cond (.t 62) (s [m 63 0,
 cl 64 45 [(.t 63),(c 700)]] []
 .ret)
 .skip [0,5,6]))
 (.qZ [m 65 0,
 m 66 5,
 cl 67 41 [(.t 66)],
 m 68 6,
 cl 69 41 [(.t 68)],
 cl 70 40 [(.t 65),(.t 67),(.t 69)]] [])))))))
def f45:gI:=a 2 [] false
 (s [m 4 0,
 nc 5 4,
 fa 6 3 5,
 ld 7 1 6,
 b 8 .eql (.t 7) (c 0)] [0,1,8] (.cond (.t 8) (.qZ [m 9 0,
 m 10 1,
 nc 11 9,
 fa 12 3 11,
 ⟨none,.store 1 (.t 12) (.t 10),none⟩] [])
 .skip []))
def f46L0:aK:=(.seq (s [m 27 7,
 m 28 1,
 b 29 .lss (.t 27) (.t 28)] [0,1,6,7,29] (.cond (.t 29) .skip (.exit 0) [0,1,6,7])) (.seq (.block 1 (.seq (.jS [0,1,2,3,4,5,6,7,8,9,10,11,12,13,14,15,16,17,18,19,20,21,22] [m 32 6,
 m 33 0,
 nc 34 33,
 fa 35 0 34,
 ld 36 1 35,
 m 37 0,
 nc 38 37,
 fa 39 1 38,
 ld 40 1 39,
 b 41 .quo (.t 40) (c 8),
 u 42 (.idxs (.t 36) (.t 41)),
 m 43 0,
 nc 44 43,
 fa 45 1 44,
 ld 46 1 45,
 b 47 .rem (.t 46) (c 8),
 b 48 .shr (.t 42) (.t 47),
 b 49 .and (.t 48) (.c (.int .u8 1)),
 u 50 (.conv .i64 (.t 49)),
 m 51 7,
 b 52 .shl (.t 50) (.t 51),
 b 53 .or (.t 32) (.t 52),
 m 6 53] [] [0,1,6,7])
 (.qZ [m 54 0,
 nc 55 54,
 fa 56 1 55,
 ld 57 1 56,
 b 58 .add (.t 57) (c 1),
 nc 59 54,
 fa 60 1 59,
 ⟨none,.store 1 (.t 60) (.t 58),none⟩] [0,1,6,7])) [0,1,6,7])
 (.qZ [m 30 7,
 b 31 .add (.t 30) (c 1),
 m 7 31] [0,1,6,7])))
def f46:gI:=a 2 [.tmp 4,.tmp 5] false
 (s [k 4 (i 0),
 k 5 (i 0)] [0,1] (.seq (s [m 8 1,
 b 9 .lss (.t 8) (c 0),
 m 10 9,
 mg 11 1 10 false,
 g 12 10 false (.bin .gtr (.t 11) (c 16)),
 pk 13 (.t 10) y (.t 12)] [0,1,13] (.cond (.t 13) (s [k 4 (i 0),
 k 5 (i 100)] [4,5]
 .ret)
 .skip [0,1])) (.seq (.seq (.jS [0,1,2,3,4,5,6,7,8,9,10,11,12] [m 14 1,
 m 15 0,
 nc 16 15,
 fa 17 0 16,
 ld 18 1 17,
 u 19 (.len true (.t 18)),
 b 20 .mul (c 8) (.t 19),
 m 21 0,
 nc 22 21,
 fa 23 1 22,
 ld 24 1 23,
 b 25 .sub (.t 20) (.t 24),
 b 26 .gtr (.t 14) (.t 25)] [] [0,1,26]) (.cond (.t 26) (s [k 4 (i 0),
 k 5 (i 101)] [4,5]
 .ret)
 .skip [0,1]))
 (s [k 6 (i 0)] [0,1,6] (.seq (s [k 7 (i 0)] [0,1,6,7] (.block 0 (.loop [0,1,6,7] f46L0) [6]))
 (s [m 61 6,
 m 4 61,
 k 5 (i 0)] [4,5]
 .ret))))))
def f47:gI:=a 1 [] false
 (.qZ [m 2 0,
 m 3 0,
 nc 4 3,
 fa 5 1 4,
 ld 6 1 5,
 b 7 .add (.t 6) (c 7),
 b 8 .quo (.t 7) (c 8),
 b 9 .mul (.t 8) (c 8),
 nc 10 2,
 fa 11 1 10,
 ⟨none,.store 1 (.t 11) (.t 9),none⟩] [])
def f48:gI:=a 2 [] false (.seq (.seq (.jS [0,1,2,3,4,5,6,7,8,9,10,11,12,13,14,15,16] [m 4 0,
 nc 5 4,
 fa 6 4 5,
 ld 7 1 6,
 b 8 .eql (.t 7) (c 0),
 m 9 8,
 mg 10 0 9 true,
 g 11 9 true (.qy (.t 10)),
 g 12 9 true (.qk 2 (.t 11)),
 g 13 9 true (.load false 1 (.t 12)),
 g 14 9 true (.len false (.t 13)),
 mg 15 0 9 true,
 g 16 9 true (.qy (.t 15)),
 g 17 9 true (.qk 3 (.t 16)),
 g 18 9 true (.load false 1 (.t 17)),
 g 19 9 true (.bin .geq (.t 14) (.t 18)),
 pk 20 (.t 9) (.t 19) f] [] [0,1,20]) (.cond (.t 20) (.qZ [m 21 0,
 nc 22 21,
 fa 23 4 22,
 ⟨none,.store 1 (.t 23) (c 701),none⟩] [0,1])
 .skip [0,1]))
 (s [m 24 0,
 nc 25 24,
 fa 26 4 25,
 ld 27 1 26,
 b 28 .eql (.t 27) (c 0)] [0,1,28] (.cond (.t 28) (.qZ [m 29 0,
 m 30 0,
 nc 31 30,
 fa 32 2 31,
 ld 33 1 32,
 m 34 1,
 u 35 (.dw 1 1 [.int .u8 0] [(0,(.t 34))]),
 u 36 (.app 1 1 (.t 33) (.t 35)),
 nc 37 29,
 fa 38 2 37,
 ⟨none,.store 1 (.t 38) (.t 36),none⟩] [])
 .skip [])))
def f49L0:aK:=(.seq (s [m 9 8,
 b 10 .leq (.t 9) (c 15),
 m 11 10,
 mg 12 0 11 true,
 g 13 11 true (.qy (.t 12)),
 g 14 11 true (.qk 4 (.t 13)),
 g 15 11 true (.load false 1 (.t 14)),
 g 16 11 true (.bin .eql (.t 15) (c 0)),
 pk 17 (.t 11) (.t 16) f] [0,1,5,6,7,8,17] (.cond (.t 17) .skip (.exit 0) [0,1,5,6,7,8])) (.seq (.block 1 (s [m 20 5,
 m 21 0,
 cl 22 18 [(.t 21),(c 1)],
 b 23 .or (.t 20) (.t 22),
 m 5 23] [0,1,5,6,7,8] (.seq (s [m 24 0,
 nc 25 24,
 fa 26 4 25,
 ld 27 1 26,
 b 28 .neq (.t 27) (c 0)] [0,1,5,6,7,8,28] (.cond (.t 28) (s [k 4 (i (-1))] [4]
 .ret)
 .skip [0,1,5,6,7,8])) (.seq (s [m 29 5,
 m 30 1,
 m 31 8,
 nc 32 30,
 fa 33 0 32,
 u 34 (.mQ 16 1 (.t 33) (.t 31)),
 ld 35 1 34,
 b 36 .sub (.t 29) (.t 35),
 m 37 6,
 b 38 .lss (.t 36) (.t 37)] [0,1,5,6,7,8,38] (.cond (.t 38) (s [m 39 1,
 nc 40 39,
 fa 41 16 40,
 ld 42 1 41,
 m 43 7,
 m 44 5,
 b 45 .add (.t 43) (.t 44),
 m 46 6,
 b 47 .sub (.t 45) (.t 46),
 u 48 (.qm 1 (.t 42) (.t 47)),
 ld 49 1 48,
 m 4 49] [4]
 .ret)
 .skip [0,1,5,6,7,8]))
 (s [m 50 7,
 m 51 1,
 m 52 8,
 nc 53 51,
 fa 54 0 53,
 u 55 (.mQ 16 1 (.t 54) (.t 52)),
 ld 56 1 55,
 b 57 .add (.t 50) (.t 56),
 m 7 57] [0,1,5,6,7,8]
 (s [m 58 6,
 m 59 1,
 m 60 8,
 nc 61 59,
 fa 62 0 61,
 u 63 (.mQ 16 1 (.t 62) (.t 60)),
 ld 64 1 63,
 b 65 .add (.t 58) (.t 64),
 b 66 .shl (.t 65) (.c (.int .u64 1)),
 m 6 66] [0,1,5,6,7,8]
 (.qZ [m 67 5,
 b 68 .shl (.t 67) (.c (.int .u64 1)),
 m 5 68] [0,1,5,6,7,8])))))) [0,1,5,6,7,8])
 (.qZ [m 18 8,
 b 19 .add (.t 18) (c 1),
 m 8 19] [0,1,5,6,7,8])))
def f49:gI:=a 2 [.tmp 4] false
 (s [k 4 (i 0)] [0,1]
 (s [k 5 (i 0),
 k 6 (i 0),
 k 7 (i 0)] [0,1,5,6,7] (.seq (s [k 8 (i 1)] [0,1,5,6,7,8] (.block 0 (.loop [0,1,5,6,7,8] f49L0) [0]))
 (s [m 69 0,
 cl 70 25 [(.t 69)]] []
 (s [k 4 (i (-1))] [4]
 .ret)))))
def f50:gI:=a 1 [.tmp 2,.tmp 3,.tmp 4] true
 (s [k 2 (i 0),
 k 3 (i 0),
 k 4 (i 0)] [0] (.seq (s [m 6 0,
 b 7 .lss (.t 6) (c 257),
 m 8 7,
 mg 9 0 8 false,
 g 10 8 false (.bin .gtr (.t 9) (c 285)),
 pk 11 (.t 8) y (.t 10)] [0,11] (.cond (.t 11) (s [k 2 (i 0),
 k 3 (i 0),
 k 4 (i 600)] [2,3,4]
 .ret)
 .skip [0])) (.seq (s [m 12 0,
 b 13 .eql (.t 12) (c 285)] [0,13] (.cond (.t 13) (s [k 2 (i 258),
 k 3 (i 0),
 k 4 (i 0)] [2,3,4]
 .ret)
 .skip [0])) (.seq (s [m 14 0,
 b 15 .lss (.t 14) (c 265)] [0,15] (.cond (.t 15) (s [m 16 0,
 b 17 .sub (.t 16) (c 254),
 m 2 17,
 k 3 (i 0),
 k 4 (i 0)] [2,3,4]
 .ret)
 .skip [0]))
 (s [m 18 0,
 b 19 .sub (.t 18) (c 261),
 b 20 .quo (.t 19) (c 4),
 m 5 20] [0,5]
 (s [m 21 0,
 b 22 .sub (.t 21) (c 261),
 b 23 .rem (.t 22) (c 4),
 b 24 .add (c 4) (.t 23),
 m 25 5,
 b 26 .shl (.t 24) (.t 25),
 b 27 .add (c 3) (.t 26),
 m 28 5,
 m 2 27,
 m 3 28,
 k 4 (i 0)] [2,3,4]
 .ret))))))
def f51:gI:=a 1 [.tmp 2,.tmp 3,.tmp 4] true
 (s [k 2 (i 0),
 k 3 (i 0),
 k 4 (i 0)] [0] (.seq (s [m 6 0,
 b 7 .lss (.t 6) (c 0),
 m 8 7,
 mg 9 0 8 false,
 g 10 8 false (.bin .gtr (.t 9) (c 29)),
 pk 11 (.t 8) y (.t 10)] [0,11] (.cond (.t 11) (s [k 2 (i 0),
 k 3 (i 0),
 k 4 (i 600)] [2,3,4]
 .ret)
 .skip [0])) (.seq (s [m 12 0,
 b 13 .lss (.t 12) (c 4)] [0,13] (.cond (.t 13) (s [m 14 0,
 b 15 .add (.t 14) (c 1),
 m 2 15,
 k 3 (i 0),
 k 4 (i 0)] [2,3,4]
 .ret)
 .skip [0]))
 (s [m 16 0,
 b 17 .sub (.t 16) (c 2),
 b 18 .quo (.t 17) (c 2),
 m 5 18] [0,5]
 (s [m 19 0,
 b 20 .rem (.t 19) (c 2),
 b 21 .add (c 2) (.t 20),
 m 22 5,
 b 23 .shl (.t 21) (.t 22),
 b 24 .add (c 1) (.t 23),
 m 25 5,
 m 2 24,
 m 3 25,
 k 4 (i 0)] [2,3,4]
 .ret)))))
def f52:gI:=a 1 [.tmp 2] true
 (s [k 2 (i 0)] [0] (.seq (s [m 4 0,
 cl 5 67 [(.t 4)],
 u 6 (.not (.t 5))] [0,6] (.cond (.t 6) (s [k 2 (i 300)] [2]
 .ret)
 .skip [0]))
 (s [m 7 0,
 cl 8 68 [(.t 7)],
 m 3 8] [3] (.seq (s [m 9 3,
 b 10 .gtr (.t 9) (c 32768)] [3,10] (.cond (.t 10) (s [k 2 (i 301)] [2]
 .ret)
 .skip [3])) (.seq (s [m 11 3,
 b 12 .lss (.t 11) (c 32768)] [12] (.cond (.t 12) (s [k 2 (i 302)] [2]
 .ret)
 .skip []))
 (s [k 2 (i 0)] [2]
 .ret))))))
def f53L0:aK:=(.seq (s [m 74 11,
 m 75 9,
 b 76 .lss (.t 74) (.t 75),
 m 77 76,
 mg 78 0 77 true,
 g 79 77 true (.qy (.t 78)),
 g 80 77 true (.qk 4 (.t 79)),
 g 81 77 true (.load false 1 (.t 80)),
 g 82 77 true (.bin .eql (.t 81) (c 0)),
 pk 83 (.t 77) (.t 82) f] [0,1,2,7,9,10,11,83] (.cond (.t 83) .skip (.exit 3) [0,1,2,7,9,10,11])) (.seq (.block 4 (.qZ [m 86 7,
 m 87 10,
 u 88 (.dw 1 1 [i 0] [(0,(.t 87))]),
 u 89 (.app 1 8 (.t 86) (.t 88)),
 m 7 89] [0,1,2,7,9,10,11]) [0,1,2,7,9,10,11])
 (.qZ [m 84 11,
 b 85 .add (.t 84) (c 1),
 m 11 85] [0,1,2,7,9,10,11])))
def f53L1:aK:=(.seq (s [m 12 7,
 u 13 (.len false (.t 12)),
 m 14 2,
 b 15 .lss (.t 13) (.t 14),
 m 16 15,
 mg 17 0 16 true,
 g 18 16 true (.qy (.t 17)),
 g 19 16 true (.qk 4 (.t 18)),
 g 20 16 true (.load false 1 (.t 19)),
 g 21 16 true (.bin .eql (.t 20) (c 0)),
 pk 22 (.t 16) (.t 21) f] [0,1,2,7,22] (.cond (.t 22) .skip (.exit 0) [0,1,2,7])) (.block 1 (s [m 23 0,
 m 24 1,
 cl 25 49 [(.t 23),(.t 24)],
 m 8 25] [0,1,2,7,8] (.seq (s [m 26 0,
 nc 27 26,
 fa 28 4 27,
 ld 29 1 28,
 b 30 .neq (.t 29) (c 0)] [0,1,2,7,8,30] (.cond (.t 30) (s [k 6 (.aT)] [6]
 .ret)
 .skip [0,1,2,7,8]))
 (s [m 31 8,
 k 9 (i 1),
 m 10 31] [0,1,2,7,8,9,10] (.seq (s [m 32 8] [0,1,2,7,9,10,32] (.block 2 (s [b 34 .eql (.t 32) (c 16),
 m 33 34] [0,1,2,7,9,10,32,33] (.cond (.t 33) (.seq (s [m 35 7,
 u 36 (.len false (.t 35)),
 b 37 .eql (.t 36) (c 0)] [0,1,2,7,37] (.cond (.t 37) (s [m 38 0,
 cl 39 25 [(.t 38)]] []
 (s [k 6 (.aT)] [6]
 .ret))
 .skip [0,1,2,7]))
 (s [m 40 7,
 m 41 7,
 u 42 (.len false (.t 41)),
 b 43 .sub (.t 42) (c 1),
 u 44 (.qm 1 (.t 40) (.t 43)),
 ld 45 1 44,
 m 10 45] [0,1,2,7,10]
 (.qZ [m 46 0,
 cl 47 18 [(.t 46),(c 2)],
 b 48 .add (c 3) (.t 47),
 m 9 48] [0,1,2,7,9,10])))
 (s [b 50 .eql (.t 32) (c 17),
 m 49 50] [0,1,2,7,9,10,32,49] (.cond (.t 49) (s [k 10 (i 0)] [0,1,2,7,10]
 (.qZ [m 51 0,
 cl 52 18 [(.t 51),(c 3)],
 b 53 .add (c 3) (.t 52),
 m 9 53] [0,1,2,7,9,10]))
 (s [b 55 .eql (.t 32) (c 18),
 m 54 55] [0,1,2,7,9,10,54] (.cond (.t 54) (s [k 10 (i 0)] [0,1,2,7,10]
 (.qZ [m 56 0,
 cl 57 18 [(.t 56),(c 7)],
 b 58 .add (c 11) (.t 57),
 m 9 58] [0,1,2,7,9,10]))
 .skip [0,1,2,7,9,10])) [0,1,2,7,9,10])) [0,1,2,7,9,10])) [0,1,2,7,9,10])) (.seq (s [m 59 0,
 nc 60 59,
 fa 61 4 60,
 ld 62 1 61,
 b 63 .eql (.t 62) (c 0),
 m 64 63,
 mg 65 7 64 true,
 g 66 64 true (.len false (.t 65)),
 mg 67 9 64 true,
 g 68 64 true (.bin .add (.t 66) (.t 67)),
 mg 69 2 64 true,
 g 70 64 true (.bin .gtr (.t 68) (.t 69)),
 pk 71 (.t 64) (.t 70) f] [0,1,2,7,9,10,71] (.cond (.t 71) (.qZ [m 72 0,
 cl 73 25 [(.t 72)]] [0,1,2,7,9,10])
 .skip [0,1,2,7,9,10]))
 (s [k 11 (i 0)] [0,1,2,7,9,10,11] (.block 3 (.loop [0,1,2,7,9,10,11] f53L0) [0,1,2,7]))))))) [0,1,2,7]))
def f53:gI:=a 3 [.tmp 6] false
 (s [k 6 (.aT)] [0,1,2]
 (s [k 7 (.aT)] [0,1,2,7] (.seq (.block 0 (.loop [0,1,2,7] f53L1) [7])
 (s [m 90 7,
 m 6 90] [6]
 .ret))))
def f54L0:aK:=(.seq (s [m 6 5,
 m 7 0,
 u 8 (.len false (.t 7)),
 b 9 .lss (.t 6) (.t 8)] [0,3,4,5,9] (.cond (.t 9) .skip (.exit 0) [0,3,4,5])) (.seq (.block 1 (s [m 12 0,
 m 13 5,
 u 14 (.qm 1 (.t 12) (.t 13)),
 ld 15 1 14,
 b 16 .gtr (.t 15) (c 0)] [0,3,4,5,16] (.cond (.t 16) (s [m 17 3,
 b 18 .add (.t 17) (c 1),
 m 3 18] [0,3,5]
 (.qZ [m 19 0,
 m 20 5,
 u 21 (.qm 1 (.t 19) (.t 20)),
 ld 22 1 21,
 m 4 22] [0,3,4,5]))
 .skip [0,3,4,5])) [0,3,4,5])
 (.qZ [m 10 5,
 b 11 .add (.t 10) (c 1),
 m 5 11] [0,3,4,5])))
def f54:gI:=a 1 [.tmp 2] true
 (s [k 2 (.bool false)] [0]
 (s [k 3 (i 0),
 k 4 (i 0)] [0,3,4] (.seq (s [k 5 (i 0)] [0,3,4,5] (.block 0 (.loop [0,3,4,5] f54L0) [3,4]))
 (s [m 23 3,
 b 24 .eql (.t 23) (c 0),
 m 25 24,
 mg 26 3 25 false,
 g 27 25 false (.bin .eql (.t 26) (c 1)),
 mg 28 27 25 false,
 mg 29 4 28 true,
 g 30 28 true (.bin .eql (.t 29) (c 1)),
 g 31 25 false (.pick (.t 28) (.t 30) f),
 pk 32 (.t 25) y (.t 31),
 m 2 32] [2]
 .ret))))
def f58L0:aK:=
 (s [b 34 .lss (.t 33) (.t 32)] [0,6,32,33,34] (.seq (.cond (.t 34) .skip (.exit 1) [0,6,32,33]) (.seq (.block 2 (s [m 35 33,
 m 7 35] [0,6,7,32,33] (.seq (.jS [0,1,2,3,4,5,6,7,8,9,10,11,12,13,14,15,16,17,18,19,20,21,22] [m 36 6,
 m 37 0,
 nc 38 37,
 fa 39 0 38,
 ld 40 1 39,
 m 41 0,
 nc 42 41,
 fa 43 1 42,
 ld 44 1 43,
 b 45 .quo (.t 44) (c 8),
 u 46 (.idxs (.t 40) (.t 45)),
 m 47 0,
 nc 48 47,
 fa 49 1 48,
 ld 50 1 49,
 b 51 .rem (.t 50) (c 8),
 b 52 .shr (.t 46) (.t 51),
 b 53 .and (.t 52) (.c (.int .u8 1)),
 u 54 (.conv .i64 (.t 53)),
 m 55 7,
 b 56 .shl (.t 54) (.t 55),
 b 57 .or (.t 36) (.t 56),
 m 6 57] [] [0,6,32,33])
 (.qZ [m 58 0,
 nc 59 58,
 fa 60 1 59,
 ld 61 1 60,
 b 62 .add (.t 61) (c 1),
 nc 63 58,
 fa 64 1 63,
 ⟨none,.store 1 (.t 64) (.t 62),none⟩] [0,6,32,33]))) [0,6,32,33])
 (.qZ [b 65 .add (.t 33) (c 1),
 m 33 65] [0,6,32,33]))))
def f58:gI:=a 2 [.tmp 4,.tmp 5] false
 (s [k 4 (i 0),
 k 5 (i 0)] [0,1] (.seq (.block 0 (s [m 9 0,
 u 10 (.nj 0 false (.t 9) (.c (.c9))),
 m 8 10] [0,1,8] (.cond (.t 8) (s [k 4 (i 0),
 k 5 (i 1)] [4,5]
 .ret)
 (s [m 12 1,
 b 13 .lss (.t 12) (c 0),
 m 14 13,
 mg 15 1 14 false,
 g 16 14 false (.bin .gtr (.t 15) (c 16)),
 pk 17 (.t 14) y (.t 16),
 m 11 17] [0,1,11] (.cond (.t 11) (s [k 4 (i 0),
 k 5 (i 100)] [4,5]
 .ret) (.seq (.jS [0,1,2,3,4,5,6,7,8,9,10,11,12,13] [m 19 1,
 m 20 0,
 nc 21 20,
 fa 22 0 21,
 ld 23 1 22,
 u 24 (.len true (.t 23)),
 b 25 .mul (c 8) (.t 24),
 m 26 0,
 nc 27 26,
 fa 28 1 27,
 ld 29 1 28,
 b 30 .sub (.t 25) (.t 29),
 b 31 .gtr (.t 19) (.t 30),
 m 18 31] [] [0,1,18]) (.cond (.t 18) (s [k 4 (i 0),
 k 5 (i 101)] [4,5]
 .ret)
 .skip [0,1])) [0,1])) [0,1])) [0,1])
 (s [k 6 (i 0)] [0,1,6] (.seq (s [m 32 1,
 k 33 (i 0)] [0,6,32,33] (.block 1 (.loop [0,6,32,33] f58L0) [6]))
 (s [m 66 6,
 m 4 66,
 k 5 (i 0)] [4,5]
 .ret)))))
def f59:gI:=a 2 [] false (.seq (.seq (.jS [0,1,2,3,4,5,6,7,8,9] [m 4 0,
 nc 5 4,
 fa 6 1 5,
 ld 7 1 6,
 u 8 (.len false (.t 7)),
 m 9 0,
 nc 10 9,
 fa 11 2 10,
 ld 12 1 11,
 b 13 .geq (.t 8) (.t 12)] [] [0,1,13]) (.cond (.t 13) (.qZ [m 14 0,
 cl 15 45 [(.t 14),(c 701)]] [0,1])
 .skip [0,1]))
 (s [m 16 0,
 nc 17 16,
 fa 18 3 17,
 ld 19 1 18,
 b 20 .eql (.t 19) (c 0)] [0,1,20] (.cond (.t 20) (.qZ [m 21 0,
 m 22 0,
 nc 23 22,
 fa 24 1 23,
 ld 25 1 24,
 m 26 1,
 u 27 (.dw 1 1 [.int .u8 0] [(0,(.t 26))]),
 u 28 (.app 1 1 (.t 25) (.t 27)),
 nc 29 21,
 fa 30 1 29,
 ⟨none,.store 1 (.t 30) (.t 28),none⟩] [])
 .skip [])))
def f60L0:aK:=(.seq (s [m 9 6,
 b 10 .leq (.t 9) (c 15),
 m 11 10,
 mg 12 0 11 true,
 g 13 11 true (.qy (.t 12)),
 g 14 11 true (.qk 3 (.t 13)),
 g 15 11 true (.load false 1 (.t 14)),
 g 16 11 true (.bin .eql (.t 15) (c 0)),
 pk 17 (.t 11) (.t 16) f] [0,1,5,6,17] (.cond (.t 17) .skip (.exit 0) [0,1,5,6])) (.seq (.block 1 (s [m 20 5,
 b 21 .mul (.t 20) (c 2),
 m 22 0,
 cl 23 38 [(.t 22),(c 1)],
 b 24 .add (.t 21) (.t 23),
 m 5 24] [0,1,5,6]
 (s [m 26 1,
 m 27 6,
 m 28 5,
 cl 29 72 [(.t 26),(.t 27),(.t 28)],
 m 25 29,
 ex 30 25 0,
 ex 31 25 1,
 m 7 30,
 m 8 31] [0,1,5,6,7,8]
 (s [m 32 8,
 m 33 32,
 mg 34 0 33 true,
 g 35 33 true (.qy (.t 34)),
 g 36 33 true (.qk 3 (.t 35)),
 g 37 33 true (.load false 1 (.t 36)),
 g 38 33 true (.bin .eql (.t 37) (c 0)),
 pk 39 (.t 33) (.t 38) f] [0,1,5,6,7,39] (.cond (.t 39) (s [m 40 7,
 m 4 40] [4]
 .ret)
 .skip [0,1,5,6])))) [0,1,5,6])
 (.qZ [m 18 6,
 b 19 .add (.t 18) (c 1),
 m 6 19] [0,1,5,6])))
def f60:gI:=a 2 [.tmp 4] false
 (s [k 4 (i 0)] [0,1]
 (s [k 5 (i 0)] [0,1,5] (.seq (s [k 6 (i 1)] [0,1,5,6] (.block 0 (.loop [0,1,5,6] f60L0) [0]))
 (s [m 41 0,
 cl 42 45 [(.t 41),(c 700)]] []
 (s [k 4 (i 256)] [4]
 .ret)))))
def f61L0:aK:=(.seq (s [m 45 6,
 b 46 .gtr (.t 45) (c 0),
 m 47 46,
 mg 48 0 47 true,
 g 49 47 true (.qy (.t 48)),
 g 50 47 true (.qk 3 (.t 49)),
 g 51 47 true (.load false 1 (.t 50)),
 g 52 47 true (.bin .eql (.t 51) (c 0)),
 pk 53 (.t 47) (.t 52) f] [0,6,8,53] (.cond (.t 53) .skip (.exit 0) [0,6,8])) (.seq (.block 1 (.jS [0,1,2,3,4,5,6,7,8,9,10,11,12,13,14] [m 56 0,
 m 57 0,
 nc 58 57,
 fa 59 1 58,
 ld 60 1 59,
 m 61 0,
 nc 62 61,
 fa 63 1 62,
 ld 64 1 63,
 u 65 (.len false (.t 64)),
 m 66 8,
 b 67 .sub (.t 65) (.t 66),
 u 68 (.qm 1 (.t 60) (.t 67)),
 ld 69 1 68,
 cl 70 59 [(.t 56),(.t 69)]] [] [0,6,8]) [0,6,8])
 (.qZ [m 54 6,
 b 55 .sub (.t 54) (c 1),
 m 6 55] [0,6,8])))
def f61:gI:=a 3 [] false
 (s [m 9 0,
 m 10 1,
 cl 11 74 [(.t 10)],
 ex 12 11 0,
 ex 13 11 1,
 ex 14 11 2,
 cl 15 73 [(.t 9),(.t 12),(.t 13),(.t 14)],
 m 6 15] [0,2,6] (.seq (s [m 16 0,
 nc 17 16,
 fa 18 3 17,
 ld 19 1 18,
 b 20 .neq (.t 19) (c 0)] [0,2,6,20] (.cond (.t 20) .ret
 .skip [0,2,6]))
 (s [m 21 0,
 m 22 2,
 cl 23 60 [(.t 21),(.t 22)],
 m 7 23] [0,6,7] (.seq (s [m 24 0,
 nc 25 24,
 fa 26 3 25,
 ld 27 1 26,
 b 28 .neq (.t 27) (c 0)] [0,6,7,28] (.cond (.t 28) .ret
 .skip [0,6,7]))
 (s [m 29 0,
 m 30 7,
 cl 31 75 [(.t 30)],
 ex 32 31 0,
 ex 33 31 1,
 ex 34 31 2,
 cl 35 73 [(.t 29),(.t 32),(.t 33),(.t 34)],
 m 8 35] [0,6,8] (.seq (s [m 36 8,
 m 37 0,
 nc 38 37,
 fa 39 1 38,
 ld 40 1 39,
 u 41 (.len false (.t 40)),
 b 42 .gtr (.t 36) (.t 41)] [0,6,8,42] (.cond (.t 42) (.qZ [m 43 0,
 cl 44 45 [(.t 43),(c 700)]] [0,6,8])
 .skip [0,6,8])) (.block 0 (.loop [0,6,8] f61L0) [])))))))
def f62L0:aK:=
 (s [b 28 .lss (.t 27) (.t 26)] [6,25,26,27,28] (.seq (.cond (.t 28) .skip (.exit 2) [6,25,26,27]) (.seq (.block 3 (s [u 29 (.qm 1 (.t 25) (.t 27)),
 ld 30 1 29,
 m 8 30] [6,8,25,26,27]
 (.qZ [m 31 6,
 m 32 8,
 u 33 (.app 1 8 (.t 31) (.t 32)),
 m 6 33] [6,25,26,27])) [6,25,26,27])
 (.qZ [b 34 .add (.t 27) (c 1),
 m 27 34] [6,25,26,27]))))
def f62L1:aK:=
 (s [b 12 .lss (.t 11) (.t 10)] [0,3,9,10,11,12] (.seq (.cond (.t 12) .skip (.exit 0) [0,3,9,10,11]) (.seq (.block 1 (s [u 13 (.qm 1 (.t 9) (.t 11)),
 ld 14 1 13,
 m 5 14] [0,3,5,9,10,11]
 (s [m 15 3,
 m 16 5,
 u 17 (.len false (.t 16)),
 b 18 .add (.t 15) (.t 17),
 m 3 18] [0,3,9,10,11]
 (s [m 19 3,
 b 20 .lss (.t 19) (c 0)] [0,3,9,10,11,20] (.cond (.t 20) (.qZ [u 21 (.qx 0 (.c (.str ⟨#[108,101,110,32,111,117,116,32,111,102,32,114,97,110,103,101]⟩))),
 ⟨none,.wW,none⟩] [0,3,9,10,11])
 .skip [0,3,9,10,11])))) [0,3,9,10,11])
 (.qZ [b 22 .add (.t 11) (c 1),
 m 11 22] [0,3,9,10,11]))))
def f62:gI:=a 1 [.tmp 2] true
 (s [k 2 (.aT)] [0]
 (s [k 3 (i 0)] [0,3] (.seq (s [m 9 0,
 u 10 (.len false (.t 9)),
 k 11 (i 0)] [0,3,9,10,11] (.block 0 (.loop [0,3,9,10,11] f62L1) [0,3]))
 (s [m 23 3,
 cl 24 76 [(.c (.aT)),(.t 23)],
 m 6 24] [0,6] (.seq (s [m 25 0,
 u 26 (.len false (.t 25)),
 k 27 (i 0)] [6,25,26,27] (.block 2 (.loop [6,25,26,27] f62L0) [6]))
 (s [m 35 6,
 m 2 35] [2]
 .ret))))))
def f63:gI:=a 2 [.tmp 4,.tmp 5] true
 (s [k 4 (.int .u64 0),
 k 5 (.int .u64 0)] [0,1] (.seq (.cond f (s [m 11 0,
 u 12 (.conv .u32 (.t 11)),
 m 13 1,
 u 14 (.conv .u32 (.t 13)),
 cl 15 77 [(.t 12),(.t 14)],
 m 10 15,
 ex 16 10 0,
 ex 17 10 1,
 m 6 16,
 m 7 17] [6,7]
 (s [m 18 6,
 u 19 (.conv .u64 (.t 18)),
 m 20 7,
 u 21 (.conv .u64 (.t 20)),
 m 4 19,
 m 5 21] [4,5]
 .ret))
 .skip [0,1])
 (s [m 23 0,
 m 24 1,
 cl 25 78 [(.t 23),(.t 24)],
 m 22 25,
 ex 26 22 0,
 ex 27 22 1,
 m 8 26,
 m 9 27] [8,9]
 (s [m 28 8,
 m 29 9,
 m 4 28,
 m 5 29] [4,5]
 .ret))))
def f64L0:aK:=(.seq (s [m 36 10,
 u 37 (.len false (.t 36)),
 m 38 1,
 b 39 .lss (.t 37) (.t 38),
 m 40 39,
 mg 41 0 40 true,
 g 42 40 true (.qy (.t 41)),
 g 43 40 true (.qk 3 (.t 42)),
 g 44 40 true (.load false 1 (.t 43)),
 g 45 40 true (.bin .eql (.t 44) (c 0)),
 pk 46 (.t 40) (.t 45) f] [0,1,9,10,46] (.cond (.t 46) .skip (.exit 2) [0,1,9,10])) (.block 3 (s [m 48 0,
 m 49 0,
 m 50 9,
 cl 51 60 [(.t 49),(.t 50)],
 m 52 10,
 cl 53 80 [(.t 48),(.t 51),(.t 52)],
 m 47 53,
 ex 54 47 0,
 ex 55 47 1,
 m 11 54,
 m 12 55] [0,1,9,10,11,12]
 (.qZ [m 56 10,
 m 57 11,
 u 58 (.dw 1 1 [i 0] [(0,(.t 57))]),
 m 59 12,
 cl 60 43 [(.t 58),(.t 59)],
 u 61 (.app 1 8 (.t 56) (.t 60)),
 m 10 61] [0,1,9,10])) [0,1,9,10]))
def f64L1:aK:=
 (s [b 21 .lss (.t 20) (.t 19)] [0,1,5,18,19,20,21] (.seq (.cond (.t 21) .skip (.exit 0) [0,1,5,18,19,20]) (.seq (.block 1 (s [u 22 (.qm 1 (.t 18) (.t 20)),
 ld 23 1 22,
 m 8 23] [0,1,5,8,18,19,20]
 (.qZ [m 24 8,
 m 25 0,
 cl 26 38 [(.t 25),(c 3)],
 u 27 (.mQ 19 1 (.t 5) (.t 24)),
 ⟨none,.store 1 (.t 27) (.t 26),none⟩] [0,1,5,18,19,20])) [0,1,5,18,19,20])
 (.qZ [b 28 .add (.t 20) (c 1),
 m 20 28] [0,1,5,18,19,20]))))
def f64:gI:=a 2 [.tmp 4] false
 (s [k 4 (.aT)] [0,1]
 (s [u 5 (.alloc [i 0,i 0,i 0,i 0,i 0,i 0,i 0,i 0,i 0,i 0,i 0,i 0,i 0,i 0,i 0,i 0,i 0,i 0,i 0])] [0,1,5]
 (s [cl 13 79 [],
 m 6 13] [0,1,5,6] (.seq (s [m 14 6,
 m 15 0,
 cl 16 38 [(.t 15),(c 4)],
 b 17 .add (.t 16) (c 4),
 u 18 (.sl 1 (.t 14) none (some (.t 17)) none),
 u 19 (.len false (.t 18)),
 k 20 (i 0)] [0,1,5,18,19,20] (.block 0 (.loop [0,1,5,18,19,20] f64L1) [0,1,5])) (.seq (s [u 29 (.uZ 19 1 (.t 5) none none),
 cl 30 65 [(.t 29)],
 b 31 .neq (.t 30) (c 0)] [0,1,5,31] (.cond (.t 31) (.qZ [m 32 0,
 cl 33 45 [(.t 32),(c 700)]] [0,1,5])
 .skip [0,1,5]))
 (s [u 34 (.uZ 19 1 (.t 5) none none),
 cl 35 41 [(.t 34)],
 m 9 35] [0,1,9]
 (s [k 10 (.aT)] [0,1,9,10] (.seq (.block 2 (.loop [0,1,9,10] f64L0) [0,1,10]) (.seq (s [m 62 10,
 u 63 (.len false (.t 62)),
 m 64 1,
 b 65 .gtr (.t 63) (.t 64)] [0,10,65] (.cond (.t 65) (.qZ [m 66 0,
 cl 67 45 [(.t 66),(c 700)]] [10])
 .skip [10]))
 (s [m 68 10,
 m 4 68] [4]
 .ret))))))))))
def f65:gI:=a 1 [.tmp 2] true
 (s [k 2 (i 0)] [0] (.seq (s [m 4 0,
 cl 5 81 [(.t 4)],
 u 6 (.not (.t 5))] [0,6] (.cond (.t 6) (s [k 2 (i 300)] [2]
 .ret)
 .skip [0])) (.seq (s [m 7 0,
 cl 8 41 [(.t 7)],
 nc 9 8,
 fa 10 48 9,
 ld 11 1 10,
 m 3 11] [3] (.block 0 (s [m 13 3,
 b 14 .lss (.t 13) (c 0),
 m 12 14] [3,12] (.cond (.t 12) (s [k 2 (i 301)] [2]
 .ret)
 (s [m 16 3,
 b 17 .gtr (.t 16) (c 0),
 m 15 17] [15] (.cond (.t 15) (s [k 2 (i 302)] [2]
 .ret)
 .skip [])) [])) []))
 (s [k 2 (i 0)] [2]
 .ret))))
def f66L0:aK:=
 (s [b 9 .lss (.t 8) (.t 7)] [3,6,7,8,9] (.seq (.cond (.t 9) .skip (.exit 0) [3,6,7,8]) (.seq (.block 1 (s [u 10 (.qm 1 (.t 6) (.t 8)),
 ld 11 1 10,
 m 5 11] [3,5,6,7,8]
 (.qZ [m 12 3,
 m 13 5,
 b 14 .add (.t 12) (.t 13),
 m 3 14] [3,6,7,8])) [3,6,7,8])
 (.qZ [b 15 .add (.t 8) (c 1),
 m 8 15] [3,6,7,8]))))
def f66:gI:=a 1 [.tmp 2] true
 (s [k 2 (.bool false)] [0]
 (s [k 3 (i 0)] [0,3] (.seq (s [m 6 0,
 u 7 (.len false (.t 6)),
 k 8 (i 0)] [3,6,7,8] (.block 0 (.loop [3,6,7,8] f66L0) [3]))
 (s [m 16 3,
 b 17 .leq (.t 16) (c 1),
 m 2 17] [2]
 .ret))))
def f67L0:aK:=(.seq (s [m 12 3,
 m 13 0,
 u 14 (.len false (.t 13)),
 b 15 .lss (.t 12) (.t 14)] [0,3,15] (.cond (.t 15) .skip (.exit 0) [0,3])) (.seq (.block 1 (s [m 18 0,
 m 19 3,
 u 20 (.qm 1 (.t 18) (.t 19)),
 ld 21 1 20,
 b 22 .lss (.t 21) (c 0),
 m 23 22,
 mg 24 0 23 false,
 mg 25 3 23 false,
 g 26 23 false (.qm 1 (.t 24) (.t 25)),
 g 27 23 false (.load false 1 (.t 26)),
 g 28 23 false (.bin .gtr (.t 27) (c 15)),
 pk 29 (.t 23) y (.t 28)] [0,3,29] (.cond (.t 29) (s [k 2 (.bool false)] [2]
 .ret)
 .skip [0,3])) [0,3])
 (.qZ [m 16 3,
 b 17 .add (.t 16) (c 1),
 m 3 17] [0,3])))
def f67:gI:=a 1 [.tmp 2] true
 (s [k 2 (.bool false)] [0] (.seq (s [m 4 0,
 u 5 (.len false (.t 4)),
 b 6 .lss (.t 5) (c 1),
 m 7 6,
 mg 8 0 7 false,
 g 9 7 false (.len false (.t 8)),
 g 10 7 false (.bin .gtr (.t 9) (c 288)),
 pk 11 (.t 7) y (.t 10)] [0,11] (.cond (.t 11) (s [k 2 (.bool false)] [2]
 .ret)
 .skip [0])) (.seq (s [k 3 (i 0)] [0,3] (.block 0 (.loop [0,3] f67L0) []))
 (s [k 2 (.bool true)] [2]
 .ret))))
def f68L0:aK:=(.seq (s [m 5 4,
 m 6 0,
 u 7 (.len false (.t 6)),
 b 8 .lss (.t 5) (.t 7)] [0,3,4,8] (.cond (.t 8) .skip (.exit 0) [0,3,4])) (.seq (.block 1 (s [m 11 0,
 m 12 4,
 u 13 (.qm 1 (.t 11) (.t 12)),
 ld 14 1 13,
 b 15 .gtr (.t 14) (c 0)] [0,3,4,15] (.cond (.t 15) (.qZ [m 16 3,
 m 17 0,
 m 18 4,
 u 19 (.qm 1 (.t 17) (.t 18)),
 ld 20 1 19,
 b 21 .sub (c 15) (.t 20),
 b 22 .shl (c 1) (.t 21),
 b 23 .add (.t 16) (.t 22),
 m 3 23] [0,3,4])
 .skip [0,3,4])) [0,3,4])
 (.qZ [m 9 4,
 b 10 .add (.t 9) (c 1),
 m 4 10] [0,3,4])))
def f68:gI:=a 1 [.tmp 2] true
 (s [k 2 (i 0)] [0]
 (s [k 3 (i 0)] [0,3] (.seq (s [k 4 (i 0)] [0,3,4] (.block 0 (.loop [0,3,4] f68L0) [3]))
 (s [m 24 3,
 m 2 24] [2]
 .ret))))
def f72:gI:=a 3 [.tmp 6,.tmp 7] false
 (s [k 6 (i 0),
 k 7 (.bool false)] [0,1,2] (.seq (.seq (.jS [0,1,2,3,4,5,6,7,8,9,10,11,12,13,14,15,16,17,18,19,20,21,22,23,24,25,26,27,28,29,30,31,32] [m 8 1,
 b 9 .lss (.t 8) (c 1),
 m 10 9,
 mg 11 1 10 false,
 g 12 10 false (.bin .gtr (.t 11) (c 15)),
 pk 13 (.t 10) y (.t 12),
 m 14 13,
 mg 15 2 14 false,
 mg 16 0 14 false,
 mg 17 1 14 false,
 g 18 14 false (.qy (.t 16)),
 g 19 14 false (.qk 0 (.t 18)),
 g 20 14 false (.mQ 16 1 (.t 19) (.t 17)),
 g 21 14 false (.load false 1 (.t 20)),
 g 22 14 false (.bin .lss (.t 15) (.t 21)),
 pk 23 (.t 14) y (.t 22),
 m 24 23,
 mg 25 2 24 false,
 mg 26 0 24 false,
 mg 27 1 24 false,
 g 28 24 false (.qy (.t 26)),
 g 29 24 false (.qk 0 (.t 28)),
 g 30 24 false (.mQ 16 1 (.t 29) (.t 27)),
 g 31 24 false (.load false 1 (.t 30)),
 g 32 24 false (.bin .sub (.t 25) (.t 31)),
 mg 33 0 24 false,
 mg 34 1 24 false,
 g 35 24 false (.qy (.t 33)),
 g 36 24 false (.qk 16 (.t 35)),
 g 37 24 false (.mQ 16 1 (.t 36) (.t 34)),
 g 38 24 false (.load false 1 (.t 37)),
 g 39 24 false (.bin .geq (.t 32) (.t 38)),
 pk 40 (.t 24) y (.t 39)] [] [0,1,2,40]) (.cond (.t 40) (s [k 6 (i 0),
 k 7 (.bool false)] [6,7]
 .ret)
 .skip [0,1,2])) (.seq (.jS [0,1,2,3,4,5,6,7,8,9,10,11,12,13,14,15,16,17] [m 41 0,
 m 42 1,
 nc 43 41,
 fa 44 32 43,
 u 45 (.mQ 16 1 (.t 44) (.t 42)),
 ld 46 1 45,
 m 47 2,
 m 48 0,
 m 49 1,
 nc 50 48,
 fa 51 0 50,
 u 52 (.mQ 16 1 (.t 51) (.t 49)),
 ld 53 1 52,
 b 54 .sub (.t 47) (.t 53),
 u 55 (.qm 1 (.t 46) (.t 54)),
 ld 56 1 55,
 m 6 56,
 k 7 (.bool true)] [] [6,7])
 .ret)))
def f73:gI:=a 4 [.tmp 8] false
 (s [k 8 (i 0)] [0,1,2,3] (.seq (s [m 9 3,
 b 10 .neq (.t 9) (c 0)] [0,1,2,10] (.cond (.t 10) (.qZ [m 11 0,
 cl 12 45 [(.t 11),(c 700)]] [0,1,2])
 .skip [0,1,2]))
 (s [m 13 1,
 m 14 0,
 m 15 2,
 cl 16 38 [(.t 14),(.t 15)],
 b 17 .add (.t 13) (.t 16),
 m 8 17] [8]
 .ret)))
def f74:gI:=a 1 [.tmp 2,.tmp 3,.tmp 4] true
 (s [k 2 (i 0),
 k 3 (i 0),
 k 4 (i 0)] [0]
 (s [m 7 0,
 b 8 .sub (.t 7) (c 256),
 b 9 .sub (.t 8) (c 1),
 m 5 9] [0,5] (.seq (.block 0 (s [m 11 0,
 b 12 .leq (.t 11) (c 256),
 m 13 12,
 mg 14 0 13 false,
 g 15 13 false (.bin .gtr (.t 14) (c 285)),
 pk 16 (.t 13) y (.t 15),
 m 10 16] [0,5,10] (.cond (.t 10) (s [k 2 (i 0),
 k 3 (i 0),
 k 4 (i 600)] [2,3,4]
 .ret)
 (s [m 18 0,
 b 19 .eql (.t 18) (c 285),
 m 17 19] [5,17] (.cond (.t 17) (s [k 2 (i 258),
 k 3 (i 0),
 k 4 (i 0)] [2,3,4]
 .ret)
 (s [m 21 5,
 b 22 .lss (.t 21) (c 8),
 m 20 22] [5,20] (.cond (.t 20) (s [m 23 5,
 b 24 .add (c 3) (.t 23),
 m 2 24,
 k 3 (i 0),
 k 4 (i 0)] [2,3,4]
 .ret)
 .skip [5])) [5])) [5])) [5])
 (s [m 25 5,
 b 26 .quo (.t 25) (c 4),
 b 27 .sub (.t 26) (c 1),
 m 6 27] [5,6]
 (s [m 28 5,
 b 29 .rem (.t 28) (c 4),
 b 30 .add (c 4) (.t 29),
 m 31 6,
 b 32 .shl (.t 30) (.t 31),
 b 33 .add (c 3) (.t 32),
 m 34 6,
 m 2 33,
 m 3 34,
 k 4 (i 0)] [2,3,4]
 .ret)))))
def f75:gI:=a 1 [.tmp 2,.tmp 3,.tmp 4] true
 (s [k 2 (i 0),
 k 3 (i 0),
 k 4 (i 0)] [0] (.seq (.block 0 (s [m 7 0,
 b 8 .lss (.t 7) (c 0),
 m 9 8,
 mg 10 0 9 false,
 g 11 9 false (.bin .geq (.t 10) (c 30)),
 pk 12 (.t 9) y (.t 11),
 m 6 12] [0,6] (.cond (.t 6) (s [k 2 (i 0),
 k 3 (i 0),
 k 4 (i 600)] [2,3,4]
 .ret)
 (s [m 14 0,
 b 15 .lss (.t 14) (c 4),
 m 13 15] [0,13] (.cond (.t 13) (s [m 16 0,
 b 17 .add (c 1) (.t 16),
 m 2 17,
 k 3 (i 0),
 k 4 (i 0)] [2,3,4]
 .ret)
 .skip [0])) [0])) [0])
 (s [m 18 0,
 b 19 .quo (.t 18) (c 2),
 b 20 .sub (.t 19) (c 1),
 m 5 20] [0,5]
 (s [m 21 0,
 b 22 .rem (.t 21) (c 2),
 b 23 .add (c 2) (.t 22),
 m 24 5,
 b 25 .shl (.t 23) (.t 24),
 b 26 .add (c 1) (.t 25),
 m 27 5,
 m 2 26,
 m 3 27,
 k 4 (i 0)] [2,3,4]
 .ret))))
def f76:gI:=a 2 [.tmp 4] false
 (s [k 4 (.aT)] [0,1] (.seq (s [m 5 1,
 b 6 .lss (.t 5) (c 0)] [0,1,6] (.cond (.t 6) (.qZ [u 7 (.qx 0 (.c (.str ⟨#[99,97,110,110,111,116,32,98,101,32,110,101,103,97,116,105,118,101]⟩))),
 ⟨none,.wW,none⟩] [0,1])
 .skip [0,1])) (.seq (s [m 8 1,
 m 9 0,
 u 10 (.cap (.t 9)),
 m 11 0,
 u 12 (.len false (.t 11)),
 b 13 .sub (.t 10) (.t 12),
 b 14 .sub (.t 8) (.t 13),
 m 1 14] [0,1]
 (s [m 15 1,
 b 16 .gtr (.t 15) (c 0)] [0,1,16] (.cond (.t 16) (.qZ [m 17 0,
 m 18 0,
 u 19 (.cap (.t 18)),
 u 20 (.sl 1 (.t 17) none (some (.t 19)) none),
 m 21 1,
 u 22 (.lz 1 8 [i 0] (.t 20) (.t 21)),
 m 23 0,
 u 24 (.len false (.t 23)),
 u 25 (.sl 1 (.t 22) none (some (.t 24)) none),
 m 0 25] [0])
 .skip [0])))
 (s [m 26 0,
 m 4 26] [4]
 .ret))))
def f77:gI:=a 2 [.tmp 4,.tmp 5] true
 (s [k 4 (.int .u32 0),
 k 5 (.int .u32 0)] [0,1]
 (s [m 7 0,
 u 8 (.conv .u64 (.t 7)),
 m 9 1,
 u 10 (.conv .u64 (.t 9)),
 b 11 .mul (.t 8) (.t 10),
 m 6 11] [6]
 (s [m 12 6,
 b 13 .shr (.t 12) (.c (.int .u64 32)),
 u 14 (.conv .u32 (.t 13)),
 m 15 6,
 u 16 (.conv .u32 (.t 15)),
 m 4 14,
 m 5 16] [4,5]
 .ret)))
def f78:gI:=a 2 [.tmp 4,.tmp 5] true
 (s [k 4 (.int .u64 0),
 k 5 (.int .u64 0)] [0,1]
 (s [m 14 0,
 b 15 .and (.t 14) (.c (.int .u64 4294967295)),
 m 6 15] [0,1,6]
 (s [m 16 0,
 b 17 .shr (.t 16) (.c (.int .u64 32)),
 m 7 17] [0,1,6,7]
 (s [m 18 1,
 b 19 .and (.t 18) (.c (.int .u64 4294967295)),
 m 8 19] [0,1,6,7,8]
 (s [m 20 1,
 b 21 .shr (.t 20) (.c (.int .u64 32)),
 m 9 21] [0,1,6,7,8,9]
 (s [m 22 6,
 m 23 8,
 b 24 .mul (.t 22) (.t 23),
 m 10 24] [0,1,6,7,8,9,10]
 (s [m 25 7,
 m 26 8,
 b 27 .mul (.t 25) (.t 26),
 m 28 10,
 b 29 .shr (.t 28) (.c (.int .u64 32)),
 b 30 .add (.t 27) (.t 29),
 m 11 30] [0,1,6,7,9,11]
 (s [m 31 11,
 b 32 .and (.t 31) (.c (.int .u64 4294967295)),
 m 12 32] [0,1,6,7,9,11,12]
 (s [m 33 11,
 b 34 .shr (.t 33) (.c (.int .u64 32)),
 m 13 34] [0,1,6,7,9,12,13]
 (s [m 35 12,
 m 36 6,
 m 37 9,
 b 38 .mul (.t 36) (.t 37),
 b 39 .add (.t 35) (.t 38),
 m 12 39] [0,1,7,9,12,13]
 (s [m 40 7,
 m 41 9,
 b 42 .mul (.t 40) (.t 41),
 m 43 13,
 b 44 .add (.t 42) (.t 43),
 m 45 12,
 b 46 .shr (.t 45) (.c (.int .u64 32)),
 b 47 .add (.t 44) (.t 46),
 m 4 47] [0,1,4]
 (s [m 48 0,
 m 49 1,
 b 50 .mul (.t 48) (.t 49),
 m 5 50] [4,5]
 .ret))))))))))))
def f79:gI:=a 0 [.tmp 0] true
 (s [k 0 (.aT)] []
 (s [u 1 (.dw 1 19 [i 0] [(0,(c 16)),(1,(c 17)),(2,(c 18)),(3,(c 0)),(4,(c 8)),(5,(c 7)),(6,(c 9)),(7,(c 6)),(8,(c 10)),(9,(c 5)),(10,(c 11)),(11,(c 4)),(12,(c 12)),(13,(c 3)),(14,(c 13)),(15,(c 2)),(16,(c 14)),(17,(c 1)),(18,(c 15))]),
 m 0 1] [0]
 .ret))
def f80:gI:=a 3 [.tmp 6,.tmp 7] false
 (s [k 6 (i 0),
 k 7 (i 0)] [0,1,2] (.seq (s [m 8 1] [0,1,2,8] (.block 0 (s [b 10 .eql (.t 8) (c 16),
 m 9 10] [0,1,2,8,9] (.cond (.t 9) (.seq (s [m 11 2,
 u 12 (.len false (.t 11)),
 b 13 .eql (.t 12) (c 0)] [0,2,13] (.cond (.t 13) (s [m 14 0,
 cl 15 45 [(.t 14),(c 700)]] []
 (s [k 6 (i 0),
 k 7 (i 0)] [6,7]
 .ret))
 .skip [0,2])) (.seq (.jS [0,1,2,3,4,5,6,7,8,9,10] [m 16 2,
 m 17 2,
 u 18 (.len false (.t 17)),
 b 19 .sub (.t 18) (c 1),
 u 20 (.qm 1 (.t 16) (.t 19)),
 ld 21 1 20,
 m 22 0,
 cl 23 38 [(.t 22),(c 2)],
 b 24 .add (c 3) (.t 23),
 m 6 21,
 m 7 24] [(5,[1])] [6,7])
 .ret))
 (s [b 26 .eql (.t 8) (c 17),
 m 25 26] [0,1,8,25] (.cond (.t 25) (s [m 27 0,
 cl 28 38 [(.t 27),(c 3)],
 b 29 .add (c 3) (.t 28),
 k 6 (i 0),
 m 7 29] [6,7]
 .ret)
 (s [b 31 .eql (.t 8) (c 18),
 m 30 31] [0,1,30] (.cond (.t 30) (s [m 32 0,
 cl 33 38 [(.t 32),(c 7)],
 b 34 .add (c 11) (.t 33),
 k 6 (i 0),
 m 7 34] [6,7]
 .ret)
 .skip [1])) [1])) [1])) [1]))
 (s [m 35 1,
 m 6 35,
 k 7 (i 1)] [6,7]
 .ret)))
def f81:gI:=a 1 [.tmp 2] true
 (s [k 2 (.bool false)] [0]
 (s [k 3 (.fn 82 [] [])] [0,3]
 (s [m 4 0,
 u 5 (.len false (.t 4)),
 b 6 .geq (.t 5) (c 1),
 m 7 6,
 mg 8 0 7 true,
 g 9 7 true (.len false (.t 8)),
 g 10 7 true (.bin .leq (.t 9) (c 288)),
 pk 11 (.t 7) (.t 10) f,
 m 12 11,
 mg 13 0 12 true,
 mg 14 3 12 true,
 g 15 12 true (.call (.c (.fn 83 [] [])) [(.t 13),(.t 14)]),
 g 16 12 true (.not (.t 15)),
 pk 17 (.t 12) (.t 16) f,
 m 2 17] [2]
 .ret)))
def f82:gI:=a 1 [.tmp 2] true
 (s [k 2 (.bool false)] [0]
 (s [m 3 0,
 b 4 .lss (.t 3) (c 0),
 m 5 4,
 mg 6 0 5 false,
 g 7 5 false (.bin .gtr (.t 6) (c 15)),
 pk 8 (.t 5) y (.t 7),
 m 2 8] [2]
 .ret))
def f83:gI:=a 2 [.tmp 4] true
 (s [k 4 (.bool false)] [0,1]
 (s [m 5 0,
 m 6 1,
 cl 7 84 [(.t 5),(.t 6)],
 b 8 .geq (.t 7) (c 0),
 m 4 8] [4]
 .ret))
def f84L0:aK:=
 (s [b 9 .lss (.t 8) (.t 7)] [0,1,7,8,9] (.seq (.cond (.t 9) .skip (.exit 0) [0,1,7,8]) (.seq (.block 1 (s [m 10 8,
 m 5 10] [0,1,5,7,8]
 (s [m 11 1,
 m 12 0,
 m 13 5,
 u 14 (.qm 1 (.t 12) (.t 13)),
 ld 15 1 14,
 u 16 (.call (.t 11) [(.t 15)])] [0,1,5,7,8,16] (.cond (.t 16) (s [m 17 5,
 m 4 17] [4]
 .ret)
 .skip [0,1,7,8]))) [0,1,7,8])
 (.qZ [b 18 .add (.t 8) (c 1),
 m 8 18] [0,1,7,8]))))
def f84:gI:=a 2 [.tmp 4] true
 (s [k 4 (i 0)] [0,1] (.seq (s [m 6 0,
 u 7 (.len false (.t 6)),
 k 8 (i 0)] [0,1,7,8] (.block 0 (.loop [0,1,7,8] f84L0) []))
 (s [k 4 (i (-1))] [4]
 .ret)))
def f92:gI:=a 1 [.cell 2 true 9] false
 (s [u 1 (.box 9 (.t 0)),
 u 2 (.alloc [.str ⟨#[]⟩,.bool false,.aT,i 0,i 0,i 0,.str ⟨#[]⟩,i 0,i 0])] [1,2]
 (s [u 3 (.dw 1 0 [i 0] []),
 fa 4 2 1,
 ld 5 1 4,
 u 6 (.app 1 8 (.t 3) (.t 5)),
 fa 7 2 1,
 ⟨none,.store 1 (.t 7) (.t 6),none⟩] [1,2]
 (s [u 8 (.load true 9 (.t 1)),
 ⟨none,.store 9 (.t 2) (.t 8),none⟩] [2]
 .ret)))
def f95:gI:=a 0 [.tmp 0] true
 (s [k 0 (.bool false)] []
 (s [cl 13 99 [(.c (.str ⟨#[97]⟩)),(c 0),(c 1),(.c (.str ⟨#[104,105]⟩))],
 cl 14 99 [(.c (.str ⟨#[97]⟩)),(c 2),(c 1),(.c (.str ⟨#[104,111]⟩))],
 u 1 (.alloc [.str ⟨#[]⟩,.bool false,.aT,i 0,i 0,i 0,.str ⟨#[]⟩,i 0,i 0]),
 u 2 (.alloc [.str ⟨#[]⟩,.bool false,.aT,i 0,i 0,i 0,.str ⟨#[]⟩,i 0,i 0]),
 ⟨none,.store 9 (.t 1) (.t 13),none⟩,
 ⟨none,.store 9 (.t 2) (.t 14),none⟩] [1,2]
 (s [u 16 (.load true 9 (.t 1)),
 cl 17 100 [(.t 16)],
 m 15 17,
 ex 18 15 0,
 ex 19 15 1,
 m 3 18,
 m 4 19] [1,2,3,4]
 (s [u 21 (.load true 9 (.t 1)),
 u 22 (.load true 9 (.t 2)),
 cl 23 97 [(.t 21),(.t 22)],
 m 20 23,
 ex 24 20 0,
 ex 25 20 1,
 u 5 (.alloc [.str ⟨#[]⟩,.bool false,.aT,i 0,i 0,i 0,.str ⟨#[]⟩,i 0,i 0]),
 ⟨none,.store 9 (.t 5) (.t 24),none⟩,
 m 6 25] [1,3,4,5,6] (.seq (.jS [6,0,1,2,3,4,5,7,8] [u 7 (.alloc [.str ⟨#[]⟩,.bool false,.aT,i 0,i 0,i 0,.str ⟨#[]⟩,i 0,i 0]),
 u 27 (.load true 9 (.t 1)),
 cl 28 99 [(.c (.str ⟨#[98]⟩)),(c 0),(c 1),(.c (.str ⟨#[]⟩))],
 cl 29 97 [(.t 27),(.t 28)],
 m 26 29,
 ex 30 26 0,
 ex 31 26 1,
 ⟨none,.store 9 (.t 7) (.t 30),none⟩,
 m 8 31] [(0,[1,2]),(1,[1])] [1,3,4,5,6,8])
 (s [u 32 (.dw 1 4 [i 0] [(0,(c 9)),(1,(c 0)),(2,(c 0)),(3,(c 0))]),
 u 33 (.build [.str ⟨#[]⟩,.bool false,.aT,i 0,i 0,i 0,.str ⟨#[]⟩,i 0,i 0] [(0,1,(.c (.str ⟨#[97]⟩))),(1,1,y),(2,1,(.t 32)),(3,1,(c 9))]),
 u 9 (.alloc [.str ⟨#[]⟩,.bool false,.aT,i 0,i 0,i 0,.str ⟨#[]⟩,i 0,i 0]),
 ⟨none,.store 9 (.t 9) (.t 33),none⟩] [1,3,4,5,6,8,9]
 (s [u 35 (.load true 9 (.t 9)),
 cl 36 100 [(.t 35)],
 m 34 36,
 ex 37 34 0,
 ex 38 34 1,
 m 10 37,
 m 11 38] [1,3,4,5,6,8,9,11]
 (s [u 39 (.load true 9 (.t 1)),
 cl 40 92 [(.t 39)],
 u 12 (.alloc [.str ⟨#[]⟩,.bool false,.aT,i 0,i 0,i 0,.str ⟨#[]⟩,i 0,i 0]),
 ⟨none,.store 9 (.t 12) (.t 40),none⟩] [3,4,5,6,8,9,11,12]
 (s [fa 41 8 12,
 ld 42 1 41,
 b 43 .xor (.t 42) (c 1),
 fa 44 8 12,
 ⟨none,.store 1 (.t 44) (.t 43),none⟩] [3,4,5,6,8,9,11,12]
 (s [m 45 3,
 b 46 .eql (.t 45) (.c (.str ⟨#[104,105]⟩)),
 m 47 46,
 mg 48 4 47 true,
 g 49 47 true (.call (.c (.fn 9 [] [])) [(.t 48)]),
 g 50 47 true (.bin .eql (.t 49) (c 0)),
 pk 51 (.t 47) (.t 50) f,
 m 52 51,
 g 53 52 true (.qk 6 (.t 5)),
 g 54 52 true (.load false 1 (.t 53)),
 g 55 52 true (.bin .eql (.t 54) (.c (.str ⟨#[104,111]⟩))),
 pk 56 (.t 52) (.t 55) f,
 m 57 56,
 g 58 57 true (.qk 4 (.t 5)),
 g 59 57 true (.load false 1 (.t 58)),
 g 60 57 true (.bin .eql (.t 59) (c 2)),
 pk 61 (.t 57) (.t 60) f,
 m 62 61,
 g 63 62 true (.qk 2 (.t 5)),
 g 64 62 true (.load false 1 (.t 63)),
 g 65 62 true (.dw 1 4 [i 0] [(0,(c 1)),(1,(c 0)),(2,(c 1)),(3,(c 0))]),
 g 66 62 true (.call (.c (.fn 106 [] [])) [(.t 64),(.t 65)]),
 pk 67 (.t 62) (.t 66) f,
 m 68 67,
 mg 69 6 68 true,
 g 70 68 true (.call (.c (.fn 9 [] [])) [(.t 69)]),
 g 71 68 true (.bin .eql (.t 70) (c 0)),
 pk 72 (.t 68) (.t 71) f,
 m 73 72,
 mg 74 8 73 true,
 g 75 73 true (.call (.c (.fn 9 [] [])) [(.t 74)]),
 g 76 73 true (.bin .eql (.t 75) (c 1500)),
 pk 77 (.t 73) (.t 76) f,
 m 78 77,
 mg 79 11 78 true,
 g 80 78 true (.call (.c (.fn 9 [] [])) [(.t 79)]),
 g 81 78 true (.bin .eql (.t 80) (c 1501)),
 pk 82 (.t 78) (.t 81) f,
 m 83 82,
 g 84 83 true (.load true 9 (.t 9)),
 g 85 83 true (.call (.c (.fn 96 [] [])) [(.t 84)]),
 pk 86 (.t 83) (.t 85) f,
 m 87 86,
 g 88 87 true (.load true 9 (.t 12)),
 g 89 87 true (.call (.c (.fn 96 [] [])) [(.t 88)]),
 g 90 87 true (.not (.t 89)),
 pk 91 (.t 87) (.t 90) f,
 m 0 91] [0]
 .ret))))))))))
def f96:gI:=a 1 [.tmp 2] true
 (s [u 1 (.box 9 (.t 0)),
 k 2 (.bool false)] [1]
 (s [u 6 (.load true 9 (.t 1)),
 cl 7 107 [(.t 6)],
 m 5 7,
 ex 8 5 0,
 ex 9 5 1,
 m 3 8,
 m 4 9] [4]
 (s [m 10 4,
 m 2 10] [2]
 .ret)))
def f97:gI:=a 2 [.cell 4 true 9,.tmp 5] false
 (s [u 2 (.box 9 (.t 0)),
 u 3 (.box 9 (.t 1)),
 u 4 (.alloc [.str ⟨#[]⟩,.bool false,.aT,i 0,i 0,i 0,.str ⟨#[]⟩,i 0,i 0]),
 k 5 (i 0)] [2,3,4] (.seq (s [u 7 (.load true 9 (.t 2)),
 cl 8 96 [(.t 7)],
 u 9 (.not (.t 8)),
 m 10 9,
 g 11 10 false (.load true 9 (.t 3)),
 g 12 10 false (.call (.c (.fn 96 [] [])) [(.t 11)]),
 g 13 10 false (.not (.t 12)),
 pk 14 (.t 10) y (.t 13),
 m 15 14,
 g 16 15 false (.qk 0 (.t 2)),
 g 17 15 false (.load false 1 (.t 16)),
 g 18 15 false (.qk 0 (.t 3)),
 g 19 15 false (.load false 1 (.t 18)),
 g 20 15 false (.bin .neq (.t 17) (.t 19)),
 pk 21 (.t 15) y (.t 20)] [2,3,4,21] (.cond (.t 21) (s [u 22 (.build [.str ⟨#[]⟩,.bool false,.aT,i 0,i 0,i 0,.str ⟨#[]⟩,i 0,i 0] []),
 ⟨none,.store 9 (.t 4) (.t 22),none⟩,
 k 5 (i 1500)] [4,5]
 .ret)
 .skip [2,3,4]))
 (s [u 23 (.load true 9 (.t 2)),
 u 6 (.alloc [.str ⟨#[]⟩,.bool false,.aT,i 0,i 0,i 0,.str ⟨#[]⟩,i 0,i 0]),
 ⟨none,.store 9 (.t 6) (.t 23),none⟩] [2,3,4,6] (.seq (.seq (.jS [0,1,2,3,4,5,6,7,8,9,10,11,12] [fa 24 3 2,
 ld 25 1 24,
 fa 26 3 3,
 ld 27 1 26,
 cl 28 109 [(.t 25),(.t 27)],
 fa 29 4 2,
 ld 30 1 29,
 fa 31 4 3,
 ld 32 1 31,
 cl 33 109 [(.t 30),(.t 32)],
 u 34 (.dw 1 2 [i 0] [(0,(.t 28)),(1,(.t 33))]),
 cl 35 108 [(.t 34)],
 b 36 .lss (.t 35) (c 0)] [(6,[0]),(8,[0])] [2,3,4,6,36]) (.cond (.t 36) (.qZ [u 37 (.load true 9 (.t 3)),
 ⟨none,.store 9 (.t 6) (.t 37),none⟩] [2,3,4,6])
 .skip [2,3,4,6]))
 (s [fa 39 2 2,
 ld 40 1 39,
 fa 41 2 3,
 ld 42 1 41,
 cl 43 110 [(.t 40),(.t 42)],
 m 38 43,
 ex 44 38 0,
 ex 45 38 1,
 fa 46 2 6,
 ⟨none,.store 1 (.t 46) (.t 44),none⟩] [4,6]
 (s [u 47 (.load true 9 (.t 6)),
 ⟨none,.store 9 (.t 4) (.t 47),none⟩,
 k 5 (i 0)] [4,5]
 .ret))))))
def f98:gI:=a 2 [.tmp 4] true
 (s [u 2 (.box 9 (.t 0)),
 u 3 (.box 9 (.t 1)),
 k 4 (.bool false)] [2,3]
 (s [fa 5 0 2,
 ld 6 1 5,
 fa 7 0 3,
 ld 8 1 7,
 b 9 .eql (.t 6) (.t 8),
 m 10 9,
 g 11 10 true (.qk 1 (.t 2)),
 g 12 10 true (.load false 1 (.t 11)),
 g 13 10 true (.qk 1 (.t 3)),
 g 14 10 true (.load false 1 (.t 13)),
 g 15 10 true (.vm false (.t 12) (.t 14)),
 pk 16 (.t 10) (.t 15) f,
 m 17 16,
 g 18 17 true (.qk 2 (.t 2)),
 g 19 17 true (.load false 1 (.t 18)),
 g 20 17 true (.qk 2 (.t 3)),
 g 21 17 true (.load false 1 (.t 20)),
 g 22 17 true (.call (.c (.fn 106 [] [])) [(.t 19),(.t 21)]),
 pk 23 (.t 17) (.t 22) f,
 m 24 23,
 g 25 24 true (.qk 3 (.t 2)),
 g 26 24 true (.load false 1 (.t 25)),
 g 27 24 true (.qk 3 (.t 3)),
 g 28 24 true (.load false 1 (.t 27)),
 g 29 24 true (.bin .eql (.t 26) (.t 28)),
 pk 30 (.t 24) (.t 29) f,
 m 31 30,
 g 32 31 true (.qk 4 (.t 2)),
 g 33 31 true (.load false 1 (.t 32)),
 g 34 31 true (.qk 4 (.t 3)),
 g 35 31 true (.load false 1 (.t 34)),
 g 36 31 true (.bin .eql (.t 33) (.t 35)),
 pk 37 (.t 31) (.t 36) f,
 m 38 37,
 g 39 38 true (.qk 5 (.t 2)),
 g 40 38 true (.load false 1 (.t 39)),
 g 41 38 true (.qk 5 (.t 3)),
 g 42 38 true (.load false 1 (.t 41)),
 g 43 38 true (.bin .eql (.t 40) (.t 42)),
 pk 44 (.t 38) (.t 43) f,
 m 45 44,
 g 46 45 true (.qk 6 (.t 2)),
 g 47 45 true (.load false 1 (.t 46)),
 g 48 45 true (.qk 6 (.t 3)),
 g 49 45 true (.load false 1 (.t 48)),
 g 50 45 true (.bin .eql (.t 47) (.t 49)),
 pk 51 (.t 45) (.t 50) f,
 m 52 51,
 g 53 52 true (.qk 7 (.t 2)),
 g 54 52 true (.load false 1 (.t 53)),
 g 55 52 true (.qk 7 (.t 3)),
 g 56 52 true (.load false 1 (.t 55)),
 g 57 52 true (.bin .eql (.t 54) (.t 56)),
 pk 58 (.t 52) (.t 57) f,
 m 59 58,
 g 60 59 true (.qk 8 (.t 2)),
 g 61 59 true (.load false 1 (.t 60)),
 g 62 59 true (.qk 8 (.t 3)),
 g 63 59 true (.load false 1 (.t 62)),
 g 64 59 true (.bin .eql (.t 61) (.t 63)),
 pk 65 (.t 59) (.t 64) f,
 m 4 65] [4]
 .ret))
def f99:gI:=a 4 [.cell 8 true 9] true
 (s [u 8 (.alloc [.str ⟨#[]⟩,.bool false,.aT,i 0,i 0,i 0,.str ⟨#[]⟩,i 0,i 0])] [0,1,2,3,8]
 (s [u 10 (.jU 1 8 [i 0] (c 4) (c 4)),
 m 9 10] [0,1,2,3,8,9]
 (s [m 11 9,
 m 12 1,
 m 13 2,
 u 14 (.qm 1 (.t 11) (.t 12)),
 ⟨none,.store 1 (.t 14) (.t 13),none⟩] [0,1,2,3,8,9]
 (s [m 15 0,
 m 16 9,
 m 17 2,
 m 18 1,
 m 19 3,
 m 20 3,
 u 21 (.len true (.t 20)),
 m 22 3,
 cl 23 101 [(.t 22)],
 u 24 (.build [.str ⟨#[]⟩,.bool false,.aT,i 0,i 0,i 0,.str ⟨#[]⟩,i 0,i 0] [(0,1,(.t 15)),(2,1,(.t 16)),(3,1,(.t 17)),(4,1,(.t 18)),(6,1,(.t 19)),(7,1,(.t 21)),(8,1,(.t 23))]),
 ⟨none,.store 9 (.t 8) (.t 24),none⟩] [8]
 .ret))))
def f100:gI:=a 1 [.tmp 2,.tmp 3] true
 (s [u 1 (.box 9 (.t 0)),
 k 2 (.str ⟨#[]⟩),
 k 3 (i 0)] [1]
 (s [u 7 (.load true 9 (.t 1)),
 cl 8 107 [(.t 7)],
 m 6 8,
 ex 9 6 0,
 ex 10 6 1,
 m 4 9,
 m 5 10] [1,4,5] (.seq (.block 0 (s [m 12 5,
 u 13 (.not (.t 12)),
 m 11 13] [1,4,11] (.cond (.t 11) (s [k 2 (.str ⟨#[]⟩),
 k 3 (i 1500)] [2,3]
 .ret)
 (s [fa 15 1 1,
 ld 16 1 15,
 m 14 16] [4,14] (.cond (.t 14) (s [k 2 (.str ⟨#[]⟩),
 k 3 (i 1501)] [2,3]
 .ret)
 .skip [4])) [4])) [4])
 (s [m 17 4,
 m 2 17,
 k 3 (i 0)] [2,3]
 .ret))))
def f101:gI:=a 1 [.tmp 2] true
 (s [k 2 (i 0)] [0]
 (s [m 3 0,
 cl 4 111 [(.c (.int .u32 4294967295)),(.t 3)],
 u 5 (.inv (.t 4)),
 u 6 (.conv .i64 (.t 5)),
 m 2 6] [2]
 .ret))
def f103L0:aK:=
 (s [b 23 .lss (.t 22) (c 8)] [1,5,12,13,22,23] (.seq (.cond (.t 23) .skip (.exit 2) [1,5,12,13,22]) (.seq (.block 3 (s [m 24 5,
 b 25 .and (.t 24) (.c (.int .u32 1)),
 m 7 25] [1,5,7,12,13,22]
 (s [m 26 5,
 b 27 .shr (.t 26) (.c (.int .u64 1)),
 m 5 27] [1,5,7,12,13,22]
 (s [m 28 7,
 b 29 .eql (.t 28) (.c (.int .u32 1))] [1,5,12,13,22,29] (.cond (.t 29) (.qZ [m 30 5,
 b 31 .xor (.t 30) (.c (.int .u32 3988292384)),
 m 5 31] [1,5,12,13,22])
 .skip [1,5,12,13,22])))) [1,5,12,13,22])
 (.qZ [b 32 .add (.t 22) (c 1),
 m 22 32] [1,5,12,13,22]))))
def f103L1:aK:=
 (s [b 14 .lss (.t 13) (.t 12)] [1,5,12,13,14] (.seq (.cond (.t 14) .skip (.exit 0) [1,5,12,13]) (.seq (.block 1 (s [m 15 13,
 m 6 15] [1,5,6,12,13]
 (s [m 16 5,
 m 17 1,
 m 18 6,
 u 19 (.idxs (.t 17) (.t 18)),
 u 20 (.conv .u32 (.t 19)),
 b 21 .xor (.t 16) (.t 20),
 m 5 21] [1,5,12,13]
 (s [k 22 (i 0)] [1,5,12,13,22] (.block 2 (.loop [1,5,12,13,22] f103L0) [1,5,12,13])))) [1,5,12,13])
 (.qZ [b 33 .add (.t 13) (c 1),
 m 13 33] [1,5,12,13]))))
def f103:gI:=a 2 [.tmp 4] true
 (s [k 4 (i 0)] [0,1]
 (s [m 8 0,
 u 9 (.conv .u32 (.t 8)),
 u 10 (.inv (.t 9)),
 m 5 10] [1,5] (.seq (s [m 11 1,
 u 12 (.len true (.t 11)),
 k 13 (i 0)] [1,5,12,13] (.block 0 (.loop [1,5,12,13] f103L1) [5]))
 (s [m 34 5,
 u 35 (.inv (.t 34)),
 u 36 (.conv .i64 (.t 35)),
 m 4 36] [4]
 .ret))))
def f105:gI:=a 1 [.tmp 2] true
 (s [k 2 (.bool false)] [0]
 (s [m 3 0,
 b 4 .geq (.t 3) (c 0),
 m 5 4,
 mg 6 0 5 true,
 g 7 5 true (.bin .leq (.t 6) (c 4294967295)),
 pk 8 (.t 5) (.t 7) f,
 m 2 8] [2]
 .ret))
def f106L0:aK:=(.seq (s [m 11 5,
 m 12 0,
 u 13 (.len false (.t 12)),
 b 14 .lss (.t 11) (.t 13)] [0,1,5,14] (.cond (.t 14) .skip (.exit 0) [0,1,5])) (.seq (.block 1 (.seq (.jS [0,1,2,3,4,5,6,7,8] [m 17 0,
 m 18 5,
 u 19 (.qm 1 (.t 17) (.t 18)),
 ld 20 1 19,
 m 21 1,
 m 22 5,
 u 23 (.qm 1 (.t 21) (.t 22)),
 ld 24 1 23,
 b 25 .neq (.t 20) (.t 24)] [] [0,1,5,25]) (.cond (.t 25) (s [k 4 (.bool false)] [4]
 .ret)
 .skip [0,1,5])) [0,1,5])
 (.qZ [m 15 5,
 b 16 .add (.t 15) (c 1),
 m 5 16] [0,1,5])))
def f106:gI:=a 2 [.tmp 4] true
 (s [k 4 (.bool false)] [0,1] (.seq (s [m 6 0,
 u 7 (.len false (.t 6)),
 m 8 1,
 u 9 (.len false (.t 8)),
 b 10 .neq (.t 7) (.t 9)] [0,1,10] (.cond (.t 10) (s [k 4 (.bool false)] [4]
 .ret)
 .skip [0,1])) (.seq (s [k 5 (i 0)] [0,1,5] (.block 0 (.loop [0,1,5] f106L0) []))
 (s [k 4 (.bool true)] [4]
 .ret))))
def f107:gI:=a 1 [.tmp 2,.tmp 3] true
 (s [u 1 (.box 9 (.t 0)),
 k 2 (.str ⟨#[]⟩),
 k 3 (.bool false)] [1] (.seq (s [u 6 (.load true 9 (.t 1)),
 u 7 (.dw 9 1 [.str ⟨#[]⟩,.bool false,.aT,i 0,i 0,i 0,.str ⟨#[]⟩,i 0,i 0] [(0,(.t 6))]),
 u 8 (.build [.aT] [(0,1,(.t 7))]),
 cl 9 113 [(.t 8)],
 u 10 (.not (.t 9))] [1,10] (.cond (.t 10) (s [k 2 (.str ⟨#[]⟩),
 k 3 (.bool false)] [2,3]
 .ret)
 .skip [1])) (.seq (s [fa 11 1 1,
 ld 12 1 11] [1,12] (.cond (.t 12) (s [k 2 (.str ⟨#[]⟩),
 k 3 (.bool true)] [2,3]
 .ret)
 .skip [1]))
 (s [fa 14 5 1,
 ld 15 1 14,
 fa 16 6 1,
 ld 17 1 16,
 fa 18 7 1,
 ld 19 1 18,
 cl 20 114 [(.t 15),(.t 17),(.t 19)],
 m 13 20,
 ex 21 13 0,
 ex 22 13 1,
 m 4 21,
 m 5 22] [1,4,5] (.seq (.jS [0,1,2,3,4,5,6,7,8,9,10,11] [m 23 4,
 m 24 5,
 b 25 .eql (.t 24) (c 0),
 m 26 25,
 mg 27 4 26 true,
 g 28 26 true (.call (.c (.fn 115 [] [])) [(.t 27)]),
 g 29 26 true (.qk 8 (.t 1)),
 g 30 26 true (.load false 1 (.t 29)),
 g 31 26 true (.bin .eql (.t 28) (.t 30)),
 pk 32 (.t 26) (.t 31) f,
 m 2 23,
 m 3 32] [(7,[0])] [2,3])
 .ret)))))
def f108L0:aK:=
 (s [b 9 .lss (.t 8) (.t 7)] [3,6,7,8,9] (.seq (.cond (.t 9) .skip (.exit 0) [3,6,7,8]) (.seq (.block 1 (s [u 10 (.qm 1 (.t 6) (.t 8)),
 ld 11 1 10,
 m 5 11] [3,5,6,7,8]
 (s [m 12 5,
 m 13 3,
 b 14 .neq (.t 12) (.t 13)] [3,5,6,7,8,14] (.cond (.t 14) (s [m 15 5,
 m 2 15] [2]
 .ret)
 .skip [3,6,7,8]))) [3,6,7,8])
 (.qZ [b 16 .add (.t 8) (c 1),
 m 8 16] [3,6,7,8]))))
def f108:gI:=a 1 [.tmp 2] true
 (s [k 2 (i 0)] [0]
 (s [k 3 (i 0)] [0,3] (.seq (s [m 6 0,
 u 7 (.len false (.t 6)),
 k 8 (i 0)] [3,6,7,8] (.block 0 (.loop [3,6,7,8] f108L0) [3]))
 (s [m 17 3,
 m 2 17] [2]
 .ret))))
def f109:gI:=a 2 [.tmp 4] true
 (s [k 4 (i 0)] [0,1]
 (s [m 7 0,
 cl 8 116 [(.t 7)],
 m 5 8] [0,1,5]
 (s [m 9 1,
 cl 10 116 [(.t 9)],
 m 6 10] [0,1,5,6] (.seq (s [m 11 5] [0,1,6,11] (.cond (.t 11) (.seq (s [m 12 6] [12] (.cond (.t 12) (s [k 4 (i 0)] [4]
 .ret)
 .skip []))
 (s [k 4 (i (-1))] [4]
 .ret))
 .skip [0,1,6])) (.seq (s [m 13 6] [0,1,13] (.cond (.t 13) (s [k 4 (i 1)] [4]
 .ret)
 .skip [0,1])) (.seq (s [m 14 0,
 m 15 1,
 b 16 .lss (.t 14) (.t 15)] [0,1,16] (.cond (.t 16) (s [k 4 (i (-1))] [4]
 .ret)
 .skip [0,1])) (.seq (s [m 17 0,
 m 18 1,
 b 19 .gtr (.t 17) (.t 18)] [19] (.cond (.t 19) (s [k 4 (i 1)] [4]
 .ret)
 .skip []))
 (s [k 4 (i 0)] [4]
 .ret))))))))
def f110L0:aK:=
 (s [b 22 .lss (.t 21) (.t 20)] [6,19,20,21,22] (.seq (.cond (.t 22) .skip (.exit 0) [6,19,20,21]) (.seq (.block 1 (s [m 23 21,
 u 24 (.qm 1 (.t 19) (.t 21)),
 ld 25 1 24,
 m 7 23,
 m 8 25] [6,7,8,19,20,21]
 (.qZ [m 26 6,
 m 27 7,
 m 28 6,
 m 29 7,
 u 30 (.qm 1 (.t 28) (.t 29)),
 ld 31 1 30,
 m 32 8,
 u 33 (.mx [(.t 31),(.t 32)]),
 u 34 (.qm 1 (.t 26) (.t 27)),
 ⟨none,.store 1 (.t 34) (.t 33),none⟩] [6,19,20,21])) [6,19,20,21])
 (.qZ [b 35 .add (.t 21) (c 1),
 m 21 35] [6,19,20,21]))))
def f110:gI:=a 2 [.tmp 4,.tmp 5] false
 (s [k 4 (.aT),
 k 5 (i 0)] [0,1] (.seq (s [m 9 0,
 cl 10 117 [(.t 9)],
 u 11 (.not (.t 10)),
 m 12 11,
 mg 13 1 12 false,
 g 14 12 false (.call (.c (.fn 117 [] [])) [(.t 13)]),
 g 15 12 false (.not (.t 14)),
 pk 16 (.t 12) y (.t 15)] [0,1,16] (.cond (.t 16) (s [k 4 (.aT),
 k 5 (i 1100)] [4,5]
 .ret)
 .skip [0,1]))
 (s [m 17 0,
 cl 18 118 [(.t 17)],
 m 6 18] [1,6] (.seq (s [m 19 1,
 u 20 (.len false (.t 19)),
 k 21 (i 0)] [6,19,20,21] (.block 0 (.loop [6,19,20,21] f110L0) [6]))
 (s [m 36 6,
 m 4 36,
 k 5 (i 0)] [4,5]
 .ret)))))
def f111L0:aK:=(.seq (s [m 19 6,
 b 20 .lss (.t 19) (c 8)] [0,1,5,6,20] (.cond (.t 20) .skip (.exit 2) [0,1,5,6])) (.seq (.block 3 (s [m 23 0,
 b 24 .and (.t 23) (.c (.int .u32 1)),
 b 25 .eql (.t 24) (.c (.int .u32 1))] [0,1,5,6,25] (.cond (.t 25) (.qZ [m 26 0,
 b 27 .shr (.t 26) (.c (.int .u64 1)),
 b 28 .xor (.t 27) (.c (.int .u32 3988292384)),
 m 0 28] [0,1,5,6])
 (.qZ [m 29 0,
 b 30 .shr (.t 29) (.c (.int .u64 1)),
 m 0 30] [0,1,5,6]) [0,1,5,6])) [0,1,5,6])
 (.qZ [m 21 6,
 b 22 .add (.t 21) (c 1),
 m 6 22] [0,1,5,6])))
def f111L1:aK:=(.seq (s [m 7 5,
 m 8 1,
 u 9 (.len true (.t 8)),
 b 10 .lss (.t 7) (.t 9)] [0,1,5,10] (.cond (.t 10) .skip (.exit 0) [0,1,5])) (.seq (.block 1 (s [m 13 0,
 m 14 1,
 m 15 5,
 u 16 (.idxs (.t 14) (.t 15)),
 u 17 (.conv .u32 (.t 16)),
 b 18 .xor (.t 13) (.t 17),
 m 0 18] [0,1,5]
 (s [k 6 (i 0)] [0,1,5,6] (.block 2 (.loop [0,1,5,6] f111L0) [0,1,5]))) [0,1,5])
 (.qZ [m 11 5,
 b 12 .add (.t 11) (c 1),
 m 5 12] [0,1,5])))
def f111:gI:=a 2 [.tmp 4] true
 (s [k 4 (.int .u32 0)] [0,1] (.seq (s [k 5 (i 0)] [0,1,5] (.block 0 (.loop [0,1,5] f111L1) [0]))
 (s [m 31 0,
 m 4 31] [4]
 .ret)))
def f112:gI:=a 1 [.tmp 2] false
 (s [k 2 (.bool false)] [0]
 (s [m 3 0,
 nc 4 3,
 fa 5 2 4,
 ld 6 1 5,
 cl 7 117 [(.t 6)],
 m 8 7,
 mg 9 0 8 true,
 g 10 8 true (.qy (.t 9)),
 g 11 8 true (.qk 3 (.t 10)),
 g 12 8 true (.load false 1 (.t 11)),
 g 13 8 true (.bin .geq (.t 12) (c 1)),
 pk 14 (.t 8) (.t 13) f,
 m 15 14,
 mg 16 0 15 true,
 g 17 15 true (.qy (.t 16)),
 g 18 15 true (.qk 3 (.t 17)),
 g 19 15 true (.load false 1 (.t 18)),
 g 20 15 true (.call (.c (.fn 119 [] [])) [(.t 19)]),
 pk 21 (.t 15) (.t 20) f,
 m 22 21,
 mg 23 0 22 true,
 g 24 22 true (.qy (.t 23)),
 g 25 22 true (.qk 4 (.t 24)),
 g 26 22 true (.load false 1 (.t 25)),
 g 27 22 true (.call (.c (.fn 120 [] [])) [(.t 26)]),
 pk 28 (.t 22) (.t 27) f,
 m 2 28] [2]
 .ret))
def f113L0:aK:=
 (s [b 9 .lss (.t 8) (.t 7)] [1,7,8,9] (.seq (.cond (.t 9) .skip (.exit 0) [1,7,8]) (.seq (.block 1 (s [m 10 8,
 m 3 10] [1,3,7,8]
 (s [fa 11 0 1,
 ld 12 1 11,
 m 13 3,
 u 14 (.qm 9 (.t 12) (.t 13)),
 m 4 14] [1,3,4,7,8] (.seq (.jS [0,1,2,3,4,5,6,7,8,9,10,11,12,13,14,15,16,17,18,19,20,21,22,23,24,25,26,27,28,29,30,31,32,33] [m 15 4,
 nc 16 15,
 fa 17 0 16,
 ld 18 1 17,
 cl 19 121 [(.t 18)],
 u 20 (.not (.t 19)),
 m 21 20,
 mg 22 3 21 false,
 g 23 21 false (.bin .gtr (.t 22) (c 0)),
 mg 24 23 21 false,
 g 25 24 true (.qk 0 (.t 1)),
 g 26 24 true (.load false 1 (.t 25)),
 mg 27 3 24 true,
 g 28 24 true (.bin .sub (.t 27) (c 1)),
 g 29 24 true (.qm 9 (.t 26) (.t 28)),
 g 30 24 true (.qk 0 (.t 29)),
 g 31 24 true (.load false 1 (.t 30)),
 mg 32 4 24 true,
 g 33 24 true (.qy (.t 32)),
 g 34 24 true (.qk 0 (.t 33)),
 g 35 24 true (.load false 1 (.t 34)),
 g 36 24 true (.bin .geq (.t 31) (.t 35)),
 g 37 21 false (.pick (.t 24) (.t 36) f),
 pk 38 (.t 21) y (.t 37),
 m 39 38,
 mg 40 4 39 false,
 g 41 39 false (.call (.c (.fn 112 [] [])) [(.t 40)]),
 g 42 39 false (.not (.t 41)),
 pk 43 (.t 39) y (.t 42),
 m 44 43,
 mg 45 4 44 false,
 g 46 44 false (.call (.c (.fn 122 [] [])) [(.t 45)]),
 g 47 44 false (.not (.t 46)),
 pk 48 (.t 44) y (.t 47)] [] [1,7,8,48]) (.cond (.t 48) (s [k 2 (.bool false)] [2]
 .ret)
 .skip [1,7,8])))) [1,7,8])
 (.qZ [b 49 .add (.t 8) (c 1),
 m 8 49] [1,7,8]))))
def f113:gI:=a 1 [.tmp 2] true
 (s [u 1 (.box 1 (.t 0)),
 k 2 (.bool false)] [1] (.seq (s [fa 5 0 1,
 ld 6 1 5,
 u 7 (.len false (.t 6)),
 k 8 (i 0)] [1,7,8] (.block 0 (.loop [1,7,8] f113L0) [1]))
 (s [fa 50 0 1,
 ld 51 1 50,
 u 52 (.len false (.t 51)),
 b 53 .leq (.t 52) (c 6),
 m 2 53] [2]
 .ret)))
def f114:gI:=a 3 [.tmp 6,.tmp 7] true
 (s [k 6 (.str ⟨#[]⟩),
 k 7 (i 0)] [0,1,2] (.seq (s [m 11 2,
 b 12 .lss (.t 11) (c 0),
 m 13 12,
 mg 14 2 13 false,
 g 15 13 false (.bin .gtr (.t 14) (c 300)),
 pk 16 (.t 13) y (.t 15)] [0,1,2,16] (.cond (.t 16) (s [k 6 (.str ⟨#[]⟩),
 k 7 (i 900)] [6,7]
 .ret)
 .skip [0,1,2])) (.seq (s [m 17 0] [1,2,17] (.block 0 (s [b 19 .eql (.t 17) (c 0),
 m 18 19] [1,2,17,18] (.cond (.t 18) (s [m 20 1,
 u 21 (.len true (.t 20)),
 m 22 2,
 b 23 .eql (.t 21) (.t 22)] [1,23] (.cond (.t 23) (s [m 24 1,
 m 6 24,
 k 7 (i 0)] [6,7]
 .ret)
 .skip []))
 (s [b 26 .eql (.t 17) (c 8),
 m 25 26] [1,2,25] (.cond (.t 25) (s [m 28 1,
 m 29 2,
 cl 30 7 [(.t 28),(.t 29)],
 m 27 30,
 ex 31 27 0,
 ex 32 27 1,
 ex 33 27 2,
 m 8 31,
 m 9 32,
 m 10 33] [1,2,8,9,10]
 (s [m 34 10,
 b 35 .eql (.t 34) (c 0),
 m 36 35,
 mg 37 8 36 true,
 g 38 36 true (.len true (.t 37)),
 mg 39 2 36 true,
 g 40 36 true (.bin .eql (.t 38) (.t 39)),
 pk 41 (.t 36) (.t 40) f,
 m 42 41,
 mg 43 9 42 true,
 mg 44 1 42 true,
 g 45 42 true (.len true (.t 44)),
 g 46 42 true (.bin .eql (.t 43) (.t 45)),
 pk 47 (.t 42) (.t 46) f] [8,47] (.cond (.t 47) (s [m 48 8,
 m 6 48,
 k 7 (i 0)] [6,7]
 .ret)
 .skip [])))
 .skip [])) [])) []))
 (s [k 6 (.str ⟨#[]⟩),
 k 7 (i 900)] [6,7]
 .ret))))
def f115:gI:=a 1 [.tmp 2] true
 (s [k 2 (i 0)] [0]
 (s [m 3 0,
 cl 4 103 [(c 0),(.t 3)],
 m 2 4] [2]
 .ret))
def f116:gI:=a 1 [.tmp 2] true
 (s [k 2 (.bool false)] [0]
 (s [m 3 0,
 m 4 0,
 b 5 .neq (.t 3) (.t 4),
 m 2 5] [2]
 .ret))
def f117:gI:=a 1 [.tmp 2] true
 (s [k 2 (.bool false)] [0]
 (s [m 3 0,
 u 4 (.len false (.t 3)),
 b 5 .eql (.t 4) (c 4),
 m 6 5,
 mg 7 0 6 true,
 g 8 6 true (.call (.c (.fn 83 [] [])) [(.t 7),(.c (.fn 123 [] []))]),
 g 9 6 true (.not (.t 8)),
 pk 10 (.t 6) (.t 9) f,
 m 2 10] [2]
 .ret))
def f118:gI:=a 1 [.tmp 2] false
 (s [k 2 (.aT)] [0] (.seq (s [m 3 0,
 u 4 (.nj 1 false (.t 3) (.c (.aT)))] [0,4] (.cond (.t 4) (s [k 2 (.aT)] [2]
 .ret)
 .skip [0]))
 (s [u 5 (.dw 1 0 [i 0] []),
 m 6 0,
 u 7 (.app 1 8 (.t 5) (.t 6)),
 m 2 7] [2]
 .ret)))
def f119:gI:=a 1 [.tmp 2] true
 (s [k 2 (.bool false)] [0]
 (s [m 3 0,
 b 4 .geq (.t 3) (c 0),
 m 5 4,
 mg 6 0 5 true,
 g 7 5 true (.bin .leq (.t 6) (c 1048576)),
 pk 8 (.t 5) (.t 7) f,
 m 2 8] [2]
 .ret))
def f120:gI:=a 1 [.tmp 2] true
 (s [k 2 (.bool false)] [0]
 (s [m 3 0,
 b 4 .geq (.t 3) (c 0),
 m 5 4,
 mg 6 0 5 true,
 g 7 5 true (.bin .lss (.t 6) (c 4)),
 pk 8 (.t 5) (.t 7) f,
 m 2 8] [2]
 .ret))
def f121:gI:=a 1 [.tmp 2] true
 (s [k 2 (.bool false)] [0]
 (s [m 3 0,
 u 4 (.len true (.t 3)),
 b 5 .geq (.t 4) (c 1),
 m 6 5,
 mg 7 0 6 true,
 g 8 6 true (.len true (.t 7)),
 g 9 6 true (.bin .leq (.t 8) (c 8)),
 pk 10 (.t 6) (.t 9) f,
 m 11 10,
 mg 12 0 11 true,
 g 13 11 true (.call (.c (.fn 124 [] [])) [(.t 12),(.c (.str ⟨#[97,98,99,100,101,102,103,104,105,106,107,108,109,110,111,112,113,114,115,116,117,118,119,120,121,122,48,49,50,51,52,53,54,55,56,57,46,45,95]⟩))]),
 g 14 11 true (.bin .eql (.t 13) (.c (.str ⟨#[]⟩))),
 pk 15 (.t 11) (.t 14) f,
 m 16 15,
 mg 17 0 16 true,
 g 18 16 true (.bin .neq (.t 17) (.c (.str ⟨#[46]⟩))),
 pk 19 (.t 16) (.t 18) f,
 m 20 19,
 mg 21 0 20 true,
 g 22 20 true (.bin .neq (.t 21) (.c (.str ⟨#[46,46]⟩))),
 pk 23 (.t 20) (.t 22) f,
 m 2 23] [2]
 .ret))
def f122:gI:=a 1 [.tmp 2] false
 (s [k 2 (.bool false)] [0] (.seq (s [m 3 0,
 nc 4 3,
 fa 5 1 4,
 ld 6 1 5] [0,6] (.cond (.t 6) (s [m 7 0,
 nc 8 7,
 fa 9 5 8,
 ld 10 1 9,
 b 11 .eql (.t 10) (c 0),
 m 12 11,
 mg 13 0 12 true,
 g 14 12 true (.qy (.t 13)),
 g 15 12 true (.qk 6 (.t 14)),
 g 16 12 true (.load false 1 (.t 15)),
 g 17 12 true (.bin .eql (.t 16) (.c (.str ⟨#[]⟩))),
 pk 18 (.t 12) (.t 17) f,
 m 19 18,
 mg 20 0 19 true,
 g 21 19 true (.qy (.t 20)),
 g 22 19 true (.qk 7 (.t 21)),
 g 23 19 true (.load false 1 (.t 22)),
 g 24 19 true (.bin .eql (.t 23) (c 0)),
 pk 25 (.t 19) (.t 24) f,
 m 26 25,
 mg 27 0 26 true,
 g 28 26 true (.qy (.t 27)),
 g 29 26 true (.qk 8 (.t 28)),
 g 30 26 true (.load false 1 (.t 29)),
 g 31 26 true (.bin .eql (.t 30) (c 0)),
 pk 32 (.t 26) (.t 31) f,
 m 2 32] [2]
 .ret)
 .skip [0])) (.seq (s [m 33 0,
 nc 34 33,
 fa 35 5 34,
 ld 36 1 35] [0,36] (.block 0 (s [b 38 .eql (.t 36) (c 0),
 m 37 38] [0,36,37] (.cond (.t 37) (.seq (.jS [0,1,2,3,4,5,6,7,8,9] [m 39 0,
 nc 40 39,
 fa 41 6 40,
 ld 42 1 41,
 u 43 (.len true (.t 42)),
 m 44 0,
 nc 45 44,
 fa 46 7 45,
 ld 47 1 46,
 b 48 .neq (.t 43) (.t 47)] [] [0,48]) (.cond (.t 48) (s [k 2 (.bool false)] [2]
 .ret)
 .skip [0]))
 (s [b 50 .eql (.t 36) (c 8),
 m 49 50] [0,49] (.cond (.t 49) (s [m 51 0,
 nc 52 51,
 fa 53 6 52,
 ld 54 1 53,
 u 55 (.len true (.t 54)),
 b 56 .gtr (.t 55) (c 300)] [0,56] (.cond (.t 56) (s [k 2 (.bool false)] [2]
 .ret)
 .skip [0]))
 (s [k 2 (.bool false)] [2]
 .ret) [0])) [0])) [0]))
 (s [m 57 0,
 nc 58 57,
 fa 59 7 58,
 ld 60 1 59,
 b 61 .geq (.t 60) (c 0),
 m 62 61,
 mg 63 0 62 true,
 g 64 62 true (.qy (.t 63)),
 g 65 62 true (.qk 7 (.t 64)),
 g 66 62 true (.load false 1 (.t 65)),
 g 67 62 true (.bin .leq (.t 66) (c 300)),
 pk 68 (.t 62) (.t 67) f,
 m 69 68,
 mg 70 0 69 true,
 g 71 69 true (.qy (.t 70)),
 g 72 69 true (.qk 8 (.t 71)),
 g 73 69 true (.load false 1 (.t 72)),
 g 74 69 true (.call (.c (.fn 105 [] [])) [(.t 73)]),
 pk 75 (.t 69) (.t 74) f,
 m 2 75] [2]
 .ret))))
def f123:gI:=a 1 [.tmp 2] true
 (s [k 2 (.bool false)] [0]
 (s [m 3 0,
 cl 4 119 [(.t 3)],
 u 5 (.not (.t 4)),
 m 2 5] [2]
 .ret))
def f124:gI:=a 2 [.tmp 4] true
 (s [k 4 (.str ⟨#[]⟩)] [0,1] (.seq (s [m 7 0,
 b 8 .eql (.t 7) (.c (.str ⟨#[]⟩)),
 m 9 8,
 mg 10 1 9 false,
 g 11 9 false (.bin .eql (.t 10) (.c (.str ⟨#[]⟩))),
 pk 12 (.t 9) y (.t 11)] [0,1,12] (.cond (.t 12) (s [m 13 0,
 m 4 13] [4]
 .ret)
 .skip [0,1])) (.seq (s [m 14 1,
 u 15 (.len true (.t 14)),
 b 16 .eql (.t 15) (c 1),
 m 17 16,
 mg 18 1 17 true,
 g 19 17 true (.idxs (.t 18) (c 0)),
 g 20 17 true (.bin .lss (.t 19) (.c (.int .u8 128))),
 pk 21 (.t 17) (.t 20) f] [0,1,21] (.cond (.t 21) (.seq (.jS [0,1,2,3,4,5,6,7] [m 22 0,
 m 23 1,
 u 24 (.idxs (.t 23) (c 0)),
 cl 25 126 [(.t 22),(.t 24)],
 m 26 1,
 u 27 (.idxs (.t 26) (c 0)),
 cl 28 125 [(.t 25),(.t 27)],
 m 4 28] [] [4])
 .ret)
 .skip [0,1])) (.seq (s [m 30 1,
 cl 31 127 [(.t 30)],
 m 29 31,
 ex 32 29 0,
 ex 33 29 1,
 u 5 (.alloc [.bool false,.bool false,.bool false,.bool false,.bool false,.bool false,.bool false,.bool false,.bool false,.bool false,.bool false,.bool false,.bool false,.bool false,.bool false,.bool false,.bool false,.bool false,.bool false,.bool false,.bool false,.bool false,.bool false,.bool false,.bool false,.bool false,.bool false,.bool false,.bool false,.bool false,.bool false,.bool false,.bool false,.bool false,.bool false,.bool false,.bool false,.bool false,.bool false,.bool false,.bool false,.bool false,.bool false,.bool false,.bool false,.bool false,.bool false,.bool false,.bool false,.bool false,.bool false,.bool false,.bool false,.bool false,.bool false,.bool false,.bool false,.bool false,.bool false,.bool false,.bool false,.bool false,.bool false,.bool false,.bool false,.bool false,.bool false,.bool false,.bool false,.bool false,.bool false,.bool false,.bool false,.bool false,.bool false,.bool false,.bool false,.bool false,.bool false,.bool false,.bool false,.bool false,.bool false,.bool false,.bool false,.bool false,.bool false,.bool false,.bool false,.bool false,.bool false,.bool false,.bool false,.bool false,.bool false,.bool false,.bool false,.bool false,.bool false,.bool false,.bool false,.bool false,.bool false,.bool false,.bool false,.bool false,.bool false,.bool false,.bool false,.bool false,.bool false,.bool false,.bool false,.bool false,.bool false,.bool false,.bool false,.bool false,.bool false,.bool false,.bool false,.bool false,.bool false,.bool false,.bool false,.bool false,.bool false,.bool false,.bool false,.bool false,.bool false,.bool false,.bool false,.bool false,.bool false,.bool false,.bool false,.bool false,.bool false,.bool false,.bool false,.bool false,.bool false,.bool false,.bool false,.bool false,.bool false,.bool false,.bool false,.bool false,.bool false,.bool false,.bool false,.bool false,.bool false,.bool false,.bool false,.bool false,.bool false,.bool false,.bool false,.bool false,.bool false,.bool false,.bool false,.bool false,.bool false,.bool false,.bool false,.bool false,.bool false,.bool false,.bool false,.bool false,.bool false,.bool false,.bool false,.bool false,.bool false,.bool false,.bool false,.bool false,.bool false,.bool false,.bool false,.bool false,.bool false,.bool false,.bool false,.bool false,.bool false,.bool false,.bool false,.bool false,.bool false,.bool false,.bool false,.bool false,.bool false,.bool false,.bool false,.bool false,.bool false,.bool false,.bool false,.bool false,.bool false,.bool false,.bool false,.bool false,.bool false,.bool false,.bool false,.bool false,.bool false,.bool false,.bool false,.bool false,.bool false,.bool false,.bool false,.bool false,.bool false,.bool false,.bool false,.bool false,.bool false,.bool false,.bool false,.bool false,.bool false,.bool false,.bool false,.bool false,.bool false,.bool false,.bool false,.bool false,.bool false,.bool false,.bool false,.bool false,.bool false,.bool false,.bool false,.bool false,.bool false,.bool false,.bool false,.bool false,.bool false,.bool false,.bool false,.bool false,.bool false,.bool false]),
 ⟨none,.store 256 (.t 5) (.t 32),none⟩,
 m 6 33] [0,1,5,6]
 (s [m 34 6] [0,1,5,34] (.cond (.t 34) (s [m 35 0,
 cl 36 129 [(.t 35),(.t 5)],
 cl 37 128 [(.t 36),(.t 5)],
 m 4 37] [4]
 .ret)
 .skip [0,1])))
 (s [m 38 0,
 m 39 1,
 cl 40 131 [(.t 38),(.t 39)],
 m 41 1,
 cl 42 130 [(.t 40),(.t 41)],
 m 4 42] [4]
 .ret)))))
def f125L0:aK:=(.seq (s [m 5 0,
 u 6 (.len true (.t 5)),
 b 7 .gtr (.t 6) (c 0),
 m 8 7,
 mg 9 0 8 true,
 g 10 8 true (.idxs (.t 9) (c 0)),
 mg 11 1 8 true,
 g 12 8 true (.bin .eql (.t 10) (.t 11)),
 pk 13 (.t 8) (.t 12) f] [0,1,13] (.cond (.t 13) .skip (.exit 0) [0,1])) (.block 1 (.qZ [m 14 0,
 u 15 (.wH (.t 14) (some (c 1)) none),
 m 0 15] [0,1]) [0,1]))
def f125:gI:=a 2 [.tmp 4] true
 (s [k 4 (.str ⟨#[]⟩)] [0,1] (.seq (.block 0 (.loop [0,1] f125L0) [0])
 (s [m 16 0,
 m 4 16] [4]
 .ret)))
def f126L0:aK:=(.seq (s [m 5 0,
 u 6 (.len true (.t 5)),
 b 7 .gtr (.t 6) (c 0),
 m 8 7,
 mg 9 0 8 true,
 mg 10 0 8 true,
 g 11 8 true (.len true (.t 10)),
 g 12 8 true (.bin .sub (.t 11) (c 1)),
 g 13 8 true (.idxs (.t 9) (.t 12)),
 mg 14 1 8 true,
 g 15 8 true (.bin .eql (.t 13) (.t 14)),
 pk 16 (.t 8) (.t 15) f] [0,1,16] (.cond (.t 16) .skip (.exit 0) [0,1])) (.block 1 (.qZ [m 17 0,
 m 18 0,
 u 19 (.len true (.t 18)),
 b 20 .sub (.t 19) (c 1),
 u 21 (.wH (.t 17) none (some (.t 20))),
 m 0 21] [0,1]) [0,1]))
def f126:gI:=a 2 [.tmp 4] true
 (s [k 4 (.str ⟨#[]⟩)] [0,1] (.seq (.block 0 (.loop [0,1] f126L0) [0])
 (s [m 22 0,
 m 4 22] [4]
 .ret)))
def f127L0:aK:=(.seq (s [m 6 4,
 m 7 0,
 u 8 (.len true (.t 7)),
 b 9 .lss (.t 6) (.t 8)] [0,2,4,9] (.cond (.t 9) .skip (.exit 0) [0,2,4])) (.seq (.block 1 (s [m 12 0,
 m 13 4,
 u 14 (.idxs (.t 12) (.t 13)),
 m 5 14] [0,2,4,5] (.seq (s [m 15 5,
 b 16 .geq (.t 15) (.c (.int .u8 128))] [0,2,4,5,16] (.cond (.t 16) (s [u 17 (.load true 256 (.t 2)),
 ⟨none,.store 256 (.t 2) (.t 17),none⟩,
 k 3 (.bool false)] [2,3]
 .ret)
 .skip [0,2,4,5]))
 (.qZ [m 18 5,
 u 19 (.mQ 256 1 (.t 2) (.t 18)),
 ⟨none,.store 1 (.t 19) y,none⟩] [0,2,4]))) [0,2,4])
 (.qZ [m 10 4,
 b 11 .add (.t 10) (c 1),
 m 4 11] [0,2,4])))
def f127:gI:=a 1 [.cell 2 true 256,.tmp 3] true
 (s [u 2 (.alloc [.bool false,.bool false,.bool false,.bool false,.bool false,.bool false,.bool false,.bool false,.bool false,.bool false,.bool false,.bool false,.bool false,.bool false,.bool false,.bool false,.bool false,.bool false,.bool false,.bool false,.bool false,.bool false,.bool false,.bool false,.bool false,.bool false,.bool false,.bool false,.bool false,.bool false,.bool false,.bool false,.bool false,.bool false,.bool false,.bool false,.bool false,.bool false,.bool false,.bool false,.bool false,.bool false,.bool false,.bool false,.bool false,.bool false,.bool false,.bool false,.bool false,.bool false,.bool false,.bool false,.bool false,.bool false,.bool false,.bool false,.bool false,.bool false,.bool false,.bool false,.bool false,.bool false,.bool false,.bool false,.bool false,.bool false,.bool false,.bool false,.bool false,.bool false,.bool false,.bool false,.bool false,.bool false,.bool false,.bool false,.bool false,.bool false,.bool false,.bool false,.bool false,.bool false,.bool false,.bool false,.bool false,.bool false,.bool false,.bool false,.bool false,.bool false,.bool false,.bool false,.bool false,.bool false,.bool false,.bool false,.bool false,.bool false,.bool false,.bool false,.bool false,.bool false,.bool false,.bool false,.bool false,.bool false,.bool false,.bool false,.bool false,.bool false,.bool false,.bool false,.bool false,.bool false,.bool false,.bool false,.bool false,.bool false,.bool false,.bool false,.bool false,.bool false,.bool false,.bool false,.bool false,.bool false,.bool false,.bool false,.bool false,.bool false,.bool false,.bool false,.bool false,.bool false,.bool false,.bool false,.bool false,.bool false,.bool false,.bool false,.bool false,.bool false,.bool false,.bool false,.bool false,.bool false,.bool false,.bool false,.bool false,.bool false,.bool false,.bool false,.bool false,.bool false,.bool false,.bool false,.bool false,.bool false,.bool false,.bool false,.bool false,.bool false,.bool false,.bool false,.bool false,.bool false,.bool false,.bool false,.bool false,.bool false,.bool false,.bool false,.bool false,.bool false,.bool false,.bool false,.bool false,.bool false,.bool false,.bool false,.bool false,.bool false,.bool false,.bool false,.bool false,.bool false,.bool false,.bool false,.bool false,.bool false,.bool false,.bool false,.bool false,.bool false,.bool false,.bool false,.bool false,.bool false,.bool false,.bool false,.bool false,.bool false,.bool false,.bool false,.bool false,.bool false,.bool false,.bool false,.bool false,.bool false,.bool false,.bool false,.bool false,.bool false,.bool false,.bool false,.bool false,.bool false,.bool false,.bool false,.bool false,.bool false,.bool false,.bool false,.bool false,.bool false,.bool false,.bool false,.bool false,.bool false,.bool false,.bool false,.bool false,.bool false,.bool false,.bool false,.bool false,.bool false,.bool false,.bool false,.bool false,.bool false,.bool false,.bool false,.bool false,.bool false,.bool false,.bool false,.bool false,.bool false,.bool false,.bool false,.bool false,.bool false,.bool false,.bool false]),
 k 3 (.bool false)] [0,2] (.seq (s [k 4 (i 0)] [0,2,4] (.block 0 (.loop [0,2,4] f127L0) [2]))
 (s [u 20 (.load true 256 (.t 2)),
 ⟨none,.store 256 (.t 2) (.t 20),none⟩,
 k 3 (.bool true)] [2,3]
 .ret)))
def f128L0:aK:=(.seq (s [m 5 0,
 u 6 (.len true (.t 5)),
 b 7 .gtr (.t 6) (c 0)] [0,1,7] (.cond (.t 7) .skip (.exit 0) [0,1])) (.block 1 (.seq (s [m 8 1,
 m 9 0,
 u 10 (.idxs (.t 9) (c 0)),
 cl 11 132 [(.t 8),(.t 10)],
 u 12 (.not (.t 11))] [0,1,12] (.cond (.t 12) (.exit 0)
 .skip [0,1]))
 (.qZ [m 13 0,
 u 14 (.wH (.t 13) (some (c 1)) none),
 m 0 14] [0,1])) [0,1]))
def f128:gI:=a 2 [.tmp 4] false
 (s [k 4 (.str ⟨#[]⟩)] [0,1] (.seq (.block 0 (.loop [0,1] f128L0) [0])
 (s [m 15 0,
 m 4 15] [4]
 .ret)))
def f129L0:aK:=(.seq (s [m 5 0,
 u 6 (.len true (.t 5)),
 b 7 .gtr (.t 6) (c 0)] [0,1,7] (.cond (.t 7) .skip (.exit 0) [0,1])) (.block 1 (.seq (s [m 8 1,
 m 9 0,
 m 10 0,
 u 11 (.len true (.t 10)),
 b 12 .sub (.t 11) (c 1),
 u 13 (.idxs (.t 9) (.t 12)),
 cl 14 132 [(.t 8),(.t 13)],
 u 15 (.not (.t 14))] [0,1,15] (.cond (.t 15) (.exit 0)
 .skip [0,1]))
 (.qZ [m 16 0,
 m 17 0,
 u 18 (.len true (.t 17)),
 b 19 .sub (.t 18) (c 1),
 u 20 (.wH (.t 16) none (some (.t 19))),
 m 0 20] [0,1])) [0,1]))
def f129:gI:=a 2 [.tmp 4] false
 (s [k 4 (.str ⟨#[]⟩)] [0,1] (.seq (.block 0 (.loop [0,1] f129L0) [0])
 (s [m 21 0,
 m 4 21] [4]
 .ret)))
def f130L0:aK:=(.seq (s [m 7 0,
 u 8 (.len true (.t 7)),
 b 9 .gtr (.t 8) (c 0)] [0,1,9] (.cond (.t 9) .skip (.exit 0) [0,1])) (.block 1 (s [m 11 0,
 cl 12 133 [(.t 11)],
 m 10 12,
 ex 13 10 0,
 ex 14 10 1,
 m 5 13,
 m 6 14] [0,1,5,6] (.seq (s [m 15 1,
 m 16 5,
 cl 17 134 [(.t 15),(.t 16)],
 u 18 (.not (.t 17))] [0,1,6,18] (.cond (.t 18) (.exit 0)
 .skip [0,1,6]))
 (.qZ [m 19 0,
 m 20 6,
 u 21 (.wH (.t 19) (some (.t 20)) none),
 m 0 21] [0,1]))) [0,1]))
def f130:gI:=a 2 [.tmp 4] true
 (s [k 4 (.str ⟨#[]⟩)] [0,1] (.seq (.block 0 (.loop [0,1] f130L0) [0])
 (s [m 22 0,
 m 4 22] [4]
 .ret)))
def f131L0:aK:=(.seq (s [m 7 0,
 u 8 (.len true (.t 7)),
 b 9 .gtr (.t 8) (c 0)] [0,1,9] (.cond (.t 9) .skip (.exit 0) [0,1])) (.block 1 (s [m 10 0,
 m 11 0,
 u 12 (.len true (.t 11)),
 b 13 .sub (.t 12) (c 1),
 u 14 (.idxs (.t 10) (.t 13)),
 u 15 (.conv .i32 (.t 14)),
 m 5 15,
 k 6 (i 1)] [0,1,5,6] (.seq (s [m 16 5,
 b 17 .geq (.t 16) (.c (.int .i32 128))] [0,1,5,6,17] (.cond (.t 17) (.qZ [m 19 0,
 cl 20 135 [(.t 19)],
 m 18 20,
 ex 21 18 0,
 ex 22 18 1,
 m 5 21,
 m 6 22] [0,1,5,6])
 .skip [0,1,5,6])) (.seq (s [m 23 1,
 m 24 5,
 cl 25 134 [(.t 23),(.t 24)],
 u 26 (.not (.t 25))] [0,1,6,26] (.cond (.t 26) (.exit 0)
 .skip [0,1,6]))
 (.qZ [m 27 0,
 m 28 0,
 u 29 (.len true (.t 28)),
 m 30 6,
 b 31 .sub (.t 29) (.t 30),
 u 32 (.wH (.t 27) none (some (.t 31))),
 m 0 32] [0,1])))) [0,1]))
def f131:gI:=a 2 [.tmp 4] true
 (s [k 4 (.str ⟨#[]⟩)] [0,1] (.seq (.block 0 (.loop [0,1] f131L0) [0])
 (s [m 33 0,
 m 4 33] [4]
 .ret)))
def f132:gI:=a 2 [.tmp 4] false
 (s [k 4 (.bool false)] [0,1]
 (s [m 5 0,
 m 6 1,
 nc 7 5,
 u 8 (.mQ 256 1 (.t 7) (.t 6)),
 ld 9 1 8,
 m 4 9] [4]
 .ret))
def f133:gI:=a 1 [.tmp 2,.tmp 3] true
 (s [k 2 (.int .i32 0),
 k 3 (i 0)] [0] (.seq (s [m 4 0,
 b 5 .neq (.t 4) (.c (.str ⟨#[]⟩)),
 m 6 5,
 mg 7 0 6 true,
 g 8 6 true (.idxs (.t 7) (c 0)),
 g 9 6 true (.bin .lss (.t 8) (.c (.int .u8 128))),
 pk 10 (.t 6) (.t 9) f] [0,10] (.cond (.t 10) (s [m 11 0,
 u 12 (.idxs (.t 11) (c 0)),
 u 13 (.conv .i32 (.t 12)),
 m 2 13,
 k 3 (i 1)] [2,3]
 .ret)
 (.qZ [m 15 0,
 cl 16 136 [(.t 15)],
 m 14 16,
 ex 17 14 0,
 ex 18 14 1,
 m 2 17,
 m 3 18] [2,3]) [2,3]))
 .ret))
def f134:gI:=a 2 [.tmp 4] true
 (s [k 4 (.bool false)] [0,1]
 (s [m 5 0,
 m 6 1,
 cl 7 137 [(.t 5),(.t 6)],
 b 8 .geq (.t 7) (c 0),
 m 4 8] [4]
 .ret))
def f135L0:aK:=(.seq (s [m 25 5,
 m 26 6,
 b 27 .geq (.t 25) (.t 26)] [0,4,5,6,27] (.cond (.t 27) .skip (.exit 0) [0,4,5,6])) (.seq (.block 1 (s [m 30 0,
 m 31 5,
 u 32 (.idxs (.t 30) (.t 31)),
 cl 33 138 [(.t 32)]] [0,4,5,6,33] (.cond (.t 33) (.exit 0)
 .skip [0,4,5,6])) [0,4,5,6])
 (.qZ [m 28 5,
 b 29 .sub (.t 28) (c 1),
 m 5 29] [0,4,5,6])))
def f135:gI:=a 1 [.tmp 2,.tmp 3] true
 (s [k 2 (.int .i32 0),
 k 3 (i 0)] [0]
 (s [m 7 0,
 u 8 (.len true (.t 7)),
 m 4 8] [0,4] (.seq (s [m 9 4,
 b 10 .eql (.t 9) (c 0)] [0,4,10] (.cond (.t 10) (s [k 2 (.int .i32 65533),
 k 3 (i 0)] [2,3]
 .ret)
 .skip [0,4]))
 (s [m 11 4,
 b 12 .sub (.t 11) (c 1),
 m 5 12] [0,4,5]
 (s [m 13 0,
 m 14 5,
 u 15 (.idxs (.t 13) (.t 14)),
 u 16 (.conv .i32 (.t 15)),
 m 2 16] [0,2,4,5] (.seq (s [m 17 2,
 b 18 .lss (.t 17) (.c (.int .i32 128))] [0,2,4,5,18] (.cond (.t 18) (s [m 19 2,
 m 2 19,
 k 3 (i 1)] [2,3]
 .ret)
 .skip [0,4,5]))
 (s [m 20 4,
 b 21 .sub (.t 20) (c 4),
 u 22 (.mx [(.t 21),(c 0)]),
 m 6 22] [0,4,5,6] (.seq (s [m 23 5,
 b 24 .sub (.t 23) (c 1),
 m 5 24] [0,4,5,6] (.block 0 (.loop [0,4,5,6] f135L0) [0,4,5])) (.seq (s [m 34 5,
 b 35 .lss (.t 34) (c 0)] [0,4,5,35] (.cond (.t 35) (.qZ [k 5 (i 0)] [0,4,5])
 .skip [0,4,5]))
 (s [m 37 0,
 m 38 5,
 m 39 4,
 u 40 (.wH (.t 37) (some (.t 38)) (some (.t 39))),
 cl 41 133 [(.t 40)],
 m 36 41,
 ex 42 36 0,
 ex 43 36 1,
 m 2 42,
 m 3 43] [2,3,4,5] (.seq (s [m 44 5,
 m 45 3,
 b 46 .add (.t 44) (.t 45),
 m 47 4,
 b 48 .neq (.t 46) (.t 47)] [2,3,48] (.cond (.t 48) (s [k 2 (.int .i32 65533),
 k 3 (i 1)] [2,3]
 .ret)
 .skip [2,3]))
 (s [m 49 2,
 m 50 3,
 m 2 49,
 m 3 50] [2,3]
 .ret))))))))))))
def f138:gI:=a 1 [.tmp 2] true
 (s [k 2 (.bool false)] [0]
 (s [m 3 0,
 b 4 .and (.t 3) (.c (.int .u8 192)),
 b 5 .neq (.t 4) (.c (.int .u8 128)),
 m 2 5] [2]
 .ret))
def f139:gI:=a 2 [.tmp 4] true
 (s [k 4 (i 0)] [0,1]
 (s [m 5 0,
 m 6 1,
 cl 7 143 [(.t 5),(.t 6)],
 m 4 7] [4]
 .ret))
def f140:gI:=a 1 [.tmp 2] true
 (s [k 2 (.bool false)] [0] (.seq (.block 0 (s [m 4 0,
 b 5 .leq (.c (.int .i32 0)) (.t 4),
 m 6 5,
 mg 7 0 6 true,
 g 8 6 true (.bin .lss (.t 7) (.c (.int .i32 55296))),
 pk 9 (.t 6) (.t 8) f,
 m 3 9] [0,3] (.cond (.t 3) (s [k 2 (.bool true)] [2]
 .ret)
 (s [m 11 0,
 b 12 .lss (.c (.int .i32 57343)) (.t 11),
 m 13 12,
 mg 14 0 13 true,
 g 15 13 true (.bin .leq (.t 14) (.c (.int .i32 1114111))),
 pk 16 (.t 13) (.t 15) f,
 m 10 16] [10] (.cond (.t 10) (s [k 2 (.bool true)] [2]
 .ret)
 .skip [])) [])) [])
 (s [k 2 (.bool false)] [2]
 .ret)))
def f141:gI:=a 1 [.tmp 2] true
 (s [k 2 (i 0)] [0]
 (s [m 3 0,
 b 4 .add (.t 3) (c 16),
 b 5 .quo (.t 4) (c 8),
 m 2 5] [2]
 .ret))
def f147:gI:=a 2 [.tmp 4] true
 (s [u 2 (.box 9 (.t 0)),
 u 3 (.box 9 (.t 1)),
 k 4 (.bool false)] [2,3] (.seq (.jS [4,5,0,1,2,3,6,7] [u 5 (.alloc [.str ⟨#[]⟩,.bool false,.aT,i 0,i 0,i 0,.str ⟨#[]⟩,i 0,i 0]),
 u 6 (.alloc [.str ⟨#[]⟩,.bool false,.aT,i 0,i 0,i 0,.str ⟨#[]⟩,i 0,i 0]),
 u 15 (.load true 9 (.t 2)),
 cl 16 92 [(.t 15)],
 u 17 (.load true 9 (.t 3)),
 cl 18 92 [(.t 17)],
 ⟨none,.store 9 (.t 5) (.t 16),none⟩,
 ⟨none,.store 9 (.t 6) (.t 18),none⟩] [(0,[1,2]),(1,[1,2]),(4,[0])] [2,3,5,6])
 (s [u 20 (.load true 9 (.t 5)),
 cl 21 100 [(.t 20)],
 m 19 21,
 ex 22 19 0,
 ex 23 19 1,
 m 7 22,
 m 8 23] [2,3,5,6,7,8]
 (s [u 25 (.load true 9 (.t 2)),
 cl 26 155 [(.t 25)],
 m 24 26,
 ex 27 24 0,
 ex 28 24 1,
 m 9 27,
 m 10 28] [2,3,5,6,7,8,9,10]
 (s [u 30 (.load true 9 (.t 5)),
 u 31 (.load true 9 (.t 6)),
 cl 32 97 [(.t 30),(.t 31)],
 m 29 32,
 ex 33 29 0,
 ex 34 29 1,
 u 11 (.alloc [.str ⟨#[]⟩,.bool false,.aT,i 0,i 0,i 0,.str ⟨#[]⟩,i 0,i 0]),
 ⟨none,.store 9 (.t 11) (.t 33),none⟩,
 m 12 34] [2,3,5,6,7,8,9,10,11,12]
 (s [u 36 (.load true 9 (.t 2)),
 u 37 (.load true 9 (.t 3)),
 cl 38 156 [(.t 36),(.t 37)],
 m 35 38,
 ex 39 35 0,
 ex 40 35 1,
 u 13 (.alloc [.str ⟨#[]⟩,.bool false,.aT,i 0,i 0,i 0,.str ⟨#[]⟩,i 0,i 0]),
 ⟨none,.store 9 (.t 13) (.t 39),none⟩,
 m 14 40] [2,3,5,6,7,8,9,10,11,12,13,14] (.seq (.seq (.jS [0,1,2,3,4,5,6,7,8,9,10,11,12,13,14,15,16,17,18,19,20,21,22,23,24,25,26,27] [m 41 7,
 m 42 9,
 b 43 .neq (.t 41) (.t 42),
 m 44 43,
 mg 45 8 44 false,
 g 46 44 false (.call (.c (.fn 9 [] [])) [(.t 45)]),
 mg 47 10 44 false,
 g 48 44 false (.bin .neq (.t 46) (.t 47)),
 pk 49 (.t 44) y (.t 48),
 m 50 49,
 g 51 50 false (.load true 9 (.t 11)),
 g 52 50 false (.load true 9 (.t 13)),
 g 53 50 false (.call (.c (.fn 98 [] [])) [(.t 51),(.t 52)]),
 g 54 50 false (.not (.t 53)),
 pk 55 (.t 50) y (.t 54),
 m 56 55,
 mg 57 12 56 false,
 g 58 56 false (.call (.c (.fn 9 [] [])) [(.t 57)]),
 mg 59 14 56 false,
 g 60 56 false (.bin .neq (.t 58) (.t 59)),
 pk 61 (.t 56) y (.t 60),
 m 62 61,
 g 63 62 false (.load true 9 (.t 5)),
 g 64 62 false (.call (.c (.fn 96 [] [])) [(.t 63)]),
 g 65 62 false (.load true 9 (.t 2)),
 g 66 62 false (.call (.c (.fn 157 [] [])) [(.t 65)]),
 g 67 62 false (.vm true (.t 64) (.t 66)),
 pk 68 (.t 62) y (.t 67)] [(24,[3])] [2,3,5,6,11,68]) (.cond (.t 68) (s [k 4 (.bool false)] [4]
 .ret)
 .skip [2,3,5,6,11]))
 (s [u 69 (.load true 9 (.t 11)),
 cl 70 158 [(.t 69)]] [2,3,5,6]
 (s [u 71 (.load true 9 (.t 5)),
 u 72 (.load true 9 (.t 2)),
 cl 73 98 [(.t 71),(.t 72)],
 m 74 73,
 g 75 74 true (.load true 9 (.t 6)),
 g 76 74 true (.load true 9 (.t 3)),
 g 77 74 true (.call (.c (.fn 98 [] [])) [(.t 75),(.t 76)]),
 pk 78 (.t 74) (.t 77) f,
 m 79 78,
 g 80 79 true (.call (.c (.fn 95 [] [])) []),
 pk 81 (.t 79) (.t 80) f,
 m 4 81] [4]
 .ret)))))))))
def f155:gI:=a 1 [.tmp 2,.tmp 3] true
 (s [u 1 (.box 9 (.t 0)),
 k 2 (.str ⟨#[]⟩),
 k 3 (i 0)] [1] (.seq (s [u 6 (.load true 9 (.t 1)),
 cl 7 157 [(.t 6)],
 u 8 (.not (.t 7))] [1,8] (.cond (.t 8) (s [k 2 (.str ⟨#[]⟩),
 k 3 (i 1500)] [2,3]
 .ret)
 .skip [1])) (.seq (s [fa 9 1 1,
 ld 10 1 9] [1,10] (.cond (.t 10) (s [k 2 (.str ⟨#[]⟩),
 k 3 (i 1501)] [2,3]
 .ret)
 .skip [1]))
 (s [fa 12 5 1,
 ld 13 1 12,
 fa 14 6 1,
 ld 15 1 14,
 fa 16 7 1,
 ld 17 1 16,
 cl 18 164 [(.t 13),(.t 15),(.t 17)],
 m 11 18,
 ex 19 11 0,
 ex 20 11 1,
 m 4 19,
 m 5 20] [4]
 (s [m 21 4,
 m 2 21,
 k 3 (i 0)] [2,3]
 .ret)))))
def f156:gI:=a 2 [.cell 4 true 9,.tmp 5] true
 (s [u 2 (.box 9 (.t 0)),
 u 3 (.box 9 (.t 1)),
 u 4 (.alloc [.str ⟨#[]⟩,.bool false,.aT,i 0,i 0,i 0,.str ⟨#[]⟩,i 0,i 0]),
 k 5 (i 0)] [2,3,4] (.seq (s [u 9 (.load true 9 (.t 2)),
 cl 10 157 [(.t 9)],
 u 11 (.not (.t 10)),
 m 12 11,
 g 13 12 false (.load true 9 (.t 3)),
 g 14 12 false (.call (.c (.fn 157 [] [])) [(.t 13)]),
 g 15 12 false (.not (.t 14)),
 pk 16 (.t 12) y (.t 15),
 m 17 16,
 g 18 17 false (.qk 0 (.t 2)),
 g 19 17 false (.load false 1 (.t 18)),
 g 20 17 false (.qk 0 (.t 3)),
 g 21 17 false (.load false 1 (.t 20)),
 g 22 17 false (.bin .neq (.t 19) (.t 21)),
 pk 23 (.t 17) y (.t 22)] [2,3,4,23] (.cond (.t 23) (s [u 24 (.build [.str ⟨#[]⟩,.bool false,.aT,i 0,i 0,i 0,.str ⟨#[]⟩,i 0,i 0] []),
 ⟨none,.store 9 (.t 4) (.t 24),none⟩,
 k 5 (i 1500)] [4,5]
 .ret)
 .skip [2,3,4]))
 (s [u 25 (.load true 9 (.t 2)),
 cl 26 165 [(.t 25)],
 u 6 (.alloc [.str ⟨#[]⟩,.bool false,.aT,i 0,i 0,i 0,.str ⟨#[]⟩,i 0,i 0]),
 ⟨none,.store 9 (.t 6) (.t 26),none⟩] [2,3,4,6] (.seq (s [fa 27 3 3,
 ld 28 1 27,
 fa 29 3 2,
 ld 30 1 29,
 b 31 .gtr (.t 28) (.t 30),
 m 32 31,
 g 33 32 false (.qk 3 (.t 3)),
 g 34 32 false (.load false 1 (.t 33)),
 g 35 32 false (.qk 3 (.t 2)),
 g 36 32 false (.load false 1 (.t 35)),
 g 37 32 false (.bin .eql (.t 34) (.t 36)),
 mg 38 37 32 false,
 g 39 38 true (.qk 4 (.t 3)),
 g 40 38 true (.load false 1 (.t 39)),
 g 41 38 true (.qk 4 (.t 2)),
 g 42 38 true (.load false 1 (.t 41)),
 g 43 38 true (.bin .gtr (.t 40) (.t 42)),
 g 44 32 false (.pick (.t 38) (.t 43) f),
 pk 45 (.t 32) y (.t 44)] [2,3,4,6,45] (.cond (.t 45) (.qZ [u 46 (.load true 9 (.t 3)),
 cl 47 165 [(.t 46)],
 ⟨none,.store 9 (.t 6) (.t 47),none⟩] [2,3,4,6])
 .skip [2,3,4,6]))
 (s [fa 49 2 2,
 ld 50 1 49,
 fa 51 2 3,
 ld 52 1 51,
 cl 53 166 [(.t 50),(.t 52)],
 m 48 53,
 ex 54 48 0,
 ex 55 48 1,
 m 7 54,
 m 8 55] [4,6,7]
 (s [m 56 7,
 fa 57 2 6,
 ⟨none,.store 1 (.t 57) (.t 56),none⟩] [4,6]
 (s [u 58 (.load true 9 (.t 6)),
 ⟨none,.store 9 (.t 4) (.t 58),none⟩,
 k 5 (i 0)] [4,5]
 .ret)))))))
def f157:gI:=a 1 [.tmp 2] true
 (s [u 1 (.box 9 (.t 0)),
 k 2 (.bool false)] [1] (.seq (s [u 5 (.load true 9 (.t 1)),
 cl 6 167 [(.t 5)],
 u 7 (.not (.t 6))] [1,7] (.cond (.t 7) (s [k 2 (.bool false)] [2]
 .ret)
 .skip [1])) (.seq (s [fa 8 1 1,
 ld 9 1 8] [1,9] (.cond (.t 9) (s [k 2 (.bool true)] [2]
 .ret)
 .skip [1]))
 (s [fa 11 5 1,
 ld 12 1 11,
 fa 13 6 1,
 ld 14 1 13,
 fa 15 7 1,
 ld 16 1 15,
 cl 17 164 [(.t 12),(.t 14),(.t 16)],
 m 10 17,
 ex 18 10 0,
 ex 19 10 1,
 m 3 18,
 m 4 19] [1,3,4] (.seq (.jS [0,1,2,3,4,5,6,7,8,9] [m 20 4,
 b 21 .eql (.t 20) (c 0),
 m 22 21,
 mg 23 3 22 true,
 g 24 22 true (.call (.c (.fn 101 [] [])) [(.t 23)]),
 g 25 22 true (.qk 8 (.t 1)),
 g 26 22 true (.load false 1 (.t 25)),
 g 27 22 true (.bin .eql (.t 24) (.t 26)),
 pk 28 (.t 22) (.t 27) f,
 m 2 28] [(6,[0])] [2])
 .ret)))))
def f158:gI:=a 1 [] false
 (s [u 1 (.box 9 (.t 0))] [1]
 (.qZ [fa 2 2 1,
 ld 3 1 2,
 cl 4 168 [(.t 3)]] []))
def f164:gI:=a 3 [.tmp 6,.tmp 7] true
 (s [k 6 (.str ⟨#[]⟩),
 k 7 (i 0)] [0,1,2] (.seq (s [m 11 2,
 b 12 .lss (.t 11) (c 0),
 m 13 12,
 mg 14 2 13 false,
 g 15 13 false (.bin .gtr (.t 14) (c 300)),
 pk 16 (.t 13) y (.t 15)] [0,1,2,16] (.cond (.t 16) (s [k 6 (.str ⟨#[]⟩),
 k 7 (i 900)] [6,7]
 .ret)
 .skip [0,1,2])) (.seq (s [m 17 0] [1,2,17] (.block 0 (s [b 19 .eql (.t 17) (c 0),
 m 18 19] [1,2,17,18] (.cond (.t 18) (s [m 20 1,
 u 21 (.len true (.t 20)),
 m 22 2,
 b 23 .eql (.t 21) (.t 22)] [1,23] (.cond (.t 23) (s [m 24 1,
 m 6 24,
 k 7 (i 0)] [6,7]
 .ret)
 .skip []))
 (s [b 26 .eql (.t 17) (c 8),
 m 25 26] [1,2,25] (.cond (.t 25) (s [m 28 1,
 m 29 2,
 cl 30 8 [(.t 28),(.t 29)],
 m 27 30,
 ex 31 27 0,
 ex 32 27 1,
 ex 33 27 2,
 m 8 31,
 m 9 32,
 m 10 33] [1,2,8,9,10]
 (s [m 34 10,
 b 35 .eql (.t 34) (c 0),
 m 36 35,
 mg 37 8 36 true,
 g 38 36 true (.len true (.t 37)),
 mg 39 2 36 true,
 g 40 36 true (.bin .eql (.t 38) (.t 39)),
 pk 41 (.t 36) (.t 40) f,
 m 42 41,
 mg 43 9 42 true,
 mg 44 1 42 true,
 g 45 42 true (.len true (.t 44)),
 g 46 42 true (.bin .eql (.t 43) (.t 45)),
 pk 47 (.t 42) (.t 46) f] [8,47] (.cond (.t 47) (s [m 48 8,
 m 6 48,
 k 7 (i 0)] [6,7]
 .ret)
 .skip [])))
 .skip [])) [])) []))
 (s [k 6 (.str ⟨#[]⟩),
 k 7 (i 900)] [6,7]
 .ret))))
def f165:gI:=a 1 [.cell 2 true 9] true
 (s [u 1 (.box 9 (.t 0)),
 u 2 (.alloc [.str ⟨#[]⟩,.bool false,.aT,i 0,i 0,i 0,.str ⟨#[]⟩,i 0,i 0])] [1,2]
 (s [u 3 (.dw 1 0 [i 0] []),
 fa 4 2 1,
 ld 5 1 4,
 u 6 (.app 1 8 (.t 3) (.t 5)),
 fa 7 2 1,
 ⟨none,.store 1 (.t 7) (.t 6),none⟩] [1,2]
 (s [u 8 (.load true 9 (.t 1)),
 ⟨none,.store 9 (.t 2) (.t 8),none⟩] [2]
 .ret)))
def f166L0:aK:=(.seq (s [m 16 7,
 m 17 0,
 u 18 (.len false (.t 17)),
 b 19 .lss (.t 16) (.t 18)] [0,1,6,7,19] (.cond (.t 19) .skip (.exit 0) [0,1,6,7])) (.seq (.block 1 (.jS [0,1,2,3,4,5,6,7,8,9,10,11,12] [m 22 6,
 m 23 0,
 m 24 7,
 u 25 (.qm 1 (.t 23) (.t 24)),
 ld 26 1 25,
 m 27 1,
 m 28 7,
 u 29 (.qm 1 (.t 27) (.t 28)),
 ld 30 1 29,
 u 31 (.mx [(.t 26),(.t 30)]),
 u 32 (.dw 1 1 [i 0] [(0,(.t 31))]),
 u 33 (.app 1 8 (.t 22) (.t 32)),
 m 6 33] [] [0,1,6,7]) [0,1,6,7])
 (.qZ [m 20 7,
 b 21 .add (.t 20) (c 1),
 m 7 21] [0,1,6,7])))
def f166:gI:=a 2 [.tmp 4,.tmp 5] true
 (s [k 4 (.aT),
 k 5 (i 0)] [0,1] (.seq (s [m 8 0,
 cl 9 172 [(.t 8)],
 u 10 (.not (.t 9)),
 m 11 10,
 mg 12 1 11 false,
 g 13 11 false (.call (.c (.fn 172 [] [])) [(.t 12)]),
 g 14 11 false (.not (.t 13)),
 pk 15 (.t 11) y (.t 14)] [0,1,15] (.cond (.t 15) (s [k 4 (.aT),
 k 5 (i 1100)] [4,5]
 .ret)
 .skip [0,1]))
 (s [k 6 (.aT)] [0,1,6] (.seq (s [k 7 (i 0)] [0,1,6,7] (.block 0 (.loop [0,1,6,7] f166L0) [6]))
 (s [m 34 6,
 m 4 34,
 k 5 (i 0)] [4,5]
 .ret)))))
def f167:gI:=a 1 [.tmp 2] true
 (s [u 1 (.box 9 (.t 0)),
 k 2 (.bool false)] [1] (.seq (s [fa 3 0 1,
 ld 4 1 3,
 cl 5 173 [(.t 4)],
 u 6 (.not (.t 5)),
 m 7 6,
 g 8 7 false (.load true 9 (.t 1)),
 g 9 7 false (.call (.c (.fn 169 [] [])) [(.t 8)]),
 g 10 7 false (.not (.t 9)),
 pk 11 (.t 7) y (.t 10)] [1,11] (.cond (.t 11) (s [k 2 (.bool false)] [2]
 .ret)
 .skip [1])) (.seq (s [fa 12 1 1,
 ld 13 1 12] [1,13] (.cond (.t 13) (s [fa 14 5 1,
 ld 15 1 14,
 b 16 .eql (.t 15) (c 0),
 m 17 16,
 g 18 17 true (.qk 6 (.t 1)),
 g 19 17 true (.load false 1 (.t 18)),
 g 20 17 true (.bin .eql (.t 19) (.c (.str ⟨#[]⟩))),
 pk 21 (.t 17) (.t 20) f,
 m 22 21,
 g 23 22 true (.qk 7 (.t 1)),
 g 24 22 true (.load false 1 (.t 23)),
 g 25 22 true (.bin .eql (.t 24) (c 0)),
 pk 26 (.t 22) (.t 25) f,
 m 27 26,
 g 28 27 true (.qk 8 (.t 1)),
 g 29 27 true (.load false 1 (.t 28)),
 g 30 27 true (.bin .eql (.t 29) (c 0)),
 pk 31 (.t 27) (.t 30) f,
 m 2 31] [2]
 .ret)
 .skip [1])) (.seq (s [fa 32 7 1,
 ld 33 1 32,
 b 34 .lss (.t 33) (c 0),
 m 35 34,
 g 36 35 false (.qk 7 (.t 1)),
 g 37 35 false (.load false 1 (.t 36)),
 g 38 35 false (.bin .gtr (.t 37) (c 300)),
 pk 39 (.t 35) y (.t 38),
 m 40 39,
 g 41 40 false (.qk 8 (.t 1)),
 g 42 40 false (.load false 1 (.t 41)),
 g 43 40 false (.bin .lss (.t 42) (c 0)),
 pk 44 (.t 40) y (.t 43),
 m 45 44,
 g 46 45 false (.qk 8 (.t 1)),
 g 47 45 false (.load false 1 (.t 46)),
 g 48 45 false (.bin .gtr (.t 47) (c 4294967295)),
 pk 49 (.t 45) y (.t 48)] [1,49] (.cond (.t 49) (s [k 2 (.bool false)] [2]
 .ret)
 .skip [1]))
 (s [fa 50 5 1,
 ld 51 1 50,
 b 52 .eql (.t 51) (c 0),
 m 53 52,
 g 54 53 true (.qk 6 (.t 1)),
 g 55 53 true (.load false 1 (.t 54)),
 g 56 53 true (.len true (.t 55)),
 g 57 53 true (.qk 7 (.t 1)),
 g 58 53 true (.load false 1 (.t 57)),
 g 59 53 true (.bin .eql (.t 56) (.t 58)),
 pk 60 (.t 53) (.t 59) f,
 m 61 60,
 g 62 61 false (.qk 5 (.t 1)),
 g 63 61 false (.load false 1 (.t 62)),
 g 64 61 false (.bin .eql (.t 63) (c 8)),
 mg 65 64 61 false,
 g 66 65 true (.qk 6 (.t 1)),
 g 67 65 true (.load false 1 (.t 66)),
 g 68 65 true (.len true (.t 67)),
 g 69 65 true (.bin .leq (.t 68) (c 300)),
 g 70 61 false (.pick (.t 65) (.t 69) f),
 pk 71 (.t 61) y (.t 70),
 m 2 71] [2]
 .ret)))))
def f168L0:aK:=(.seq (s [m 3 2,
 m 4 0,
 u 5 (.len false (.t 4)),
 b 6 .lss (.t 3) (.t 5)] [0,2,6] (.cond (.t 6) .skip (.exit 0) [0,2])) (.seq (.block 1 (.qZ [m 9 0,
 m 10 2,
 m 11 0,
 m 12 2,
 u 13 (.qm 1 (.t 11) (.t 12)),
 ld 14 1 13,
 b 15 .sub (c (-9)) (.t 14),
 u 16 (.qm 1 (.t 9) (.t 10)),
 ⟨none,.store 1 (.t 16) (.t 15),none⟩] [0,2]) [0,2])
 (.qZ [m 7 2,
 b 8 .add (.t 7) (c 1),
 m 2 8] [0,2])))
def f168:gI:=a 1 [] false
 (s [k 2 (i 0)] [0,2] (.block 0 (.loop [0,2] f168L0) []))
def f169:gI:=a 1 [.tmp 2] true
 (s [u 1 (.box 9 (.t 0)),
 k 2 (.bool false)] [1]
 (s [fa 3 2 1,
 ld 4 1 3,
 cl 5 172 [(.t 4)],
 m 6 5,
 g 7 6 true (.qk 3 (.t 1)),
 g 8 6 true (.load false 1 (.t 7)),
 g 9 6 true (.bin .geq (.t 8) (c 1)),
 pk 10 (.t 6) (.t 9) f,
 m 11 10,
 g 12 11 true (.qk 3 (.t 1)),
 g 13 11 true (.load false 1 (.t 12)),
 g 14 11 true (.bin .leq (.t 13) (c 1048576)),
 pk 15 (.t 11) (.t 14) f,
 m 16 15,
 g 17 16 true (.qk 4 (.t 1)),
 g 18 16 true (.load false 1 (.t 17)),
 g 19 16 true (.bin .geq (.t 18) (c 0)),
 pk 20 (.t 16) (.t 19) f,
 m 21 20,
 g 22 21 true (.qk 4 (.t 1)),
 g 23 21 true (.load false 1 (.t 22)),
 g 24 21 true (.bin .lss (.t 23) (c 4)),
 pk 25 (.t 21) (.t 24) f,
 m 2 25] [2]
 .ret))
def f172L0:aK:=(.seq (s [m 4 3,
 m 5 0,
 u 6 (.len false (.t 5)),
 b 7 .lss (.t 4) (.t 6)] [0,3,7] (.cond (.t 7) .skip (.exit 0) [0,3])) (.seq (.block 1 (s [m 10 0,
 m 11 3,
 u 12 (.qm 1 (.t 10) (.t 11)),
 ld 13 1 12,
 b 14 .lss (.t 13) (c 0),
 m 15 14,
 mg 16 0 15 false,
 mg 17 3 15 false,
 g 18 15 false (.qm 1 (.t 16) (.t 17)),
 g 19 15 false (.load false 1 (.t 18)),
 g 20 15 false (.bin .gtr (.t 19) (c 1048576)),
 pk 21 (.t 15) y (.t 20)] [0,3,21] (.cond (.t 21) (s [k 2 (.bool false)] [2]
 .ret)
 .skip [0,3])) [0,3])
 (.qZ [m 8 3,
 b 9 .add (.t 8) (c 1),
 m 3 9] [0,3])))
def f172:gI:=a 1 [.tmp 2] true
 (s [k 2 (.bool false)] [0] (.seq (s [k 3 (i 0)] [0,3] (.block 0 (.loop [0,3] f172L0) [0]))
 (s [m 22 0,
 u 23 (.len false (.t 22)),
 b 24 .eql (.t 23) (c 4),
 m 2 24] [2]
 .ret)))
def f173L0:aK:=(.seq (s [m 21 3,
 m 22 0,
 u 23 (.len true (.t 22)),
 b 24 .lss (.t 21) (.t 23)] [0,3,24] (.cond (.t 24) .skip (.exit 0) [0,3])) (.seq (.block 1 (s [m 27 0,
 m 28 3,
 u 29 (.idxs (.t 27) (.t 28)),
 m 4 29] [0,3,4]
 (s [m 30 4,
 b 31 .lss (.t 30) (.c (.int .u8 97)),
 m 32 31,
 mg 33 4 32 false,
 g 34 32 false (.bin .gtr (.t 33) (.c (.int .u8 122))),
 pk 35 (.t 32) y (.t 34),
 m 36 35,
 mg 37 4 36 true,
 g 38 36 true (.bin .lss (.t 37) (.c (.int .u8 48))),
 mg 39 38 36 true,
 mg 40 4 39 false,
 g 41 39 false (.bin .gtr (.t 40) (.c (.int .u8 57))),
 g 42 36 true (.pick (.t 39) y (.t 41)),
 pk 43 (.t 36) (.t 42) f,
 m 44 43,
 mg 45 4 44 true,
 g 46 44 true (.bin .neq (.t 45) (.c (.int .u8 46))),
 pk 47 (.t 44) (.t 46) f,
 m 48 47,
 mg 49 4 48 true,
 g 50 48 true (.bin .neq (.t 49) (.c (.int .u8 45))),
 pk 51 (.t 48) (.t 50) f,
 m 52 51,
 mg 53 4 52 true,
 g 54 52 true (.bin .neq (.t 53) (.c (.int .u8 95))),
 pk 55 (.t 52) (.t 54) f] [0,3,55] (.cond (.t 55) (s [k 2 (.bool false)] [2]
 .ret)
 .skip [0,3]))) [0,3])
 (.qZ [m 25 3,
 b 26 .add (.t 25) (c 1),
 m 3 26] [0,3])))
def f173:gI:=a 1 [.tmp 2] true
 (s [k 2 (.bool false)] [0] (.seq (s [m 5 0,
 u 6 (.len true (.t 5)),
 b 7 .lss (.t 6) (c 1),
 m 8 7,
 mg 9 0 8 false,
 g 10 8 false (.len true (.t 9)),
 g 11 8 false (.bin .gtr (.t 10) (c 8)),
 pk 12 (.t 8) y (.t 11),
 m 13 12,
 mg 14 0 13 false,
 g 15 13 false (.bin .eql (.t 14) (.c (.str ⟨#[46]⟩))),
 pk 16 (.t 13) y (.t 15),
 m 17 16,
 mg 18 0 17 false,
 g 19 17 false (.bin .eql (.t 18) (.c (.str ⟨#[46,46]⟩))),
 pk 20 (.t 17) y (.t 19)] [0,20] (.cond (.t 20) (s [k 2 (.bool false)] [2]
 .ret)
 .skip [0])) (.seq (s [k 3 (i 0)] [0,3] (.block 0 (.loop [0,3] f173L0) []))
 (s [k 2 (.bool true)] [2]
 .ret))))
def pQ:List (Nat×gI):=[(7,f7),(8,f8),(9,f9),(14,f14),(15,f15),(16,f16),(17,f17),(18,f18),(19,f19),(20,f20),(21,f21),(22,f22),(23,f23),(24,f24),(25,f25),(32,f32),(38,f38),(39,f39),(40,f40),(41,f41),(42,f42),(43,f43),(44,f44),(45,f45),(46,f46),(47,f47),(48,f48),(49,f49),(50,f50),(51,f51),(52,f52),(53,f53),(54,f54),(58,f58),(59,f59),(60,f60),(61,f61),(62,f62),(63,f63),(64,f64),(65,f65),(66,f66),(67,f67),(68,f68),(72,f72),(73,f73),(74,f74),(75,f75),(76,f76),(77,f77),(78,f78),(79,f79),(80,f80),(81,f81),(82,f82),(83,f83),(84,f84),(92,f92),(95,f95),(96,f96),(97,f97),(98,f98),(99,f99),(100,f100),(101,f101),(103,f103),(105,f105),(106,f106),(107,f107),(108,f108),(109,f109),(110,f110),(111,f111),(112,f112),(113,f113),(114,f114),(115,f115),(116,f116),(117,f117),(118,f118),(119,f119),(120,f120),(121,f121),(122,f122),(123,f123),(124,f124),(125,f125),(126,f126),(127,f127),(128,f128),(129,f129),(130,f130),(131,f131),(132,f132),(133,f133),(134,f134),(135,f135),(138,f138),(139,f139),(140,f140),(141,f141),(147,f147),(155,f155),(156,f156),(157,f157),(158,f158),(164,f164),(165,f165),(166,f166),(167,f167),(168,f168),(169,f169),(172,f172),(173,f173)]
def find:List (Nat×gI)→Nat→Option gI
 |[],_=>none
 |(i,f)::r,k=>if i=k then some f else find r k
def A:bw:=find pQ
end Ab.AP
