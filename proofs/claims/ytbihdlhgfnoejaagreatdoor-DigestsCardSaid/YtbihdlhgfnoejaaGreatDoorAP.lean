/- Part AP. -/
import Derived.Test.YtbihdlhgfnoejaaGreatDoorA2
namespace Ab.AP
open Go Ab
def f7L0 : ACode :=
 (.seq (.seq (.reg [
 ⟨some 20, .mv (.t 8), none⟩,
 ⟨some 21, .not (.t 20), none⟩,
 ⟨some 22, .mv (.t 21), none⟩,
 ⟨some 23, .mv (.t 7), (some (22, true))⟩,
 ⟨some 24, .nilc (.t 23), (some (22, true))⟩,
 ⟨some 25, .fadr 3 (.t 24), (some (22, true))⟩,
 ⟨some 26, .load false 1 (.t 25), (some (22, true))⟩,
 ⟨some 27, .bin .eql (.t 26) (.c (.int .i64 0)), (some (22, true))⟩,
 ⟨some 28, .pick (.t 22) (.t 27) (.c (.bool false)), none⟩] [7, 28])
 (.cond (.t 28) (.skip)
 (.exit 0) [7]))
 (.block 1 (.reg [
 ⟨some 29, .mv (.t 7), none⟩,
 ⟨some 30, .call (.c (.fn 15 [] [])) [(.t 29)], none⟩,
 ⟨some 8, .mv (.t 30), none⟩] [7, 8]) [7, 8]))
def f7 : AFunc := { np := 2, res := [.tmp 4, .tmp 5, .tmp 6], pure := true, body :=
 (.seq (.reg [
 ⟨some 4, .mv (.c (.str ⟨#[]⟩)), none⟩,
 ⟨some 5, .mv (.c (.int .i64 0)), none⟩,
 ⟨some 6, .mv (.c (.int .i64 0)), none⟩] [0, 1])
 (.seq (.seq (.reg [
 ⟨some 9, .mv (.t 1), none⟩,
 ⟨some 10, .bin .lss (.t 9) (.c (.int .i64 0)), none⟩,
 ⟨some 11, .mv (.t 10), none⟩,
 ⟨some 12, .mv (.t 1), (some (11, false))⟩,
 ⟨some 13, .bin .gtr (.t 12) (.c (.int .i64 8192)), (some (11, false))⟩,
 ⟨some 14, .pick (.t 11) (.c (.bool true)) (.t 13), none⟩] [0, 1, 14])
 (.cond (.t 14) (.seq (.reg [
 ⟨some 4, .mv (.c (.str ⟨#[]⟩)), none⟩,
 ⟨some 5, .mv (.c (.int .i64 0)), none⟩,
 ⟨some 6, .mv (.c (.int .i64 700)), none⟩] [4, 5, 6])
 (.ret))
 (.skip) [0, 1]))
 (.seq (.reg [
 ⟨some 15, .mv (.t 0), none⟩,
 ⟨some 16, .call (.c (.fn 14 [] [])) [(.t 15)], none⟩,
 ⟨some 17, .mv (.t 1), none⟩,
 ⟨some 18, .build [.nilp, .nils, .int .i64 0, .int .i64 0] [(0, 1, (.t 16)), (2, 1, (.t 17))], none⟩,
 ⟨some 19, .box 4 (.t 18), none⟩,
 ⟨some 7, .mv (.t 19), none⟩] [7])
 (.seq (.seq (.reg [
 ⟨some 8, .mv (.c (.bool false)), none⟩] [7, 8])
 (.block 0 (.loop [7, 8] f7L0) [7]))
 (.seq (.seq (.reg [
 ⟨some 31, .mv (.t 7), none⟩,
 ⟨some 32, .nilc (.t 31), none⟩,
 ⟨some 33, .fadr 3 (.t 32), none⟩,
 ⟨some 34, .load false 1 (.t 33), none⟩,
 ⟨some 35, .bin .neq (.t 34) (.c (.int .i64 0)), none⟩] [7, 35])
 (.cond (.t 35) (.seq (.dreg [0, 1, 2, 3, 4, 5, 6] [
 ⟨some 36, .mv (.t 7), none⟩,
 ⟨some 37, .nilc (.t 36), none⟩,
 ⟨some 38, .fadr 3 (.t 37), none⟩,
 ⟨some 39, .load false 1 (.t 38), none⟩,
 ⟨some 4, .mv (.c (.str ⟨#[]⟩)), none⟩,
 ⟨some 5, .mv (.c (.int .i64 0)), none⟩,
 ⟨some 6, .mv (.t 39), none⟩] [] [4, 5, 6])
 (.ret))
 (.skip) [7]))
 (.seq (.reg [
 ⟨some 40, .mv (.t 7), none⟩,
 ⟨some 41, .nilc (.t 40), none⟩,
 ⟨some 42, .fadr 0 (.t 41), none⟩,
 ⟨some 43, .load false 1 (.t 42), none⟩,
 ⟨some 44, .call (.c (.fn 16 [] [])) [(.t 43)], none⟩] [7])
 (.seq (.dreg [0, 1, 2, 3, 4, 5, 6, 7, 8, 9, 10, 11, 12, 13] [
 ⟨some 45, .mv (.t 7), none⟩,
 ⟨some 46, .nilc (.t 45), none⟩,
 ⟨some 47, .fadr 1 (.t 46), none⟩,
 ⟨some 48, .load false 1 (.t 47), none⟩,
 ⟨some 49, .b2s (.t 48), none⟩,
 ⟨some 50, .mv (.t 7), none⟩,
 ⟨some 51, .nilc (.t 50), none⟩,
 ⟨some 52, .fadr 0 (.t 51), none⟩,
 ⟨some 53, .load false 1 (.t 52), none⟩,
 ⟨some 54, .call (.c (.fn 17 [] [])) [(.t 53)], none⟩,
 ⟨some 55, .bin .quo (.t 54) (.c (.int .i64 8)), none⟩,
 ⟨some 4, .mv (.t 49), none⟩,
 ⟨some 5, .mv (.t 55), none⟩,
 ⟨some 6, .mv (.c (.int .i64 0)), none⟩] [(3, [1]), (4, [1])] [4, 5, 6])
 (.ret)))))))) }
def f8L0 : ACode :=
 (.seq (.seq (.reg [
 ⟨some 21, .mv (.t 8), none⟩,
 ⟨some 22, .bin .eql (.t 21) (.c (.int .i64 0)), none⟩,
 ⟨some 23, .mv (.t 22), none⟩,
 ⟨some 24, .mv (.t 7), (some (23, true))⟩,
 ⟨some 25, .nilc (.t 24), (some (23, true))⟩,
 ⟨some 26, .fadr 4 (.t 25), (some (23, true))⟩,
 ⟨some 27, .load false 1 (.t 26), (some (23, true))⟩,
 ⟨some 28, .bin .eql (.t 27) (.c (.int .i64 0)), (some (23, true))⟩,
 ⟨some 29, .pick (.t 23) (.t 28) (.c (.bool false)), none⟩] [7, 29])
 (.cond (.t 29) (.skip)
 (.exit 0) [7]))
 (.block 1 (.seq (.reg [
 ⟨some 30, .mv (.t 7), none⟩,
 ⟨some 31, .call (.c (.fn 18 [] [])) [(.t 30), (.c (.int .i64 1))], none⟩,
 ⟨some 8, .mv (.t 31), none⟩] [7, 8])
 (.seq (.reg [
 ⟨some 32, .mv (.t 7), none⟩,
 ⟨some 33, .call (.c (.fn 18 [] [])) [(.t 32), (.c (.int .i64 2))], none⟩,
 ⟨some 9, .mv (.t 33), none⟩] [7, 8, 9])
 (.seq (.seq (.reg [
 ⟨some 34, .mv (.t 7), none⟩,
 ⟨some 35, .nilc (.t 34), none⟩,
 ⟨some 36, .fadr 4 (.t 35), none⟩,
 ⟨some 37, .load false 1 (.t 36), none⟩,
 ⟨some 38, .bin .neq (.t 37) (.c (.int .i64 0)), none⟩] [7, 8, 9, 38])
 (.cond (.t 38) (.exit 0)
 (.skip) [7, 8, 9]))
 (.seq (.reg [
 ⟨some 39, .mv (.t 9), none⟩] [7, 8, 39])
 (.block 2 (.seq (.reg [
 ⟨some 43, .bin .eql (.t 39) (.c (.int .i64 0)), none⟩,
 ⟨some 42, .mv (.t 43), none⟩] [7, 8, 39, 42])
 (.cond (.t 42) (.reg [
 ⟨some 44, .mv (.t 7), none⟩,
 ⟨some 45, .call (.c (.fn 19 [] [])) [(.t 44)], none⟩] [7, 8])
 (.seq (.reg [
 ⟨some 47, .bin .eql (.t 39) (.c (.int .i64 1)), none⟩,
 ⟨some 46, .mv (.t 47), none⟩] [7, 8, 39, 46])
 (.cond (.t 46) (.reg [
 ⟨some 48, .mv (.t 7), none⟩,
 ⟨some 49, .call (.c (.fn 22 [] [])) [], none⟩,
 ⟨some 50, .call (.c (.fn 21 [] [])) [(.t 49)], none⟩,
 ⟨some 51, .call (.c (.fn 23 [] [])) [], none⟩,
 ⟨some 52, .call (.c (.fn 21 [] [])) [(.t 51)], none⟩,
 ⟨some 53, .call (.c (.fn 20 [] [])) [(.t 48), (.t 50), (.t 52)], none⟩] [7, 8])
 (.seq (.reg [
 ⟨some 55, .bin .eql (.t 39) (.c (.int .i64 2)), none⟩,
 ⟨some 54, .mv (.t 55), none⟩] [7, 8, 54])
 (.cond (.t 54) (.reg [
 ⟨some 56, .mv (.t 7), none⟩,
 ⟨some 57, .call (.c (.fn 24 [] [])) [(.t 56)], none⟩] [7, 8])
 (.reg [
 ⟨some 40, .mv (.t 7), none⟩,
 ⟨some 41, .call (.c (.fn 25 [] [])) [(.t 40)], none⟩] [7, 8]) [7, 8])) [7, 8])) [7, 8])) [7, 8]))))) [7, 8]))
def f8 : AFunc := { np := 2, res := [.tmp 4, .tmp 5, .tmp 6], pure := true, body :=
 (.seq (.reg [
 ⟨some 4, .mv (.c (.str ⟨#[]⟩)), none⟩,
 ⟨some 5, .mv (.c (.int .i64 0)), none⟩,
 ⟨some 6, .mv (.c (.int .i64 0)), none⟩] [0, 1])
 (.seq (.seq (.reg [
 ⟨some 10, .mv (.t 1), none⟩,
 ⟨some 11, .bin .lss (.t 10) (.c (.int .i64 0)), none⟩,
 ⟨some 12, .mv (.t 11), none⟩,
 ⟨some 13, .mv (.t 1), (some (12, false))⟩,
 ⟨some 14, .bin .gtr (.t 13) (.c (.int .i64 8192)), (some (12, false))⟩,
 ⟨some 15, .pick (.t 12) (.c (.bool true)) (.t 14), none⟩] [0, 1, 15])
 (.cond (.t 15) (.seq (.reg [
 ⟨some 4, .mv (.c (.str ⟨#[]⟩)), none⟩,
 ⟨some 5, .mv (.c (.int .i64 0)), none⟩,
 ⟨some 6, .mv (.c (.int .i64 700)), none⟩] [4, 5, 6])
 (.ret))
 (.skip) [0, 1]))
 (.seq (.reg [
 ⟨some 16, .mv (.t 0), none⟩,
 ⟨some 17, .build [.str ⟨#[]⟩, .int .i64 0] [(0, 1, (.t 16))], none⟩,
 ⟨some 18, .mv (.t 1), none⟩,
 ⟨some 19, .build [.str ⟨#[]⟩, .int .i64 0, .nils, .int .i64 0, .int .i64 0] [(0, 2, (.t 17)), (3, 1, (.t 18))], none⟩,
 ⟨some 20, .box 5 (.t 19), none⟩,
 ⟨some 7, .mv (.t 20), none⟩] [7])
 (.seq (.seq (.reg [
 ⟨some 8, .mv (.c (.int .i64 0)), none⟩] [7, 8])
 (.block 0 (.loop [7, 8] f8L0) [7]))
 (.seq (.seq (.reg [
 ⟨some 58, .mv (.t 7), none⟩,
 ⟨some 59, .nilc (.t 58), none⟩,
 ⟨some 60, .fadr 4 (.t 59), none⟩,
 ⟨some 61, .load false 1 (.t 60), none⟩,
 ⟨some 62, .bin .neq (.t 61) (.c (.int .i64 0)), none⟩] [7, 62])
 (.cond (.t 62) (.seq (.dreg [0, 1, 2, 3, 4, 5, 6] [
 ⟨some 63, .mv (.t 7), none⟩,
 ⟨some 64, .nilc (.t 63), none⟩,
 ⟨some 65, .fadr 4 (.t 64), none⟩,
 ⟨some 66, .load false 1 (.t 65), none⟩,
 ⟨some 4, .mv (.c (.str ⟨#[]⟩)), none⟩,
 ⟨some 5, .mv (.c (.int .i64 0)), none⟩,
 ⟨some 6, .mv (.t 66), none⟩] [] [4, 5, 6])
 (.ret))
 (.skip) [7]))
 (.seq (.dreg [0, 1, 2, 3, 4, 5, 6, 7, 8, 9, 10, 11, 12, 13, 14] [
 ⟨some 67, .mv (.t 7), none⟩,
 ⟨some 68, .nilc (.t 67), none⟩,
 ⟨some 69, .fadr 2 (.t 68), none⟩,
 ⟨some 70, .load false 1 (.t 69), none⟩,
 ⟨some 71, .b2s (.t 70), none⟩,
 ⟨some 72, .mv (.t 7), none⟩,
 ⟨some 73, .nilc (.t 72), none⟩,
 ⟨some 74, .fadr 0 (.t 73), none⟩,
 ⟨some 75, .fadr 1 (.t 74), none⟩,
 ⟨some 76, .load false 1 (.t 75), none⟩,
 ⟨some 77, .bin .add (.t 76) (.c (.int .i64 7)), none⟩,
 ⟨some 78, .bin .quo (.t 77) (.c (.int .i64 8)), none⟩,
 ⟨some 4, .mv (.t 71), none⟩,
 ⟨some 5, .mv (.t 78), none⟩,
 ⟨some 6, .mv (.c (.int .i64 0)), none⟩] [] [4, 5, 6])
 (.ret))))))) }
def f9 : AFunc := { np := 1, res := [.tmp 2], pure := true, body :=
 (.seq (.reg [
 ⟨some 2, .mv (.c (.int .i64 0)), none⟩] [0])
 (.seq (.reg [
 ⟨some 3, .mv (.t 0), none⟩,
 ⟨some 2, .mv (.t 3), none⟩] [2])
 (.ret))) }
def f14 : AFunc := { np := 1, res := [.tmp 2], pure := false, body :=
 (.seq (.reg [
 ⟨some 2, .mv (.c (.nilp)), none⟩] [0])
 (.seq (.reg [
 ⟨some 3, .mv (.t 0), none⟩,
 ⟨some 4, .build [.str ⟨#[]⟩, .int .i64 0] [(0, 1, (.t 3))], none⟩,
 ⟨some 5, .box 2 (.t 4), none⟩,
 ⟨some 2, .mv (.t 5), none⟩] [2])
 (.ret))) }
def f15 : AFunc := { np := 1, res := [.tmp 2], pure := false, body :=
 (.seq (.reg [
 ⟨some 2, .mv (.c (.bool false)), none⟩] [0])
 (.seq (.reg [
 ⟨some 4, .mv (.t 0), none⟩,
 ⟨some 5, .call (.c (.fn 38 [] [])) [(.t 4), (.c (.int .i64 1))], none⟩,
 ⟨some 6, .bin .eql (.t 5) (.c (.int .i64 1)), none⟩,
 ⟨some 3, .mv (.t 6), none⟩] [0, 3])
 (.seq (.seq (.reg [
 ⟨some 7, .mv (.t 0), none⟩,
 ⟨some 8, .call (.c (.fn 38 [] [])) [(.t 7), (.c (.int .i64 2))], none⟩] [0, 3, 8])
 (.block 0 (.seq (.reg [
 ⟨some 12, .bin .eql (.t 8) (.c (.int .i64 0)), none⟩,
 ⟨some 11, .mv (.t 12), none⟩] [0, 3, 8, 11])
 (.cond (.t 11) (.seq (.reg [
 ⟨some 13, .mv (.t 0), none⟩,
 ⟨some 14, .nilc (.t 13), none⟩,
 ⟨some 15, .fadr 3 (.t 14), none⟩,
 ⟨some 16, .load false 1 (.t 15), none⟩,
 ⟨some 17, .bin .eql (.t 16) (.c (.int .i64 0)), none⟩] [0, 3, 17])
 (.cond (.t 17) (.reg [
 ⟨some 18, .mv (.t 0), none⟩,
 ⟨some 19, .call (.c (.fn 39 [] [])) [(.t 18)], none⟩] [3])
 (.skip) [3]))
 (.seq (.reg [
 ⟨some 21, .bin .eql (.t 8) (.c (.int .i64 1)), none⟩,
 ⟨some 20, .mv (.t 21), none⟩] [0, 3, 8, 20])
 (.cond (.t 20) (.reg [
 ⟨some 22, .mv (.t 0), none⟩,
 ⟨some 23, .call (.c (.fn 42 [] [])) [], none⟩,
 ⟨some 24, .call (.c (.fn 41 [] [])) [(.t 23)], none⟩,
 ⟨some 25, .bslice 1 1 [.int .i64 0] [(0, (.c (.int .i64 5)))], none⟩,
 ⟨some 26, .call (.c (.fn 43 [] [])) [(.t 25), (.c (.int .i64 30))], none⟩,
 ⟨some 27, .call (.c (.fn 41 [] [])) [(.t 26)], none⟩,
 ⟨some 28, .call (.c (.fn 40 [] [])) [(.t 22), (.t 24), (.t 27)], none⟩] [3])
 (.seq (.reg [
 ⟨some 30, .bin .eql (.t 8) (.c (.int .i64 2)), none⟩,
 ⟨some 29, .mv (.t 30), none⟩] [0, 3, 29])
 (.cond (.t 29) (.reg [
 ⟨some 31, .mv (.t 0), none⟩,
 ⟨some 32, .call (.c (.fn 44 [] [])) [(.t 31)], none⟩] [3])
 (.reg [
 ⟨some 9, .mv (.t 0), none⟩,
 ⟨some 10, .call (.c (.fn 45 [] [])) [(.t 9), (.c (.int .i64 700))], none⟩] [3]) [3])) [3])) [3])) [3]))
 (.seq (.reg [
 ⟨some 33, .mv (.t 3), none⟩,
 ⟨some 2, .mv (.t 33), none⟩] [2])
 (.ret))))) }
def f16 : AFunc := { np := 1, res := [.tmp 2], pure := false, body :=
 (.seq (.reg [
 ⟨some 2, .mv (.c (.int .i64 0)), none⟩] [0])
 (.seq (.seq (.reg [
 ⟨some 3, .mv (.t 0), none⟩,
 ⟨some 4, .eqn 0 false (.t 3) (.c (.nilp)), none⟩] [0, 4])
 (.cond (.t 4) (.seq (.reg [
 ⟨some 2, .mv (.c (.int .i64 1)), none⟩] [2])
 (.ret))
 (.skip) [0]))
 (.seq (.reg [
 ⟨some 5, .mv (.t 0), none⟩,
 ⟨some 6, .mv (.t 0), none⟩,
 ⟨some 7, .nilc (.t 6), none⟩,
 ⟨some 8, .fadr 1 (.t 7), none⟩,
 ⟨some 9, .load false 1 (.t 8), none⟩,
 ⟨some 10, .bin .add (.t 9) (.c (.int .i64 8)), none⟩,
 ⟨some 11, .bin .sub (.t 10) (.c (.int .i64 1)), none⟩,
 ⟨some 12, .bin .quo (.t 11) (.c (.int .i64 8)), none⟩,
 ⟨some 13, .bin .mul (.t 12) (.c (.int .i64 8)), none⟩,
 ⟨some 14, .nilc (.t 5), none⟩,
 ⟨some 15, .fadr 1 (.t 14), none⟩,
 ⟨none, .store 1 (.t 15) (.t 13), none⟩] [])
 (.seq (.reg [
 ⟨some 2, .mv (.c (.int .i64 0)), none⟩] [2])
 (.ret))))) }
def f17 : AFunc := { np := 1, res := [.tmp 2], pure := false, body :=
 (.seq (.reg [
 ⟨some 2, .mv (.c (.int .i64 0)), none⟩] [0])
 (.seq (.seq (.reg [
 ⟨some 3, .mv (.t 0), none⟩,
 ⟨some 4, .eqn 0 false (.t 3) (.c (.nilp)), none⟩] [0, 4])
 (.cond (.t 4) (.seq (.reg [
 ⟨some 2, .mv (.c (.int .i64 0)), none⟩] [2])
 (.ret))
 (.skip) [0]))
 (.seq (.reg [
 ⟨some 5, .mv (.t 0), none⟩,
 ⟨some 6, .nilc (.t 5), none⟩,
 ⟨some 7, .fadr 1 (.t 6), none⟩,
 ⟨some 8, .load false 1 (.t 7), none⟩,
 ⟨some 2, .mv (.t 8), none⟩] [2])
 (.ret)))) }
def f18 : AFunc := { np := 2, res := [.tmp 4], pure := false, body :=
 (.seq (.reg [
 ⟨some 4, .mv (.c (.int .i64 0)), none⟩] [0, 1])
 (.seq (.reg [
 ⟨some 8, .mv (.t 0), none⟩,
 ⟨some 9, .nilc (.t 8), none⟩,
 ⟨some 10, .fadr 0 (.t 9), none⟩,
 ⟨some 11, .mv (.t 1), none⟩,
 ⟨some 12, .call (.c (.fn 46 [] [])) [(.t 10), (.t 11)], none⟩,
 ⟨some 7, .mv (.t 12), none⟩,
 ⟨some 13, .extr (.t 7) 0, none⟩,
 ⟨some 14, .extr (.t 7) 1, none⟩,
 ⟨some 5, .mv (.t 13), none⟩,
 ⟨some 6, .mv (.t 14), none⟩] [0, 5, 6])
 (.seq (.seq (.reg [
 ⟨some 15, .mv (.t 6), none⟩,
 ⟨some 16, .bin .neq (.t 15) (.c (.int .i64 0)), none⟩,
 ⟨some 17, .mv (.t 16), none⟩,
 ⟨some 18, .mv (.t 0), (some (17, true))⟩,
 ⟨some 19, .nilc (.t 18), (some (17, true))⟩,
 ⟨some 20, .fadr 4 (.t 19), (some (17, true))⟩,
 ⟨some 21, .load false 1 (.t 20), (some (17, true))⟩,
 ⟨some 22, .bin .eql (.t 21) (.c (.int .i64 0)), (some (17, true))⟩,
 ⟨some 23, .pick (.t 17) (.t 22) (.c (.bool false)), none⟩] [0, 5, 23])
 (.cond (.t 23) (.reg [
 ⟨some 24, .mv (.t 0), none⟩,
 ⟨some 25, .nilc (.t 24), none⟩,
 ⟨some 26, .fadr 4 (.t 25), none⟩,
 ⟨none, .store 1 (.t 26) (.c (.int .i64 700)), none⟩] [5])
 (.skip) [5]))
 (.seq (.reg [
 ⟨some 27, .mv (.t 5), none⟩,
 ⟨some 4, .mv (.t 27), none⟩] [4])
 (.ret))))) }
def f19L0 : ACode :=
 (.seq (.seq (.reg [
 ⟨some 27, .mv (.t 4), none⟩,
 ⟨some 28, .mv (.t 2), none⟩,
 ⟨some 29, .bin .lss (.t 27) (.t 28), none⟩,
 ⟨some 30, .mv (.t 29), none⟩,
 ⟨some 31, .mv (.t 0), (some (30, true))⟩,
 ⟨some 32, .nilc (.t 31), (some (30, true))⟩,
 ⟨some 33, .fadr 4 (.t 32), (some (30, true))⟩,
 ⟨some 34, .load false 1 (.t 33), (some (30, true))⟩,
 ⟨some 35, .bin .eql (.t 34) (.c (.int .i64 0)), (some (30, true))⟩,
 ⟨some 36, .pick (.t 30) (.t 35) (.c (.bool false)), none⟩] [0, 2, 4, 36])
 (.cond (.t 36) (.skip)
 (.exit 0) [0, 2, 4]))
 (.seq (.block 1 (.seq (.reg [
 ⟨some 39, .mv (.t 0), none⟩,
 ⟨some 40, .call (.c (.fn 18 [] [])) [(.t 39), (.c (.int .i64 8))], none⟩,
 ⟨some 5, .mv (.t 40), none⟩] [0, 2, 4, 5])
 (.seq (.reg [
 ⟨some 41, .mv (.t 0), none⟩,
 ⟨some 42, .nilc (.t 41), none⟩,
 ⟨some 43, .fadr 4 (.t 42), none⟩,
 ⟨some 44, .load false 1 (.t 43), none⟩,
 ⟨some 45, .bin .eql (.t 44) (.c (.int .i64 0)), none⟩] [0, 2, 4, 5, 45])
 (.cond (.t 45) (.reg [
 ⟨some 46, .mv (.t 0), none⟩,
 ⟨some 47, .mv (.t 5), none⟩,
 ⟨some 48, .conv .u8 (.t 47), none⟩,
 ⟨some 49, .call (.c (.fn 48 [] [])) [(.t 46), (.t 48)], none⟩] [0, 2, 4])
 (.skip) [0, 2, 4]))) [0, 2, 4])
 (.reg [
 ⟨some 37, .mv (.t 4), none⟩,
 ⟨some 38, .bin .add (.t 37) (.c (.int .i64 1)), none⟩,
 ⟨some 4, .mv (.t 38), none⟩] [0, 2, 4])))
def f19 : AFunc := { np := 1, res := [], pure := false, body :=
 (.seq (.reg [
 ⟨some 6, .mv (.t 0), none⟩,
 ⟨some 7, .nilc (.t 6), none⟩,
 ⟨some 8, .fadr 0 (.t 7), none⟩,
 ⟨some 9, .call (.c (.fn 47 [] [])) [(.t 8)], none⟩] [0])
 (.seq (.reg [
 ⟨some 10, .mv (.t 0), none⟩,
 ⟨some 11, .call (.c (.fn 18 [] [])) [(.t 10), (.c (.int .i64 16))], none⟩,
 ⟨some 12, .mv (.t 0), none⟩,
 ⟨some 13, .call (.c (.fn 18 [] [])) [(.t 12), (.c (.int .i64 16))], none⟩,
 ⟨some 2, .mv (.t 11), none⟩,
 ⟨some 3, .mv (.t 13), none⟩] [0, 2, 3])
 (.seq (.seq (.reg [
 ⟨some 14, .mv (.t 0), none⟩,
 ⟨some 15, .nilc (.t 14), none⟩,
 ⟨some 16, .fadr 4 (.t 15), none⟩,
 ⟨some 17, .load false 1 (.t 16), none⟩,
 ⟨some 18, .bin .eql (.t 17) (.c (.int .i64 0)), none⟩,
 ⟨some 19, .mv (.t 18), none⟩,
 ⟨some 20, .mv (.t 2), (some (19, true))⟩,
 ⟨some 21, .mv (.t 3), (some (19, true))⟩,
 ⟨some 22, .bin .xor (.t 20) (.t 21), (some (19, true))⟩,
 ⟨some 23, .bin .neq (.t 22) (.c (.int .i64 65535)), (some (19, true))⟩,
 ⟨some 24, .pick (.t 19) (.t 23) (.c (.bool false)), none⟩] [0, 2, 24])
 (.cond (.t 24) (.reg [
 ⟨some 25, .mv (.t 0), none⟩,
 ⟨some 26, .call (.c (.fn 25 [] [])) [(.t 25)], none⟩] [0, 2])
 (.skip) [0, 2]))
 (.seq (.reg [
 ⟨some 4, .mv (.c (.int .i64 0)), none⟩] [0, 2, 4])
 (.block 0 (.loop [0, 2, 4] f19L0) []))))) }
def f20L0 : ACode :=
 (.seq (.seq (.reg [
 ⟨some 98, .mv (.t 15), none⟩,
 ⟨some 99, .mv (.t 10), none⟩,
 ⟨some 100, .bin .lss (.t 98) (.t 99), none⟩,
 ⟨some 101, .mv (.t 100), none⟩,
 ⟨some 102, .mv (.t 0), (some (101, true))⟩,
 ⟨some 103, .nilc (.t 102), (some (101, true))⟩,
 ⟨some 104, .fadr 4 (.t 103), (some (101, true))⟩,
 ⟨some 105, .load false 1 (.t 104), (some (101, true))⟩,
 ⟨some 106, .bin .eql (.t 105) (.c (.int .i64 0)), (some (101, true))⟩,
 ⟨some 107, .pick (.t 101) (.t 106) (.c (.bool false)), none⟩] [0, 1, 2, 10, 14, 15, 107])
 (.cond (.t 107) (.skip)
 (.exit 2) [0, 1, 2, 10, 14, 15]))
 (.seq (.block 3 (.dreg [0, 1, 2, 3, 4, 5, 6, 7, 8, 9, 10, 11, 12, 13, 14] [
 ⟨some 110, .mv (.t 0), none⟩,
 ⟨some 111, .mv (.t 0), none⟩,
 ⟨some 112, .nilc (.t 111), none⟩,
 ⟨some 113, .fadr 2 (.t 112), none⟩,
 ⟨some 114, .load false 1 (.t 113), none⟩,
 ⟨some 115, .mv (.t 0), none⟩,
 ⟨some 116, .nilc (.t 115), none⟩,
 ⟨some 117, .fadr 2 (.t 116), none⟩,
 ⟨some 118, .load false 1 (.t 117), none⟩,
 ⟨some 119, .len false (.t 118), none⟩,
 ⟨some 120, .mv (.t 14), none⟩,
 ⟨some 121, .bin .sub (.t 119) (.t 120), none⟩,
 ⟨some 122, .iadr 1 (.t 114) (.t 121), none⟩,
 ⟨some 123, .load false 1 (.t 122), none⟩,
 ⟨some 124, .call (.c (.fn 48 [] [])) [(.t 110), (.t 123)], none⟩] [] [0, 1, 2, 10, 14, 15]) [0, 1, 2, 10, 14, 15])
 (.reg [
 ⟨some 108, .mv (.t 15), none⟩,
 ⟨some 109, .bin .add (.t 108) (.c (.int .i64 1)), none⟩,
 ⟨some 15, .mv (.t 109), none⟩] [0, 1, 2, 10, 14, 15])))
def f20L1 : ACode :=
 (.seq (.seq (.reg [
 ⟨some 16, .mv (.t 0), none⟩,
 ⟨some 17, .nilc (.t 16), none⟩,
 ⟨some 18, .fadr 4 (.t 17), none⟩,
 ⟨some 19, .load false 1 (.t 18), none⟩,
 ⟨some 20, .bin .eql (.t 19) (.c (.int .i64 0)), none⟩] [0, 1, 2, 20])
 (.cond (.t 20) (.skip)
 (.exit 0) [0, 1, 2]))
 (.block 1 (.seq (.reg [
 ⟨some 21, .mv (.t 0), none⟩,
 ⟨some 22, .mv (.t 1), none⟩,
 ⟨some 23, .call (.c (.fn 49 [] [])) [(.t 21), (.t 22)], none⟩,
 ⟨some 6, .mv (.t 23), none⟩] [0, 1, 2, 6])
 (.seq (.seq (.reg [
 ⟨some 24, .mv (.t 0), none⟩,
 ⟨some 25, .nilc (.t 24), none⟩,
 ⟨some 26, .fadr 4 (.t 25), none⟩,
 ⟨some 27, .load false 1 (.t 26), none⟩,
 ⟨some 28, .bin .neq (.t 27) (.c (.int .i64 0)), none⟩,
 ⟨some 29, .mv (.t 28), none⟩,
 ⟨some 30, .mv (.t 6), (some (29, false))⟩,
 ⟨some 31, .bin .eql (.t 30) (.c (.int .i64 256)), (some (29, false))⟩,
 ⟨some 32, .pick (.t 29) (.c (.bool true)) (.t 31), none⟩] [0, 1, 2, 6, 32])
 (.cond (.t 32) (.ret)
 (.skip) [0, 1, 2, 6]))
 (.seq (.seq (.reg [
 ⟨some 33, .mv (.t 6), none⟩,
 ⟨some 34, .bin .lss (.t 33) (.c (.int .i64 256)), none⟩] [0, 1, 2, 6, 34])
 (.cond (.t 34) (.seq (.reg [
 ⟨some 35, .mv (.t 0), none⟩,
 ⟨some 36, .mv (.t 6), none⟩,
 ⟨some 37, .conv .u8 (.t 36), none⟩,
 ⟨some 38, .call (.c (.fn 48 [] [])) [(.t 35), (.t 37)], none⟩] [0, 1, 2])
 (.exit 1))
 (.skip) [0, 1, 2, 6]))
 (.seq (.reg [
 ⟨some 40, .mv (.t 6), none⟩,
 ⟨some 41, .call (.c (.fn 50 [] [])) [(.t 40)], none⟩,
 ⟨some 39, .mv (.t 41), none⟩,
 ⟨some 42, .extr (.t 39) 0, none⟩,
 ⟨some 43, .extr (.t 39) 1, none⟩,
 ⟨some 44, .extr (.t 39) 2, none⟩,
 ⟨some 7, .mv (.t 42), none⟩,
 ⟨some 8, .mv (.t 43), none⟩,
 ⟨some 9, .mv (.t 44), none⟩] [0, 1, 2, 7, 8, 9])
 (.seq (.seq (.reg [
 ⟨some 45, .mv (.t 9), none⟩,
 ⟨some 46, .bin .neq (.t 45) (.c (.int .i64 0)), none⟩] [0, 1, 2, 7, 8, 46])
 (.cond (.t 46) (.seq (.reg [
 ⟨some 47, .mv (.t 0), none⟩,
 ⟨some 48, .call (.c (.fn 25 [] [])) [(.t 47)], none⟩] [])
 (.ret))
 (.skip) [0, 1, 2, 7, 8]))
 (.seq (.reg [
 ⟨some 49, .mv (.t 7), none⟩,
 ⟨some 50, .mv (.t 0), none⟩,
 ⟨some 51, .mv (.t 8), none⟩,
 ⟨some 52, .call (.c (.fn 18 [] [])) [(.t 50), (.t 51)], none⟩,
 ⟨some 53, .bin .add (.t 49) (.t 52), none⟩,
 ⟨some 10, .mv (.t 53), none⟩] [0, 1, 2, 10])
 (.seq (.seq (.reg [
 ⟨some 54, .mv (.t 0), none⟩,
 ⟨some 55, .nilc (.t 54), none⟩,
 ⟨some 56, .fadr 4 (.t 55), none⟩,
 ⟨some 57, .load false 1 (.t 56), none⟩,
 ⟨some 58, .bin .neq (.t 57) (.c (.int .i64 0)), none⟩] [0, 1, 2, 10, 58])
 (.cond (.t 58) (.ret)
 (.skip) [0, 1, 2, 10]))
 (.seq (.reg [
 ⟨some 59, .mv (.t 0), none⟩,
 ⟨some 60, .mv (.t 2), none⟩,
 ⟨some 61, .call (.c (.fn 49 [] [])) [(.t 59), (.t 60)], none⟩,
 ⟨some 11, .mv (.t 61), none⟩] [0, 1, 2, 10, 11])
 (.seq (.seq (.reg [
 ⟨some 62, .mv (.t 0), none⟩,
 ⟨some 63, .nilc (.t 62), none⟩,
 ⟨some 64, .fadr 4 (.t 63), none⟩,
 ⟨some 65, .load false 1 (.t 64), none⟩,
 ⟨some 66, .bin .neq (.t 65) (.c (.int .i64 0)), none⟩] [0, 1, 2, 10, 11, 66])
 (.cond (.t 66) (.ret)
 (.skip) [0, 1, 2, 10, 11]))
 (.seq (.reg [
 ⟨some 68, .mv (.t 11), none⟩,
 ⟨some 69, .call (.c (.fn 51 [] [])) [(.t 68)], none⟩,
 ⟨some 67, .mv (.t 69), none⟩,
 ⟨some 70, .extr (.t 67) 0, none⟩,
 ⟨some 71, .extr (.t 67) 1, none⟩,
 ⟨some 72, .extr (.t 67) 2, none⟩,
 ⟨some 12, .mv (.t 70), none⟩,
 ⟨some 13, .mv (.t 71), none⟩,
 ⟨some 9, .mv (.t 72), none⟩] [0, 1, 2, 9, 10, 12, 13])
 (.seq (.seq (.reg [
 ⟨some 73, .mv (.t 9), none⟩,
 ⟨some 74, .bin .neq (.t 73) (.c (.int .i64 0)), none⟩] [0, 1, 2, 10, 12, 13, 74])
 (.cond (.t 74) (.seq (.reg [
 ⟨some 75, .mv (.t 0), none⟩,
 ⟨some 76, .call (.c (.fn 25 [] [])) [(.t 75)], none⟩] [])
 (.ret))
 (.skip) [0, 1, 2, 10, 12, 13]))
 (.seq (.reg [
 ⟨some 77, .mv (.t 12), none⟩,
 ⟨some 78, .mv (.t 0), none⟩,
 ⟨some 79, .mv (.t 13), none⟩,
 ⟨some 80, .call (.c (.fn 18 [] [])) [(.t 78), (.t 79)], none⟩,
 ⟨some 81, .bin .add (.t 77) (.t 80), none⟩,
 ⟨some 14, .mv (.t 81), none⟩] [0, 1, 2, 10, 14])
 (.seq (.seq (.reg [
 ⟨some 82, .mv (.t 0), none⟩,
 ⟨some 83, .nilc (.t 82), none⟩,
 ⟨some 84, .fadr 4 (.t 83), none⟩,
 ⟨some 85, .load false 1 (.t 84), none⟩,
 ⟨some 86, .bin .eql (.t 85) (.c (.int .i64 0)), none⟩,
 ⟨some 87, .mv (.t 86), none⟩,
 ⟨some 88, .mv (.t 14), (some (87, true))⟩,
 ⟨some 89, .mv (.t 0), (some (87, true))⟩,
 ⟨some 90, .nilc (.t 89), (some (87, true))⟩,
 ⟨some 91, .fadr 2 (.t 90), (some (87, true))⟩,
 ⟨some 92, .load false 1 (.t 91), (some (87, true))⟩,
 ⟨some 93, .len false (.t 92), (some (87, true))⟩,
 ⟨some 94, .bin .gtr (.t 88) (.t 93), (some (87, true))⟩,
 ⟨some 95, .pick (.t 87) (.t 94) (.c (.bool false)), none⟩] [0, 1, 2, 10, 14, 95])
 (.cond (.t 95) (.reg [
 ⟨some 96, .mv (.t 0), none⟩,
 ⟨some 97, .call (.c (.fn 25 [] [])) [(.t 96)], none⟩] [0, 1, 2, 10, 14])
 (.skip) [0, 1, 2, 10, 14]))
 (.seq (.reg [
 ⟨some 15, .mv (.c (.int .i64 0)), none⟩] [0, 1, 2, 10, 14, 15])
 (.block 2 (.loop [0, 1, 2, 10, 14, 15] f20L0) [0, 1, 2]))))))))))))))) [0, 1, 2]))
def f20 : AFunc := { np := 3, res := [], pure := false, body :=
 (.block 0 (.loop [0, 1, 2] f20L1) []) }
def f21L0 : ACode :=
 (.seq (.seq (.reg [
 ⟨some 12, .mv (.t 5), none⟩,
 ⟨some 13, .mv (.t 0), none⟩,
 ⟨some 14, .len false (.t 13), none⟩,
 ⟨some 15, .bin .lss (.t 12) (.t 14), none⟩] [0, 3, 4, 5, 15])
 (.cond (.t 15) (.skip)
 (.exit 2) [0, 3, 4, 5]))
 (.seq (.block 3 (.seq (.reg [
 ⟨some 18, .mv (.t 0), none⟩,
 ⟨some 19, .mv (.t 5), none⟩,
 ⟨some 20, .iadr 1 (.t 18) (.t 19), none⟩,
 ⟨some 21, .load false 1 (.t 20), none⟩,
 ⟨some 22, .mv (.t 4), none⟩,
 ⟨some 23, .bin .eql (.t 21) (.t 22), none⟩] [0, 3, 4, 5, 23])
 (.cond (.t 23) (.seq (.dreg [0, 1, 2, 3, 4, 5, 6, 7, 8, 9, 10] [
 ⟨some 24, .mv (.t 3), none⟩,
 ⟨some 25, .mv (.t 4), none⟩,
 ⟨some 26, .nilc (.t 24), none⟩,
 ⟨some 27, .fadr 0 (.t 26), none⟩,
 ⟨some 28, .iadra 16 1 (.t 27) (.t 25), none⟩,
 ⟨some 29, .load false 1 (.t 28), none⟩,
 ⟨some 30, .bin .add (.t 29) (.c (.int .i64 1)), none⟩,
 ⟨some 31, .nilc (.t 24), none⟩,
 ⟨some 32, .fadr 0 (.t 31), none⟩,
 ⟨some 33, .iadra 16 1 (.t 32) (.t 25), none⟩,
 ⟨none, .store 1 (.t 33) (.t 30), none⟩] [] [0, 3, 4, 5])
 (.reg [
 ⟨some 34, .mv (.t 3), none⟩,
 ⟨some 35, .mv (.t 3), none⟩,
 ⟨some 36, .nilc (.t 35), none⟩,
 ⟨some 37, .fadr 16 (.t 36), none⟩,
 ⟨some 38, .load false 1 (.t 37), none⟩,
 ⟨some 39, .mv (.t 5), none⟩,
 ⟨some 40, .bslice 1 1 [.int .i64 0] [(0, (.t 39))], none⟩,
 ⟨some 41, .app 1 8 (.t 38) (.t 40), none⟩,
 ⟨some 42, .nilc (.t 34), none⟩,
 ⟨some 43, .fadr 16 (.t 42), none⟩,
 ⟨none, .store 1 (.t 43) (.t 41), none⟩] [0, 3, 4, 5]))
 (.skip) [0, 3, 4, 5])) [0, 3, 4, 5])
 (.reg [
 ⟨some 16, .mv (.t 5), none⟩,
 ⟨some 17, .bin .add (.t 16) (.c (.int .i64 1)), none⟩,
 ⟨some 5, .mv (.t 17), none⟩] [0, 3, 4, 5])))
def f21L1 : ACode :=
 (.seq (.seq (.reg [
 ⟨some 8, .mv (.t 4), none⟩,
 ⟨some 9, .bin .leq (.t 8) (.c (.int .i64 15)), none⟩] [0, 3, 4, 9])
 (.cond (.t 9) (.skip)
 (.exit 0) [0, 3, 4]))
 (.seq (.block 1 (.seq (.reg [
 ⟨some 5, .mv (.c (.int .i64 0)), none⟩] [0, 3, 4, 5])
 (.block 2 (.loop [0, 3, 4, 5] f21L0) [0, 3, 4])) [0, 3, 4])
 (.reg [
 ⟨some 10, .mv (.t 4), none⟩,
 ⟨some 11, .bin .add (.t 10) (.c (.int .i64 1)), none⟩,
 ⟨some 4, .mv (.t 11), none⟩] [0, 3, 4])))
def f21 : AFunc := { np := 1, res := [.tmp 2], pure := true, body :=
 (.seq (.reg [
 ⟨some 2, .mv (.c (.nilp)), none⟩] [0])
 (.seq (.reg [
 ⟨some 6, .build [.int .i64 0, .int .i64 0, .int .i64 0, .int .i64 0, .int .i64 0, .int .i64 0, .int .i64 0, .int .i64 0, .int .i64 0, .int .i64 0, .int .i64 0, .int .i64 0, .int .i64 0, .int .i64 0, .int .i64 0, .int .i64 0, .nils] [], none⟩,
 ⟨some 7, .box 17 (.t 6), none⟩,
 ⟨some 3, .mv (.t 7), none⟩] [0, 3])
 (.seq (.seq (.reg [
 ⟨some 4, .mv (.c (.int .i64 1)), none⟩] [0, 3, 4])
 (.block 0 (.loop [0, 3, 4] f21L1) [3]))
 (.seq (.reg [
 ⟨some 44, .mv (.t 3), none⟩,
 ⟨some 2, .mv (.t 44), none⟩] [2])
 (.ret))))) }
def f22L0 : ACode :=
 (.seq (.seq (.reg [
 ⟨some 4, .mv (.t 2), none⟩,
 ⟨some 5, .bin .lss (.t 4) (.c (.int .i64 288)), none⟩] [1, 2, 5])
 (.cond (.t 5) (.skip)
 (.exit 0) [1, 2]))
 (.seq (.block 1 (.seq (.reg [
 ⟨some 3, .mv (.c (.int .i64 8)), none⟩] [1, 2, 3])
 (.seq (.seq (.reg [
 ⟨some 8, .mv (.t 2), none⟩,
 ⟨some 9, .bin .geq (.t 8) (.c (.int .i64 144)), none⟩,
 ⟨some 10, .mv (.t 9), none⟩,
 ⟨some 11, .mv (.t 2), (some (10, true))⟩,
 ⟨some 12, .bin .lss (.t 11) (.c (.int .i64 256)), (some (10, true))⟩,
 ⟨some 13, .pick (.t 10) (.t 12) (.c (.bool false)), none⟩] [1, 2, 3, 13])
 (.cond (.t 13) (.reg [
 ⟨some 3, .mv (.c (.int .i64 9)), none⟩] [1, 2, 3])
 (.seq (.reg [
 ⟨some 14, .mv (.t 2), none⟩,
 ⟨some 15, .bin .geq (.t 14) (.c (.int .i64 256)), none⟩,
 ⟨some 16, .mv (.t 15), none⟩,
 ⟨some 17, .mv (.t 2), (some (16, true))⟩,
 ⟨some 18, .bin .lss (.t 17) (.c (.int .i64 280)), (some (16, true))⟩,
 ⟨some 19, .pick (.t 16) (.t 18) (.c (.bool false)), none⟩] [1, 2, 3, 19])
 (.cond (.t 19) (.reg [
 ⟨some 3, .mv (.c (.int .i64 7)), none⟩] [1, 2, 3])
 (.skip) [1, 2, 3])) [1, 2, 3]))
 (.reg [
 ⟨some 20, .mv (.t 1), none⟩,
 ⟨some 21, .mv (.t 3), none⟩,
 ⟨some 22, .bslice 1 1 [.int .i64 0] [(0, (.t 21))], none⟩,
 ⟨some 23, .app 1 8 (.t 20) (.t 22), none⟩,
 ⟨some 1, .mv (.t 23), none⟩] [1, 2]))) [1, 2])
 (.reg [
 ⟨some 6, .mv (.t 2), none⟩,
 ⟨some 7, .bin .add (.t 6) (.c (.int .i64 1)), none⟩,
 ⟨some 2, .mv (.t 7), none⟩] [1, 2])))
def f22 : AFunc := { np := 0, res := [.tmp 0], pure := true, body :=
 (.seq (.reg [
 ⟨some 0, .mv (.c (.nils)), none⟩] [])
 (.seq (.reg [
 ⟨some 1, .mv (.c (.nils)), none⟩] [1])
 (.seq (.seq (.reg [
 ⟨some 2, .mv (.c (.int .i64 0)), none⟩] [1, 2])
 (.block 0 (.loop [1, 2] f22L0) [1]))
 (.seq (.reg [
 ⟨some 24, .mv (.t 1), none⟩,
 ⟨some 0, .mv (.t 24), none⟩] [0])
 (.ret))))) }
def f23L0 : ACode :=
 (.seq (.seq (.reg [
 ⟨some 4, .mv (.t 2), none⟩,
 ⟨some 5, .bin .lss (.t 4) (.c (.int .i64 30)), none⟩] [1, 2, 5])
 (.cond (.t 5) (.skip)
 (.exit 0) [1, 2]))
 (.seq (.block 1 (.reg [
 ⟨some 8, .mv (.t 1), none⟩,
 ⟨some 9, .mv (.t 2), none⟩,
 ⟨some 10, .iadr 1 (.t 8) (.t 9), none⟩,
 ⟨none, .store 1 (.t 10) (.c (.int .i64 5)), none⟩] [1, 2]) [1, 2])
 (.reg [
 ⟨some 6, .mv (.t 2), none⟩,
 ⟨some 7, .bin .add (.t 6) (.c (.int .i64 1)), none⟩,
 ⟨some 2, .mv (.t 7), none⟩] [1, 2])))
def f23 : AFunc := { np := 0, res := [.tmp 0], pure := true, body :=
 (.seq (.reg [
 ⟨some 0, .mv (.c (.nils)), none⟩] [])
 (.seq (.reg [
 ⟨some 3, .mksl 1 8 [.int .i64 0] (.c (.int .i64 30)) (.c (.int .i64 30)), none⟩,
 ⟨some 1, .mv (.t 3), none⟩] [1])
 (.seq (.seq (.reg [
 ⟨some 2, .mv (.c (.int .i64 0)), none⟩] [1, 2])
 (.block 0 (.loop [1, 2] f23L0) [1]))
 (.seq (.reg [
 ⟨some 11, .mv (.t 1), none⟩,
 ⟨some 0, .mv (.t 11), none⟩] [0])
 (.ret))))) }
def f24L0 : ACode :=
 (.seq (.seq (.reg [
 ⟨some 35, .mv (.t 7), none⟩,
 ⟨some 36, .mv (.t 4), none⟩,
 ⟨some 37, .bin .lss (.t 35) (.t 36), none⟩] [0, 2, 3, 4, 5, 6, 7, 37])
 (.cond (.t 37) (.skip)
 (.exit 0) [0, 2, 3, 4, 5, 6, 7]))
 (.seq (.block 1 (.dreg [0, 1, 2, 3, 4, 5, 6, 7, 8] [
 ⟨some 40, .mv (.t 5), none⟩,
 ⟨some 41, .mv (.t 6), none⟩,
 ⟨some 42, .mv (.t 7), none⟩,
 ⟨some 43, .iadr 1 (.t 41) (.t 42), none⟩,
 ⟨some 44, .load false 1 (.t 43), none⟩,
 ⟨some 45, .mv (.t 0), none⟩,
 ⟨some 46, .call (.c (.fn 18 [] [])) [(.t 45), (.c (.int .i64 3))], none⟩,
 ⟨some 47, .iadr 1 (.t 40) (.t 44), none⟩,
 ⟨none, .store 1 (.t 47) (.t 46), none⟩] [(4, [1])] [0, 2, 3, 4, 5, 6, 7]) [0, 2, 3, 4, 5, 6, 7])
 (.reg [
 ⟨some 38, .mv (.t 7), none⟩,
 ⟨some 39, .bin .add (.t 38) (.c (.int .i64 1)), none⟩,
 ⟨some 7, .mv (.t 39), none⟩] [0, 2, 3, 4, 5, 6, 7])))
def f24 : AFunc := { np := 1, res := [], pure := false, body :=
 (.seq (.reg [
 ⟨some 9, .mv (.t 0), none⟩,
 ⟨some 10, .call (.c (.fn 18 [] [])) [(.t 9), (.c (.int .i64 5))], none⟩,
 ⟨some 11, .bin .add (.c (.int .i64 257)) (.t 10), none⟩,
 ⟨some 2, .mv (.t 11), none⟩] [0, 2])
 (.seq (.reg [
 ⟨some 12, .mv (.t 0), none⟩,
 ⟨some 13, .call (.c (.fn 18 [] [])) [(.t 12), (.c (.int .i64 5))], none⟩,
 ⟨some 14, .bin .add (.c (.int .i64 1)) (.t 13), none⟩,
 ⟨some 3, .mv (.t 14), none⟩] [0, 2, 3])
 (.seq (.reg [
 ⟨some 15, .mv (.t 0), none⟩,
 ⟨some 16, .call (.c (.fn 18 [] [])) [(.t 15), (.c (.int .i64 4))], none⟩,
 ⟨some 17, .bin .add (.c (.int .i64 4)) (.t 16), none⟩,
 ⟨some 4, .mv (.t 17), none⟩] [0, 2, 3, 4])
 (.seq (.seq (.reg [
 ⟨some 18, .mv (.t 0), none⟩,
 ⟨some 19, .nilc (.t 18), none⟩,
 ⟨some 20, .fadr 4 (.t 19), none⟩,
 ⟨some 21, .load false 1 (.t 20), none⟩,
 ⟨some 22, .bin .neq (.t 21) (.c (.int .i64 0)), none⟩,
 ⟨some 23, .mv (.t 22), none⟩,
 ⟨some 24, .mv (.t 2), (some (23, false))⟩,
 ⟨some 25, .bin .gtr (.t 24) (.c (.int .i64 286)), (some (23, false))⟩,
 ⟨some 26, .pick (.t 23) (.c (.bool true)) (.t 25), none⟩,
 ⟨some 27, .mv (.t 26), none⟩,
 ⟨some 28, .mv (.t 3), (some (27, false))⟩,
 ⟨some 29, .bin .gtr (.t 28) (.c (.int .i64 30)), (some (27, false))⟩,
 ⟨some 30, .pick (.t 27) (.c (.bool true)) (.t 29), none⟩] [0, 2, 3, 4, 30])
 (.cond (.t 30) (.seq (.reg [
 ⟨some 31, .mv (.t 0), none⟩,
 ⟨some 32, .call (.c (.fn 25 [] [])) [(.t 31)], none⟩] [])
 (.ret))
 (.skip) [0, 2, 3, 4]))
 (.seq (.reg [
 ⟨some 33, .mksl 1 8 [.int .i64 0] (.c (.int .i64 19)) (.c (.int .i64 19)), none⟩,
 ⟨some 5, .mv (.t 33), none⟩] [0, 2, 3, 4, 5])
 (.seq (.reg [
 ⟨some 34, .call (.c (.fn 32 [] [])) [], none⟩,
 ⟨some 6, .mv (.t 34), none⟩] [0, 2, 3, 4, 5, 6])
 (.seq (.seq (.reg [
 ⟨some 7, .mv (.c (.int .i64 0)), none⟩] [0, 2, 3, 4, 5, 6, 7])
 (.block 0 (.loop [0, 2, 3, 4, 5, 6, 7] f24L0) [0, 2, 3, 5]))
 (.seq (.seq (.reg [
 ⟨some 48, .mv (.t 0), none⟩,
 ⟨some 49, .nilc (.t 48), none⟩,
 ⟨some 50, .fadr 4 (.t 49), none⟩,
 ⟨some 51, .load false 1 (.t 50), none⟩,
 ⟨some 52, .bin .neq (.t 51) (.c (.int .i64 0)), none⟩,
 ⟨some 53, .mv (.t 52), none⟩,
 ⟨some 54, .mv (.t 5), (some (53, false))⟩,
 ⟨some 55, .call (.c (.fn 52 [] [])) [(.t 54)], (some (53, false))⟩,
 ⟨some 56, .bin .neq (.t 55) (.c (.int .i64 0)), (some (53, false))⟩,
 ⟨some 57, .pick (.t 53) (.c (.bool true)) (.t 56), none⟩] [0, 2, 3, 5, 57])
 (.cond (.t 57) (.seq (.reg [
 ⟨some 58, .mv (.t 0), none⟩,
 ⟨some 59, .call (.c (.fn 25 [] [])) [(.t 58)], none⟩] [])
 (.ret))
 (.skip) [0, 2, 3, 5]))
 (.seq (.reg [
 ⟨some 60, .mv (.t 0), none⟩,
 ⟨some 61, .mv (.t 5), none⟩,
 ⟨some 62, .call (.c (.fn 21 [] [])) [(.t 61)], none⟩,
 ⟨some 63, .mv (.t 2), none⟩,
 ⟨some 64, .mv (.t 3), none⟩,
 ⟨some 65, .bin .add (.t 63) (.t 64), none⟩,
 ⟨some 66, .call (.c (.fn 53 [] [])) [(.t 60), (.t 62), (.t 65)], none⟩,
 ⟨some 8, .mv (.t 66), none⟩] [0, 2, 8])
 (.seq (.seq (.reg [
 ⟨some 67, .mv (.t 0), none⟩,
 ⟨some 68, .nilc (.t 67), none⟩,
 ⟨some 69, .fadr 4 (.t 68), none⟩,
 ⟨some 70, .load false 1 (.t 69), none⟩,
 ⟨some 71, .bin .neq (.t 70) (.c (.int .i64 0)), none⟩] [0, 2, 8, 71])
 (.cond (.t 71) (.ret)
 (.skip) [0, 2, 8]))
 (.seq (.seq (.reg [
 ⟨some 72, .mv (.t 8), none⟩,
 ⟨some 73, .mv (.t 2), none⟩,
 ⟨some 74, .sl 1 (.t 72) none (some (.t 73)) none, none⟩,
 ⟨some 75, .call (.c (.fn 52 [] [])) [(.t 74)], none⟩,
 ⟨some 76, .bin .neq (.t 75) (.c (.int .i64 0)), none⟩,
 ⟨some 77, .mv (.t 76), none⟩,
 ⟨some 78, .mv (.t 8), (some (77, false))⟩,
 ⟨some 79, .iadr 1 (.t 78) (.c (.int .i64 256)), (some (77, false))⟩,
 ⟨some 80, .load false 1 (.t 79), (some (77, false))⟩,
 ⟨some 81, .bin .eql (.t 80) (.c (.int .i64 0)), (some (77, false))⟩,
 ⟨some 82, .pick (.t 77) (.c (.bool true)) (.t 81), none⟩,
 ⟨some 83, .mv (.t 82), none⟩,
 ⟨some 84, .mv (.t 8), (some (83, false))⟩,
 ⟨some 85, .mv (.t 2), (some (83, false))⟩,
 ⟨some 86, .sl 1 (.t 84) (some (.t 85)) none none, (some (83, false))⟩,
 ⟨some 87, .call (.c (.fn 52 [] [])) [(.t 86)], (some (83, false))⟩,
 ⟨some 88, .bin .neq (.t 87) (.c (.int .i64 0)), (some (83, false))⟩,
 ⟨some 89, .mv (.t 88), (some (83, false))⟩,
 ⟨some 90, .mv (.t 8), (some (89, true))⟩,
 ⟨some 91, .mv (.t 2), (some (89, true))⟩,
 ⟨some 92, .sl 1 (.t 90) (some (.t 91)) none none, (some (89, true))⟩,
 ⟨some 93, .call (.c (.fn 54 [] [])) [(.t 92)], (some (89, true))⟩,
 ⟨some 94, .not (.t 93), (some (89, true))⟩,
 ⟨some 95, .pick (.t 89) (.t 94) (.c (.bool false)), (some (83, false))⟩,
 ⟨some 96, .pick (.t 83) (.c (.bool true)) (.t 95), none⟩] [0, 2, 8, 96])
 (.cond (.t 96) (.seq (.reg [
 ⟨some 97, .mv (.t 0), none⟩,
 ⟨some 98, .call (.c (.fn 25 [] [])) [(.t 97)], none⟩] [])
 (.ret))
 (.skip) [0, 2, 8]))
 (.dreg [0, 1, 2, 3, 4, 5, 6, 7, 8, 9] [
 ⟨some 99, .mv (.t 0), none⟩,
 ⟨some 100, .mv (.t 8), none⟩,
 ⟨some 101, .mv (.t 2), none⟩,
 ⟨some 102, .sl 1 (.t 100) none (some (.t 101)) none, none⟩,
 ⟨some 103, .call (.c (.fn 21 [] [])) [(.t 102)], none⟩,
 ⟨some 104, .mv (.t 8), none⟩,
 ⟨some 105, .mv (.t 2), none⟩,
 ⟨some 106, .sl 1 (.t 104) (some (.t 105)) none none, none⟩,
 ⟨some 107, .call (.c (.fn 21 [] [])) [(.t 106)], none⟩,
 ⟨some 108, .call (.c (.fn 20 [] [])) [(.t 99), (.t 103), (.t 107)], none⟩] [(7, [0])] [])))))))))))) }
def f25 : AFunc := { np := 1, res := [], pure := false, body :=
 (.seq (.reg [
 ⟨some 2, .mv (.t 0), none⟩,
 ⟨some 3, .nilc (.t 2), none⟩,
 ⟨some 4, .fadr 4 (.t 3), none⟩,
 ⟨some 5, .load false 1 (.t 4), none⟩,
 ⟨some 6, .bin .eql (.t 5) (.c (.int .i64 0)), none⟩] [0, 6])
 (.cond (.t 6) (.reg [
 ⟨some 7, .mv (.t 0), none⟩,
 ⟨some 8, .nilc (.t 7), none⟩,
 ⟨some 9, .fadr 4 (.t 8), none⟩,
 ⟨none, .store 1 (.t 9) (.c (.int .i64 700)), none⟩] [])
 (.skip) [])) }
def f32 : AFunc := { np := 0, res := [.tmp 0], pure := true, body :=
 (.seq (.reg [
 ⟨some 0, .mv (.c (.nils)), none⟩] [])
 (.seq (.reg [
 ⟨some 1, .bslice 1 19 [.int .i64 0] [(0, (.c (.int .i64 16))), (1, (.c (.int .i64 17))), (2, (.c (.int .i64 18))), (3, (.c (.int .i64 0))), (4, (.c (.int .i64 8))), (5, (.c (.int .i64 7))), (6, (.c (.int .i64 9))), (7, (.c (.int .i64 6))), (8, (.c (.int .i64 10))), (9, (.c (.int .i64 5))), (10, (.c (.int .i64 11))), (11, (.c (.int .i64 4))), (12, (.c (.int .i64 12))), (13, (.c (.int .i64 3))), (14, (.c (.int .i64 13))), (15, (.c (.int .i64 2))), (16, (.c (.int .i64 14))), (17, (.c (.int .i64 1))), (18, (.c (.int .i64 15)))], none⟩,
 ⟨some 0, .mv (.t 1), none⟩] [0])
 (.ret))) }
def f38 : AFunc := { np := 2, res := [.tmp 4], pure := false, body :=
 (.seq (.reg [
 ⟨some 4, .mv (.c (.int .i64 0)), none⟩] [0, 1])
 (.seq (.reg [
 ⟨some 8, .mv (.t 0), none⟩,
 ⟨some 9, .nilc (.t 8), none⟩,
 ⟨some 10, .fadr 0 (.t 9), none⟩,
 ⟨some 11, .load false 1 (.t 10), none⟩,
 ⟨some 12, .mv (.t 1), none⟩,
 ⟨some 13, .call (.c (.fn 58 [] [])) [(.t 11), (.t 12)], none⟩,
 ⟨some 7, .mv (.t 13), none⟩,
 ⟨some 14, .extr (.t 7) 0, none⟩,
 ⟨some 15, .extr (.t 7) 1, none⟩,
 ⟨some 5, .mv (.t 14), none⟩,
 ⟨some 6, .mv (.t 15), none⟩] [0, 5, 6])
 (.seq (.seq (.reg [
 ⟨some 16, .mv (.t 6), none⟩,
 ⟨some 17, .bin .neq (.t 16) (.c (.int .i64 0)), none⟩] [0, 5, 17])
 (.cond (.t 17) (.reg [
 ⟨some 18, .mv (.t 0), none⟩,
 ⟨some 19, .call (.c (.fn 45 [] [])) [(.t 18), (.c (.int .i64 700))], none⟩] [5])
 (.skip) [5]))
 (.seq (.reg [
 ⟨some 20, .mv (.t 5), none⟩,
 ⟨some 4, .mv (.t 20), none⟩] [4])
 (.ret))))) }
def f39L0 : ACode :=
 (.seq (.seq (.reg [
 ⟨some 18, .mv (.t 2), none⟩,
 ⟨some 19, .bin .gtr (.t 18) (.c (.int .i64 0)), none⟩,
 ⟨some 20, .mv (.t 19), none⟩,
 ⟨some 21, .mv (.t 0), (some (20, true))⟩,
 ⟨some 22, .nilc (.t 21), (some (20, true))⟩,
 ⟨some 23, .fadr 3 (.t 22), (some (20, true))⟩,
 ⟨some 24, .load false 1 (.t 23), (some (20, true))⟩,
 ⟨some 25, .bin .eql (.t 24) (.c (.int .i64 0)), (some (20, true))⟩,
 ⟨some 26, .pick (.t 20) (.t 25) (.c (.bool false)), none⟩] [0, 2, 26])
 (.cond (.t 26) (.skip)
 (.exit 0) [0, 2]))
 (.seq (.block 1 (.seq (.reg [
 ⟨some 29, .mv (.t 0), none⟩,
 ⟨some 30, .call (.c (.fn 38 [] [])) [(.t 29), (.c (.int .i64 8))], none⟩,
 ⟨some 3, .mv (.t 30), none⟩] [0, 2, 3])
 (.seq (.reg [
 ⟨some 31, .mv (.t 0), none⟩,
 ⟨some 32, .nilc (.t 31), none⟩,
 ⟨some 33, .fadr 3 (.t 32), none⟩,
 ⟨some 34, .load false 1 (.t 33), none⟩,
 ⟨some 35, .bin .eql (.t 34) (.c (.int .i64 0)), none⟩] [0, 2, 3, 35])
 (.cond (.t 35) (.reg [
 ⟨some 36, .mv (.t 0), none⟩,
 ⟨some 37, .mv (.t 3), none⟩,
 ⟨some 38, .conv .u8 (.t 37), none⟩,
 ⟨some 39, .call (.c (.fn 59 [] [])) [(.t 36), (.t 38)], none⟩] [0, 2])
 (.skip) [0, 2]))) [0, 2])
 (.reg [
 ⟨some 27, .mv (.t 2), none⟩,
 ⟨some 28, .bin .sub (.t 27) (.c (.int .i64 1)), none⟩,
 ⟨some 2, .mv (.t 28), none⟩] [0, 2])))
def f39 : AFunc := { np := 1, res := [], pure := false, body :=
 (.seq (.reg [
 ⟨some 4, .mv (.t 0), none⟩,
 ⟨some 5, .nilc (.t 4), none⟩,
 ⟨some 6, .fadr 0 (.t 5), none⟩,
 ⟨some 7, .load false 1 (.t 6), none⟩,
 ⟨some 8, .call (.c (.fn 16 [] [])) [(.t 7)], none⟩] [0])
 (.seq (.reg [
 ⟨some 9, .mv (.t 0), none⟩,
 ⟨some 10, .call (.c (.fn 38 [] [])) [(.t 9), (.c (.int .i64 16))], none⟩,
 ⟨some 2, .mv (.t 10), none⟩] [0, 2])
 (.seq (.seq (.reg [
 ⟨some 11, .mv (.t 0), none⟩,
 ⟨some 12, .call (.c (.fn 38 [] [])) [(.t 11), (.c (.int .i64 16))], none⟩,
 ⟨some 13, .mv (.t 2), none⟩,
 ⟨some 14, .bin .xor (.t 13) (.c (.int .i64 65535)), none⟩,
 ⟨some 15, .bin .neq (.t 12) (.t 14), none⟩] [0, 2, 15])
 (.cond (.t 15) (.reg [
 ⟨some 16, .mv (.t 0), none⟩,
 ⟨some 17, .call (.c (.fn 45 [] [])) [(.t 16), (.c (.int .i64 700))], none⟩] [0, 2])
 (.skip) [0, 2]))
 (.block 0 (.loop [0, 2] f39L0) [])))) }
def f40L0 : ACode :=
 (.seq (.seq (.reg [
 ⟨some 7, .mv (.t 0), none⟩,
 ⟨some 8, .nilc (.t 7), none⟩,
 ⟨some 9, .fadr 3 (.t 8), none⟩,
 ⟨some 10, .load false 1 (.t 9), none⟩,
 ⟨some 11, .bin .eql (.t 10) (.c (.int .i64 0)), none⟩] [0, 1, 2, 11])
 (.cond (.t 11) (.skip)
 (.exit 0) [0, 1, 2]))
 (.block 1 (.seq (.reg [
 ⟨some 12, .mv (.t 0), none⟩,
 ⟨some 13, .mv (.t 1), none⟩,
 ⟨some 14, .call (.c (.fn 60 [] [])) [(.t 12), (.t 13)], none⟩,
 ⟨some 6, .mv (.t 14), none⟩] [0, 1, 2, 6])
 (.block 2 (.seq (.reg [
 ⟨some 20, .mv (.t 6), none⟩,
 ⟨some 21, .bin .lss (.t 20) (.c (.int .i64 256)), none⟩,
 ⟨some 19, .mv (.t 21), none⟩] [0, 1, 2, 6, 19])
 (.cond (.t 19) (.reg [
 ⟨some 22, .mv (.t 0), none⟩,
 ⟨some 23, .mv (.t 6), none⟩,
 ⟨some 24, .conv .u8 (.t 23), none⟩,
 ⟨some 25, .call (.c (.fn 59 [] [])) [(.t 22), (.t 24)], none⟩] [0, 1, 2])
 (.seq (.reg [
 ⟨some 27, .mv (.t 6), none⟩,
 ⟨some 28, .bin .eql (.t 27) (.c (.int .i64 256)), none⟩,
 ⟨some 26, .mv (.t 28), none⟩] [0, 1, 2, 6, 26])
 (.cond (.t 26) (.ret)
 (.reg [
 ⟨some 15, .mv (.t 0), none⟩,
 ⟨some 16, .mv (.t 6), none⟩,
 ⟨some 17, .mv (.t 2), none⟩,
 ⟨some 18, .call (.c (.fn 61 [] [])) [(.t 15), (.t 16), (.t 17)], none⟩] [0, 1, 2]) [0, 1, 2])) [0, 1, 2])) [0, 1, 2])) [0, 1, 2]))
def f40 : AFunc := { np := 3, res := [], pure := false, body :=
 (.block 0 (.loop [0, 1, 2] f40L0) []) }
def f41L0 : ACode :=
 (.seq (.seq (.reg [
 ⟨some 44, .mv (.t 7), none⟩,
 ⟨some 45, .bin .leq (.t 44) (.c (.int .i64 15)), none⟩] [3, 6, 7, 45])
 (.cond (.t 45) (.skip)
 (.exit 2) [3, 6, 7]))
 (.seq (.block 3 (.seq (.reg [
 ⟨some 48, .mv (.t 6), none⟩,
 ⟨some 49, .mv (.t 3), none⟩,
 ⟨some 50, .mv (.t 7), none⟩,
 ⟨some 51, .bin .sub (.t 50) (.c (.int .i64 1)), none⟩,
 ⟨some 52, .nilc (.t 49), none⟩,
 ⟨some 53, .fadr 16 (.t 52), none⟩,
 ⟨some 54, .iadra 16 1 (.t 53) (.t 51), none⟩,
 ⟨some 55, .load false 1 (.t 54), none⟩,
 ⟨some 56, .bin .add (.t 48) (.t 55), none⟩,
 ⟨some 57, .bin .mul (.t 56) (.c (.int .i64 2)), none⟩,
 ⟨some 6, .mv (.t 57), none⟩] [3, 6, 7])
 (.seq (.reg [
 ⟨some 58, .mv (.t 3), none⟩,
 ⟨some 59, .mv (.t 7), none⟩,
 ⟨some 60, .mv (.t 6), none⟩,
 ⟨some 61, .nilc (.t 58), none⟩,
 ⟨some 62, .fadr 0 (.t 61), none⟩,
 ⟨some 63, .iadra 16 1 (.t 62) (.t 59), none⟩,
 ⟨none, .store 1 (.t 63) (.t 60), none⟩] [3, 6, 7])
 (.dreg [0, 1, 2, 3, 4, 5, 6, 7, 8, 9, 10, 11, 12, 13, 14, 15] [
 ⟨some 64, .mv (.t 3), none⟩,
 ⟨some 65, .mv (.t 3), none⟩,
 ⟨some 66, .nilc (.t 65), none⟩,
 ⟨some 67, .fadr 48 (.t 66), none⟩,
 ⟨some 68, .load false 1 (.t 67), none⟩,
 ⟨some 69, .bin .mul (.t 68) (.c (.int .i64 2)), none⟩,
 ⟨some 70, .mv (.t 3), none⟩,
 ⟨some 71, .mv (.t 7), none⟩,
 ⟨some 72, .nilc (.t 70), none⟩,
 ⟨some 73, .fadr 16 (.t 72), none⟩,
 ⟨some 74, .iadra 16 1 (.t 73) (.t 71), none⟩,
 ⟨some 75, .load false 1 (.t 74), none⟩,
 ⟨some 76, .bin .sub (.t 69) (.t 75), none⟩,
 ⟨some 77, .nilc (.t 64), none⟩,
 ⟨some 78, .fadr 48 (.t 77), none⟩,
 ⟨none, .store 1 (.t 78) (.t 76), none⟩] [] [3, 6, 7]))) [3, 6, 7])
 (.reg [
 ⟨some 46, .mv (.t 7), none⟩,
 ⟨some 47, .bin .add (.t 46) (.c (.int .i64 1)), none⟩,
 ⟨some 7, .mv (.t 47), none⟩] [3, 6, 7])))
def f41L1 : ACode :=
 (.seq (.reg [
 ⟨some 13, .bin .lss (.t 12) (.t 11), none⟩] [3, 10, 11, 12, 13])
 (.seq (.cond (.t 13) (.skip)
 (.exit 0) [3, 10, 11, 12])
 (.seq (.block 1 (.seq (.reg [
 ⟨some 14, .mv (.t 12), none⟩,
 ⟨some 15, .iadr 1 (.t 10) (.t 12), none⟩,
 ⟨some 16, .load false 1 (.t 15), none⟩,
 ⟨some 4, .mv (.t 14), none⟩,
 ⟨some 5, .mv (.t 16), none⟩] [3, 4, 5, 10, 11, 12])
 (.seq (.reg [
 ⟨some 17, .mv (.t 5), none⟩,
 ⟨some 18, .bin .gtr (.t 17) (.c (.int .i64 0)), none⟩] [3, 4, 5, 10, 11, 12, 18])
 (.cond (.t 18) (.seq (.dreg [0, 1, 2, 3, 4, 5, 6, 7, 8, 9, 10] [
 ⟨some 19, .mv (.t 3), none⟩,
 ⟨some 20, .mv (.t 5), none⟩,
 ⟨some 21, .nilc (.t 19), none⟩,
 ⟨some 22, .fadr 16 (.t 21), none⟩,
 ⟨some 23, .iadra 16 1 (.t 22) (.t 20), none⟩,
 ⟨some 24, .load false 1 (.t 23), none⟩,
 ⟨some 25, .bin .add (.t 24) (.c (.int .i64 1)), none⟩,
 ⟨some 26, .nilc (.t 19), none⟩,
 ⟨some 27, .fadr 16 (.t 26), none⟩,
 ⟨some 28, .iadra 16 1 (.t 27) (.t 20), none⟩,
 ⟨none, .store 1 (.t 28) (.t 25), none⟩] [] [3, 4, 5, 10, 11, 12])
 (.dreg [0, 1, 2, 3, 4, 5, 6, 7, 8, 9, 10, 11, 12, 13, 14] [
 ⟨some 29, .mv (.t 3), none⟩,
 ⟨some 30, .mv (.t 5), none⟩,
 ⟨some 31, .mv (.t 3), none⟩,
 ⟨some 32, .mv (.t 5), none⟩,
 ⟨some 33, .nilc (.t 31), none⟩,
 ⟨some 34, .fadr 32 (.t 33), none⟩,
 ⟨some 35, .iadra 16 1 (.t 34) (.t 32), none⟩,
 ⟨some 36, .load false 1 (.t 35), none⟩,
 ⟨some 37, .mv (.t 4), none⟩,
 ⟨some 38, .bslice 1 1 [.int .i64 0] [(0, (.t 37))], none⟩,
 ⟨some 39, .app 1 8 (.t 36) (.t 38), none⟩,
 ⟨some 40, .nilc (.t 29), none⟩,
 ⟨some 41, .fadr 32 (.t 40), none⟩,
 ⟨some 42, .iadra 16 1 (.t 41) (.t 30), none⟩,
 ⟨none, .store 1 (.t 42) (.t 39), none⟩] [] [3, 10, 11, 12]))
 (.skip) [3, 10, 11, 12]))) [3, 10, 11, 12])
 (.reg [
 ⟨some 43, .bin .add (.t 12) (.c (.int .i64 1)), none⟩,
 ⟨some 12, .mv (.t 43), none⟩] [3, 10, 11, 12]))))
def f41 : AFunc := { np := 1, res := [.tmp 2], pure := true, body :=
 (.seq (.reg [
 ⟨some 2, .mv (.c (.nilp)), none⟩] [0])
 (.seq (.reg [
 ⟨some 8, .build [.int .i64 0, .int .i64 0, .int .i64 0, .int .i64 0, .int .i64 0, .int .i64 0, .int .i64 0, .int .i64 0, .int .i64 0, .int .i64 0, .int .i64 0, .int .i64 0, .int .i64 0, .int .i64 0, .int .i64 0, .int .i64 0, .int .i64 0, .int .i64 0, .int .i64 0, .int .i64 0, .int .i64 0, .int .i64 0, .int .i64 0, .int .i64 0, .int .i64 0, .int .i64 0, .int .i64 0, .int .i64 0, .int .i64 0, .int .i64 0, .int .i64 0, .int .i64 0, .nils, .nils, .nils, .nils, .nils, .nils, .nils, .nils, .nils, .nils, .nils, .nils, .nils, .nils, .nils, .nils, .int .i64 0] [(48, 1, (.c (.int .i64 1)))], none⟩,
 ⟨some 9, .box 49 (.t 8), none⟩,
 ⟨some 3, .mv (.t 9), none⟩] [0, 3])
 (.seq (.seq (.reg [
 ⟨some 10, .mv (.t 0), none⟩,
 ⟨some 11, .len false (.t 10), none⟩,
 ⟨some 12, .mv (.c (.int .i64 0)), none⟩] [3, 10, 11, 12])
 (.block 0 (.loop [3, 10, 11, 12] f41L1) [3]))
 (.seq (.reg [
 ⟨some 6, .mv (.c (.int .i64 0)), none⟩] [3, 6])
 (.seq (.seq (.reg [
 ⟨some 7, .mv (.c (.int .i64 1)), none⟩] [3, 6, 7])
 (.block 2 (.loop [3, 6, 7] f41L0) [3]))
 (.seq (.reg [
 ⟨some 79, .mv (.t 3), none⟩,
 ⟨some 2, .mv (.t 79), none⟩] [2])
 (.ret))))))) }
def f42 : AFunc := { np := 0, res := [.tmp 0], pure := true, body :=
 (.seq (.reg [
 ⟨some 0, .mv (.c (.nils)), none⟩] [])
 (.seq (.reg [
 ⟨some 1, .bslice 1 1 [.int .i64 0] [(0, (.c (.int .i64 8)))], none⟩,
 ⟨some 2, .call (.c (.fn 43 [] [])) [(.t 1), (.c (.int .i64 144))], none⟩,
 ⟨some 3, .bslice 1 1 [.int .i64 0] [(0, (.c (.int .i64 9)))], none⟩,
 ⟨some 4, .call (.c (.fn 43 [] [])) [(.t 3), (.c (.int .i64 112))], none⟩,
 ⟨some 5, .bslice 1 1 [.int .i64 0] [(0, (.c (.int .i64 7)))], none⟩,
 ⟨some 6, .call (.c (.fn 43 [] [])) [(.t 5), (.c (.int .i64 24))], none⟩,
 ⟨some 7, .bslice 1 1 [.int .i64 0] [(0, (.c (.int .i64 8)))], none⟩,
 ⟨some 8, .call (.c (.fn 43 [] [])) [(.t 7), (.c (.int .i64 8))], none⟩,
 ⟨some 9, .bslice 1 4 [.nils] [(0, (.t 2)), (1, (.t 4)), (2, (.t 6)), (3, (.t 8))], none⟩,
 ⟨some 10, .call (.c (.fn 62 [] [])) [(.t 9)], none⟩,
 ⟨some 0, .mv (.t 10), none⟩] [0])
 (.ret))) }
def f43L0 : ACode :=
 (.seq (.seq (.reg [
 ⟨some 34, .mv (.t 8), none⟩,
 ⟨some 35, .mv (.t 7), none⟩,
 ⟨some 36, .len false (.t 35), none⟩,
 ⟨some 37, .bin .lss (.t 34) (.t 36), none⟩] [7, 8, 37])
 (.cond (.t 37) (.skip)
 (.exit 0) [7, 8]))
 (.block 1 (.dreg [0, 1, 2, 3, 4, 5, 6, 7, 8, 9] [
 ⟨some 38, .mv (.t 8), none⟩,
 ⟨some 39, .mv (.t 7), none⟩,
 ⟨some 40, .mv (.t 8), none⟩,
 ⟨some 41, .sl 1 (.t 39) (some (.t 40)) none none, none⟩,
 ⟨some 42, .mv (.t 7), none⟩,
 ⟨some 43, .mv (.t 8), none⟩,
 ⟨some 44, .sl 1 (.t 42) none (some (.t 43)) none, none⟩,
 ⟨some 45, .copy 1 (.t 41) (.t 44), none⟩,
 ⟨some 46, .bin .add (.t 38) (.t 45), none⟩,
 ⟨some 8, .mv (.t 46), none⟩] [] [7, 8]) [7, 8]))
def f43 : AFunc := { np := 2, res := [.tmp 4], pure := true, body :=
 (.seq (.reg [
 ⟨some 4, .mv (.c (.nils)), none⟩] [0, 1])
 (.seq (.seq (.reg [
 ⟨some 9, .mv (.t 1), none⟩,
 ⟨some 10, .bin .lss (.t 9) (.c (.int .i64 0)), none⟩] [0, 1, 10])
 (.cond (.t 10) (.reg [
 ⟨some 11, .mkif 0 (.c (.str ⟨#[99, 97, 110, 110, 111, 116, 32, 98, 101, 32, 110, 101, 103, 97, 116, 105, 118, 101]⟩)), none⟩,
 ⟨none, .pan , none⟩] [0, 1])
 (.skip) [0, 1]))
 (.seq (.reg [
 ⟨some 13, .mv (.t 0), none⟩,
 ⟨some 14, .len false (.t 13), none⟩,
 ⟨some 15, .conv .u64 (.t 14), none⟩,
 ⟨some 16, .mv (.t 1), none⟩,
 ⟨some 17, .conv .u64 (.t 16), none⟩,
 ⟨some 18, .call (.c (.fn 63 [] [])) [(.t 15), (.t 17)], none⟩,
 ⟨some 12, .mv (.t 18), none⟩,
 ⟨some 19, .extr (.t 12) 0, none⟩,
 ⟨some 20, .extr (.t 12) 1, none⟩,
 ⟨some 5, .mv (.t 19), none⟩,
 ⟨some 6, .mv (.t 20), none⟩] [0, 5, 6])
 (.seq (.seq (.reg [
 ⟨some 21, .mv (.t 5), none⟩,
 ⟨some 22, .bin .gtr (.t 21) (.c (.int .u64 0)), none⟩,
 ⟨some 23, .mv (.t 22), none⟩,
 ⟨some 24, .mv (.t 6), (some (23, false))⟩,
 ⟨some 25, .bin .gtr (.t 24) (.c (.int .u64 9223372036854775807)), (some (23, false))⟩,
 ⟨some 26, .pick (.t 23) (.c (.bool true)) (.t 25), none⟩] [0, 6, 26])
 (.cond (.t 26) (.reg [
 ⟨some 27, .mkif 0 (.c (.str ⟨#[116, 104, 101, 32, 114, 101, 115, 117, 108, 116, 32, 111, 102, 32, 40, 108, 101, 110, 40, 120, 41, 32, 42, 32, 99, 111, 117, 110, 116, 41, 32, 111, 118, 101, 114, 102, 108, 111, 119, 115]⟩)), none⟩,
 ⟨none, .pan , none⟩] [0, 6])
 (.skip) [0, 6]))
 (.seq (.reg [
 ⟨some 28, .mv (.t 6), none⟩,
 ⟨some 29, .conv .i64 (.t 28), none⟩,
 ⟨some 30, .mksl 1 8 [.int .i64 0] (.t 29) (.t 29), none⟩,
 ⟨some 7, .mv (.t 30), none⟩] [0, 7])
 (.seq (.reg [
 ⟨some 31, .mv (.t 7), none⟩,
 ⟨some 32, .mv (.t 0), none⟩,
 ⟨some 33, .copy 1 (.t 31) (.t 32), none⟩,
 ⟨some 8, .mv (.t 33), none⟩] [7, 8])
 (.seq (.block 0 (.loop [7, 8] f43L0) [7])
 (.seq (.reg [
 ⟨some 47, .mv (.t 7), none⟩,
 ⟨some 4, .mv (.t 47), none⟩] [4])
 (.ret))))))))) }
def f44 : AFunc := { np := 1, res := [], pure := false, body :=
 (.seq (.reg [
 ⟨some 7, .mv (.t 0), none⟩,
 ⟨some 8, .call (.c (.fn 38 [] [])) [(.t 7), (.c (.int .i64 5))], none⟩,
 ⟨some 9, .bin .add (.t 8) (.c (.int .i64 257)), none⟩,
 ⟨some 10, .mv (.t 0), none⟩,
 ⟨some 11, .call (.c (.fn 38 [] [])) [(.t 10), (.c (.int .i64 5))], none⟩,
 ⟨some 12, .bin .add (.t 11) (.c (.int .i64 1)), none⟩,
 ⟨some 2, .mv (.t 9), none⟩,
 ⟨some 3, .mv (.t 12), none⟩] [0, 2, 3])
 (.seq (.seq (.reg [
 ⟨some 13, .mv (.t 0), none⟩,
 ⟨some 14, .nilc (.t 13), none⟩,
 ⟨some 15, .fadr 3 (.t 14), none⟩,
 ⟨some 16, .load false 1 (.t 15), none⟩,
 ⟨some 17, .bin .neq (.t 16) (.c (.int .i64 0)), none⟩,
 ⟨some 18, .mv (.t 17), none⟩,
 ⟨some 19, .mv (.t 2), (some (18, false))⟩,
 ⟨some 20, .bin .gtr (.t 19) (.c (.int .i64 286)), (some (18, false))⟩,
 ⟨some 21, .pick (.t 18) (.c (.bool true)) (.t 20), none⟩,
 ⟨some 22, .mv (.t 21), none⟩,
 ⟨some 23, .mv (.t 3), (some (22, false))⟩,
 ⟨some 24, .bin .gtr (.t 23) (.c (.int .i64 30)), (some (22, false))⟩,
 ⟨some 25, .pick (.t 22) (.c (.bool true)) (.t 24), none⟩] [0, 2, 3, 25])
 (.cond (.t 25) (.seq (.reg [
 ⟨some 26, .mv (.t 0), none⟩,
 ⟨some 27, .call (.c (.fn 45 [] [])) [(.t 26), (.c (.int .i64 700))], none⟩] [])
 (.ret))
 (.skip) [0, 2, 3]))
 (.seq (.reg [
 ⟨some 28, .mv (.t 0), none⟩,
 ⟨some 29, .mv (.t 2), none⟩,
 ⟨some 30, .mv (.t 3), none⟩,
 ⟨some 31, .bin .add (.t 29) (.t 30), none⟩,
 ⟨some 32, .call (.c (.fn 64 [] [])) [(.t 28), (.t 31)], none⟩,
 ⟨some 4, .mv (.t 32), none⟩] [0, 2, 4])
 (.seq (.seq (.reg [
 ⟨some 33, .mv (.t 0), none⟩,
 ⟨some 34, .nilc (.t 33), none⟩,
 ⟨some 35, .fadr 3 (.t 34), none⟩,
 ⟨some 36, .load false 1 (.t 35), none⟩,
 ⟨some 37, .bin .neq (.t 36) (.c (.int .i64 0)), none⟩] [0, 2, 4, 37])
 (.cond (.t 37) (.ret)
 (.skip) [0, 2, 4]))
 (.seq (.dreg [0, 1, 2, 3, 4, 5, 6, 7] [
 ⟨some 38, .mv (.t 4), none⟩,
 ⟨some 39, .mv (.t 2), none⟩,
 ⟨some 40, .sl 1 (.t 38) none (some (.t 39)) none, none⟩,
 ⟨some 41, .mv (.t 4), none⟩,
 ⟨some 42, .mv (.t 2), none⟩,
 ⟨some 43, .sl 1 (.t 41) (some (.t 42)) none none, none⟩,
 ⟨some 5, .mv (.t 40), none⟩,
 ⟨some 6, .mv (.t 43), none⟩] [] [0, 5, 6])
 (.seq (.seq (.reg [
 ⟨some 44, .mv (.t 5), none⟩,
 ⟨some 45, .call (.c (.fn 65 [] [])) [(.t 44)], none⟩,
 ⟨some 46, .bin .neq (.t 45) (.c (.int .i64 0)), none⟩,
 ⟨some 47, .mv (.t 46), none⟩,
 ⟨some 48, .mv (.t 5), (some (47, false))⟩,
 ⟨some 49, .iadr 1 (.t 48) (.c (.int .i64 256)), (some (47, false))⟩,
 ⟨some 50, .load false 1 (.t 49), (some (47, false))⟩,
 ⟨some 51, .bin .eql (.t 50) (.c (.int .i64 0)), (some (47, false))⟩,
 ⟨some 52, .pick (.t 47) (.c (.bool true)) (.t 51), none⟩,
 ⟨some 53, .mv (.t 52), none⟩,
 ⟨some 54, .mv (.t 6), (some (53, false))⟩,
 ⟨some 55, .call (.c (.fn 65 [] [])) [(.t 54)], (some (53, false))⟩,
 ⟨some 56, .bin .neq (.t 55) (.c (.int .i64 0)), (some (53, false))⟩,
 ⟨some 57, .mv (.t 56), (some (53, false))⟩,
 ⟨some 58, .mv (.t 6), (some (57, true))⟩,
 ⟨some 59, .call (.c (.fn 66 [] [])) [(.t 58)], (some (57, true))⟩,
 ⟨some 60, .not (.t 59), (some (57, true))⟩,
 ⟨some 61, .pick (.t 57) (.t 60) (.c (.bool false)), (some (53, false))⟩,
 ⟨some 62, .pick (.t 53) (.c (.bool true)) (.t 61), none⟩] [0, 5, 6, 62])
 (.cond (.t 62) (.seq (.reg [
 ⟨some 63, .mv (.t 0), none⟩,
 ⟨some 64, .call (.c (.fn 45 [] [])) [(.t 63), (.c (.int .i64 700))], none⟩] [])
 (.ret))
 (.skip) [0, 5, 6]))
 (.reg [
 ⟨some 65, .mv (.t 0), none⟩,
 ⟨some 66, .mv (.t 5), none⟩,
 ⟨some 67, .call (.c (.fn 41 [] [])) [(.t 66)], none⟩,
 ⟨some 68, .mv (.t 6), none⟩,
 ⟨some 69, .call (.c (.fn 41 [] [])) [(.t 68)], none⟩,
 ⟨some 70, .call (.c (.fn 40 [] [])) [(.t 65), (.t 67), (.t 69)], none⟩] []))))))) }
def f45 : AFunc := { np := 2, res := [], pure := false, body :=
 (.seq (.reg [
 ⟨some 4, .mv (.t 0), none⟩,
 ⟨some 5, .nilc (.t 4), none⟩,
 ⟨some 6, .fadr 3 (.t 5), none⟩,
 ⟨some 7, .load false 1 (.t 6), none⟩,
 ⟨some 8, .bin .eql (.t 7) (.c (.int .i64 0)), none⟩] [0, 1, 8])
 (.cond (.t 8) (.reg [
 ⟨some 9, .mv (.t 0), none⟩,
 ⟨some 10, .mv (.t 1), none⟩,
 ⟨some 11, .nilc (.t 9), none⟩,
 ⟨some 12, .fadr 3 (.t 11), none⟩,
 ⟨none, .store 1 (.t 12) (.t 10), none⟩] [])
 (.skip) [])) }
def f46L0 : ACode :=
 (.seq (.seq (.reg [
 ⟨some 27, .mv (.t 7), none⟩,
 ⟨some 28, .mv (.t 1), none⟩,
 ⟨some 29, .bin .lss (.t 27) (.t 28), none⟩] [0, 1, 6, 7, 29])
 (.cond (.t 29) (.skip)
 (.exit 0) [0, 1, 6, 7]))
 (.seq (.block 1 (.seq (.dreg [0, 1, 2, 3, 4, 5, 6, 7, 8, 9, 10, 11, 12, 13, 14, 15, 16, 17, 18, 19, 20, 21, 22] [
 ⟨some 32, .mv (.t 6), none⟩,
 ⟨some 33, .mv (.t 0), none⟩,
 ⟨some 34, .nilc (.t 33), none⟩,
 ⟨some 35, .fadr 0 (.t 34), none⟩,
 ⟨some 36, .load false 1 (.t 35), none⟩,
 ⟨some 37, .mv (.t 0), none⟩,
 ⟨some 38, .nilc (.t 37), none⟩,
 ⟨some 39, .fadr 1 (.t 38), none⟩,
 ⟨some 40, .load false 1 (.t 39), none⟩,
 ⟨some 41, .bin .quo (.t 40) (.c (.int .i64 8)), none⟩,
 ⟨some 42, .idxs (.t 36) (.t 41), none⟩,
 ⟨some 43, .mv (.t 0), none⟩,
 ⟨some 44, .nilc (.t 43), none⟩,
 ⟨some 45, .fadr 1 (.t 44), none⟩,
 ⟨some 46, .load false 1 (.t 45), none⟩,
 ⟨some 47, .bin .rem (.t 46) (.c (.int .i64 8)), none⟩,
 ⟨some 48, .bin .shr (.t 42) (.t 47), none⟩,
 ⟨some 49, .bin .and (.t 48) (.c (.int .u8 1)), none⟩,
 ⟨some 50, .conv .i64 (.t 49), none⟩,
 ⟨some 51, .mv (.t 7), none⟩,
 ⟨some 52, .bin .shl (.t 50) (.t 51), none⟩,
 ⟨some 53, .bin .or (.t 32) (.t 52), none⟩,
 ⟨some 6, .mv (.t 53), none⟩] [] [0, 1, 6, 7])
 (.reg [
 ⟨some 54, .mv (.t 0), none⟩,
 ⟨some 55, .nilc (.t 54), none⟩,
 ⟨some 56, .fadr 1 (.t 55), none⟩,
 ⟨some 57, .load false 1 (.t 56), none⟩,
 ⟨some 58, .bin .add (.t 57) (.c (.int .i64 1)), none⟩,
 ⟨some 59, .nilc (.t 54), none⟩,
 ⟨some 60, .fadr 1 (.t 59), none⟩,
 ⟨none, .store 1 (.t 60) (.t 58), none⟩] [0, 1, 6, 7])) [0, 1, 6, 7])
 (.reg [
 ⟨some 30, .mv (.t 7), none⟩,
 ⟨some 31, .bin .add (.t 30) (.c (.int .i64 1)), none⟩,
 ⟨some 7, .mv (.t 31), none⟩] [0, 1, 6, 7])))
def f46 : AFunc := { np := 2, res := [.tmp 4, .tmp 5], pure := false, body :=
 (.seq (.reg [
 ⟨some 4, .mv (.c (.int .i64 0)), none⟩,
 ⟨some 5, .mv (.c (.int .i64 0)), none⟩] [0, 1])
 (.seq (.seq (.reg [
 ⟨some 8, .mv (.t 1), none⟩,
 ⟨some 9, .bin .lss (.t 8) (.c (.int .i64 0)), none⟩,
 ⟨some 10, .mv (.t 9), none⟩,
 ⟨some 11, .mv (.t 1), (some (10, false))⟩,
 ⟨some 12, .bin .gtr (.t 11) (.c (.int .i64 16)), (some (10, false))⟩,
 ⟨some 13, .pick (.t 10) (.c (.bool true)) (.t 12), none⟩] [0, 1, 13])
 (.cond (.t 13) (.seq (.reg [
 ⟨some 4, .mv (.c (.int .i64 0)), none⟩,
 ⟨some 5, .mv (.c (.int .i64 100)), none⟩] [4, 5])
 (.ret))
 (.skip) [0, 1]))
 (.seq (.seq (.dreg [0, 1, 2, 3, 4, 5, 6, 7, 8, 9, 10, 11, 12] [
 ⟨some 14, .mv (.t 1), none⟩,
 ⟨some 15, .mv (.t 0), none⟩,
 ⟨some 16, .nilc (.t 15), none⟩,
 ⟨some 17, .fadr 0 (.t 16), none⟩,
 ⟨some 18, .load false 1 (.t 17), none⟩,
 ⟨some 19, .len true (.t 18), none⟩,
 ⟨some 20, .bin .mul (.c (.int .i64 8)) (.t 19), none⟩,
 ⟨some 21, .mv (.t 0), none⟩,
 ⟨some 22, .nilc (.t 21), none⟩,
 ⟨some 23, .fadr 1 (.t 22), none⟩,
 ⟨some 24, .load false 1 (.t 23), none⟩,
 ⟨some 25, .bin .sub (.t 20) (.t 24), none⟩,
 ⟨some 26, .bin .gtr (.t 14) (.t 25), none⟩] [] [0, 1, 26])
 (.cond (.t 26) (.seq (.reg [
 ⟨some 4, .mv (.c (.int .i64 0)), none⟩,
 ⟨some 5, .mv (.c (.int .i64 101)), none⟩] [4, 5])
 (.ret))
 (.skip) [0, 1]))
 (.seq (.reg [
 ⟨some 6, .mv (.c (.int .i64 0)), none⟩] [0, 1, 6])
 (.seq (.seq (.reg [
 ⟨some 7, .mv (.c (.int .i64 0)), none⟩] [0, 1, 6, 7])
 (.block 0 (.loop [0, 1, 6, 7] f46L0) [6]))
 (.seq (.reg [
 ⟨some 61, .mv (.t 6), none⟩,
 ⟨some 4, .mv (.t 61), none⟩,
 ⟨some 5, .mv (.c (.int .i64 0)), none⟩] [4, 5])
 (.ret))))))) }
def f47 : AFunc := { np := 1, res := [], pure := false, body :=
 (.reg [
 ⟨some 2, .mv (.t 0), none⟩,
 ⟨some 3, .mv (.t 0), none⟩,
 ⟨some 4, .nilc (.t 3), none⟩,
 ⟨some 5, .fadr 1 (.t 4), none⟩,
 ⟨some 6, .load false 1 (.t 5), none⟩,
 ⟨some 7, .bin .add (.t 6) (.c (.int .i64 7)), none⟩,
 ⟨some 8, .bin .quo (.t 7) (.c (.int .i64 8)), none⟩,
 ⟨some 9, .bin .mul (.t 8) (.c (.int .i64 8)), none⟩,
 ⟨some 10, .nilc (.t 2), none⟩,
 ⟨some 11, .fadr 1 (.t 10), none⟩,
 ⟨none, .store 1 (.t 11) (.t 9), none⟩] []) }
def f48 : AFunc := { np := 2, res := [], pure := false, body :=
 (.seq (.seq (.dreg [0, 1, 2, 3, 4, 5, 6, 7, 8, 9, 10, 11, 12, 13, 14, 15, 16] [
 ⟨some 4, .mv (.t 0), none⟩,
 ⟨some 5, .nilc (.t 4), none⟩,
 ⟨some 6, .fadr 4 (.t 5), none⟩,
 ⟨some 7, .load false 1 (.t 6), none⟩,
 ⟨some 8, .bin .eql (.t 7) (.c (.int .i64 0)), none⟩,
 ⟨some 9, .mv (.t 8), none⟩,
 ⟨some 10, .mv (.t 0), (some (9, true))⟩,
 ⟨some 11, .nilc (.t 10), (some (9, true))⟩,
 ⟨some 12, .fadr 2 (.t 11), (some (9, true))⟩,
 ⟨some 13, .load false 1 (.t 12), (some (9, true))⟩,
 ⟨some 14, .len false (.t 13), (some (9, true))⟩,
 ⟨some 15, .mv (.t 0), (some (9, true))⟩,
 ⟨some 16, .nilc (.t 15), (some (9, true))⟩,
 ⟨some 17, .fadr 3 (.t 16), (some (9, true))⟩,
 ⟨some 18, .load false 1 (.t 17), (some (9, true))⟩,
 ⟨some 19, .bin .geq (.t 14) (.t 18), (some (9, true))⟩,
 ⟨some 20, .pick (.t 9) (.t 19) (.c (.bool false)), none⟩] [] [0, 1, 20])
 (.cond (.t 20) (.reg [
 ⟨some 21, .mv (.t 0), none⟩,
 ⟨some 22, .nilc (.t 21), none⟩,
 ⟨some 23, .fadr 4 (.t 22), none⟩,
 ⟨none, .store 1 (.t 23) (.c (.int .i64 701)), none⟩] [0, 1])
 (.skip) [0, 1]))
 (.seq (.reg [
 ⟨some 24, .mv (.t 0), none⟩,
 ⟨some 25, .nilc (.t 24), none⟩,
 ⟨some 26, .fadr 4 (.t 25), none⟩,
 ⟨some 27, .load false 1 (.t 26), none⟩,
 ⟨some 28, .bin .eql (.t 27) (.c (.int .i64 0)), none⟩] [0, 1, 28])
 (.cond (.t 28) (.reg [
 ⟨some 29, .mv (.t 0), none⟩,
 ⟨some 30, .mv (.t 0), none⟩,
 ⟨some 31, .nilc (.t 30), none⟩,
 ⟨some 32, .fadr 2 (.t 31), none⟩,
 ⟨some 33, .load false 1 (.t 32), none⟩,
 ⟨some 34, .mv (.t 1), none⟩,
 ⟨some 35, .bslice 1 1 [.int .u8 0] [(0, (.t 34))], none⟩,
 ⟨some 36, .app 1 1 (.t 33) (.t 35), none⟩,
 ⟨some 37, .nilc (.t 29), none⟩,
 ⟨some 38, .fadr 2 (.t 37), none⟩,
 ⟨none, .store 1 (.t 38) (.t 36), none⟩] [])
 (.skip) []))) }
def f49L0 : ACode :=
 (.seq (.seq (.reg [
 ⟨some 9, .mv (.t 8), none⟩,
 ⟨some 10, .bin .leq (.t 9) (.c (.int .i64 15)), none⟩,
 ⟨some 11, .mv (.t 10), none⟩,
 ⟨some 12, .mv (.t 0), (some (11, true))⟩,
 ⟨some 13, .nilc (.t 12), (some (11, true))⟩,
 ⟨some 14, .fadr 4 (.t 13), (some (11, true))⟩,
 ⟨some 15, .load false 1 (.t 14), (some (11, true))⟩,
 ⟨some 16, .bin .eql (.t 15) (.c (.int .i64 0)), (some (11, true))⟩,
 ⟨some 17, .pick (.t 11) (.t 16) (.c (.bool false)), none⟩] [0, 1, 5, 6, 7, 8, 17])
 (.cond (.t 17) (.skip)
 (.exit 0) [0, 1, 5, 6, 7, 8]))
 (.seq (.block 1 (.seq (.reg [
 ⟨some 20, .mv (.t 5), none⟩,
 ⟨some 21, .mv (.t 0), none⟩,
 ⟨some 22, .call (.c (.fn 18 [] [])) [(.t 21), (.c (.int .i64 1))], none⟩,
 ⟨some 23, .bin .or (.t 20) (.t 22), none⟩,
 ⟨some 5, .mv (.t 23), none⟩] [0, 1, 5, 6, 7, 8])
 (.seq (.seq (.reg [
 ⟨some 24, .mv (.t 0), none⟩,
 ⟨some 25, .nilc (.t 24), none⟩,
 ⟨some 26, .fadr 4 (.t 25), none⟩,
 ⟨some 27, .load false 1 (.t 26), none⟩,
 ⟨some 28, .bin .neq (.t 27) (.c (.int .i64 0)), none⟩] [0, 1, 5, 6, 7, 8, 28])
 (.cond (.t 28) (.seq (.reg [
 ⟨some 4, .mv (.c (.int .i64 (-1))), none⟩] [4])
 (.ret))
 (.skip) [0, 1, 5, 6, 7, 8]))
 (.seq (.seq (.reg [
 ⟨some 29, .mv (.t 5), none⟩,
 ⟨some 30, .mv (.t 1), none⟩,
 ⟨some 31, .mv (.t 8), none⟩,
 ⟨some 32, .nilc (.t 30), none⟩,
 ⟨some 33, .fadr 0 (.t 32), none⟩,
 ⟨some 34, .iadra 16 1 (.t 33) (.t 31), none⟩,
 ⟨some 35, .load false 1 (.t 34), none⟩,
 ⟨some 36, .bin .sub (.t 29) (.t 35), none⟩,
 ⟨some 37, .mv (.t 6), none⟩,
 ⟨some 38, .bin .lss (.t 36) (.t 37), none⟩] [0, 1, 5, 6, 7, 8, 38])
 (.cond (.t 38) (.seq (.reg [
 ⟨some 39, .mv (.t 1), none⟩,
 ⟨some 40, .nilc (.t 39), none⟩,
 ⟨some 41, .fadr 16 (.t 40), none⟩,
 ⟨some 42, .load false 1 (.t 41), none⟩,
 ⟨some 43, .mv (.t 7), none⟩,
 ⟨some 44, .mv (.t 5), none⟩,
 ⟨some 45, .bin .add (.t 43) (.t 44), none⟩,
 ⟨some 46, .mv (.t 6), none⟩,
 ⟨some 47, .bin .sub (.t 45) (.t 46), none⟩,
 ⟨some 48, .iadr 1 (.t 42) (.t 47), none⟩,
 ⟨some 49, .load false 1 (.t 48), none⟩,
 ⟨some 4, .mv (.t 49), none⟩] [4])
 (.ret))
 (.skip) [0, 1, 5, 6, 7, 8]))
 (.seq (.reg [
 ⟨some 50, .mv (.t 7), none⟩,
 ⟨some 51, .mv (.t 1), none⟩,
 ⟨some 52, .mv (.t 8), none⟩,
 ⟨some 53, .nilc (.t 51), none⟩,
 ⟨some 54, .fadr 0 (.t 53), none⟩,
 ⟨some 55, .iadra 16 1 (.t 54) (.t 52), none⟩,
 ⟨some 56, .load false 1 (.t 55), none⟩,
 ⟨some 57, .bin .add (.t 50) (.t 56), none⟩,
 ⟨some 7, .mv (.t 57), none⟩] [0, 1, 5, 6, 7, 8])
 (.seq (.reg [
 ⟨some 58, .mv (.t 6), none⟩,
 ⟨some 59, .mv (.t 1), none⟩,
 ⟨some 60, .mv (.t 8), none⟩,
 ⟨some 61, .nilc (.t 59), none⟩,
 ⟨some 62, .fadr 0 (.t 61), none⟩,
 ⟨some 63, .iadra 16 1 (.t 62) (.t 60), none⟩,
 ⟨some 64, .load false 1 (.t 63), none⟩,
 ⟨some 65, .bin .add (.t 58) (.t 64), none⟩,
 ⟨some 66, .bin .shl (.t 65) (.c (.int .u64 1)), none⟩,
 ⟨some 6, .mv (.t 66), none⟩] [0, 1, 5, 6, 7, 8])
 (.reg [
 ⟨some 67, .mv (.t 5), none⟩,
 ⟨some 68, .bin .shl (.t 67) (.c (.int .u64 1)), none⟩,
 ⟨some 5, .mv (.t 68), none⟩] [0, 1, 5, 6, 7, 8])))))) [0, 1, 5, 6, 7, 8])
 (.reg [
 ⟨some 18, .mv (.t 8), none⟩,
 ⟨some 19, .bin .add (.t 18) (.c (.int .i64 1)), none⟩,
 ⟨some 8, .mv (.t 19), none⟩] [0, 1, 5, 6, 7, 8])))
def f49 : AFunc := { np := 2, res := [.tmp 4], pure := false, body :=
 (.seq (.reg [
 ⟨some 4, .mv (.c (.int .i64 0)), none⟩] [0, 1])
 (.seq (.reg [
 ⟨some 5, .mv (.c (.int .i64 0)), none⟩,
 ⟨some 6, .mv (.c (.int .i64 0)), none⟩,
 ⟨some 7, .mv (.c (.int .i64 0)), none⟩] [0, 1, 5, 6, 7])
 (.seq (.seq (.reg [
 ⟨some 8, .mv (.c (.int .i64 1)), none⟩] [0, 1, 5, 6, 7, 8])
 (.block 0 (.loop [0, 1, 5, 6, 7, 8] f49L0) [0]))
 (.seq (.reg [
 ⟨some 69, .mv (.t 0), none⟩,
 ⟨some 70, .call (.c (.fn 25 [] [])) [(.t 69)], none⟩] [])
 (.seq (.reg [
 ⟨some 4, .mv (.c (.int .i64 (-1))), none⟩] [4])
 (.ret)))))) }
def f50 : AFunc := { np := 1, res := [.tmp 2, .tmp 3, .tmp 4], pure := true, body :=
 (.seq (.reg [
 ⟨some 2, .mv (.c (.int .i64 0)), none⟩,
 ⟨some 3, .mv (.c (.int .i64 0)), none⟩,
 ⟨some 4, .mv (.c (.int .i64 0)), none⟩] [0])
 (.seq (.seq (.reg [
 ⟨some 6, .mv (.t 0), none⟩,
 ⟨some 7, .bin .lss (.t 6) (.c (.int .i64 257)), none⟩,
 ⟨some 8, .mv (.t 7), none⟩,
 ⟨some 9, .mv (.t 0), (some (8, false))⟩,
 ⟨some 10, .bin .gtr (.t 9) (.c (.int .i64 285)), (some (8, false))⟩,
 ⟨some 11, .pick (.t 8) (.c (.bool true)) (.t 10), none⟩] [0, 11])
 (.cond (.t 11) (.seq (.reg [
 ⟨some 2, .mv (.c (.int .i64 0)), none⟩,
 ⟨some 3, .mv (.c (.int .i64 0)), none⟩,
 ⟨some 4, .mv (.c (.int .i64 600)), none⟩] [2, 3, 4])
 (.ret))
 (.skip) [0]))
 (.seq (.seq (.reg [
 ⟨some 12, .mv (.t 0), none⟩,
 ⟨some 13, .bin .eql (.t 12) (.c (.int .i64 285)), none⟩] [0, 13])
 (.cond (.t 13) (.seq (.reg [
 ⟨some 2, .mv (.c (.int .i64 258)), none⟩,
 ⟨some 3, .mv (.c (.int .i64 0)), none⟩,
 ⟨some 4, .mv (.c (.int .i64 0)), none⟩] [2, 3, 4])
 (.ret))
 (.skip) [0]))
 (.seq (.seq (.reg [
 ⟨some 14, .mv (.t 0), none⟩,
 ⟨some 15, .bin .lss (.t 14) (.c (.int .i64 265)), none⟩] [0, 15])
 (.cond (.t 15) (.seq (.reg [
 ⟨some 16, .mv (.t 0), none⟩,
 ⟨some 17, .bin .sub (.t 16) (.c (.int .i64 254)), none⟩,
 ⟨some 2, .mv (.t 17), none⟩,
 ⟨some 3, .mv (.c (.int .i64 0)), none⟩,
 ⟨some 4, .mv (.c (.int .i64 0)), none⟩] [2, 3, 4])
 (.ret))
 (.skip) [0]))
 (.seq (.reg [
 ⟨some 18, .mv (.t 0), none⟩,
 ⟨some 19, .bin .sub (.t 18) (.c (.int .i64 261)), none⟩,
 ⟨some 20, .bin .quo (.t 19) (.c (.int .i64 4)), none⟩,
 ⟨some 5, .mv (.t 20), none⟩] [0, 5])
 (.seq (.reg [
 ⟨some 21, .mv (.t 0), none⟩,
 ⟨some 22, .bin .sub (.t 21) (.c (.int .i64 261)), none⟩,
 ⟨some 23, .bin .rem (.t 22) (.c (.int .i64 4)), none⟩,
 ⟨some 24, .bin .add (.c (.int .i64 4)) (.t 23), none⟩,
 ⟨some 25, .mv (.t 5), none⟩,
 ⟨some 26, .bin .shl (.t 24) (.t 25), none⟩,
 ⟨some 27, .bin .add (.c (.int .i64 3)) (.t 26), none⟩,
 ⟨some 28, .mv (.t 5), none⟩,
 ⟨some 2, .mv (.t 27), none⟩,
 ⟨some 3, .mv (.t 28), none⟩,
 ⟨some 4, .mv (.c (.int .i64 0)), none⟩] [2, 3, 4])
 (.ret))))))) }
def f51 : AFunc := { np := 1, res := [.tmp 2, .tmp 3, .tmp 4], pure := true, body :=
 (.seq (.reg [
 ⟨some 2, .mv (.c (.int .i64 0)), none⟩,
 ⟨some 3, .mv (.c (.int .i64 0)), none⟩,
 ⟨some 4, .mv (.c (.int .i64 0)), none⟩] [0])
 (.seq (.seq (.reg [
 ⟨some 6, .mv (.t 0), none⟩,
 ⟨some 7, .bin .lss (.t 6) (.c (.int .i64 0)), none⟩,
 ⟨some 8, .mv (.t 7), none⟩,
 ⟨some 9, .mv (.t 0), (some (8, false))⟩,
 ⟨some 10, .bin .gtr (.t 9) (.c (.int .i64 29)), (some (8, false))⟩,
 ⟨some 11, .pick (.t 8) (.c (.bool true)) (.t 10), none⟩] [0, 11])
 (.cond (.t 11) (.seq (.reg [
 ⟨some 2, .mv (.c (.int .i64 0)), none⟩,
 ⟨some 3, .mv (.c (.int .i64 0)), none⟩,
 ⟨some 4, .mv (.c (.int .i64 600)), none⟩] [2, 3, 4])
 (.ret))
 (.skip) [0]))
 (.seq (.seq (.reg [
 ⟨some 12, .mv (.t 0), none⟩,
 ⟨some 13, .bin .lss (.t 12) (.c (.int .i64 4)), none⟩] [0, 13])
 (.cond (.t 13) (.seq (.reg [
 ⟨some 14, .mv (.t 0), none⟩,
 ⟨some 15, .bin .add (.t 14) (.c (.int .i64 1)), none⟩,
 ⟨some 2, .mv (.t 15), none⟩,
 ⟨some 3, .mv (.c (.int .i64 0)), none⟩,
 ⟨some 4, .mv (.c (.int .i64 0)), none⟩] [2, 3, 4])
 (.ret))
 (.skip) [0]))
 (.seq (.reg [
 ⟨some 16, .mv (.t 0), none⟩,
 ⟨some 17, .bin .sub (.t 16) (.c (.int .i64 2)), none⟩,
 ⟨some 18, .bin .quo (.t 17) (.c (.int .i64 2)), none⟩,
 ⟨some 5, .mv (.t 18), none⟩] [0, 5])
 (.seq (.reg [
 ⟨some 19, .mv (.t 0), none⟩,
 ⟨some 20, .bin .rem (.t 19) (.c (.int .i64 2)), none⟩,
 ⟨some 21, .bin .add (.c (.int .i64 2)) (.t 20), none⟩,
 ⟨some 22, .mv (.t 5), none⟩,
 ⟨some 23, .bin .shl (.t 21) (.t 22), none⟩,
 ⟨some 24, .bin .add (.c (.int .i64 1)) (.t 23), none⟩,
 ⟨some 25, .mv (.t 5), none⟩,
 ⟨some 2, .mv (.t 24), none⟩,
 ⟨some 3, .mv (.t 25), none⟩,
 ⟨some 4, .mv (.c (.int .i64 0)), none⟩] [2, 3, 4])
 (.ret)))))) }
def f52 : AFunc := { np := 1, res := [.tmp 2], pure := true, body :=
 (.seq (.reg [
 ⟨some 2, .mv (.c (.int .i64 0)), none⟩] [0])
 (.seq (.seq (.reg [
 ⟨some 4, .mv (.t 0), none⟩,
 ⟨some 5, .call (.c (.fn 67 [] [])) [(.t 4)], none⟩,
 ⟨some 6, .not (.t 5), none⟩] [0, 6])
 (.cond (.t 6) (.seq (.reg [
 ⟨some 2, .mv (.c (.int .i64 300)), none⟩] [2])
 (.ret))
 (.skip) [0]))
 (.seq (.reg [
 ⟨some 7, .mv (.t 0), none⟩,
 ⟨some 8, .call (.c (.fn 68 [] [])) [(.t 7)], none⟩,
 ⟨some 3, .mv (.t 8), none⟩] [3])
 (.seq (.seq (.reg [
 ⟨some 9, .mv (.t 3), none⟩,
 ⟨some 10, .bin .gtr (.t 9) (.c (.int .i64 32768)), none⟩] [3, 10])
 (.cond (.t 10) (.seq (.reg [
 ⟨some 2, .mv (.c (.int .i64 301)), none⟩] [2])
 (.ret))
 (.skip) [3]))
 (.seq (.seq (.reg [
 ⟨some 11, .mv (.t 3), none⟩,
 ⟨some 12, .bin .lss (.t 11) (.c (.int .i64 32768)), none⟩] [12])
 (.cond (.t 12) (.seq (.reg [
 ⟨some 2, .mv (.c (.int .i64 302)), none⟩] [2])
 (.ret))
 (.skip) []))
 (.seq (.reg [
 ⟨some 2, .mv (.c (.int .i64 0)), none⟩] [2])
 (.ret))))))) }
def f53L0 : ACode :=
 (.seq (.seq (.reg [
 ⟨some 74, .mv (.t 11), none⟩,
 ⟨some 75, .mv (.t 9), none⟩,
 ⟨some 76, .bin .lss (.t 74) (.t 75), none⟩,
 ⟨some 77, .mv (.t 76), none⟩,
 ⟨some 78, .mv (.t 0), (some (77, true))⟩,
 ⟨some 79, .nilc (.t 78), (some (77, true))⟩,
 ⟨some 80, .fadr 4 (.t 79), (some (77, true))⟩,
 ⟨some 81, .load false 1 (.t 80), (some (77, true))⟩,
 ⟨some 82, .bin .eql (.t 81) (.c (.int .i64 0)), (some (77, true))⟩,
 ⟨some 83, .pick (.t 77) (.t 82) (.c (.bool false)), none⟩] [0, 1, 2, 7, 9, 10, 11, 83])
 (.cond (.t 83) (.skip)
 (.exit 3) [0, 1, 2, 7, 9, 10, 11]))
 (.seq (.block 4 (.reg [
 ⟨some 86, .mv (.t 7), none⟩,
 ⟨some 87, .mv (.t 10), none⟩,
 ⟨some 88, .bslice 1 1 [.int .i64 0] [(0, (.t 87))], none⟩,
 ⟨some 89, .app 1 8 (.t 86) (.t 88), none⟩,
 ⟨some 7, .mv (.t 89), none⟩] [0, 1, 2, 7, 9, 10, 11]) [0, 1, 2, 7, 9, 10, 11])
 (.reg [
 ⟨some 84, .mv (.t 11), none⟩,
 ⟨some 85, .bin .add (.t 84) (.c (.int .i64 1)), none⟩,
 ⟨some 11, .mv (.t 85), none⟩] [0, 1, 2, 7, 9, 10, 11])))
def f53L1 : ACode :=
 (.seq (.seq (.reg [
 ⟨some 12, .mv (.t 7), none⟩,
 ⟨some 13, .len false (.t 12), none⟩,
 ⟨some 14, .mv (.t 2), none⟩,
 ⟨some 15, .bin .lss (.t 13) (.t 14), none⟩,
 ⟨some 16, .mv (.t 15), none⟩,
 ⟨some 17, .mv (.t 0), (some (16, true))⟩,
 ⟨some 18, .nilc (.t 17), (some (16, true))⟩,
 ⟨some 19, .fadr 4 (.t 18), (some (16, true))⟩,
 ⟨some 20, .load false 1 (.t 19), (some (16, true))⟩,
 ⟨some 21, .bin .eql (.t 20) (.c (.int .i64 0)), (some (16, true))⟩,
 ⟨some 22, .pick (.t 16) (.t 21) (.c (.bool false)), none⟩] [0, 1, 2, 7, 22])
 (.cond (.t 22) (.skip)
 (.exit 0) [0, 1, 2, 7]))
 (.block 1 (.seq (.reg [
 ⟨some 23, .mv (.t 0), none⟩,
 ⟨some 24, .mv (.t 1), none⟩,
 ⟨some 25, .call (.c (.fn 49 [] [])) [(.t 23), (.t 24)], none⟩,
 ⟨some 8, .mv (.t 25), none⟩] [0, 1, 2, 7, 8])
 (.seq (.seq (.reg [
 ⟨some 26, .mv (.t 0), none⟩,
 ⟨some 27, .nilc (.t 26), none⟩,
 ⟨some 28, .fadr 4 (.t 27), none⟩,
 ⟨some 29, .load false 1 (.t 28), none⟩,
 ⟨some 30, .bin .neq (.t 29) (.c (.int .i64 0)), none⟩] [0, 1, 2, 7, 8, 30])
 (.cond (.t 30) (.seq (.reg [
 ⟨some 6, .mv (.c (.nils)), none⟩] [6])
 (.ret))
 (.skip) [0, 1, 2, 7, 8]))
 (.seq (.reg [
 ⟨some 31, .mv (.t 8), none⟩,
 ⟨some 9, .mv (.c (.int .i64 1)), none⟩,
 ⟨some 10, .mv (.t 31), none⟩] [0, 1, 2, 7, 8, 9, 10])
 (.seq (.seq (.reg [
 ⟨some 32, .mv (.t 8), none⟩] [0, 1, 2, 7, 9, 10, 32])
 (.block 2 (.seq (.reg [
 ⟨some 34, .bin .eql (.t 32) (.c (.int .i64 16)), none⟩,
 ⟨some 33, .mv (.t 34), none⟩] [0, 1, 2, 7, 9, 10, 32, 33])
 (.cond (.t 33) (.seq (.seq (.reg [
 ⟨some 35, .mv (.t 7), none⟩,
 ⟨some 36, .len false (.t 35), none⟩,
 ⟨some 37, .bin .eql (.t 36) (.c (.int .i64 0)), none⟩] [0, 1, 2, 7, 37])
 (.cond (.t 37) (.seq (.reg [
 ⟨some 38, .mv (.t 0), none⟩,
 ⟨some 39, .call (.c (.fn 25 [] [])) [(.t 38)], none⟩] [])
 (.seq (.reg [
 ⟨some 6, .mv (.c (.nils)), none⟩] [6])
 (.ret)))
 (.skip) [0, 1, 2, 7]))
 (.seq (.reg [
 ⟨some 40, .mv (.t 7), none⟩,
 ⟨some 41, .mv (.t 7), none⟩,
 ⟨some 42, .len false (.t 41), none⟩,
 ⟨some 43, .bin .sub (.t 42) (.c (.int .i64 1)), none⟩,
 ⟨some 44, .iadr 1 (.t 40) (.t 43), none⟩,
 ⟨some 45, .load false 1 (.t 44), none⟩,
 ⟨some 10, .mv (.t 45), none⟩] [0, 1, 2, 7, 10])
 (.reg [
 ⟨some 46, .mv (.t 0), none⟩,
 ⟨some 47, .call (.c (.fn 18 [] [])) [(.t 46), (.c (.int .i64 2))], none⟩,
 ⟨some 48, .bin .add (.c (.int .i64 3)) (.t 47), none⟩,
 ⟨some 9, .mv (.t 48), none⟩] [0, 1, 2, 7, 9, 10])))
 (.seq (.reg [
 ⟨some 50, .bin .eql (.t 32) (.c (.int .i64 17)), none⟩,
 ⟨some 49, .mv (.t 50), none⟩] [0, 1, 2, 7, 9, 10, 32, 49])
 (.cond (.t 49) (.seq (.reg [
 ⟨some 10, .mv (.c (.int .i64 0)), none⟩] [0, 1, 2, 7, 10])
 (.reg [
 ⟨some 51, .mv (.t 0), none⟩,
 ⟨some 52, .call (.c (.fn 18 [] [])) [(.t 51), (.c (.int .i64 3))], none⟩,
 ⟨some 53, .bin .add (.c (.int .i64 3)) (.t 52), none⟩,
 ⟨some 9, .mv (.t 53), none⟩] [0, 1, 2, 7, 9, 10]))
 (.seq (.reg [
 ⟨some 55, .bin .eql (.t 32) (.c (.int .i64 18)), none⟩,
 ⟨some 54, .mv (.t 55), none⟩] [0, 1, 2, 7, 9, 10, 54])
 (.cond (.t 54) (.seq (.reg [
 ⟨some 10, .mv (.c (.int .i64 0)), none⟩] [0, 1, 2, 7, 10])
 (.reg [
 ⟨some 56, .mv (.t 0), none⟩,
 ⟨some 57, .call (.c (.fn 18 [] [])) [(.t 56), (.c (.int .i64 7))], none⟩,
 ⟨some 58, .bin .add (.c (.int .i64 11)) (.t 57), none⟩,
 ⟨some 9, .mv (.t 58), none⟩] [0, 1, 2, 7, 9, 10]))
 (.skip) [0, 1, 2, 7, 9, 10])) [0, 1, 2, 7, 9, 10])) [0, 1, 2, 7, 9, 10])) [0, 1, 2, 7, 9, 10]))
 (.seq (.seq (.reg [
 ⟨some 59, .mv (.t 0), none⟩,
 ⟨some 60, .nilc (.t 59), none⟩,
 ⟨some 61, .fadr 4 (.t 60), none⟩,
 ⟨some 62, .load false 1 (.t 61), none⟩,
 ⟨some 63, .bin .eql (.t 62) (.c (.int .i64 0)), none⟩,
 ⟨some 64, .mv (.t 63), none⟩,
 ⟨some 65, .mv (.t 7), (some (64, true))⟩,
 ⟨some 66, .len false (.t 65), (some (64, true))⟩,
 ⟨some 67, .mv (.t 9), (some (64, true))⟩,
 ⟨some 68, .bin .add (.t 66) (.t 67), (some (64, true))⟩,
 ⟨some 69, .mv (.t 2), (some (64, true))⟩,
 ⟨some 70, .bin .gtr (.t 68) (.t 69), (some (64, true))⟩,
 ⟨some 71, .pick (.t 64) (.t 70) (.c (.bool false)), none⟩] [0, 1, 2, 7, 9, 10, 71])
 (.cond (.t 71) (.reg [
 ⟨some 72, .mv (.t 0), none⟩,
 ⟨some 73, .call (.c (.fn 25 [] [])) [(.t 72)], none⟩] [0, 1, 2, 7, 9, 10])
 (.skip) [0, 1, 2, 7, 9, 10]))
 (.seq (.reg [
 ⟨some 11, .mv (.c (.int .i64 0)), none⟩] [0, 1, 2, 7, 9, 10, 11])
 (.block 3 (.loop [0, 1, 2, 7, 9, 10, 11] f53L0) [0, 1, 2, 7]))))))) [0, 1, 2, 7]))
def f53 : AFunc := { np := 3, res := [.tmp 6], pure := false, body :=
 (.seq (.reg [
 ⟨some 6, .mv (.c (.nils)), none⟩] [0, 1, 2])
 (.seq (.reg [
 ⟨some 7, .mv (.c (.nils)), none⟩] [0, 1, 2, 7])
 (.seq (.block 0 (.loop [0, 1, 2, 7] f53L1) [7])
 (.seq (.reg [
 ⟨some 90, .mv (.t 7), none⟩,
 ⟨some 6, .mv (.t 90), none⟩] [6])
 (.ret))))) }
def f54L0 : ACode :=
 (.seq (.seq (.reg [
 ⟨some 6, .mv (.t 5), none⟩,
 ⟨some 7, .mv (.t 0), none⟩,
 ⟨some 8, .len false (.t 7), none⟩,
 ⟨some 9, .bin .lss (.t 6) (.t 8), none⟩] [0, 3, 4, 5, 9])
 (.cond (.t 9) (.skip)
 (.exit 0) [0, 3, 4, 5]))
 (.seq (.block 1 (.seq (.reg [
 ⟨some 12, .mv (.t 0), none⟩,
 ⟨some 13, .mv (.t 5), none⟩,
 ⟨some 14, .iadr 1 (.t 12) (.t 13), none⟩,
 ⟨some 15, .load false 1 (.t 14), none⟩,
 ⟨some 16, .bin .gtr (.t 15) (.c (.int .i64 0)), none⟩] [0, 3, 4, 5, 16])
 (.cond (.t 16) (.seq (.reg [
 ⟨some 17, .mv (.t 3), none⟩,
 ⟨some 18, .bin .add (.t 17) (.c (.int .i64 1)), none⟩,
 ⟨some 3, .mv (.t 18), none⟩] [0, 3, 5])
 (.reg [
 ⟨some 19, .mv (.t 0), none⟩,
 ⟨some 20, .mv (.t 5), none⟩,
 ⟨some 21, .iadr 1 (.t 19) (.t 20), none⟩,
 ⟨some 22, .load false 1 (.t 21), none⟩,
 ⟨some 4, .mv (.t 22), none⟩] [0, 3, 4, 5]))
 (.skip) [0, 3, 4, 5])) [0, 3, 4, 5])
 (.reg [
 ⟨some 10, .mv (.t 5), none⟩,
 ⟨some 11, .bin .add (.t 10) (.c (.int .i64 1)), none⟩,
 ⟨some 5, .mv (.t 11), none⟩] [0, 3, 4, 5])))
def f54 : AFunc := { np := 1, res := [.tmp 2], pure := true, body :=
 (.seq (.reg [
 ⟨some 2, .mv (.c (.bool false)), none⟩] [0])
 (.seq (.reg [
 ⟨some 3, .mv (.c (.int .i64 0)), none⟩,
 ⟨some 4, .mv (.c (.int .i64 0)), none⟩] [0, 3, 4])
 (.seq (.seq (.reg [
 ⟨some 5, .mv (.c (.int .i64 0)), none⟩] [0, 3, 4, 5])
 (.block 0 (.loop [0, 3, 4, 5] f54L0) [3, 4]))
 (.seq (.reg [
 ⟨some 23, .mv (.t 3), none⟩,
 ⟨some 24, .bin .eql (.t 23) (.c (.int .i64 0)), none⟩,
 ⟨some 25, .mv (.t 24), none⟩,
 ⟨some 26, .mv (.t 3), (some (25, false))⟩,
 ⟨some 27, .bin .eql (.t 26) (.c (.int .i64 1)), (some (25, false))⟩,
 ⟨some 28, .mv (.t 27), (some (25, false))⟩,
 ⟨some 29, .mv (.t 4), (some (28, true))⟩,
 ⟨some 30, .bin .eql (.t 29) (.c (.int .i64 1)), (some (28, true))⟩,
 ⟨some 31, .pick (.t 28) (.t 30) (.c (.bool false)), (some (25, false))⟩,
 ⟨some 32, .pick (.t 25) (.c (.bool true)) (.t 31), none⟩,
 ⟨some 2, .mv (.t 32), none⟩] [2])
 (.ret))))) }
def f58L0 : ACode :=
 (.seq (.reg [
 ⟨some 34, .bin .lss (.t 33) (.t 32), none⟩] [0, 6, 32, 33, 34])
 (.seq (.cond (.t 34) (.skip)
 (.exit 1) [0, 6, 32, 33])
 (.seq (.block 2 (.seq (.reg [
 ⟨some 35, .mv (.t 33), none⟩,
 ⟨some 7, .mv (.t 35), none⟩] [0, 6, 7, 32, 33])
 (.seq (.dreg [0, 1, 2, 3, 4, 5, 6, 7, 8, 9, 10, 11, 12, 13, 14, 15, 16, 17, 18, 19, 20, 21, 22] [
 ⟨some 36, .mv (.t 6), none⟩,
 ⟨some 37, .mv (.t 0), none⟩,
 ⟨some 38, .nilc (.t 37), none⟩,
 ⟨some 39, .fadr 0 (.t 38), none⟩,
 ⟨some 40, .load false 1 (.t 39), none⟩,
 ⟨some 41, .mv (.t 0), none⟩,
 ⟨some 42, .nilc (.t 41), none⟩,
 ⟨some 43, .fadr 1 (.t 42), none⟩,
 ⟨some 44, .load false 1 (.t 43), none⟩,
 ⟨some 45, .bin .quo (.t 44) (.c (.int .i64 8)), none⟩,
 ⟨some 46, .idxs (.t 40) (.t 45), none⟩,
 ⟨some 47, .mv (.t 0), none⟩,
 ⟨some 48, .nilc (.t 47), none⟩,
 ⟨some 49, .fadr 1 (.t 48), none⟩,
 ⟨some 50, .load false 1 (.t 49), none⟩,
 ⟨some 51, .bin .rem (.t 50) (.c (.int .i64 8)), none⟩,
 ⟨some 52, .bin .shr (.t 46) (.t 51), none⟩,
 ⟨some 53, .bin .and (.t 52) (.c (.int .u8 1)), none⟩,
 ⟨some 54, .conv .i64 (.t 53), none⟩,
 ⟨some 55, .mv (.t 7), none⟩,
 ⟨some 56, .bin .shl (.t 54) (.t 55), none⟩,
 ⟨some 57, .bin .or (.t 36) (.t 56), none⟩,
 ⟨some 6, .mv (.t 57), none⟩] [] [0, 6, 32, 33])
 (.reg [
 ⟨some 58, .mv (.t 0), none⟩,
 ⟨some 59, .nilc (.t 58), none⟩,
 ⟨some 60, .fadr 1 (.t 59), none⟩,
 ⟨some 61, .load false 1 (.t 60), none⟩,
 ⟨some 62, .bin .add (.t 61) (.c (.int .i64 1)), none⟩,
 ⟨some 63, .nilc (.t 58), none⟩,
 ⟨some 64, .fadr 1 (.t 63), none⟩,
 ⟨none, .store 1 (.t 64) (.t 62), none⟩] [0, 6, 32, 33]))) [0, 6, 32, 33])
 (.reg [
 ⟨some 65, .bin .add (.t 33) (.c (.int .i64 1)), none⟩,
 ⟨some 33, .mv (.t 65), none⟩] [0, 6, 32, 33]))))
def f58 : AFunc := { np := 2, res := [.tmp 4, .tmp 5], pure := false, body :=
 (.seq (.reg [
 ⟨some 4, .mv (.c (.int .i64 0)), none⟩,
 ⟨some 5, .mv (.c (.int .i64 0)), none⟩] [0, 1])
 (.seq (.block 0 (.seq (.reg [
 ⟨some 9, .mv (.t 0), none⟩,
 ⟨some 10, .eqn 0 false (.t 9) (.c (.nilp)), none⟩,
 ⟨some 8, .mv (.t 10), none⟩] [0, 1, 8])
 (.cond (.t 8) (.seq (.reg [
 ⟨some 4, .mv (.c (.int .i64 0)), none⟩,
 ⟨some 5, .mv (.c (.int .i64 1)), none⟩] [4, 5])
 (.ret))
 (.seq (.reg [
 ⟨some 12, .mv (.t 1), none⟩,
 ⟨some 13, .bin .lss (.t 12) (.c (.int .i64 0)), none⟩,
 ⟨some 14, .mv (.t 13), none⟩,
 ⟨some 15, .mv (.t 1), (some (14, false))⟩,
 ⟨some 16, .bin .gtr (.t 15) (.c (.int .i64 16)), (some (14, false))⟩,
 ⟨some 17, .pick (.t 14) (.c (.bool true)) (.t 16), none⟩,
 ⟨some 11, .mv (.t 17), none⟩] [0, 1, 11])
 (.cond (.t 11) (.seq (.reg [
 ⟨some 4, .mv (.c (.int .i64 0)), none⟩,
 ⟨some 5, .mv (.c (.int .i64 100)), none⟩] [4, 5])
 (.ret))
 (.seq (.dreg [0, 1, 2, 3, 4, 5, 6, 7, 8, 9, 10, 11, 12, 13] [
 ⟨some 19, .mv (.t 1), none⟩,
 ⟨some 20, .mv (.t 0), none⟩,
 ⟨some 21, .nilc (.t 20), none⟩,
 ⟨some 22, .fadr 0 (.t 21), none⟩,
 ⟨some 23, .load false 1 (.t 22), none⟩,
 ⟨some 24, .len true (.t 23), none⟩,
 ⟨some 25, .bin .mul (.c (.int .i64 8)) (.t 24), none⟩,
 ⟨some 26, .mv (.t 0), none⟩,
 ⟨some 27, .nilc (.t 26), none⟩,
 ⟨some 28, .fadr 1 (.t 27), none⟩,
 ⟨some 29, .load false 1 (.t 28), none⟩,
 ⟨some 30, .bin .sub (.t 25) (.t 29), none⟩,
 ⟨some 31, .bin .gtr (.t 19) (.t 30), none⟩,
 ⟨some 18, .mv (.t 31), none⟩] [] [0, 1, 18])
 (.cond (.t 18) (.seq (.reg [
 ⟨some 4, .mv (.c (.int .i64 0)), none⟩,
 ⟨some 5, .mv (.c (.int .i64 101)), none⟩] [4, 5])
 (.ret))
 (.skip) [0, 1])) [0, 1])) [0, 1])) [0, 1])
 (.seq (.reg [
 ⟨some 6, .mv (.c (.int .i64 0)), none⟩] [0, 1, 6])
 (.seq (.seq (.reg [
 ⟨some 32, .mv (.t 1), none⟩,
 ⟨some 33, .mv (.c (.int .i64 0)), none⟩] [0, 6, 32, 33])
 (.block 1 (.loop [0, 6, 32, 33] f58L0) [6]))
 (.seq (.reg [
 ⟨some 66, .mv (.t 6), none⟩,
 ⟨some 4, .mv (.t 66), none⟩,
 ⟨some 5, .mv (.c (.int .i64 0)), none⟩] [4, 5])
 (.ret)))))) }
def f59 : AFunc := { np := 2, res := [], pure := false, body :=
 (.seq (.seq (.dreg [0, 1, 2, 3, 4, 5, 6, 7, 8, 9] [
 ⟨some 4, .mv (.t 0), none⟩,
 ⟨some 5, .nilc (.t 4), none⟩,
 ⟨some 6, .fadr 1 (.t 5), none⟩,
 ⟨some 7, .load false 1 (.t 6), none⟩,
 ⟨some 8, .len false (.t 7), none⟩,
 ⟨some 9, .mv (.t 0), none⟩,
 ⟨some 10, .nilc (.t 9), none⟩,
 ⟨some 11, .fadr 2 (.t 10), none⟩,
 ⟨some 12, .load false 1 (.t 11), none⟩,
 ⟨some 13, .bin .geq (.t 8) (.t 12), none⟩] [] [0, 1, 13])
 (.cond (.t 13) (.reg [
 ⟨some 14, .mv (.t 0), none⟩,
 ⟨some 15, .call (.c (.fn 45 [] [])) [(.t 14), (.c (.int .i64 701))], none⟩] [0, 1])
 (.skip) [0, 1]))
 (.seq (.reg [
 ⟨some 16, .mv (.t 0), none⟩,
 ⟨some 17, .nilc (.t 16), none⟩,
 ⟨some 18, .fadr 3 (.t 17), none⟩,
 ⟨some 19, .load false 1 (.t 18), none⟩,
 ⟨some 20, .bin .eql (.t 19) (.c (.int .i64 0)), none⟩] [0, 1, 20])
 (.cond (.t 20) (.reg [
 ⟨some 21, .mv (.t 0), none⟩,
 ⟨some 22, .mv (.t 0), none⟩,
 ⟨some 23, .nilc (.t 22), none⟩,
 ⟨some 24, .fadr 1 (.t 23), none⟩,
 ⟨some 25, .load false 1 (.t 24), none⟩,
 ⟨some 26, .mv (.t 1), none⟩,
 ⟨some 27, .bslice 1 1 [.int .u8 0] [(0, (.t 26))], none⟩,
 ⟨some 28, .app 1 1 (.t 25) (.t 27), none⟩,
 ⟨some 29, .nilc (.t 21), none⟩,
 ⟨some 30, .fadr 1 (.t 29), none⟩,
 ⟨none, .store 1 (.t 30) (.t 28), none⟩] [])
 (.skip) []))) }
def f60L0 : ACode :=
 (.seq (.seq (.reg [
 ⟨some 9, .mv (.t 6), none⟩,
 ⟨some 10, .bin .leq (.t 9) (.c (.int .i64 15)), none⟩,
 ⟨some 11, .mv (.t 10), none⟩,
 ⟨some 12, .mv (.t 0), (some (11, true))⟩,
 ⟨some 13, .nilc (.t 12), (some (11, true))⟩,
 ⟨some 14, .fadr 3 (.t 13), (some (11, true))⟩,
 ⟨some 15, .load false 1 (.t 14), (some (11, true))⟩,
 ⟨some 16, .bin .eql (.t 15) (.c (.int .i64 0)), (some (11, true))⟩,
 ⟨some 17, .pick (.t 11) (.t 16) (.c (.bool false)), none⟩] [0, 1, 5, 6, 17])
 (.cond (.t 17) (.skip)
 (.exit 0) [0, 1, 5, 6]))
 (.seq (.block 1 (.seq (.reg [
 ⟨some 20, .mv (.t 5), none⟩,
 ⟨some 21, .bin .mul (.t 20) (.c (.int .i64 2)), none⟩,
 ⟨some 22, .mv (.t 0), none⟩,
 ⟨some 23, .call (.c (.fn 38 [] [])) [(.t 22), (.c (.int .i64 1))], none⟩,
 ⟨some 24, .bin .add (.t 21) (.t 23), none⟩,
 ⟨some 5, .mv (.t 24), none⟩] [0, 1, 5, 6])
 (.seq (.reg [
 ⟨some 26, .mv (.t 1), none⟩,
 ⟨some 27, .mv (.t 6), none⟩,
 ⟨some 28, .mv (.t 5), none⟩,
 ⟨some 29, .call (.c (.fn 72 [] [])) [(.t 26), (.t 27), (.t 28)], none⟩,
 ⟨some 25, .mv (.t 29), none⟩,
 ⟨some 30, .extr (.t 25) 0, none⟩,
 ⟨some 31, .extr (.t 25) 1, none⟩,
 ⟨some 7, .mv (.t 30), none⟩,
 ⟨some 8, .mv (.t 31), none⟩] [0, 1, 5, 6, 7, 8])
 (.seq (.reg [
 ⟨some 32, .mv (.t 8), none⟩,
 ⟨some 33, .mv (.t 32), none⟩,
 ⟨some 34, .mv (.t 0), (some (33, true))⟩,
 ⟨some 35, .nilc (.t 34), (some (33, true))⟩,
 ⟨some 36, .fadr 3 (.t 35), (some (33, true))⟩,
 ⟨some 37, .load false 1 (.t 36), (some (33, true))⟩,
 ⟨some 38, .bin .eql (.t 37) (.c (.int .i64 0)), (some (33, true))⟩,
 ⟨some 39, .pick (.t 33) (.t 38) (.c (.bool false)), none⟩] [0, 1, 5, 6, 7, 39])
 (.cond (.t 39) (.seq (.reg [
 ⟨some 40, .mv (.t 7), none⟩,
 ⟨some 4, .mv (.t 40), none⟩] [4])
 (.ret))
 (.skip) [0, 1, 5, 6])))) [0, 1, 5, 6])
 (.reg [
 ⟨some 18, .mv (.t 6), none⟩,
 ⟨some 19, .bin .add (.t 18) (.c (.int .i64 1)), none⟩,
 ⟨some 6, .mv (.t 19), none⟩] [0, 1, 5, 6])))
def f60 : AFunc := { np := 2, res := [.tmp 4], pure := false, body :=
 (.seq (.reg [
 ⟨some 4, .mv (.c (.int .i64 0)), none⟩] [0, 1])
 (.seq (.reg [
 ⟨some 5, .mv (.c (.int .i64 0)), none⟩] [0, 1, 5])
 (.seq (.seq (.reg [
 ⟨some 6, .mv (.c (.int .i64 1)), none⟩] [0, 1, 5, 6])
 (.block 0 (.loop [0, 1, 5, 6] f60L0) [0]))
 (.seq (.reg [
 ⟨some 41, .mv (.t 0), none⟩,
 ⟨some 42, .call (.c (.fn 45 [] [])) [(.t 41), (.c (.int .i64 700))], none⟩] [])
 (.seq (.reg [
 ⟨some 4, .mv (.c (.int .i64 256)), none⟩] [4])
 (.ret)))))) }
def f61L0 : ACode :=
 (.seq (.seq (.reg [
 ⟨some 45, .mv (.t 6), none⟩,
 ⟨some 46, .bin .gtr (.t 45) (.c (.int .i64 0)), none⟩,
 ⟨some 47, .mv (.t 46), none⟩,
 ⟨some 48, .mv (.t 0), (some (47, true))⟩,
 ⟨some 49, .nilc (.t 48), (some (47, true))⟩,
 ⟨some 50, .fadr 3 (.t 49), (some (47, true))⟩,
 ⟨some 51, .load false 1 (.t 50), (some (47, true))⟩,
 ⟨some 52, .bin .eql (.t 51) (.c (.int .i64 0)), (some (47, true))⟩,
 ⟨some 53, .pick (.t 47) (.t 52) (.c (.bool false)), none⟩] [0, 6, 8, 53])
 (.cond (.t 53) (.skip)
 (.exit 0) [0, 6, 8]))
 (.seq (.block 1 (.dreg [0, 1, 2, 3, 4, 5, 6, 7, 8, 9, 10, 11, 12, 13, 14] [
 ⟨some 56, .mv (.t 0), none⟩,
 ⟨some 57, .mv (.t 0), none⟩,
 ⟨some 58, .nilc (.t 57), none⟩,
 ⟨some 59, .fadr 1 (.t 58), none⟩,
 ⟨some 60, .load false 1 (.t 59), none⟩,
 ⟨some 61, .mv (.t 0), none⟩,
 ⟨some 62, .nilc (.t 61), none⟩,
 ⟨some 63, .fadr 1 (.t 62), none⟩,
 ⟨some 64, .load false 1 (.t 63), none⟩,
 ⟨some 65, .len false (.t 64), none⟩,
 ⟨some 66, .mv (.t 8), none⟩,
 ⟨some 67, .bin .sub (.t 65) (.t 66), none⟩,
 ⟨some 68, .iadr 1 (.t 60) (.t 67), none⟩,
 ⟨some 69, .load false 1 (.t 68), none⟩,
 ⟨some 70, .call (.c (.fn 59 [] [])) [(.t 56), (.t 69)], none⟩] [] [0, 6, 8]) [0, 6, 8])
 (.reg [
 ⟨some 54, .mv (.t 6), none⟩,
 ⟨some 55, .bin .sub (.t 54) (.c (.int .i64 1)), none⟩,
 ⟨some 6, .mv (.t 55), none⟩] [0, 6, 8])))
def f61 : AFunc := { np := 3, res := [], pure := false, body :=
 (.seq (.reg [
 ⟨some 9, .mv (.t 0), none⟩,
 ⟨some 10, .mv (.t 1), none⟩,
 ⟨some 11, .call (.c (.fn 74 [] [])) [(.t 10)], none⟩,
 ⟨some 12, .extr (.t 11) 0, none⟩,
 ⟨some 13, .extr (.t 11) 1, none⟩,
 ⟨some 14, .extr (.t 11) 2, none⟩,
 ⟨some 15, .call (.c (.fn 73 [] [])) [(.t 9), (.t 12), (.t 13), (.t 14)], none⟩,
 ⟨some 6, .mv (.t 15), none⟩] [0, 2, 6])
 (.seq (.seq (.reg [
 ⟨some 16, .mv (.t 0), none⟩,
 ⟨some 17, .nilc (.t 16), none⟩,
 ⟨some 18, .fadr 3 (.t 17), none⟩,
 ⟨some 19, .load false 1 (.t 18), none⟩,
 ⟨some 20, .bin .neq (.t 19) (.c (.int .i64 0)), none⟩] [0, 2, 6, 20])
 (.cond (.t 20) (.ret)
 (.skip) [0, 2, 6]))
 (.seq (.reg [
 ⟨some 21, .mv (.t 0), none⟩,
 ⟨some 22, .mv (.t 2), none⟩,
 ⟨some 23, .call (.c (.fn 60 [] [])) [(.t 21), (.t 22)], none⟩,
 ⟨some 7, .mv (.t 23), none⟩] [0, 6, 7])
 (.seq (.seq (.reg [
 ⟨some 24, .mv (.t 0), none⟩,
 ⟨some 25, .nilc (.t 24), none⟩,
 ⟨some 26, .fadr 3 (.t 25), none⟩,
 ⟨some 27, .load false 1 (.t 26), none⟩,
 ⟨some 28, .bin .neq (.t 27) (.c (.int .i64 0)), none⟩] [0, 6, 7, 28])
 (.cond (.t 28) (.ret)
 (.skip) [0, 6, 7]))
 (.seq (.reg [
 ⟨some 29, .mv (.t 0), none⟩,
 ⟨some 30, .mv (.t 7), none⟩,
 ⟨some 31, .call (.c (.fn 75 [] [])) [(.t 30)], none⟩,
 ⟨some 32, .extr (.t 31) 0, none⟩,
 ⟨some 33, .extr (.t 31) 1, none⟩,
 ⟨some 34, .extr (.t 31) 2, none⟩,
 ⟨some 35, .call (.c (.fn 73 [] [])) [(.t 29), (.t 32), (.t 33), (.t 34)], none⟩,
 ⟨some 8, .mv (.t 35), none⟩] [0, 6, 8])
 (.seq (.seq (.reg [
 ⟨some 36, .mv (.t 8), none⟩,
 ⟨some 37, .mv (.t 0), none⟩,
 ⟨some 38, .nilc (.t 37), none⟩,
 ⟨some 39, .fadr 1 (.t 38), none⟩,
 ⟨some 40, .load false 1 (.t 39), none⟩,
 ⟨some 41, .len false (.t 40), none⟩,
 ⟨some 42, .bin .gtr (.t 36) (.t 41), none⟩] [0, 6, 8, 42])
 (.cond (.t 42) (.reg [
 ⟨some 43, .mv (.t 0), none⟩,
 ⟨some 44, .call (.c (.fn 45 [] [])) [(.t 43), (.c (.int .i64 700))], none⟩] [0, 6, 8])
 (.skip) [0, 6, 8]))
 (.block 0 (.loop [0, 6, 8] f61L0) []))))))) }
def f62L0 : ACode :=
 (.seq (.reg [
 ⟨some 28, .bin .lss (.t 27) (.t 26), none⟩] [6, 25, 26, 27, 28])
 (.seq (.cond (.t 28) (.skip)
 (.exit 2) [6, 25, 26, 27])
 (.seq (.block 3 (.seq (.reg [
 ⟨some 29, .iadr 1 (.t 25) (.t 27), none⟩,
 ⟨some 30, .load false 1 (.t 29), none⟩,
 ⟨some 8, .mv (.t 30), none⟩] [6, 8, 25, 26, 27])
 (.reg [
 ⟨some 31, .mv (.t 6), none⟩,
 ⟨some 32, .mv (.t 8), none⟩,
 ⟨some 33, .app 1 8 (.t 31) (.t 32), none⟩,
 ⟨some 6, .mv (.t 33), none⟩] [6, 25, 26, 27])) [6, 25, 26, 27])
 (.reg [
 ⟨some 34, .bin .add (.t 27) (.c (.int .i64 1)), none⟩,
 ⟨some 27, .mv (.t 34), none⟩] [6, 25, 26, 27]))))
def f62L1 : ACode :=
 (.seq (.reg [
 ⟨some 12, .bin .lss (.t 11) (.t 10), none⟩] [0, 3, 9, 10, 11, 12])
 (.seq (.cond (.t 12) (.skip)
 (.exit 0) [0, 3, 9, 10, 11])
 (.seq (.block 1 (.seq (.reg [
 ⟨some 13, .iadr 1 (.t 9) (.t 11), none⟩,
 ⟨some 14, .load false 1 (.t 13), none⟩,
 ⟨some 5, .mv (.t 14), none⟩] [0, 3, 5, 9, 10, 11])
 (.seq (.reg [
 ⟨some 15, .mv (.t 3), none⟩,
 ⟨some 16, .mv (.t 5), none⟩,
 ⟨some 17, .len false (.t 16), none⟩,
 ⟨some 18, .bin .add (.t 15) (.t 17), none⟩,
 ⟨some 3, .mv (.t 18), none⟩] [0, 3, 9, 10, 11])
 (.seq (.reg [
 ⟨some 19, .mv (.t 3), none⟩,
 ⟨some 20, .bin .lss (.t 19) (.c (.int .i64 0)), none⟩] [0, 3, 9, 10, 11, 20])
 (.cond (.t 20) (.reg [
 ⟨some 21, .mkif 0 (.c (.str ⟨#[108, 101, 110, 32, 111, 117, 116, 32, 111, 102, 32, 114, 97, 110, 103, 101]⟩)), none⟩,
 ⟨none, .pan , none⟩] [0, 3, 9, 10, 11])
 (.skip) [0, 3, 9, 10, 11])))) [0, 3, 9, 10, 11])
 (.reg [
 ⟨some 22, .bin .add (.t 11) (.c (.int .i64 1)), none⟩,
 ⟨some 11, .mv (.t 22), none⟩] [0, 3, 9, 10, 11]))))
def f62 : AFunc := { np := 1, res := [.tmp 2], pure := true, body :=
 (.seq (.reg [
 ⟨some 2, .mv (.c (.nils)), none⟩] [0])
 (.seq (.reg [
 ⟨some 3, .mv (.c (.int .i64 0)), none⟩] [0, 3])
 (.seq (.seq (.reg [
 ⟨some 9, .mv (.t 0), none⟩,
 ⟨some 10, .len false (.t 9), none⟩,
 ⟨some 11, .mv (.c (.int .i64 0)), none⟩] [0, 3, 9, 10, 11])
 (.block 0 (.loop [0, 3, 9, 10, 11] f62L1) [0, 3]))
 (.seq (.reg [
 ⟨some 23, .mv (.t 3), none⟩,
 ⟨some 24, .call (.c (.fn 76 [] [])) [(.c (.nils)), (.t 23)], none⟩,
 ⟨some 6, .mv (.t 24), none⟩] [0, 6])
 (.seq (.seq (.reg [
 ⟨some 25, .mv (.t 0), none⟩,
 ⟨some 26, .len false (.t 25), none⟩,
 ⟨some 27, .mv (.c (.int .i64 0)), none⟩] [6, 25, 26, 27])
 (.block 2 (.loop [6, 25, 26, 27] f62L0) [6]))
 (.seq (.reg [
 ⟨some 35, .mv (.t 6), none⟩,
 ⟨some 2, .mv (.t 35), none⟩] [2])
 (.ret))))))) }
def f63 : AFunc := { np := 2, res := [.tmp 4, .tmp 5], pure := true, body :=
 (.seq (.reg [
 ⟨some 4, .mv (.c (.int .u64 0)), none⟩,
 ⟨some 5, .mv (.c (.int .u64 0)), none⟩] [0, 1])
 (.seq (.cond (.c (.bool false)) (.seq (.reg [
 ⟨some 11, .mv (.t 0), none⟩,
 ⟨some 12, .conv .u32 (.t 11), none⟩,
 ⟨some 13, .mv (.t 1), none⟩,
 ⟨some 14, .conv .u32 (.t 13), none⟩,
 ⟨some 15, .call (.c (.fn 77 [] [])) [(.t 12), (.t 14)], none⟩,
 ⟨some 10, .mv (.t 15), none⟩,
 ⟨some 16, .extr (.t 10) 0, none⟩,
 ⟨some 17, .extr (.t 10) 1, none⟩,
 ⟨some 6, .mv (.t 16), none⟩,
 ⟨some 7, .mv (.t 17), none⟩] [6, 7])
 (.seq (.reg [
 ⟨some 18, .mv (.t 6), none⟩,
 ⟨some 19, .conv .u64 (.t 18), none⟩,
 ⟨some 20, .mv (.t 7), none⟩,
 ⟨some 21, .conv .u64 (.t 20), none⟩,
 ⟨some 4, .mv (.t 19), none⟩,
 ⟨some 5, .mv (.t 21), none⟩] [4, 5])
 (.ret)))
 (.skip) [0, 1])
 (.seq (.reg [
 ⟨some 23, .mv (.t 0), none⟩,
 ⟨some 24, .mv (.t 1), none⟩,
 ⟨some 25, .call (.c (.fn 78 [] [])) [(.t 23), (.t 24)], none⟩,
 ⟨some 22, .mv (.t 25), none⟩,
 ⟨some 26, .extr (.t 22) 0, none⟩,
 ⟨some 27, .extr (.t 22) 1, none⟩,
 ⟨some 8, .mv (.t 26), none⟩,
 ⟨some 9, .mv (.t 27), none⟩] [8, 9])
 (.seq (.reg [
 ⟨some 28, .mv (.t 8), none⟩,
 ⟨some 29, .mv (.t 9), none⟩,
 ⟨some 4, .mv (.t 28), none⟩,
 ⟨some 5, .mv (.t 29), none⟩] [4, 5])
 (.ret))))) }
def f64L0 : ACode :=
 (.seq (.seq (.reg [
 ⟨some 36, .mv (.t 10), none⟩,
 ⟨some 37, .len false (.t 36), none⟩,
 ⟨some 38, .mv (.t 1), none⟩,
 ⟨some 39, .bin .lss (.t 37) (.t 38), none⟩,
 ⟨some 40, .mv (.t 39), none⟩,
 ⟨some 41, .mv (.t 0), (some (40, true))⟩,
 ⟨some 42, .nilc (.t 41), (some (40, true))⟩,
 ⟨some 43, .fadr 3 (.t 42), (some (40, true))⟩,
 ⟨some 44, .load false 1 (.t 43), (some (40, true))⟩,
 ⟨some 45, .bin .eql (.t 44) (.c (.int .i64 0)), (some (40, true))⟩,
 ⟨some 46, .pick (.t 40) (.t 45) (.c (.bool false)), none⟩] [0, 1, 9, 10, 46])
 (.cond (.t 46) (.skip)
 (.exit 2) [0, 1, 9, 10]))
 (.block 3 (.seq (.reg [
 ⟨some 48, .mv (.t 0), none⟩,
 ⟨some 49, .mv (.t 0), none⟩,
 ⟨some 50, .mv (.t 9), none⟩,
 ⟨some 51, .call (.c (.fn 60 [] [])) [(.t 49), (.t 50)], none⟩,
 ⟨some 52, .mv (.t 10), none⟩,
 ⟨some 53, .call (.c (.fn 80 [] [])) [(.t 48), (.t 51), (.t 52)], none⟩,
 ⟨some 47, .mv (.t 53), none⟩,
 ⟨some 54, .extr (.t 47) 0, none⟩,
 ⟨some 55, .extr (.t 47) 1, none⟩,
 ⟨some 11, .mv (.t 54), none⟩,
 ⟨some 12, .mv (.t 55), none⟩] [0, 1, 9, 10, 11, 12])
 (.reg [
 ⟨some 56, .mv (.t 10), none⟩,
 ⟨some 57, .mv (.t 11), none⟩,
 ⟨some 58, .bslice 1 1 [.int .i64 0] [(0, (.t 57))], none⟩,
 ⟨some 59, .mv (.t 12), none⟩,
 ⟨some 60, .call (.c (.fn 43 [] [])) [(.t 58), (.t 59)], none⟩,
 ⟨some 61, .app 1 8 (.t 56) (.t 60), none⟩,
 ⟨some 10, .mv (.t 61), none⟩] [0, 1, 9, 10])) [0, 1, 9, 10]))
def f64L1 : ACode :=
 (.seq (.reg [
 ⟨some 21, .bin .lss (.t 20) (.t 19), none⟩] [0, 1, 5, 18, 19, 20, 21])
 (.seq (.cond (.t 21) (.skip)
 (.exit 0) [0, 1, 5, 18, 19, 20])
 (.seq (.block 1 (.seq (.reg [
 ⟨some 22, .iadr 1 (.t 18) (.t 20), none⟩,
 ⟨some 23, .load false 1 (.t 22), none⟩,
 ⟨some 8, .mv (.t 23), none⟩] [0, 1, 5, 8, 18, 19, 20])
 (.reg [
 ⟨some 24, .mv (.t 8), none⟩,
 ⟨some 25, .mv (.t 0), none⟩,
 ⟨some 26, .call (.c (.fn 38 [] [])) [(.t 25), (.c (.int .i64 3))], none⟩,
 ⟨some 27, .iadra 19 1 (.t 5) (.t 24), none⟩,
 ⟨none, .store 1 (.t 27) (.t 26), none⟩] [0, 1, 5, 18, 19, 20])) [0, 1, 5, 18, 19, 20])
 (.reg [
 ⟨some 28, .bin .add (.t 20) (.c (.int .i64 1)), none⟩,
 ⟨some 20, .mv (.t 28), none⟩] [0, 1, 5, 18, 19, 20]))))
def f64 : AFunc := { np := 2, res := [.tmp 4], pure := false, body :=
 (.seq (.reg [
 ⟨some 4, .mv (.c (.nils)), none⟩] [0, 1])
 (.seq (.reg [
 ⟨some 5, .alloc [.int .i64 0, .int .i64 0, .int .i64 0, .int .i64 0, .int .i64 0, .int .i64 0, .int .i64 0, .int .i64 0, .int .i64 0, .int .i64 0, .int .i64 0, .int .i64 0, .int .i64 0, .int .i64 0, .int .i64 0, .int .i64 0, .int .i64 0, .int .i64 0, .int .i64 0], none⟩] [0, 1, 5])
 (.seq (.reg [
 ⟨some 13, .call (.c (.fn 79 [] [])) [], none⟩,
 ⟨some 6, .mv (.t 13), none⟩] [0, 1, 5, 6])
 (.seq (.seq (.reg [
 ⟨some 14, .mv (.t 6), none⟩,
 ⟨some 15, .mv (.t 0), none⟩,
 ⟨some 16, .call (.c (.fn 38 [] [])) [(.t 15), (.c (.int .i64 4))], none⟩,
 ⟨some 17, .bin .add (.t 16) (.c (.int .i64 4)), none⟩,
 ⟨some 18, .sl 1 (.t 14) none (some (.t 17)) none, none⟩,
 ⟨some 19, .len false (.t 18), none⟩,
 ⟨some 20, .mv (.c (.int .i64 0)), none⟩] [0, 1, 5, 18, 19, 20])
 (.block 0 (.loop [0, 1, 5, 18, 19, 20] f64L1) [0, 1, 5]))
 (.seq (.seq (.reg [
 ⟨some 29, .sla 19 1 (.t 5) none none, none⟩,
 ⟨some 30, .call (.c (.fn 65 [] [])) [(.t 29)], none⟩,
 ⟨some 31, .bin .neq (.t 30) (.c (.int .i64 0)), none⟩] [0, 1, 5, 31])
 (.cond (.t 31) (.reg [
 ⟨some 32, .mv (.t 0), none⟩,
 ⟨some 33, .call (.c (.fn 45 [] [])) [(.t 32), (.c (.int .i64 700))], none⟩] [0, 1, 5])
 (.skip) [0, 1, 5]))
 (.seq (.reg [
 ⟨some 34, .sla 19 1 (.t 5) none none, none⟩,
 ⟨some 35, .call (.c (.fn 41 [] [])) [(.t 34)], none⟩,
 ⟨some 9, .mv (.t 35), none⟩] [0, 1, 9])
 (.seq (.reg [
 ⟨some 10, .mv (.c (.nils)), none⟩] [0, 1, 9, 10])
 (.seq (.block 2 (.loop [0, 1, 9, 10] f64L0) [0, 1, 10])
 (.seq (.seq (.reg [
 ⟨some 62, .mv (.t 10), none⟩,
 ⟨some 63, .len false (.t 62), none⟩,
 ⟨some 64, .mv (.t 1), none⟩,
 ⟨some 65, .bin .gtr (.t 63) (.t 64), none⟩] [0, 10, 65])
 (.cond (.t 65) (.reg [
 ⟨some 66, .mv (.t 0), none⟩,
 ⟨some 67, .call (.c (.fn 45 [] [])) [(.t 66), (.c (.int .i64 700))], none⟩] [10])
 (.skip) [10]))
 (.seq (.reg [
 ⟨some 68, .mv (.t 10), none⟩,
 ⟨some 4, .mv (.t 68), none⟩] [4])
 (.ret))))))))))) }
def f65 : AFunc := { np := 1, res := [.tmp 2], pure := true, body :=
 (.seq (.reg [
 ⟨some 2, .mv (.c (.int .i64 0)), none⟩] [0])
 (.seq (.seq (.reg [
 ⟨some 4, .mv (.t 0), none⟩,
 ⟨some 5, .call (.c (.fn 81 [] [])) [(.t 4)], none⟩,
 ⟨some 6, .not (.t 5), none⟩] [0, 6])
 (.cond (.t 6) (.seq (.reg [
 ⟨some 2, .mv (.c (.int .i64 300)), none⟩] [2])
 (.ret))
 (.skip) [0]))
 (.seq (.seq (.reg [
 ⟨some 7, .mv (.t 0), none⟩,
 ⟨some 8, .call (.c (.fn 41 [] [])) [(.t 7)], none⟩,
 ⟨some 9, .nilc (.t 8), none⟩,
 ⟨some 10, .fadr 48 (.t 9), none⟩,
 ⟨some 11, .load false 1 (.t 10), none⟩,
 ⟨some 3, .mv (.t 11), none⟩] [3])
 (.block 0 (.seq (.reg [
 ⟨some 13, .mv (.t 3), none⟩,
 ⟨some 14, .bin .lss (.t 13) (.c (.int .i64 0)), none⟩,
 ⟨some 12, .mv (.t 14), none⟩] [3, 12])
 (.cond (.t 12) (.seq (.reg [
 ⟨some 2, .mv (.c (.int .i64 301)), none⟩] [2])
 (.ret))
 (.seq (.reg [
 ⟨some 16, .mv (.t 3), none⟩,
 ⟨some 17, .bin .gtr (.t 16) (.c (.int .i64 0)), none⟩,
 ⟨some 15, .mv (.t 17), none⟩] [15])
 (.cond (.t 15) (.seq (.reg [
 ⟨some 2, .mv (.c (.int .i64 302)), none⟩] [2])
 (.ret))
 (.skip) [])) [])) []))
 (.seq (.reg [
 ⟨some 2, .mv (.c (.int .i64 0)), none⟩] [2])
 (.ret))))) }
def f66L0 : ACode :=
 (.seq (.reg [
 ⟨some 9, .bin .lss (.t 8) (.t 7), none⟩] [3, 6, 7, 8, 9])
 (.seq (.cond (.t 9) (.skip)
 (.exit 0) [3, 6, 7, 8])
 (.seq (.block 1 (.seq (.reg [
 ⟨some 10, .iadr 1 (.t 6) (.t 8), none⟩,
 ⟨some 11, .load false 1 (.t 10), none⟩,
 ⟨some 5, .mv (.t 11), none⟩] [3, 5, 6, 7, 8])
 (.reg [
 ⟨some 12, .mv (.t 3), none⟩,
 ⟨some 13, .mv (.t 5), none⟩,
 ⟨some 14, .bin .add (.t 12) (.t 13), none⟩,
 ⟨some 3, .mv (.t 14), none⟩] [3, 6, 7, 8])) [3, 6, 7, 8])
 (.reg [
 ⟨some 15, .bin .add (.t 8) (.c (.int .i64 1)), none⟩,
 ⟨some 8, .mv (.t 15), none⟩] [3, 6, 7, 8]))))
def f66 : AFunc := { np := 1, res := [.tmp 2], pure := true, body :=
 (.seq (.reg [
 ⟨some 2, .mv (.c (.bool false)), none⟩] [0])
 (.seq (.reg [
 ⟨some 3, .mv (.c (.int .i64 0)), none⟩] [0, 3])
 (.seq (.seq (.reg [
 ⟨some 6, .mv (.t 0), none⟩,
 ⟨some 7, .len false (.t 6), none⟩,
 ⟨some 8, .mv (.c (.int .i64 0)), none⟩] [3, 6, 7, 8])
 (.block 0 (.loop [3, 6, 7, 8] f66L0) [3]))
 (.seq (.reg [
 ⟨some 16, .mv (.t 3), none⟩,
 ⟨some 17, .bin .leq (.t 16) (.c (.int .i64 1)), none⟩,
 ⟨some 2, .mv (.t 17), none⟩] [2])
 (.ret))))) }
def f67L0 : ACode :=
 (.seq (.seq (.reg [
 ⟨some 12, .mv (.t 3), none⟩,
 ⟨some 13, .mv (.t 0), none⟩,
 ⟨some 14, .len false (.t 13), none⟩,
 ⟨some 15, .bin .lss (.t 12) (.t 14), none⟩] [0, 3, 15])
 (.cond (.t 15) (.skip)
 (.exit 0) [0, 3]))
 (.seq (.block 1 (.seq (.reg [
 ⟨some 18, .mv (.t 0), none⟩,
 ⟨some 19, .mv (.t 3), none⟩,
 ⟨some 20, .iadr 1 (.t 18) (.t 19), none⟩,
 ⟨some 21, .load false 1 (.t 20), none⟩,
 ⟨some 22, .bin .lss (.t 21) (.c (.int .i64 0)), none⟩,
 ⟨some 23, .mv (.t 22), none⟩,
 ⟨some 24, .mv (.t 0), (some (23, false))⟩,
 ⟨some 25, .mv (.t 3), (some (23, false))⟩,
 ⟨some 26, .iadr 1 (.t 24) (.t 25), (some (23, false))⟩,
 ⟨some 27, .load false 1 (.t 26), (some (23, false))⟩,
 ⟨some 28, .bin .gtr (.t 27) (.c (.int .i64 15)), (some (23, false))⟩,
 ⟨some 29, .pick (.t 23) (.c (.bool true)) (.t 28), none⟩] [0, 3, 29])
 (.cond (.t 29) (.seq (.reg [
 ⟨some 2, .mv (.c (.bool false)), none⟩] [2])
 (.ret))
 (.skip) [0, 3])) [0, 3])
 (.reg [
 ⟨some 16, .mv (.t 3), none⟩,
 ⟨some 17, .bin .add (.t 16) (.c (.int .i64 1)), none⟩,
 ⟨some 3, .mv (.t 17), none⟩] [0, 3])))
def f67 : AFunc := { np := 1, res := [.tmp 2], pure := true, body :=
 (.seq (.reg [
 ⟨some 2, .mv (.c (.bool false)), none⟩] [0])
 (.seq (.seq (.reg [
 ⟨some 4, .mv (.t 0), none⟩,
 ⟨some 5, .len false (.t 4), none⟩,
 ⟨some 6, .bin .lss (.t 5) (.c (.int .i64 1)), none⟩,
 ⟨some 7, .mv (.t 6), none⟩,
 ⟨some 8, .mv (.t 0), (some (7, false))⟩,
 ⟨some 9, .len false (.t 8), (some (7, false))⟩,
 ⟨some 10, .bin .gtr (.t 9) (.c (.int .i64 288)), (some (7, false))⟩,
 ⟨some 11, .pick (.t 7) (.c (.bool true)) (.t 10), none⟩] [0, 11])
 (.cond (.t 11) (.seq (.reg [
 ⟨some 2, .mv (.c (.bool false)), none⟩] [2])
 (.ret))
 (.skip) [0]))
 (.seq (.seq (.reg [
 ⟨some 3, .mv (.c (.int .i64 0)), none⟩] [0, 3])
 (.block 0 (.loop [0, 3] f67L0) []))
 (.seq (.reg [
 ⟨some 2, .mv (.c (.bool true)), none⟩] [2])
 (.ret))))) }
def f68L0 : ACode :=
 (.seq (.seq (.reg [
 ⟨some 5, .mv (.t 4), none⟩,
 ⟨some 6, .mv (.t 0), none⟩,
 ⟨some 7, .len false (.t 6), none⟩,
 ⟨some 8, .bin .lss (.t 5) (.t 7), none⟩] [0, 3, 4, 8])
 (.cond (.t 8) (.skip)
 (.exit 0) [0, 3, 4]))
 (.seq (.block 1 (.seq (.reg [
 ⟨some 11, .mv (.t 0), none⟩,
 ⟨some 12, .mv (.t 4), none⟩,
 ⟨some 13, .iadr 1 (.t 11) (.t 12), none⟩,
 ⟨some 14, .load false 1 (.t 13), none⟩,
 ⟨some 15, .bin .gtr (.t 14) (.c (.int .i64 0)), none⟩] [0, 3, 4, 15])
 (.cond (.t 15) (.reg [
 ⟨some 16, .mv (.t 3), none⟩,
 ⟨some 17, .mv (.t 0), none⟩,
 ⟨some 18, .mv (.t 4), none⟩,
 ⟨some 19, .iadr 1 (.t 17) (.t 18), none⟩,
 ⟨some 20, .load false 1 (.t 19), none⟩,
 ⟨some 21, .bin .sub (.c (.int .i64 15)) (.t 20), none⟩,
 ⟨some 22, .bin .shl (.c (.int .i64 1)) (.t 21), none⟩,
 ⟨some 23, .bin .add (.t 16) (.t 22), none⟩,
 ⟨some 3, .mv (.t 23), none⟩] [0, 3, 4])
 (.skip) [0, 3, 4])) [0, 3, 4])
 (.reg [
 ⟨some 9, .mv (.t 4), none⟩,
 ⟨some 10, .bin .add (.t 9) (.c (.int .i64 1)), none⟩,
 ⟨some 4, .mv (.t 10), none⟩] [0, 3, 4])))
def f68 : AFunc := { np := 1, res := [.tmp 2], pure := true, body :=
 (.seq (.reg [
 ⟨some 2, .mv (.c (.int .i64 0)), none⟩] [0])
 (.seq (.reg [
 ⟨some 3, .mv (.c (.int .i64 0)), none⟩] [0, 3])
 (.seq (.seq (.reg [
 ⟨some 4, .mv (.c (.int .i64 0)), none⟩] [0, 3, 4])
 (.block 0 (.loop [0, 3, 4] f68L0) [3]))
 (.seq (.reg [
 ⟨some 24, .mv (.t 3), none⟩,
 ⟨some 2, .mv (.t 24), none⟩] [2])
 (.ret))))) }
def f72 : AFunc := { np := 3, res := [.tmp 6, .tmp 7], pure := false, body :=
 (.seq (.reg [
 ⟨some 6, .mv (.c (.int .i64 0)), none⟩,
 ⟨some 7, .mv (.c (.bool false)), none⟩] [0, 1, 2])
 (.seq (.seq (.dreg [0, 1, 2, 3, 4, 5, 6, 7, 8, 9, 10, 11, 12, 13, 14, 15, 16, 17, 18, 19, 20, 21, 22, 23, 24, 25, 26, 27, 28, 29, 30, 31, 32] [
 ⟨some 8, .mv (.t 1), none⟩,
 ⟨some 9, .bin .lss (.t 8) (.c (.int .i64 1)), none⟩,
 ⟨some 10, .mv (.t 9), none⟩,
 ⟨some 11, .mv (.t 1), (some (10, false))⟩,
 ⟨some 12, .bin .gtr (.t 11) (.c (.int .i64 15)), (some (10, false))⟩,
 ⟨some 13, .pick (.t 10) (.c (.bool true)) (.t 12), none⟩,
 ⟨some 14, .mv (.t 13), none⟩,
 ⟨some 15, .mv (.t 2), (some (14, false))⟩,
 ⟨some 16, .mv (.t 0), (some (14, false))⟩,
 ⟨some 17, .mv (.t 1), (some (14, false))⟩,
 ⟨some 18, .nilc (.t 16), (some (14, false))⟩,
 ⟨some 19, .fadr 0 (.t 18), (some (14, false))⟩,
 ⟨some 20, .iadra 16 1 (.t 19) (.t 17), (some (14, false))⟩,
 ⟨some 21, .load false 1 (.t 20), (some (14, false))⟩,
 ⟨some 22, .bin .lss (.t 15) (.t 21), (some (14, false))⟩,
 ⟨some 23, .pick (.t 14) (.c (.bool true)) (.t 22), none⟩,
 ⟨some 24, .mv (.t 23), none⟩,
 ⟨some 25, .mv (.t 2), (some (24, false))⟩,
 ⟨some 26, .mv (.t 0), (some (24, false))⟩,
 ⟨some 27, .mv (.t 1), (some (24, false))⟩,
 ⟨some 28, .nilc (.t 26), (some (24, false))⟩,
 ⟨some 29, .fadr 0 (.t 28), (some (24, false))⟩,
 ⟨some 30, .iadra 16 1 (.t 29) (.t 27), (some (24, false))⟩,
 ⟨some 31, .load false 1 (.t 30), (some (24, false))⟩,
 ⟨some 32, .bin .sub (.t 25) (.t 31), (some (24, false))⟩,
 ⟨some 33, .mv (.t 0), (some (24, false))⟩,
 ⟨some 34, .mv (.t 1), (some (24, false))⟩,
 ⟨some 35, .nilc (.t 33), (some (24, false))⟩,
 ⟨some 36, .fadr 16 (.t 35), (some (24, false))⟩,
 ⟨some 37, .iadra 16 1 (.t 36) (.t 34), (some (24, false))⟩,
 ⟨some 38, .load false 1 (.t 37), (some (24, false))⟩,
 ⟨some 39, .bin .geq (.t 32) (.t 38), (some (24, false))⟩,
 ⟨some 40, .pick (.t 24) (.c (.bool true)) (.t 39), none⟩] [] [0, 1, 2, 40])
 (.cond (.t 40) (.seq (.reg [
 ⟨some 6, .mv (.c (.int .i64 0)), none⟩,
 ⟨some 7, .mv (.c (.bool false)), none⟩] [6, 7])
 (.ret))
 (.skip) [0, 1, 2]))
 (.seq (.dreg [0, 1, 2, 3, 4, 5, 6, 7, 8, 9, 10, 11, 12, 13, 14, 15, 16, 17] [
 ⟨some 41, .mv (.t 0), none⟩,
 ⟨some 42, .mv (.t 1), none⟩,
 ⟨some 43, .nilc (.t 41), none⟩,
 ⟨some 44, .fadr 32 (.t 43), none⟩,
 ⟨some 45, .iadra 16 1 (.t 44) (.t 42), none⟩,
 ⟨some 46, .load false 1 (.t 45), none⟩,
 ⟨some 47, .mv (.t 2), none⟩,
 ⟨some 48, .mv (.t 0), none⟩,
 ⟨some 49, .mv (.t 1), none⟩,
 ⟨some 50, .nilc (.t 48), none⟩,
 ⟨some 51, .fadr 0 (.t 50), none⟩,
 ⟨some 52, .iadra 16 1 (.t 51) (.t 49), none⟩,
 ⟨some 53, .load false 1 (.t 52), none⟩,
 ⟨some 54, .bin .sub (.t 47) (.t 53), none⟩,
 ⟨some 55, .iadr 1 (.t 46) (.t 54), none⟩,
 ⟨some 56, .load false 1 (.t 55), none⟩,
 ⟨some 6, .mv (.t 56), none⟩,
 ⟨some 7, .mv (.c (.bool true)), none⟩] [] [6, 7])
 (.ret)))) }
def f73 : AFunc := { np := 4, res := [.tmp 8], pure := false, body :=
 (.seq (.reg [
 ⟨some 8, .mv (.c (.int .i64 0)), none⟩] [0, 1, 2, 3])
 (.seq (.seq (.reg [
 ⟨some 9, .mv (.t 3), none⟩,
 ⟨some 10, .bin .neq (.t 9) (.c (.int .i64 0)), none⟩] [0, 1, 2, 10])
 (.cond (.t 10) (.reg [
 ⟨some 11, .mv (.t 0), none⟩,
 ⟨some 12, .call (.c (.fn 45 [] [])) [(.t 11), (.c (.int .i64 700))], none⟩] [0, 1, 2])
 (.skip) [0, 1, 2]))
 (.seq (.reg [
 ⟨some 13, .mv (.t 1), none⟩,
 ⟨some 14, .mv (.t 0), none⟩,
 ⟨some 15, .mv (.t 2), none⟩,
 ⟨some 16, .call (.c (.fn 38 [] [])) [(.t 14), (.t 15)], none⟩,
 ⟨some 17, .bin .add (.t 13) (.t 16), none⟩,
 ⟨some 8, .mv (.t 17), none⟩] [8])
 (.ret)))) }
def f74 : AFunc := { np := 1, res := [.tmp 2, .tmp 3, .tmp 4], pure := true, body :=
 (.seq (.reg [
 ⟨some 2, .mv (.c (.int .i64 0)), none⟩,
 ⟨some 3, .mv (.c (.int .i64 0)), none⟩,
 ⟨some 4, .mv (.c (.int .i64 0)), none⟩] [0])
 (.seq (.reg [
 ⟨some 7, .mv (.t 0), none⟩,
 ⟨some 8, .bin .sub (.t 7) (.c (.int .i64 256)), none⟩,
 ⟨some 9, .bin .sub (.t 8) (.c (.int .i64 1)), none⟩,
 ⟨some 5, .mv (.t 9), none⟩] [0, 5])
 (.seq (.block 0 (.seq (.reg [
 ⟨some 11, .mv (.t 0), none⟩,
 ⟨some 12, .bin .leq (.t 11) (.c (.int .i64 256)), none⟩,
 ⟨some 13, .mv (.t 12), none⟩,
 ⟨some 14, .mv (.t 0), (some (13, false))⟩,
 ⟨some 15, .bin .gtr (.t 14) (.c (.int .i64 285)), (some (13, false))⟩,
 ⟨some 16, .pick (.t 13) (.c (.bool true)) (.t 15), none⟩,
 ⟨some 10, .mv (.t 16), none⟩] [0, 5, 10])
 (.cond (.t 10) (.seq (.reg [
 ⟨some 2, .mv (.c (.int .i64 0)), none⟩,
 ⟨some 3, .mv (.c (.int .i64 0)), none⟩,
 ⟨some 4, .mv (.c (.int .i64 600)), none⟩] [2, 3, 4])
 (.ret))
 (.seq (.reg [
 ⟨some 18, .mv (.t 0), none⟩,
 ⟨some 19, .bin .eql (.t 18) (.c (.int .i64 285)), none⟩,
 ⟨some 17, .mv (.t 19), none⟩] [5, 17])
 (.cond (.t 17) (.seq (.reg [
 ⟨some 2, .mv (.c (.int .i64 258)), none⟩,
 ⟨some 3, .mv (.c (.int .i64 0)), none⟩,
 ⟨some 4, .mv (.c (.int .i64 0)), none⟩] [2, 3, 4])
 (.ret))
 (.seq (.reg [
 ⟨some 21, .mv (.t 5), none⟩,
 ⟨some 22, .bin .lss (.t 21) (.c (.int .i64 8)), none⟩,
 ⟨some 20, .mv (.t 22), none⟩] [5, 20])
 (.cond (.t 20) (.seq (.reg [
 ⟨some 23, .mv (.t 5), none⟩,
 ⟨some 24, .bin .add (.c (.int .i64 3)) (.t 23), none⟩,
 ⟨some 2, .mv (.t 24), none⟩,
 ⟨some 3, .mv (.c (.int .i64 0)), none⟩,
 ⟨some 4, .mv (.c (.int .i64 0)), none⟩] [2, 3, 4])
 (.ret))
 (.skip) [5])) [5])) [5])) [5])
 (.seq (.reg [
 ⟨some 25, .mv (.t 5), none⟩,
 ⟨some 26, .bin .quo (.t 25) (.c (.int .i64 4)), none⟩,
 ⟨some 27, .bin .sub (.t 26) (.c (.int .i64 1)), none⟩,
 ⟨some 6, .mv (.t 27), none⟩] [5, 6])
 (.seq (.reg [
 ⟨some 28, .mv (.t 5), none⟩,
 ⟨some 29, .bin .rem (.t 28) (.c (.int .i64 4)), none⟩,
 ⟨some 30, .bin .add (.c (.int .i64 4)) (.t 29), none⟩,
 ⟨some 31, .mv (.t 6), none⟩,
 ⟨some 32, .bin .shl (.t 30) (.t 31), none⟩,
 ⟨some 33, .bin .add (.c (.int .i64 3)) (.t 32), none⟩,
 ⟨some 34, .mv (.t 6), none⟩,
 ⟨some 2, .mv (.t 33), none⟩,
 ⟨some 3, .mv (.t 34), none⟩,
 ⟨some 4, .mv (.c (.int .i64 0)), none⟩] [2, 3, 4])
 (.ret)))))) }
def f75 : AFunc := { np := 1, res := [.tmp 2, .tmp 3, .tmp 4], pure := true, body :=
 (.seq (.reg [
 ⟨some 2, .mv (.c (.int .i64 0)), none⟩,
 ⟨some 3, .mv (.c (.int .i64 0)), none⟩,
 ⟨some 4, .mv (.c (.int .i64 0)), none⟩] [0])
 (.seq (.block 0 (.seq (.reg [
 ⟨some 7, .mv (.t 0), none⟩,
 ⟨some 8, .bin .lss (.t 7) (.c (.int .i64 0)), none⟩,
 ⟨some 9, .mv (.t 8), none⟩,
 ⟨some 10, .mv (.t 0), (some (9, false))⟩,
 ⟨some 11, .bin .geq (.t 10) (.c (.int .i64 30)), (some (9, false))⟩,
 ⟨some 12, .pick (.t 9) (.c (.bool true)) (.t 11), none⟩,
 ⟨some 6, .mv (.t 12), none⟩] [0, 6])
 (.cond (.t 6) (.seq (.reg [
 ⟨some 2, .mv (.c (.int .i64 0)), none⟩,
 ⟨some 3, .mv (.c (.int .i64 0)), none⟩,
 ⟨some 4, .mv (.c (.int .i64 600)), none⟩] [2, 3, 4])
 (.ret))
 (.seq (.reg [
 ⟨some 14, .mv (.t 0), none⟩,
 ⟨some 15, .bin .lss (.t 14) (.c (.int .i64 4)), none⟩,
 ⟨some 13, .mv (.t 15), none⟩] [0, 13])
 (.cond (.t 13) (.seq (.reg [
 ⟨some 16, .mv (.t 0), none⟩,
 ⟨some 17, .bin .add (.c (.int .i64 1)) (.t 16), none⟩,
 ⟨some 2, .mv (.t 17), none⟩,
 ⟨some 3, .mv (.c (.int .i64 0)), none⟩,
 ⟨some 4, .mv (.c (.int .i64 0)), none⟩] [2, 3, 4])
 (.ret))
 (.skip) [0])) [0])) [0])
 (.seq (.reg [
 ⟨some 18, .mv (.t 0), none⟩,
 ⟨some 19, .bin .quo (.t 18) (.c (.int .i64 2)), none⟩,
 ⟨some 20, .bin .sub (.t 19) (.c (.int .i64 1)), none⟩,
 ⟨some 5, .mv (.t 20), none⟩] [0, 5])
 (.seq (.reg [
 ⟨some 21, .mv (.t 0), none⟩,
 ⟨some 22, .bin .rem (.t 21) (.c (.int .i64 2)), none⟩,
 ⟨some 23, .bin .add (.c (.int .i64 2)) (.t 22), none⟩,
 ⟨some 24, .mv (.t 5), none⟩,
 ⟨some 25, .bin .shl (.t 23) (.t 24), none⟩,
 ⟨some 26, .bin .add (.c (.int .i64 1)) (.t 25), none⟩,
 ⟨some 27, .mv (.t 5), none⟩,
 ⟨some 2, .mv (.t 26), none⟩,
 ⟨some 3, .mv (.t 27), none⟩,
 ⟨some 4, .mv (.c (.int .i64 0)), none⟩] [2, 3, 4])
 (.ret))))) }
def f76 : AFunc := { np := 2, res := [.tmp 4], pure := false, body :=
 (.seq (.reg [
 ⟨some 4, .mv (.c (.nils)), none⟩] [0, 1])
 (.seq (.seq (.reg [
 ⟨some 5, .mv (.t 1), none⟩,
 ⟨some 6, .bin .lss (.t 5) (.c (.int .i64 0)), none⟩] [0, 1, 6])
 (.cond (.t 6) (.reg [
 ⟨some 7, .mkif 0 (.c (.str ⟨#[99, 97, 110, 110, 111, 116, 32, 98, 101, 32, 110, 101, 103, 97, 116, 105, 118, 101]⟩)), none⟩,
 ⟨none, .pan , none⟩] [0, 1])
 (.skip) [0, 1]))
 (.seq (.seq (.reg [
 ⟨some 8, .mv (.t 1), none⟩,
 ⟨some 9, .mv (.t 0), none⟩,
 ⟨some 10, .cap (.t 9), none⟩,
 ⟨some 11, .mv (.t 0), none⟩,
 ⟨some 12, .len false (.t 11), none⟩,
 ⟨some 13, .bin .sub (.t 10) (.t 12), none⟩,
 ⟨some 14, .bin .sub (.t 8) (.t 13), none⟩,
 ⟨some 1, .mv (.t 14), none⟩] [0, 1])
 (.seq (.reg [
 ⟨some 15, .mv (.t 1), none⟩,
 ⟨some 16, .bin .gtr (.t 15) (.c (.int .i64 0)), none⟩] [0, 1, 16])
 (.cond (.t 16) (.reg [
 ⟨some 17, .mv (.t 0), none⟩,
 ⟨some 18, .mv (.t 0), none⟩,
 ⟨some 19, .cap (.t 18), none⟩,
 ⟨some 20, .sl 1 (.t 17) none (some (.t 19)) none, none⟩,
 ⟨some 21, .mv (.t 1), none⟩,
 ⟨some 22, .appz 1 8 [.int .i64 0] (.t 20) (.t 21), none⟩,
 ⟨some 23, .mv (.t 0), none⟩,
 ⟨some 24, .len false (.t 23), none⟩,
 ⟨some 25, .sl 1 (.t 22) none (some (.t 24)) none, none⟩,
 ⟨some 0, .mv (.t 25), none⟩] [0])
 (.skip) [0])))
 (.seq (.reg [
 ⟨some 26, .mv (.t 0), none⟩,
 ⟨some 4, .mv (.t 26), none⟩] [4])
 (.ret))))) }
def f77 : AFunc := { np := 2, res := [.tmp 4, .tmp 5], pure := true, body :=
 (.seq (.reg [
 ⟨some 4, .mv (.c (.int .u32 0)), none⟩,
 ⟨some 5, .mv (.c (.int .u32 0)), none⟩] [0, 1])
 (.seq (.reg [
 ⟨some 7, .mv (.t 0), none⟩,
 ⟨some 8, .conv .u64 (.t 7), none⟩,
 ⟨some 9, .mv (.t 1), none⟩,
 ⟨some 10, .conv .u64 (.t 9), none⟩,
 ⟨some 11, .bin .mul (.t 8) (.t 10), none⟩,
 ⟨some 6, .mv (.t 11), none⟩] [6])
 (.seq (.reg [
 ⟨some 12, .mv (.t 6), none⟩,
 ⟨some 13, .bin .shr (.t 12) (.c (.int .u64 32)), none⟩,
 ⟨some 14, .conv .u32 (.t 13), none⟩,
 ⟨some 15, .mv (.t 6), none⟩,
 ⟨some 16, .conv .u32 (.t 15), none⟩,
 ⟨some 4, .mv (.t 14), none⟩,
 ⟨some 5, .mv (.t 16), none⟩] [4, 5])
 (.ret)))) }
def f78 : AFunc := { np := 2, res := [.tmp 4, .tmp 5], pure := true, body :=
 (.seq (.reg [
 ⟨some 4, .mv (.c (.int .u64 0)), none⟩,
 ⟨some 5, .mv (.c (.int .u64 0)), none⟩] [0, 1])
 (.seq (.reg [
 ⟨some 14, .mv (.t 0), none⟩,
 ⟨some 15, .bin .and (.t 14) (.c (.int .u64 4294967295)), none⟩,
 ⟨some 6, .mv (.t 15), none⟩] [0, 1, 6])
 (.seq (.reg [
 ⟨some 16, .mv (.t 0), none⟩,
 ⟨some 17, .bin .shr (.t 16) (.c (.int .u64 32)), none⟩,
 ⟨some 7, .mv (.t 17), none⟩] [0, 1, 6, 7])
 (.seq (.reg [
 ⟨some 18, .mv (.t 1), none⟩,
 ⟨some 19, .bin .and (.t 18) (.c (.int .u64 4294967295)), none⟩,
 ⟨some 8, .mv (.t 19), none⟩] [0, 1, 6, 7, 8])
 (.seq (.reg [
 ⟨some 20, .mv (.t 1), none⟩,
 ⟨some 21, .bin .shr (.t 20) (.c (.int .u64 32)), none⟩,
 ⟨some 9, .mv (.t 21), none⟩] [0, 1, 6, 7, 8, 9])
 (.seq (.reg [
 ⟨some 22, .mv (.t 6), none⟩,
 ⟨some 23, .mv (.t 8), none⟩,
 ⟨some 24, .bin .mul (.t 22) (.t 23), none⟩,
 ⟨some 10, .mv (.t 24), none⟩] [0, 1, 6, 7, 8, 9, 10])
 (.seq (.reg [
 ⟨some 25, .mv (.t 7), none⟩,
 ⟨some 26, .mv (.t 8), none⟩,
 ⟨some 27, .bin .mul (.t 25) (.t 26), none⟩,
 ⟨some 28, .mv (.t 10), none⟩,
 ⟨some 29, .bin .shr (.t 28) (.c (.int .u64 32)), none⟩,
 ⟨some 30, .bin .add (.t 27) (.t 29), none⟩,
 ⟨some 11, .mv (.t 30), none⟩] [0, 1, 6, 7, 9, 11])
 (.seq (.reg [
 ⟨some 31, .mv (.t 11), none⟩,
 ⟨some 32, .bin .and (.t 31) (.c (.int .u64 4294967295)), none⟩,
 ⟨some 12, .mv (.t 32), none⟩] [0, 1, 6, 7, 9, 11, 12])
 (.seq (.reg [
 ⟨some 33, .mv (.t 11), none⟩,
 ⟨some 34, .bin .shr (.t 33) (.c (.int .u64 32)), none⟩,
 ⟨some 13, .mv (.t 34), none⟩] [0, 1, 6, 7, 9, 12, 13])
 (.seq (.reg [
 ⟨some 35, .mv (.t 12), none⟩,
 ⟨some 36, .mv (.t 6), none⟩,
 ⟨some 37, .mv (.t 9), none⟩,
 ⟨some 38, .bin .mul (.t 36) (.t 37), none⟩,
 ⟨some 39, .bin .add (.t 35) (.t 38), none⟩,
 ⟨some 12, .mv (.t 39), none⟩] [0, 1, 7, 9, 12, 13])
 (.seq (.reg [
 ⟨some 40, .mv (.t 7), none⟩,
 ⟨some 41, .mv (.t 9), none⟩,
 ⟨some 42, .bin .mul (.t 40) (.t 41), none⟩,
 ⟨some 43, .mv (.t 13), none⟩,
 ⟨some 44, .bin .add (.t 42) (.t 43), none⟩,
 ⟨some 45, .mv (.t 12), none⟩,
 ⟨some 46, .bin .shr (.t 45) (.c (.int .u64 32)), none⟩,
 ⟨some 47, .bin .add (.t 44) (.t 46), none⟩,
 ⟨some 4, .mv (.t 47), none⟩] [0, 1, 4])
 (.seq (.reg [
 ⟨some 48, .mv (.t 0), none⟩,
 ⟨some 49, .mv (.t 1), none⟩,
 ⟨some 50, .bin .mul (.t 48) (.t 49), none⟩,
 ⟨some 5, .mv (.t 50), none⟩] [4, 5])
 (.ret))))))))))))) }
def f79 : AFunc := { np := 0, res := [.tmp 0], pure := true, body :=
 (.seq (.reg [
 ⟨some 0, .mv (.c (.nils)), none⟩] [])
 (.seq (.reg [
 ⟨some 1, .bslice 1 19 [.int .i64 0] [(0, (.c (.int .i64 16))), (1, (.c (.int .i64 17))), (2, (.c (.int .i64 18))), (3, (.c (.int .i64 0))), (4, (.c (.int .i64 8))), (5, (.c (.int .i64 7))), (6, (.c (.int .i64 9))), (7, (.c (.int .i64 6))), (8, (.c (.int .i64 10))), (9, (.c (.int .i64 5))), (10, (.c (.int .i64 11))), (11, (.c (.int .i64 4))), (12, (.c (.int .i64 12))), (13, (.c (.int .i64 3))), (14, (.c (.int .i64 13))), (15, (.c (.int .i64 2))), (16, (.c (.int .i64 14))), (17, (.c (.int .i64 1))), (18, (.c (.int .i64 15)))], none⟩,
 ⟨some 0, .mv (.t 1), none⟩] [0])
 (.ret))) }
def f80 : AFunc := { np := 3, res := [.tmp 6, .tmp 7], pure := false, body :=
 (.seq (.reg [
 ⟨some 6, .mv (.c (.int .i64 0)), none⟩,
 ⟨some 7, .mv (.c (.int .i64 0)), none⟩] [0, 1, 2])
 (.seq (.seq (.reg [
 ⟨some 8, .mv (.t 1), none⟩] [0, 1, 2, 8])
 (.block 0 (.seq (.reg [
 ⟨some 10, .bin .eql (.t 8) (.c (.int .i64 16)), none⟩,
 ⟨some 9, .mv (.t 10), none⟩] [0, 1, 2, 8, 9])
 (.cond (.t 9) (.seq (.seq (.reg [
 ⟨some 11, .mv (.t 2), none⟩,
 ⟨some 12, .len false (.t 11), none⟩,
 ⟨some 13, .bin .eql (.t 12) (.c (.int .i64 0)), none⟩] [0, 2, 13])
 (.cond (.t 13) (.seq (.reg [
 ⟨some 14, .mv (.t 0), none⟩,
 ⟨some 15, .call (.c (.fn 45 [] [])) [(.t 14), (.c (.int .i64 700))], none⟩] [])
 (.seq (.reg [
 ⟨some 6, .mv (.c (.int .i64 0)), none⟩,
 ⟨some 7, .mv (.c (.int .i64 0)), none⟩] [6, 7])
 (.ret)))
 (.skip) [0, 2]))
 (.seq (.dreg [0, 1, 2, 3, 4, 5, 6, 7, 8, 9, 10] [
 ⟨some 16, .mv (.t 2), none⟩,
 ⟨some 17, .mv (.t 2), none⟩,
 ⟨some 18, .len false (.t 17), none⟩,
 ⟨some 19, .bin .sub (.t 18) (.c (.int .i64 1)), none⟩,
 ⟨some 20, .iadr 1 (.t 16) (.t 19), none⟩,
 ⟨some 21, .load false 1 (.t 20), none⟩,
 ⟨some 22, .mv (.t 0), none⟩,
 ⟨some 23, .call (.c (.fn 38 [] [])) [(.t 22), (.c (.int .i64 2))], none⟩,
 ⟨some 24, .bin .add (.c (.int .i64 3)) (.t 23), none⟩,
 ⟨some 6, .mv (.t 21), none⟩,
 ⟨some 7, .mv (.t 24), none⟩] [(5, [1])] [6, 7])
 (.ret)))
 (.seq (.reg [
 ⟨some 26, .bin .eql (.t 8) (.c (.int .i64 17)), none⟩,
 ⟨some 25, .mv (.t 26), none⟩] [0, 1, 8, 25])
 (.cond (.t 25) (.seq (.reg [
 ⟨some 27, .mv (.t 0), none⟩,
 ⟨some 28, .call (.c (.fn 38 [] [])) [(.t 27), (.c (.int .i64 3))], none⟩,
 ⟨some 29, .bin .add (.c (.int .i64 3)) (.t 28), none⟩,
 ⟨some 6, .mv (.c (.int .i64 0)), none⟩,
 ⟨some 7, .mv (.t 29), none⟩] [6, 7])
 (.ret))
 (.seq (.reg [
 ⟨some 31, .bin .eql (.t 8) (.c (.int .i64 18)), none⟩,
 ⟨some 30, .mv (.t 31), none⟩] [0, 1, 30])
 (.cond (.t 30) (.seq (.reg [
 ⟨some 32, .mv (.t 0), none⟩,
 ⟨some 33, .call (.c (.fn 38 [] [])) [(.t 32), (.c (.int .i64 7))], none⟩,
 ⟨some 34, .bin .add (.c (.int .i64 11)) (.t 33), none⟩,
 ⟨some 6, .mv (.c (.int .i64 0)), none⟩,
 ⟨some 7, .mv (.t 34), none⟩] [6, 7])
 (.ret))
 (.skip) [1])) [1])) [1])) [1]))
 (.seq (.reg [
 ⟨some 35, .mv (.t 1), none⟩,
 ⟨some 6, .mv (.t 35), none⟩,
 ⟨some 7, .mv (.c (.int .i64 1)), none⟩] [6, 7])
 (.ret)))) }
def f81 : AFunc := { np := 1, res := [.tmp 2], pure := true, body :=
 (.seq (.reg [
 ⟨some 2, .mv (.c (.bool false)), none⟩] [0])
 (.seq (.reg [
 ⟨some 3, .mv (.c (.fn 82 [] [])), none⟩] [0, 3])
 (.seq (.reg [
 ⟨some 4, .mv (.t 0), none⟩,
 ⟨some 5, .len false (.t 4), none⟩,
 ⟨some 6, .bin .geq (.t 5) (.c (.int .i64 1)), none⟩,
 ⟨some 7, .mv (.t 6), none⟩,
 ⟨some 8, .mv (.t 0), (some (7, true))⟩,
 ⟨some 9, .len false (.t 8), (some (7, true))⟩,
 ⟨some 10, .bin .leq (.t 9) (.c (.int .i64 288)), (some (7, true))⟩,
 ⟨some 11, .pick (.t 7) (.t 10) (.c (.bool false)), none⟩,
 ⟨some 12, .mv (.t 11), none⟩,
 ⟨some 13, .mv (.t 0), (some (12, true))⟩,
 ⟨some 14, .mv (.t 3), (some (12, true))⟩,
 ⟨some 15, .call (.c (.fn 83 [] [])) [(.t 13), (.t 14)], (some (12, true))⟩,
 ⟨some 16, .not (.t 15), (some (12, true))⟩,
 ⟨some 17, .pick (.t 12) (.t 16) (.c (.bool false)), none⟩,
 ⟨some 2, .mv (.t 17), none⟩] [2])
 (.ret)))) }
def f82 : AFunc := { np := 1, res := [.tmp 2], pure := true, body :=
 (.seq (.reg [
 ⟨some 2, .mv (.c (.bool false)), none⟩] [0])
 (.seq (.reg [
 ⟨some 3, .mv (.t 0), none⟩,
 ⟨some 4, .bin .lss (.t 3) (.c (.int .i64 0)), none⟩,
 ⟨some 5, .mv (.t 4), none⟩,
 ⟨some 6, .mv (.t 0), (some (5, false))⟩,
 ⟨some 7, .bin .gtr (.t 6) (.c (.int .i64 15)), (some (5, false))⟩,
 ⟨some 8, .pick (.t 5) (.c (.bool true)) (.t 7), none⟩,
 ⟨some 2, .mv (.t 8), none⟩] [2])
 (.ret))) }
def f83 : AFunc := { np := 2, res := [.tmp 4], pure := true, body :=
 (.seq (.reg [
 ⟨some 4, .mv (.c (.bool false)), none⟩] [0, 1])
 (.seq (.reg [
 ⟨some 5, .mv (.t 0), none⟩,
 ⟨some 6, .mv (.t 1), none⟩,
 ⟨some 7, .call (.c (.fn 84 [] [])) [(.t 5), (.t 6)], none⟩,
 ⟨some 8, .bin .geq (.t 7) (.c (.int .i64 0)), none⟩,
 ⟨some 4, .mv (.t 8), none⟩] [4])
 (.ret))) }
def f84L0 : ACode :=
 (.seq (.reg [
 ⟨some 9, .bin .lss (.t 8) (.t 7), none⟩] [0, 1, 7, 8, 9])
 (.seq (.cond (.t 9) (.skip)
 (.exit 0) [0, 1, 7, 8])
 (.seq (.block 1 (.seq (.reg [
 ⟨some 10, .mv (.t 8), none⟩,
 ⟨some 5, .mv (.t 10), none⟩] [0, 1, 5, 7, 8])
 (.seq (.reg [
 ⟨some 11, .mv (.t 1), none⟩,
 ⟨some 12, .mv (.t 0), none⟩,
 ⟨some 13, .mv (.t 5), none⟩,
 ⟨some 14, .iadr 1 (.t 12) (.t 13), none⟩,
 ⟨some 15, .load false 1 (.t 14), none⟩,
 ⟨some 16, .call (.t 11) [(.t 15)], none⟩] [0, 1, 5, 7, 8, 16])
 (.cond (.t 16) (.seq (.reg [
 ⟨some 17, .mv (.t 5), none⟩,
 ⟨some 4, .mv (.t 17), none⟩] [4])
 (.ret))
 (.skip) [0, 1, 7, 8]))) [0, 1, 7, 8])
 (.reg [
 ⟨some 18, .bin .add (.t 8) (.c (.int .i64 1)), none⟩,
 ⟨some 8, .mv (.t 18), none⟩] [0, 1, 7, 8]))))
def f84 : AFunc := { np := 2, res := [.tmp 4], pure := true, body :=
 (.seq (.reg [
 ⟨some 4, .mv (.c (.int .i64 0)), none⟩] [0, 1])
 (.seq (.seq (.reg [
 ⟨some 6, .mv (.t 0), none⟩,
 ⟨some 7, .len false (.t 6), none⟩,
 ⟨some 8, .mv (.c (.int .i64 0)), none⟩] [0, 1, 7, 8])
 (.block 0 (.loop [0, 1, 7, 8] f84L0) []))
 (.seq (.reg [
 ⟨some 4, .mv (.c (.int .i64 (-1))), none⟩] [4])
 (.ret)))) }
def f90 : AFunc := { np := 0, res := [.tmp 0], pure := true, body :=
 (.seq (.reg [
 ⟨some 0, .mv (.c (.bool false)), none⟩] [])
 (.seq (.reg [
 ⟨some 14, .call (.c (.fn 93 [] [])) [(.c (.nils))], none⟩,
 ⟨some 13, .mv (.t 14), none⟩,
 ⟨some 15, .extr (.t 13) 0, none⟩,
 ⟨some 16, .extr (.t 13) 1, none⟩,
 ⟨some 1, .mv (.t 15), none⟩,
 ⟨some 2, .mv (.t 16), none⟩] [1, 2])
 (.seq (.reg [
 ⟨some 18, .bslice 1 1 [.int .i64 0] [(0, (.c (.int .i64 258)))], none⟩,
 ⟨some 19, .call (.c (.fn 93 [] [])) [(.t 18)], none⟩,
 ⟨some 17, .mv (.t 19), none⟩,
 ⟨some 20, .extr (.t 17) 0, none⟩,
 ⟨some 21, .extr (.t 17) 1, none⟩,
 ⟨some 3, .mv (.t 20), none⟩,
 ⟨some 4, .mv (.t 21), none⟩] [1, 2, 3, 4])
 (.seq (.reg [
 ⟨some 23, .bslice 1 1 [.int .i64 0] [(0, (.c (.int .i64 (-1))))], none⟩,
 ⟨some 24, .call (.c (.fn 93 [] [])) [(.t 23)], none⟩,
 ⟨some 22, .mv (.t 24), none⟩,
 ⟨some 25, .extr (.t 22) 0, none⟩,
 ⟨some 26, .extr (.t 22) 1, none⟩,
 ⟨some 5, .mv (.t 25), none⟩,
 ⟨some 6, .mv (.t 26), none⟩] [1, 2, 3, 4, 6])
 (.seq (.reg [
 ⟨some 28, .call (.c (.fn 94 [] [])) [(.c (.str ⟨#[97]⟩)), (.c (.int .i64 0)), (.c (.int .i64 1)), (.c (.str ⟨#[104, 105]⟩))], none⟩,
 ⟨some 29, .call (.c (.fn 91 [] [])) [(.t 28)], none⟩,
 ⟨some 27, .mv (.t 29), none⟩,
 ⟨some 30, .extr (.t 27) 0, none⟩,
 ⟨some 31, .extr (.t 27) 1, none⟩,
 ⟨some 7, .mv (.t 30), none⟩,
 ⟨some 8, .mv (.t 31), none⟩] [1, 2, 3, 4, 6, 7, 8])
 (.seq (.reg [
 ⟨some 33, .call (.c (.fn 94 [] [])) [(.c (.str ⟨#[97]⟩)), (.c (.int .i64 0)), (.c (.int .i64 2)), (.c (.str ⟨#[104, 105]⟩))], none⟩,
 ⟨some 34, .call (.c (.fn 91 [] [])) [(.t 33)], none⟩,
 ⟨some 32, .mv (.t 34), none⟩,
 ⟨some 35, .extr (.t 32) 0, none⟩,
 ⟨some 36, .extr (.t 32) 1, none⟩,
 ⟨some 9, .mv (.t 35), none⟩,
 ⟨some 10, .mv (.t 36), none⟩] [1, 2, 3, 4, 6, 7, 8, 9, 10])
 (.seq (.reg [
 ⟨some 38, .build [.str ⟨#[]⟩, .bool false, .nils, .int .i64 0, .int .i64 0, .int .i64 0, .str ⟨#[]⟩, .int .i64 0, .int .i64 0] [], none⟩,
 ⟨some 39, .call (.c (.fn 91 [] [])) [(.t 38)], none⟩,
 ⟨some 37, .mv (.t 39), none⟩,
 ⟨some 40, .extr (.t 37) 0, none⟩,
 ⟨some 41, .extr (.t 37) 1, none⟩,
 ⟨some 11, .mv (.t 40), none⟩,
 ⟨some 12, .mv (.t 41), none⟩] [1, 2, 3, 4, 6, 7, 8, 9, 10, 12])
 (.seq (.reg [
 ⟨some 42, .mv (.t 1), none⟩,
 ⟨some 43, .bin .eql (.t 42) (.c (.int .i64 0)), none⟩,
 ⟨some 44, .mv (.t 43), none⟩,
 ⟨some 45, .mv (.t 2), (some (44, true))⟩,
 ⟨some 46, .call (.c (.fn 9 [] [])) [(.t 45)], (some (44, true))⟩,
 ⟨some 47, .bin .eql (.t 46) (.c (.int .i64 0)), (some (44, true))⟩,
 ⟨some 48, .pick (.t 44) (.t 47) (.c (.bool false)), none⟩,
 ⟨some 49, .mv (.t 48), none⟩,
 ⟨some 50, .mv (.t 3), (some (49, true))⟩,
 ⟨some 51, .call (.c (.fn 101 [] [])) [(.c (.str ⟨#[2, 1, 0, 0]⟩))], (some (49, true))⟩,
 ⟨some 52, .bin .eql (.t 50) (.t 51), (some (49, true))⟩,
 ⟨some 53, .pick (.t 49) (.t 52) (.c (.bool false)), none⟩,
 ⟨some 54, .mv (.t 53), none⟩,
 ⟨some 55, .mv (.t 4), (some (54, true))⟩,
 ⟨some 56, .call (.c (.fn 9 [] [])) [(.t 55)], (some (54, true))⟩,
 ⟨some 57, .bin .eql (.t 56) (.c (.int .i64 0)), (some (54, true))⟩,
 ⟨some 58, .pick (.t 54) (.t 57) (.c (.bool false)), none⟩,
 ⟨some 59, .mv (.t 58), none⟩,
 ⟨some 60, .mv (.t 6), (some (59, true))⟩,
 ⟨some 61, .call (.c (.fn 9 [] [])) [(.t 60)], (some (59, true))⟩,
 ⟨some 62, .bin .eql (.t 61) (.c (.int .i64 1500)), (some (59, true))⟩,
 ⟨some 63, .pick (.t 59) (.t 62) (.c (.bool false)), none⟩,
 ⟨some 64, .mv (.t 63), none⟩,
 ⟨some 65, .mv (.t 7), (some (64, true))⟩,
 ⟨some 66, .mv (.t 9), (some (64, true))⟩,
 ⟨some 67, .bin .neq (.t 65) (.t 66), (some (64, true))⟩,
 ⟨some 68, .pick (.t 64) (.t 67) (.c (.bool false)), none⟩,
 ⟨some 69, .mv (.t 68), none⟩,
 ⟨some 70, .mv (.t 8), (some (69, true))⟩,
 ⟨some 71, .call (.c (.fn 9 [] [])) [(.t 70)], (some (69, true))⟩,
 ⟨some 72, .bin .eql (.t 71) (.c (.int .i64 0)), (some (69, true))⟩,
 ⟨some 73, .pick (.t 69) (.t 72) (.c (.bool false)), none⟩,
 ⟨some 74, .mv (.t 73), none⟩,
 ⟨some 75, .mv (.t 10), (some (74, true))⟩,
 ⟨some 76, .call (.c (.fn 9 [] [])) [(.t 75)], (some (74, true))⟩,
 ⟨some 77, .bin .eql (.t 76) (.c (.int .i64 0)), (some (74, true))⟩,
 ⟨some 78, .pick (.t 74) (.t 77) (.c (.bool false)), none⟩,
 ⟨some 79, .mv (.t 78), none⟩,
 ⟨some 80, .mv (.t 12), (some (79, true))⟩,
 ⟨some 81, .call (.c (.fn 9 [] [])) [(.t 80)], (some (79, true))⟩,
 ⟨some 82, .bin .eql (.t 81) (.c (.int .i64 1500)), (some (79, true))⟩,
 ⟨some 83, .pick (.t 79) (.t 82) (.c (.bool false)), none⟩,
 ⟨some 0, .mv (.t 83), none⟩] [0])
 (.ret))))))))) }
def f91L0 : ACode :=
 (.seq (.reg [
 ⟨some 31, .bin .lss (.t 30) (.t 29), none⟩] [6, 7, 28, 29, 30, 31])
 (.seq (.cond (.t 31) (.skip)
 (.exit 0) [6, 7, 28, 29, 30])
 (.seq (.block 1 (.seq (.reg [
 ⟨some 32, .iadr 1 (.t 28) (.t 30), none⟩,
 ⟨some 33, .load false 1 (.t 32), none⟩,
 ⟨some 9, .mv (.t 33), none⟩] [6, 7, 9, 28, 29, 30])
 (.reg [
 ⟨some 34, .mv (.t 6), none⟩,
 ⟨some 35, .mv (.t 7), none⟩,
 ⟨some 36, .mv (.t 9), none⟩,
 ⟨some 37, .call (.t 34) [(.t 35), (.t 36)], none⟩,
 ⟨some 7, .mv (.t 37), none⟩] [6, 7, 28, 29, 30])) [6, 7, 28, 29, 30])
 (.reg [
 ⟨some 38, .bin .add (.t 30) (.c (.int .i64 1)), none⟩,
 ⟨some 30, .mv (.t 38), none⟩] [6, 7, 28, 29, 30]))))
def f91 : AFunc := { np := 1, res := [.tmp 2, .tmp 3], pure := true, body :=
 (.seq (.reg [
 ⟨some 1, .box 9 (.t 0), none⟩,
 ⟨some 2, .mv (.c (.int .i64 0)), none⟩,
 ⟨some 3, .mv (.c (.int .i64 0)), none⟩] [1])
 (.seq (.seq (.reg [
 ⟨some 10, .load true 9 (.t 1), none⟩,
 ⟨some 11, .call (.c (.fn 96 [] [])) [(.t 10)], none⟩,
 ⟨some 12, .not (.t 11), none⟩] [1, 12])
 (.cond (.t 12) (.seq (.reg [
 ⟨some 2, .mv (.c (.int .i64 0)), none⟩,
 ⟨some 3, .mv (.c (.int .i64 1500)), none⟩] [2, 3])
 (.ret))
 (.skip) [1]))
 (.seq (.reg [
 ⟨some 14, .load true 9 (.t 1), none⟩,
 ⟨some 15, .call (.c (.fn 102 [] [])) [(.t 14)], none⟩,
 ⟨some 13, .mv (.t 15), none⟩,
 ⟨some 16, .extr (.t 13) 0, none⟩,
 ⟨some 17, .extr (.t 13) 1, none⟩,
 ⟨some 4, .mv (.t 16), none⟩,
 ⟨some 5, .mv (.t 17), none⟩] [1, 4])
 (.seq (.reg [
 ⟨some 6, .mv (.c (.fn 103 [] [])), none⟩] [1, 4, 6])
 (.seq (.reg [
 ⟨some 7, .mv (.c (.int .i64 0)), none⟩] [1, 4, 6, 7])
 (.seq (.seq (.dreg [0, 1, 2, 3, 4, 5, 6, 7, 8, 9, 10, 11, 12] [
 ⟨some 18, .fadr 0 (.t 1), none⟩,
 ⟨some 19, .load false 1 (.t 18), none⟩,
 ⟨some 20, .len true (.t 19), none⟩,
 ⟨some 21, .call (.c (.fn 104 [] [])) [(.t 20), (.c (.int .i64 1))], none⟩,
 ⟨some 22, .fadr 0 (.t 1), none⟩,
 ⟨some 23, .load false 1 (.t 22), none⟩,
 ⟨some 24, .mv (.t 4), none⟩,
 ⟨some 25, .fadr 8 (.t 1), none⟩,
 ⟨some 26, .load false 1 (.t 25), none⟩,
 ⟨some 27, .call (.c (.fn 104 [] [])) [(.t 26), (.c (.int .i64 4))], none⟩,
 ⟨some 28, .bslice 1 4 [.str ⟨#[]⟩] [(0, (.t 21)), (1, (.t 23)), (2, (.t 24)), (3, (.t 27))], none⟩,
 ⟨some 29, .len false (.t 28), none⟩,
 ⟨some 30, .mv (.c (.int .i64 0)), none⟩] [(5, [0, 2]), (8, [0])] [6, 7, 28, 29, 30])
 (.block 0 (.loop [6, 7, 28, 29, 30] f91L0) [7]))
 (.seq (.reg [
 ⟨some 39, .mv (.t 7), none⟩,
 ⟨some 2, .mv (.t 39), none⟩,
 ⟨some 3, .mv (.c (.int .i64 0)), none⟩] [2, 3])
 (.ret)))))))) }
def f92 : AFunc := { np := 1, res := [.cell 2 true 9], pure := false, body :=
 (.seq (.reg [
 ⟨some 1, .box 9 (.t 0), none⟩,
 ⟨some 2, .alloc [.str ⟨#[]⟩, .bool false, .nils, .int .i64 0, .int .i64 0, .int .i64 0, .str ⟨#[]⟩, .int .i64 0, .int .i64 0], none⟩] [1, 2])
 (.seq (.reg [
 ⟨some 3, .bslice 1 0 [.int .i64 0] [], none⟩,
 ⟨some 4, .fadr 2 (.t 1), none⟩,
 ⟨some 5, .load false 1 (.t 4), none⟩,
 ⟨some 6, .app 1 8 (.t 3) (.t 5), none⟩,
 ⟨some 7, .fadr 2 (.t 1), none⟩,
 ⟨none, .store 1 (.t 7) (.t 6), none⟩] [1, 2])
 (.seq (.reg [
 ⟨some 8, .load true 9 (.t 1), none⟩,
 ⟨none, .store 9 (.t 2) (.t 8), none⟩] [2])
 (.ret)))) }
def f93L0 : ACode :=
 (.seq (.reg [
 ⟨some 10, .bin .lss (.t 9) (.t 8), none⟩] [4, 7, 8, 9, 10])
 (.seq (.cond (.t 10) (.skip)
 (.exit 0) [4, 7, 8, 9])
 (.seq (.block 1 (.seq (.reg [
 ⟨some 11, .iadr 1 (.t 7) (.t 9), none⟩,
 ⟨some 12, .load false 1 (.t 11), none⟩,
 ⟨some 6, .mv (.t 12), none⟩] [4, 6, 7, 8, 9])
 (.seq (.seq (.reg [
 ⟨some 13, .mv (.t 6), none⟩,
 ⟨some 14, .call (.c (.fn 105 [] [])) [(.t 13)], none⟩,
 ⟨some 15, .not (.t 14), none⟩] [4, 6, 7, 8, 9, 15])
 (.cond (.t 15) (.seq (.reg [
 ⟨some 2, .mv (.c (.int .i64 0)), none⟩,
 ⟨some 3, .mv (.c (.int .i64 1500)), none⟩] [2, 3])
 (.ret))
 (.skip) [4, 6, 7, 8, 9]))
 (.reg [
 ⟨some 16, .mv (.t 4), none⟩,
 ⟨some 17, .mv (.t 6), none⟩,
 ⟨some 18, .call (.c (.fn 104 [] [])) [(.t 17), (.c (.int .i64 4))], none⟩,
 ⟨some 19, .call (.c (.fn 103 [] [])) [(.t 16), (.t 18)], none⟩,
 ⟨some 4, .mv (.t 19), none⟩] [4, 7, 8, 9]))) [4, 7, 8, 9])
 (.reg [
 ⟨some 20, .bin .add (.t 9) (.c (.int .i64 1)), none⟩,
 ⟨some 9, .mv (.t 20), none⟩] [4, 7, 8, 9]))))
def f93 : AFunc := { np := 1, res := [.tmp 2, .tmp 3], pure := true, body :=
 (.seq (.reg [
 ⟨some 2, .mv (.c (.int .i64 0)), none⟩,
 ⟨some 3, .mv (.c (.int .i64 0)), none⟩] [0])
 (.seq (.reg [
 ⟨some 4, .mv (.c (.int .i64 0)), none⟩] [0, 4])
 (.seq (.seq (.reg [
 ⟨some 7, .mv (.t 0), none⟩,
 ⟨some 8, .len false (.t 7), none⟩,
 ⟨some 9, .mv (.c (.int .i64 0)), none⟩] [4, 7, 8, 9])
 (.block 0 (.loop [4, 7, 8, 9] f93L0) [4]))
 (.seq (.reg [
 ⟨some 21, .mv (.t 4), none⟩,
 ⟨some 2, .mv (.t 21), none⟩,
 ⟨some 3, .mv (.c (.int .i64 0)), none⟩] [2, 3])
 (.ret))))) }
def f94 : AFunc := { np := 4, res := [.cell 8 true 9], pure := false, body :=
 (.seq (.reg [
 ⟨some 8, .alloc [.str ⟨#[]⟩, .bool false, .nils, .int .i64 0, .int .i64 0, .int .i64 0, .str ⟨#[]⟩, .int .i64 0, .int .i64 0], none⟩] [0, 1, 2, 3, 8])
 (.seq (.reg [
 ⟨some 10, .mksl 1 8 [.int .i64 0] (.c (.int .i64 4)) (.c (.int .i64 4)), none⟩,
 ⟨some 9, .mv (.t 10), none⟩] [0, 1, 2, 3, 8, 9])
 (.seq (.reg [
 ⟨some 11, .mv (.t 9), none⟩,
 ⟨some 12, .mv (.t 1), none⟩,
 ⟨some 13, .mv (.t 2), none⟩,
 ⟨some 14, .iadr 1 (.t 11) (.t 12), none⟩,
 ⟨none, .store 1 (.t 14) (.t 13), none⟩] [0, 1, 2, 3, 8, 9])
 (.seq (.reg [
 ⟨some 15, .mv (.t 0), none⟩,
 ⟨some 16, .mv (.t 9), none⟩,
 ⟨some 17, .mv (.t 2), none⟩,
 ⟨some 18, .mv (.t 1), none⟩,
 ⟨some 19, .mv (.t 3), none⟩,
 ⟨some 20, .mv (.t 3), none⟩,
 ⟨some 21, .len true (.t 20), none⟩,
 ⟨some 22, .mv (.t 3), none⟩,
 ⟨some 23, .call (.c (.fn 101 [] [])) [(.t 22)], none⟩,
 ⟨some 24, .build [.str ⟨#[]⟩, .bool false, .nils, .int .i64 0, .int .i64 0, .int .i64 0, .str ⟨#[]⟩, .int .i64 0, .int .i64 0] [(0, 1, (.t 15)), (2, 1, (.t 16)), (3, 1, (.t 17)), (4, 1, (.t 18)), (6, 1, (.t 19)), (7, 1, (.t 21)), (8, 1, (.t 23))], none⟩,
 ⟨none, .store 9 (.t 8) (.t 24), none⟩] [8])
 (.ret))))) }
def f96 : AFunc := { np := 1, res := [.tmp 2], pure := true, body :=
 (.seq (.reg [
 ⟨some 1, .box 9 (.t 0), none⟩,
 ⟨some 2, .mv (.c (.bool false)), none⟩] [1])
 (.seq (.reg [
 ⟨some 6, .load true 9 (.t 1), none⟩,
 ⟨some 7, .call (.c (.fn 107 [] [])) [(.t 6)], none⟩,
 ⟨some 5, .mv (.t 7), none⟩,
 ⟨some 8, .extr (.t 5) 0, none⟩,
 ⟨some 9, .extr (.t 5) 1, none⟩,
 ⟨some 3, .mv (.t 8), none⟩,
 ⟨some 4, .mv (.t 9), none⟩] [4])
 (.seq (.reg [
 ⟨some 10, .mv (.t 4), none⟩,
 ⟨some 2, .mv (.t 10), none⟩] [2])
 (.ret)))) }
def f98 : AFunc := { np := 2, res := [.tmp 4], pure := true, body :=
 (.seq (.reg [
 ⟨some 2, .box 9 (.t 0), none⟩,
 ⟨some 3, .box 9 (.t 1), none⟩,
 ⟨some 4, .mv (.c (.bool false)), none⟩] [2, 3])
 (.seq (.reg [
 ⟨some 5, .fadr 0 (.t 2), none⟩,
 ⟨some 6, .load false 1 (.t 5), none⟩,
 ⟨some 7, .fadr 0 (.t 3), none⟩,
 ⟨some 8, .load false 1 (.t 7), none⟩,
 ⟨some 9, .bin .eql (.t 6) (.t 8), none⟩,
 ⟨some 10, .mv (.t 9), none⟩,
 ⟨some 11, .fadr 1 (.t 2), (some (10, true))⟩,
 ⟨some 12, .load false 1 (.t 11), (some (10, true))⟩,
 ⟨some 13, .fadr 1 (.t 3), (some (10, true))⟩,
 ⟨some 14, .load false 1 (.t 13), (some (10, true))⟩,
 ⟨some 15, .eqb false (.t 12) (.t 14), (some (10, true))⟩,
 ⟨some 16, .pick (.t 10) (.t 15) (.c (.bool false)), none⟩,
 ⟨some 17, .mv (.t 16), none⟩,
 ⟨some 18, .fadr 2 (.t 2), (some (17, true))⟩,
 ⟨some 19, .load false 1 (.t 18), (some (17, true))⟩,
 ⟨some 20, .fadr 2 (.t 3), (some (17, true))⟩,
 ⟨some 21, .load false 1 (.t 20), (some (17, true))⟩,
 ⟨some 22, .call (.c (.fn 106 [] [])) [(.t 19), (.t 21)], (some (17, true))⟩,
 ⟨some 23, .pick (.t 17) (.t 22) (.c (.bool false)), none⟩,
 ⟨some 24, .mv (.t 23), none⟩,
 ⟨some 25, .fadr 3 (.t 2), (some (24, true))⟩,
 ⟨some 26, .load false 1 (.t 25), (some (24, true))⟩,
 ⟨some 27, .fadr 3 (.t 3), (some (24, true))⟩,
 ⟨some 28, .load false 1 (.t 27), (some (24, true))⟩,
 ⟨some 29, .bin .eql (.t 26) (.t 28), (some (24, true))⟩,
 ⟨some 30, .pick (.t 24) (.t 29) (.c (.bool false)), none⟩,
 ⟨some 31, .mv (.t 30), none⟩,
 ⟨some 32, .fadr 4 (.t 2), (some (31, true))⟩,
 ⟨some 33, .load false 1 (.t 32), (some (31, true))⟩,
 ⟨some 34, .fadr 4 (.t 3), (some (31, true))⟩,
 ⟨some 35, .load false 1 (.t 34), (some (31, true))⟩,
 ⟨some 36, .bin .eql (.t 33) (.t 35), (some (31, true))⟩,
 ⟨some 37, .pick (.t 31) (.t 36) (.c (.bool false)), none⟩,
 ⟨some 38, .mv (.t 37), none⟩,
 ⟨some 39, .fadr 5 (.t 2), (some (38, true))⟩,
 ⟨some 40, .load false 1 (.t 39), (some (38, true))⟩,
 ⟨some 41, .fadr 5 (.t 3), (some (38, true))⟩,
 ⟨some 42, .load false 1 (.t 41), (some (38, true))⟩,
 ⟨some 43, .bin .eql (.t 40) (.t 42), (some (38, true))⟩,
 ⟨some 44, .pick (.t 38) (.t 43) (.c (.bool false)), none⟩,
 ⟨some 45, .mv (.t 44), none⟩,
 ⟨some 46, .fadr 6 (.t 2), (some (45, true))⟩,
 ⟨some 47, .load false 1 (.t 46), (some (45, true))⟩,
 ⟨some 48, .fadr 6 (.t 3), (some (45, true))⟩,
 ⟨some 49, .load false 1 (.t 48), (some (45, true))⟩,
 ⟨some 50, .bin .eql (.t 47) (.t 49), (some (45, true))⟩,
 ⟨some 51, .pick (.t 45) (.t 50) (.c (.bool false)), none⟩,
 ⟨some 52, .mv (.t 51), none⟩,
 ⟨some 53, .fadr 7 (.t 2), (some (52, true))⟩,
 ⟨some 54, .load false 1 (.t 53), (some (52, true))⟩,
 ⟨some 55, .fadr 7 (.t 3), (some (52, true))⟩,
 ⟨some 56, .load false 1 (.t 55), (some (52, true))⟩,
 ⟨some 57, .bin .eql (.t 54) (.t 56), (some (52, true))⟩,
 ⟨some 58, .pick (.t 52) (.t 57) (.c (.bool false)), none⟩,
 ⟨some 59, .mv (.t 58), none⟩,
 ⟨some 60, .fadr 8 (.t 2), (some (59, true))⟩,
 ⟨some 61, .load false 1 (.t 60), (some (59, true))⟩,
 ⟨some 62, .fadr 8 (.t 3), (some (59, true))⟩,
 ⟨some 63, .load false 1 (.t 62), (some (59, true))⟩,
 ⟨some 64, .bin .eql (.t 61) (.t 63), (some (59, true))⟩,
 ⟨some 65, .pick (.t 59) (.t 64) (.c (.bool false)), none⟩,
 ⟨some 4, .mv (.t 65), none⟩] [4])
 (.ret))) }
def f101 : AFunc := { np := 1, res := [.tmp 2], pure := true, body :=
 (.seq (.reg [
 ⟨some 2, .mv (.c (.int .i64 0)), none⟩] [0])
 (.seq (.reg [
 ⟨some 3, .mv (.t 0), none⟩,
 ⟨some 4, .call (.c (.fn 111 [] [])) [(.c (.int .u32 4294967295)), (.t 3)], none⟩,
 ⟨some 5, .inv (.t 4), none⟩,
 ⟨some 6, .conv .i64 (.t 5), none⟩,
 ⟨some 2, .mv (.t 6), none⟩] [2])
 (.ret))) }
def f102L0 : ACode :=
 (.seq (.reg [
 ⟨some 17, .bin .lss (.t 16) (.t 15), none⟩] [1, 4, 14, 15, 16, 17])
 (.seq (.cond (.t 17) (.skip)
 (.exit 0) [1, 4, 14, 15, 16])
 (.seq (.block 1 (.seq (.reg [
 ⟨some 18, .iadr 1 (.t 14) (.t 16), none⟩,
 ⟨some 19, .load false 1 (.t 18), none⟩,
 ⟨some 6, .mv (.t 19), none⟩] [1, 4, 6, 14, 15, 16])
 (.reg [
 ⟨some 20, .mv (.t 4), none⟩,
 ⟨some 21, .mv (.t 6), none⟩,
 ⟨some 22, .call (.c (.fn 104 [] [])) [(.t 21), (.c (.int .i64 4))], none⟩,
 ⟨some 23, .bin .add (.t 20) (.t 22), none⟩,
 ⟨some 4, .mv (.t 23), none⟩] [1, 4, 14, 15, 16])) [1, 4, 14, 15, 16])
 (.reg [
 ⟨some 24, .bin .add (.t 16) (.c (.int .i64 1)), none⟩,
 ⟨some 16, .mv (.t 24), none⟩] [1, 4, 14, 15, 16]))))
def f102 : AFunc := { np := 1, res := [.tmp 2, .tmp 3], pure := true, body :=
 (.seq (.reg [
 ⟨some 1, .box 9 (.t 0), none⟩,
 ⟨some 2, .mv (.c (.str ⟨#[]⟩)), none⟩,
 ⟨some 3, .mv (.c (.int .i64 0)), none⟩] [1])
 (.seq (.seq (.reg [
 ⟨some 8, .call (.c (.fn 112 [] [])) [(.t 1)], none⟩,
 ⟨some 9, .not (.t 8), none⟩] [1, 9])
 (.cond (.t 9) (.seq (.reg [
 ⟨some 2, .mv (.c (.str ⟨#[]⟩)), none⟩,
 ⟨some 3, .mv (.c (.int .i64 1200)), none⟩] [2, 3])
 (.ret))
 (.skip) [1]))
 (.seq (.reg [
 ⟨some 10, .call (.c (.fn 104 [] [])) [(.c (.int .i64 20592)), (.c (.int .i64 2))], none⟩,
 ⟨some 11, .call (.c (.fn 104 [] [])) [(.c (.int .i64 22)), (.c (.int .i64 2))], none⟩,
 ⟨some 12, .bin .add (.t 10) (.t 11), none⟩,
 ⟨some 4, .mv (.t 12), none⟩] [1, 4])
 (.seq (.seq (.reg [
 ⟨some 13, .fadr 2 (.t 1), none⟩,
 ⟨some 14, .load false 1 (.t 13), none⟩,
 ⟨some 15, .len false (.t 14), none⟩,
 ⟨some 16, .mv (.c (.int .i64 0)), none⟩] [1, 4, 14, 15, 16])
 (.block 0 (.loop [1, 4, 14, 15, 16] f102L0) [1, 4]))
 (.seq (.reg [
 ⟨some 7, .mv (.c (.int .i64 0)), none⟩] [1, 4, 7])
 (.seq (.seq (.reg [
 ⟨some 25, .fadr 1 (.t 1), none⟩,
 ⟨some 26, .load false 1 (.t 25), none⟩] [1, 4, 7, 26])
 (.cond (.t 26) (.reg [
 ⟨some 7, .mv (.c (.int .i64 1)), none⟩] [1, 4, 7])
 (.skip) [1, 4, 7]))
 (.seq (.dreg [0, 1, 2, 3, 4, 5, 6, 7, 8, 9, 10, 11, 12, 13] [
 ⟨some 27, .mv (.t 4), none⟩,
 ⟨some 28, .fadr 3 (.t 1), none⟩,
 ⟨some 29, .load false 1 (.t 28), none⟩,
 ⟨some 30, .call (.c (.fn 104 [] [])) [(.t 29), (.c (.int .i64 4))], none⟩,
 ⟨some 31, .bin .add (.t 27) (.t 30), none⟩,
 ⟨some 32, .fadr 4 (.t 1), none⟩,
 ⟨some 33, .load false 1 (.t 32), none⟩,
 ⟨some 34, .call (.c (.fn 104 [] [])) [(.t 33), (.c (.int .i64 1))], none⟩,
 ⟨some 35, .bin .add (.t 31) (.t 34), none⟩,
 ⟨some 36, .mv (.t 7), none⟩,
 ⟨some 37, .call (.c (.fn 104 [] [])) [(.t 36), (.c (.int .i64 1))], none⟩,
 ⟨some 38, .bin .add (.t 35) (.t 37), none⟩,
 ⟨some 2, .mv (.t 38), none⟩,
 ⟨some 3, .mv (.c (.int .i64 0)), none⟩] [(6, [0])] [2, 3])
 (.ret)))))))) }
def f103L0 : ACode :=
 (.seq (.reg [
 ⟨some 23, .bin .lss (.t 22) (.c (.int .i64 8)), none⟩] [1, 5, 12, 13, 22, 23])
 (.seq (.cond (.t 23) (.skip)
 (.exit 2) [1, 5, 12, 13, 22])
 (.seq (.block 3 (.seq (.reg [
 ⟨some 24, .mv (.t 5), none⟩,
 ⟨some 25, .bin .and (.t 24) (.c (.int .u32 1)), none⟩,
 ⟨some 7, .mv (.t 25), none⟩] [1, 5, 7, 12, 13, 22])
 (.seq (.reg [
 ⟨some 26, .mv (.t 5), none⟩,
 ⟨some 27, .bin .shr (.t 26) (.c (.int .u64 1)), none⟩,
 ⟨some 5, .mv (.t 27), none⟩] [1, 5, 7, 12, 13, 22])
 (.seq (.reg [
 ⟨some 28, .mv (.t 7), none⟩,
 ⟨some 29, .bin .eql (.t 28) (.c (.int .u32 1)), none⟩] [1, 5, 12, 13, 22, 29])
 (.cond (.t 29) (.reg [
 ⟨some 30, .mv (.t 5), none⟩,
 ⟨some 31, .bin .xor (.t 30) (.c (.int .u32 3988292384)), none⟩,
 ⟨some 5, .mv (.t 31), none⟩] [1, 5, 12, 13, 22])
 (.skip) [1, 5, 12, 13, 22])))) [1, 5, 12, 13, 22])
 (.reg [
 ⟨some 32, .bin .add (.t 22) (.c (.int .i64 1)), none⟩,
 ⟨some 22, .mv (.t 32), none⟩] [1, 5, 12, 13, 22]))))
def f103L1 : ACode :=
 (.seq (.reg [
 ⟨some 14, .bin .lss (.t 13) (.t 12), none⟩] [1, 5, 12, 13, 14])
 (.seq (.cond (.t 14) (.skip)
 (.exit 0) [1, 5, 12, 13])
 (.seq (.block 1 (.seq (.reg [
 ⟨some 15, .mv (.t 13), none⟩,
 ⟨some 6, .mv (.t 15), none⟩] [1, 5, 6, 12, 13])
 (.seq (.reg [
 ⟨some 16, .mv (.t 5), none⟩,
 ⟨some 17, .mv (.t 1), none⟩,
 ⟨some 18, .mv (.t 6), none⟩,
 ⟨some 19, .idxs (.t 17) (.t 18), none⟩,
 ⟨some 20, .conv .u32 (.t 19), none⟩,
 ⟨some 21, .bin .xor (.t 16) (.t 20), none⟩,
 ⟨some 5, .mv (.t 21), none⟩] [1, 5, 12, 13])
 (.seq (.reg [
 ⟨some 22, .mv (.c (.int .i64 0)), none⟩] [1, 5, 12, 13, 22])
 (.block 2 (.loop [1, 5, 12, 13, 22] f103L0) [1, 5, 12, 13])))) [1, 5, 12, 13])
 (.reg [
 ⟨some 33, .bin .add (.t 13) (.c (.int .i64 1)), none⟩,
 ⟨some 13, .mv (.t 33), none⟩] [1, 5, 12, 13]))))
def f103 : AFunc := { np := 2, res := [.tmp 4], pure := true, body :=
 (.seq (.reg [
 ⟨some 4, .mv (.c (.int .i64 0)), none⟩] [0, 1])
 (.seq (.reg [
 ⟨some 8, .mv (.t 0), none⟩,
 ⟨some 9, .conv .u32 (.t 8), none⟩,
 ⟨some 10, .inv (.t 9), none⟩,
 ⟨some 5, .mv (.t 10), none⟩] [1, 5])
 (.seq (.seq (.reg [
 ⟨some 11, .mv (.t 1), none⟩,
 ⟨some 12, .len true (.t 11), none⟩,
 ⟨some 13, .mv (.c (.int .i64 0)), none⟩] [1, 5, 12, 13])
 (.block 0 (.loop [1, 5, 12, 13] f103L1) [5]))
 (.seq (.reg [
 ⟨some 34, .mv (.t 5), none⟩,
 ⟨some 35, .inv (.t 34), none⟩,
 ⟨some 36, .conv .i64 (.t 35), none⟩,
 ⟨some 4, .mv (.t 36), none⟩] [4])
 (.ret))))) }
def f104L0 : ACode :=
 (.seq (.reg [
 ⟨some 12, .bin .lss (.t 11) (.t 10), none⟩] [0, 5, 10, 11, 12])
 (.seq (.cond (.t 12) (.skip)
 (.exit 0) [0, 5, 10, 11])
 (.seq (.block 1 (.seq (.reg [
 ⟨some 13, .mv (.t 11), none⟩,
 ⟨some 6, .mv (.t 13), none⟩] [0, 5, 6, 10, 11])
 (.reg [
 ⟨some 14, .mv (.t 5), none⟩,
 ⟨some 15, .mv (.t 6), none⟩,
 ⟨some 16, .mv (.t 0), none⟩,
 ⟨some 17, .mv (.t 6), none⟩,
 ⟨some 18, .bin .mul (.c (.int .i64 8)) (.t 17), none⟩,
 ⟨some 19, .bin .shr (.t 16) (.t 18), none⟩,
 ⟨some 20, .conv .u8 (.t 19), none⟩,
 ⟨some 21, .iadr 1 (.t 14) (.t 15), none⟩,
 ⟨none, .store 1 (.t 21) (.t 20), none⟩] [0, 5, 10, 11])) [0, 5, 10, 11])
 (.reg [
 ⟨some 22, .bin .add (.t 11) (.c (.int .i64 1)), none⟩,
 ⟨some 11, .mv (.t 22), none⟩] [0, 5, 10, 11]))))
def f104 : AFunc := { np := 2, res := [.tmp 4], pure := true, body :=
 (.seq (.reg [
 ⟨some 4, .mv (.c (.str ⟨#[]⟩)), none⟩] [0, 1])
 (.seq (.reg [
 ⟨some 7, .mv (.t 1), none⟩,
 ⟨some 8, .mksl 1 1 [.int .u8 0] (.t 7) (.t 7), none⟩,
 ⟨some 5, .mv (.t 8), none⟩] [0, 5])
 (.seq (.seq (.reg [
 ⟨some 9, .mv (.t 5), none⟩,
 ⟨some 10, .len false (.t 9), none⟩,
 ⟨some 11, .mv (.c (.int .i64 0)), none⟩] [0, 5, 10, 11])
 (.block 0 (.loop [0, 5, 10, 11] f104L0) [5]))
 (.seq (.reg [
 ⟨some 23, .mv (.t 5), none⟩,
 ⟨some 24, .b2s (.t 23), none⟩,
 ⟨some 4, .mv (.t 24), none⟩] [4])
 (.ret))))) }
def f105 : AFunc := { np := 1, res := [.tmp 2], pure := true, body :=
 (.seq (.reg [
 ⟨some 2, .mv (.c (.bool false)), none⟩] [0])
 (.seq (.reg [
 ⟨some 3, .mv (.t 0), none⟩,
 ⟨some 4, .bin .geq (.t 3) (.c (.int .i64 0)), none⟩,
 ⟨some 5, .mv (.t 4), none⟩,
 ⟨some 6, .mv (.t 0), (some (5, true))⟩,
 ⟨some 7, .bin .leq (.t 6) (.c (.int .i64 4294967295)), (some (5, true))⟩,
 ⟨some 8, .pick (.t 5) (.t 7) (.c (.bool false)), none⟩,
 ⟨some 2, .mv (.t 8), none⟩] [2])
 (.ret))) }
def f106L0 : ACode :=
 (.seq (.seq (.reg [
 ⟨some 11, .mv (.t 5), none⟩,
 ⟨some 12, .mv (.t 0), none⟩,
 ⟨some 13, .len false (.t 12), none⟩,
 ⟨some 14, .bin .lss (.t 11) (.t 13), none⟩] [0, 1, 5, 14])
 (.cond (.t 14) (.skip)
 (.exit 0) [0, 1, 5]))
 (.seq (.block 1 (.seq (.dreg [0, 1, 2, 3, 4, 5, 6, 7, 8] [
 ⟨some 17, .mv (.t 0), none⟩,
 ⟨some 18, .mv (.t 5), none⟩,
 ⟨some 19, .iadr 1 (.t 17) (.t 18), none⟩,
 ⟨some 20, .load false 1 (.t 19), none⟩,
 ⟨some 21, .mv (.t 1), none⟩,
 ⟨some 22, .mv (.t 5), none⟩,
 ⟨some 23, .iadr 1 (.t 21) (.t 22), none⟩,
 ⟨some 24, .load false 1 (.t 23), none⟩,
 ⟨some 25, .bin .neq (.t 20) (.t 24), none⟩] [] [0, 1, 5, 25])
 (.cond (.t 25) (.seq (.reg [
 ⟨some 4, .mv (.c (.bool false)), none⟩] [4])
 (.ret))
 (.skip) [0, 1, 5])) [0, 1, 5])
 (.reg [
 ⟨some 15, .mv (.t 5), none⟩,
 ⟨some 16, .bin .add (.t 15) (.c (.int .i64 1)), none⟩,
 ⟨some 5, .mv (.t 16), none⟩] [0, 1, 5])))
def f106 : AFunc := { np := 2, res := [.tmp 4], pure := true, body :=
 (.seq (.reg [
 ⟨some 4, .mv (.c (.bool false)), none⟩] [0, 1])
 (.seq (.seq (.reg [
 ⟨some 6, .mv (.t 0), none⟩,
 ⟨some 7, .len false (.t 6), none⟩,
 ⟨some 8, .mv (.t 1), none⟩,
 ⟨some 9, .len false (.t 8), none⟩,
 ⟨some 10, .bin .neq (.t 7) (.t 9), none⟩] [0, 1, 10])
 (.cond (.t 10) (.seq (.reg [
 ⟨some 4, .mv (.c (.bool false)), none⟩] [4])
 (.ret))
 (.skip) [0, 1]))
 (.seq (.seq (.reg [
 ⟨some 5, .mv (.c (.int .i64 0)), none⟩] [0, 1, 5])
 (.block 0 (.loop [0, 1, 5] f106L0) []))
 (.seq (.reg [
 ⟨some 4, .mv (.c (.bool true)), none⟩] [4])
 (.ret))))) }
def f107 : AFunc := { np := 1, res := [.tmp 2, .tmp 3], pure := true, body :=
 (.seq (.reg [
 ⟨some 1, .box 9 (.t 0), none⟩,
 ⟨some 2, .mv (.c (.str ⟨#[]⟩)), none⟩,
 ⟨some 3, .mv (.c (.bool false)), none⟩] [1])
 (.seq (.seq (.reg [
 ⟨some 6, .load true 9 (.t 1), none⟩,
 ⟨some 7, .bslice 9 1 [.str ⟨#[]⟩, .bool false, .nils, .int .i64 0, .int .i64 0, .int .i64 0, .str ⟨#[]⟩, .int .i64 0, .int .i64 0] [(0, (.t 6))], none⟩,
 ⟨some 8, .build [.nils] [(0, 1, (.t 7))], none⟩,
 ⟨some 9, .call (.c (.fn 113 [] [])) [(.t 8)], none⟩,
 ⟨some 10, .not (.t 9), none⟩] [1, 10])
 (.cond (.t 10) (.seq (.reg [
 ⟨some 2, .mv (.c (.str ⟨#[]⟩)), none⟩,
 ⟨some 3, .mv (.c (.bool false)), none⟩] [2, 3])
 (.ret))
 (.skip) [1]))
 (.seq (.seq (.reg [
 ⟨some 11, .fadr 1 (.t 1), none⟩,
 ⟨some 12, .load false 1 (.t 11), none⟩] [1, 12])
 (.cond (.t 12) (.seq (.reg [
 ⟨some 2, .mv (.c (.str ⟨#[]⟩)), none⟩,
 ⟨some 3, .mv (.c (.bool true)), none⟩] [2, 3])
 (.ret))
 (.skip) [1]))
 (.seq (.reg [
 ⟨some 14, .fadr 5 (.t 1), none⟩,
 ⟨some 15, .load false 1 (.t 14), none⟩,
 ⟨some 16, .fadr 6 (.t 1), none⟩,
 ⟨some 17, .load false 1 (.t 16), none⟩,
 ⟨some 18, .fadr 7 (.t 1), none⟩,
 ⟨some 19, .load false 1 (.t 18), none⟩,
 ⟨some 20, .call (.c (.fn 114 [] [])) [(.t 15), (.t 17), (.t 19)], none⟩,
 ⟨some 13, .mv (.t 20), none⟩,
 ⟨some 21, .extr (.t 13) 0, none⟩,
 ⟨some 22, .extr (.t 13) 1, none⟩,
 ⟨some 4, .mv (.t 21), none⟩,
 ⟨some 5, .mv (.t 22), none⟩] [1, 4, 5])
 (.seq (.dreg [0, 1, 2, 3, 4, 5, 6, 7, 8, 9, 10, 11] [
 ⟨some 23, .mv (.t 4), none⟩,
 ⟨some 24, .mv (.t 5), none⟩,
 ⟨some 25, .bin .eql (.t 24) (.c (.int .i64 0)), none⟩,
 ⟨some 26, .mv (.t 25), none⟩,
 ⟨some 27, .mv (.t 4), (some (26, true))⟩,
 ⟨some 28, .call (.c (.fn 115 [] [])) [(.t 27)], (some (26, true))⟩,
 ⟨some 29, .fadr 8 (.t 1), (some (26, true))⟩,
 ⟨some 30, .load false 1 (.t 29), (some (26, true))⟩,
 ⟨some 31, .bin .eql (.t 28) (.t 30), (some (26, true))⟩,
 ⟨some 32, .pick (.t 26) (.t 31) (.c (.bool false)), none⟩,
 ⟨some 2, .mv (.t 23), none⟩,
 ⟨some 3, .mv (.t 32), none⟩] [(7, [0])] [2, 3])
 (.ret)))))) }
def f111L0 : ACode :=
 (.seq (.seq (.reg [
 ⟨some 19, .mv (.t 6), none⟩,
 ⟨some 20, .bin .lss (.t 19) (.c (.int .i64 8)), none⟩] [0, 1, 5, 6, 20])
 (.cond (.t 20) (.skip)
 (.exit 2) [0, 1, 5, 6]))
 (.seq (.block 3 (.seq (.reg [
 ⟨some 23, .mv (.t 0), none⟩,
 ⟨some 24, .bin .and (.t 23) (.c (.int .u32 1)), none⟩,
 ⟨some 25, .bin .eql (.t 24) (.c (.int .u32 1)), none⟩] [0, 1, 5, 6, 25])
 (.cond (.t 25) (.reg [
 ⟨some 26, .mv (.t 0), none⟩,
 ⟨some 27, .bin .shr (.t 26) (.c (.int .u64 1)), none⟩,
 ⟨some 28, .bin .xor (.t 27) (.c (.int .u32 3988292384)), none⟩,
 ⟨some 0, .mv (.t 28), none⟩] [0, 1, 5, 6])
 (.reg [
 ⟨some 29, .mv (.t 0), none⟩,
 ⟨some 30, .bin .shr (.t 29) (.c (.int .u64 1)), none⟩,
 ⟨some 0, .mv (.t 30), none⟩] [0, 1, 5, 6]) [0, 1, 5, 6])) [0, 1, 5, 6])
 (.reg [
 ⟨some 21, .mv (.t 6), none⟩,
 ⟨some 22, .bin .add (.t 21) (.c (.int .i64 1)), none⟩,
 ⟨some 6, .mv (.t 22), none⟩] [0, 1, 5, 6])))
def f111L1 : ACode :=
 (.seq (.seq (.reg [
 ⟨some 7, .mv (.t 5), none⟩,
 ⟨some 8, .mv (.t 1), none⟩,
 ⟨some 9, .len true (.t 8), none⟩,
 ⟨some 10, .bin .lss (.t 7) (.t 9), none⟩] [0, 1, 5, 10])
 (.cond (.t 10) (.skip)
 (.exit 0) [0, 1, 5]))
 (.seq (.block 1 (.seq (.reg [
 ⟨some 13, .mv (.t 0), none⟩,
 ⟨some 14, .mv (.t 1), none⟩,
 ⟨some 15, .mv (.t 5), none⟩,
 ⟨some 16, .idxs (.t 14) (.t 15), none⟩,
 ⟨some 17, .conv .u32 (.t 16), none⟩,
 ⟨some 18, .bin .xor (.t 13) (.t 17), none⟩,
 ⟨some 0, .mv (.t 18), none⟩] [0, 1, 5])
 (.seq (.reg [
 ⟨some 6, .mv (.c (.int .i64 0)), none⟩] [0, 1, 5, 6])
 (.block 2 (.loop [0, 1, 5, 6] f111L0) [0, 1, 5]))) [0, 1, 5])
 (.reg [
 ⟨some 11, .mv (.t 5), none⟩,
 ⟨some 12, .bin .add (.t 11) (.c (.int .i64 1)), none⟩,
 ⟨some 5, .mv (.t 12), none⟩] [0, 1, 5])))
def f111 : AFunc := { np := 2, res := [.tmp 4], pure := true, body :=
 (.seq (.reg [
 ⟨some 4, .mv (.c (.int .u32 0)), none⟩] [0, 1])
 (.seq (.seq (.reg [
 ⟨some 5, .mv (.c (.int .i64 0)), none⟩] [0, 1, 5])
 (.block 0 (.loop [0, 1, 5] f111L1) [0]))
 (.seq (.reg [
 ⟨some 31, .mv (.t 0), none⟩,
 ⟨some 4, .mv (.t 31), none⟩] [4])
 (.ret)))) }
def f112 : AFunc := { np := 1, res := [.tmp 2], pure := false, body :=
 (.seq (.reg [
 ⟨some 2, .mv (.c (.bool false)), none⟩] [0])
 (.seq (.reg [
 ⟨some 3, .mv (.t 0), none⟩,
 ⟨some 4, .nilc (.t 3), none⟩,
 ⟨some 5, .fadr 2 (.t 4), none⟩,
 ⟨some 6, .load false 1 (.t 5), none⟩,
 ⟨some 7, .call (.c (.fn 117 [] [])) [(.t 6)], none⟩,
 ⟨some 8, .mv (.t 7), none⟩,
 ⟨some 9, .mv (.t 0), (some (8, true))⟩,
 ⟨some 10, .nilc (.t 9), (some (8, true))⟩,
 ⟨some 11, .fadr 3 (.t 10), (some (8, true))⟩,
 ⟨some 12, .load false 1 (.t 11), (some (8, true))⟩,
 ⟨some 13, .bin .geq (.t 12) (.c (.int .i64 1)), (some (8, true))⟩,
 ⟨some 14, .pick (.t 8) (.t 13) (.c (.bool false)), none⟩,
 ⟨some 15, .mv (.t 14), none⟩,
 ⟨some 16, .mv (.t 0), (some (15, true))⟩,
 ⟨some 17, .nilc (.t 16), (some (15, true))⟩,
 ⟨some 18, .fadr 3 (.t 17), (some (15, true))⟩,
 ⟨some 19, .load false 1 (.t 18), (some (15, true))⟩,
 ⟨some 20, .call (.c (.fn 119 [] [])) [(.t 19)], (some (15, true))⟩,
 ⟨some 21, .pick (.t 15) (.t 20) (.c (.bool false)), none⟩,
 ⟨some 22, .mv (.t 21), none⟩,
 ⟨some 23, .mv (.t 0), (some (22, true))⟩,
 ⟨some 24, .nilc (.t 23), (some (22, true))⟩,
 ⟨some 25, .fadr 4 (.t 24), (some (22, true))⟩,
 ⟨some 26, .load false 1 (.t 25), (some (22, true))⟩,
 ⟨some 27, .call (.c (.fn 120 [] [])) [(.t 26)], (some (22, true))⟩,
 ⟨some 28, .pick (.t 22) (.t 27) (.c (.bool false)), none⟩,
 ⟨some 2, .mv (.t 28), none⟩] [2])
 (.ret))) }
def f113L0 : ACode :=
 (.seq (.reg [
 ⟨some 9, .bin .lss (.t 8) (.t 7), none⟩] [1, 7, 8, 9])
 (.seq (.cond (.t 9) (.skip)
 (.exit 0) [1, 7, 8])
 (.seq (.block 1 (.seq (.reg [
 ⟨some 10, .mv (.t 8), none⟩,
 ⟨some 3, .mv (.t 10), none⟩] [1, 3, 7, 8])
 (.seq (.reg [
 ⟨some 11, .fadr 0 (.t 1), none⟩,
 ⟨some 12, .load false 1 (.t 11), none⟩,
 ⟨some 13, .mv (.t 3), none⟩,
 ⟨some 14, .iadr 9 (.t 12) (.t 13), none⟩,
 ⟨some 4, .mv (.t 14), none⟩] [1, 3, 4, 7, 8])
 (.seq (.dreg [0, 1, 2, 3, 4, 5, 6, 7, 8, 9, 10, 11, 12, 13, 14, 15, 16, 17, 18, 19, 20, 21, 22, 23, 24, 25, 26, 27, 28, 29, 30, 31, 32, 33] [
 ⟨some 15, .mv (.t 4), none⟩,
 ⟨some 16, .nilc (.t 15), none⟩,
 ⟨some 17, .fadr 0 (.t 16), none⟩,
 ⟨some 18, .load false 1 (.t 17), none⟩,
 ⟨some 19, .call (.c (.fn 121 [] [])) [(.t 18)], none⟩,
 ⟨some 20, .not (.t 19), none⟩,
 ⟨some 21, .mv (.t 20), none⟩,
 ⟨some 22, .mv (.t 3), (some (21, false))⟩,
 ⟨some 23, .bin .gtr (.t 22) (.c (.int .i64 0)), (some (21, false))⟩,
 ⟨some 24, .mv (.t 23), (some (21, false))⟩,
 ⟨some 25, .fadr 0 (.t 1), (some (24, true))⟩,
 ⟨some 26, .load false 1 (.t 25), (some (24, true))⟩,
 ⟨some 27, .mv (.t 3), (some (24, true))⟩,
 ⟨some 28, .bin .sub (.t 27) (.c (.int .i64 1)), (some (24, true))⟩,
 ⟨some 29, .iadr 9 (.t 26) (.t 28), (some (24, true))⟩,
 ⟨some 30, .fadr 0 (.t 29), (some (24, true))⟩,
 ⟨some 31, .load false 1 (.t 30), (some (24, true))⟩,
 ⟨some 32, .mv (.t 4), (some (24, true))⟩,
 ⟨some 33, .nilc (.t 32), (some (24, true))⟩,
 ⟨some 34, .fadr 0 (.t 33), (some (24, true))⟩,
 ⟨some 35, .load false 1 (.t 34), (some (24, true))⟩,
 ⟨some 36, .bin .geq (.t 31) (.t 35), (some (24, true))⟩,
 ⟨some 37, .pick (.t 24) (.t 36) (.c (.bool false)), (some (21, false))⟩,
 ⟨some 38, .pick (.t 21) (.c (.bool true)) (.t 37), none⟩,
 ⟨some 39, .mv (.t 38), none⟩,
 ⟨some 40, .mv (.t 4), (some (39, false))⟩,
 ⟨some 41, .call (.c (.fn 112 [] [])) [(.t 40)], (some (39, false))⟩,
 ⟨some 42, .not (.t 41), (some (39, false))⟩,
 ⟨some 43, .pick (.t 39) (.c (.bool true)) (.t 42), none⟩,
 ⟨some 44, .mv (.t 43), none⟩,
 ⟨some 45, .mv (.t 4), (some (44, false))⟩,
 ⟨some 46, .call (.c (.fn 122 [] [])) [(.t 45)], (some (44, false))⟩,
 ⟨some 47, .not (.t 46), (some (44, false))⟩,
 ⟨some 48, .pick (.t 44) (.c (.bool true)) (.t 47), none⟩] [] [1, 7, 8, 48])
 (.cond (.t 48) (.seq (.reg [
 ⟨some 2, .mv (.c (.bool false)), none⟩] [2])
 (.ret))
 (.skip) [1, 7, 8])))) [1, 7, 8])
 (.reg [
 ⟨some 49, .bin .add (.t 8) (.c (.int .i64 1)), none⟩,
 ⟨some 8, .mv (.t 49), none⟩] [1, 7, 8]))))
def f113 : AFunc := { np := 1, res := [.tmp 2], pure := true, body :=
 (.seq (.reg [
 ⟨some 1, .box 1 (.t 0), none⟩,
 ⟨some 2, .mv (.c (.bool false)), none⟩] [1])
 (.seq (.seq (.reg [
 ⟨some 5, .fadr 0 (.t 1), none⟩,
 ⟨some 6, .load false 1 (.t 5), none⟩,
 ⟨some 7, .len false (.t 6), none⟩,
 ⟨some 8, .mv (.c (.int .i64 0)), none⟩] [1, 7, 8])
 (.block 0 (.loop [1, 7, 8] f113L0) [1]))
 (.seq (.reg [
 ⟨some 50, .fadr 0 (.t 1), none⟩,
 ⟨some 51, .load false 1 (.t 50), none⟩,
 ⟨some 52, .len false (.t 51), none⟩,
 ⟨some 53, .bin .leq (.t 52) (.c (.int .i64 6)), none⟩,
 ⟨some 2, .mv (.t 53), none⟩] [2])
 (.ret)))) }
def f114 : AFunc := { np := 3, res := [.tmp 6, .tmp 7], pure := true, body :=
 (.seq (.reg [
 ⟨some 6, .mv (.c (.str ⟨#[]⟩)), none⟩,
 ⟨some 7, .mv (.c (.int .i64 0)), none⟩] [0, 1, 2])
 (.seq (.seq (.reg [
 ⟨some 11, .mv (.t 2), none⟩,
 ⟨some 12, .bin .lss (.t 11) (.c (.int .i64 0)), none⟩,
 ⟨some 13, .mv (.t 12), none⟩,
 ⟨some 14, .mv (.t 2), (some (13, false))⟩,
 ⟨some 15, .bin .gtr (.t 14) (.c (.int .i64 300)), (some (13, false))⟩,
 ⟨some 16, .pick (.t 13) (.c (.bool true)) (.t 15), none⟩] [0, 1, 2, 16])
 (.cond (.t 16) (.seq (.reg [
 ⟨some 6, .mv (.c (.str ⟨#[]⟩)), none⟩,
 ⟨some 7, .mv (.c (.int .i64 900)), none⟩] [6, 7])
 (.ret))
 (.skip) [0, 1, 2]))
 (.seq (.seq (.reg [
 ⟨some 17, .mv (.t 0), none⟩] [1, 2, 17])
 (.block 0 (.seq (.reg [
 ⟨some 19, .bin .eql (.t 17) (.c (.int .i64 0)), none⟩,
 ⟨some 18, .mv (.t 19), none⟩] [1, 2, 17, 18])
 (.cond (.t 18) (.seq (.reg [
 ⟨some 20, .mv (.t 1), none⟩,
 ⟨some 21, .len true (.t 20), none⟩,
 ⟨some 22, .mv (.t 2), none⟩,
 ⟨some 23, .bin .eql (.t 21) (.t 22), none⟩] [1, 23])
 (.cond (.t 23) (.seq (.reg [
 ⟨some 24, .mv (.t 1), none⟩,
 ⟨some 6, .mv (.t 24), none⟩,
 ⟨some 7, .mv (.c (.int .i64 0)), none⟩] [6, 7])
 (.ret))
 (.skip) []))
 (.seq (.reg [
 ⟨some 26, .bin .eql (.t 17) (.c (.int .i64 8)), none⟩,
 ⟨some 25, .mv (.t 26), none⟩] [1, 2, 25])
 (.cond (.t 25) (.seq (.reg [
 ⟨some 28, .mv (.t 1), none⟩,
 ⟨some 29, .mv (.t 2), none⟩,
 ⟨some 30, .call (.c (.fn 7 [] [])) [(.t 28), (.t 29)], none⟩,
 ⟨some 27, .mv (.t 30), none⟩,
 ⟨some 31, .extr (.t 27) 0, none⟩,
 ⟨some 32, .extr (.t 27) 1, none⟩,
 ⟨some 33, .extr (.t 27) 2, none⟩,
 ⟨some 8, .mv (.t 31), none⟩,
 ⟨some 9, .mv (.t 32), none⟩,
 ⟨some 10, .mv (.t 33), none⟩] [1, 2, 8, 9, 10])
 (.seq (.reg [
 ⟨some 34, .mv (.t 10), none⟩,
 ⟨some 35, .bin .eql (.t 34) (.c (.int .i64 0)), none⟩,
 ⟨some 36, .mv (.t 35), none⟩,
 ⟨some 37, .mv (.t 8), (some (36, true))⟩,
 ⟨some 38, .len true (.t 37), (some (36, true))⟩,
 ⟨some 39, .mv (.t 2), (some (36, true))⟩,
 ⟨some 40, .bin .eql (.t 38) (.t 39), (some (36, true))⟩,
 ⟨some 41, .pick (.t 36) (.t 40) (.c (.bool false)), none⟩,
 ⟨some 42, .mv (.t 41), none⟩,
 ⟨some 43, .mv (.t 9), (some (42, true))⟩,
 ⟨some 44, .mv (.t 1), (some (42, true))⟩,
 ⟨some 45, .len true (.t 44), (some (42, true))⟩,
 ⟨some 46, .bin .eql (.t 43) (.t 45), (some (42, true))⟩,
 ⟨some 47, .pick (.t 42) (.t 46) (.c (.bool false)), none⟩] [8, 47])
 (.cond (.t 47) (.seq (.reg [
 ⟨some 48, .mv (.t 8), none⟩,
 ⟨some 6, .mv (.t 48), none⟩,
 ⟨some 7, .mv (.c (.int .i64 0)), none⟩] [6, 7])
 (.ret))
 (.skip) [])))
 (.skip) [])) [])) []))
 (.seq (.reg [
 ⟨some 6, .mv (.c (.str ⟨#[]⟩)), none⟩,
 ⟨some 7, .mv (.c (.int .i64 900)), none⟩] [6, 7])
 (.ret))))) }
def f115 : AFunc := { np := 1, res := [.tmp 2], pure := true, body :=
 (.seq (.reg [
 ⟨some 2, .mv (.c (.int .i64 0)), none⟩] [0])
 (.seq (.reg [
 ⟨some 3, .mv (.t 0), none⟩,
 ⟨some 4, .call (.c (.fn 103 [] [])) [(.c (.int .i64 0)), (.t 3)], none⟩,
 ⟨some 2, .mv (.t 4), none⟩] [2])
 (.ret))) }
def f117 : AFunc := { np := 1, res := [.tmp 2], pure := true, body :=
 (.seq (.reg [
 ⟨some 2, .mv (.c (.bool false)), none⟩] [0])
 (.seq (.reg [
 ⟨some 3, .mv (.t 0), none⟩,
 ⟨some 4, .len false (.t 3), none⟩,
 ⟨some 5, .bin .eql (.t 4) (.c (.int .i64 4)), none⟩,
 ⟨some 6, .mv (.t 5), none⟩,
 ⟨some 7, .mv (.t 0), (some (6, true))⟩,
 ⟨some 8, .call (.c (.fn 83 [] [])) [(.t 7), (.c (.fn 123 [] []))], (some (6, true))⟩,
 ⟨some 9, .not (.t 8), (some (6, true))⟩,
 ⟨some 10, .pick (.t 6) (.t 9) (.c (.bool false)), none⟩,
 ⟨some 2, .mv (.t 10), none⟩] [2])
 (.ret))) }
def f119 : AFunc := { np := 1, res := [.tmp 2], pure := true, body :=
 (.seq (.reg [
 ⟨some 2, .mv (.c (.bool false)), none⟩] [0])
 (.seq (.reg [
 ⟨some 3, .mv (.t 0), none⟩,
 ⟨some 4, .bin .geq (.t 3) (.c (.int .i64 0)), none⟩,
 ⟨some 5, .mv (.t 4), none⟩,
 ⟨some 6, .mv (.t 0), (some (5, true))⟩,
 ⟨some 7, .bin .leq (.t 6) (.c (.int .i64 1048576)), (some (5, true))⟩,
 ⟨some 8, .pick (.t 5) (.t 7) (.c (.bool false)), none⟩,
 ⟨some 2, .mv (.t 8), none⟩] [2])
 (.ret))) }
def f120 : AFunc := { np := 1, res := [.tmp 2], pure := true, body :=
 (.seq (.reg [
 ⟨some 2, .mv (.c (.bool false)), none⟩] [0])
 (.seq (.reg [
 ⟨some 3, .mv (.t 0), none⟩,
 ⟨some 4, .bin .geq (.t 3) (.c (.int .i64 0)), none⟩,
 ⟨some 5, .mv (.t 4), none⟩,
 ⟨some 6, .mv (.t 0), (some (5, true))⟩,
 ⟨some 7, .bin .lss (.t 6) (.c (.int .i64 4)), (some (5, true))⟩,
 ⟨some 8, .pick (.t 5) (.t 7) (.c (.bool false)), none⟩,
 ⟨some 2, .mv (.t 8), none⟩] [2])
 (.ret))) }
def f121 : AFunc := { np := 1, res := [.tmp 2], pure := true, body :=
 (.seq (.reg [
 ⟨some 2, .mv (.c (.bool false)), none⟩] [0])
 (.seq (.reg [
 ⟨some 3, .mv (.t 0), none⟩,
 ⟨some 4, .len true (.t 3), none⟩,
 ⟨some 5, .bin .geq (.t 4) (.c (.int .i64 1)), none⟩,
 ⟨some 6, .mv (.t 5), none⟩,
 ⟨some 7, .mv (.t 0), (some (6, true))⟩,
 ⟨some 8, .len true (.t 7), (some (6, true))⟩,
 ⟨some 9, .bin .leq (.t 8) (.c (.int .i64 8)), (some (6, true))⟩,
 ⟨some 10, .pick (.t 6) (.t 9) (.c (.bool false)), none⟩,
 ⟨some 11, .mv (.t 10), none⟩,
 ⟨some 12, .mv (.t 0), (some (11, true))⟩,
 ⟨some 13, .call (.c (.fn 124 [] [])) [(.t 12), (.c (.str ⟨#[97, 98, 99, 100, 101, 102, 103, 104, 105, 106, 107, 108, 109, 110, 111, 112, 113, 114, 115, 116, 117, 118, 119, 120, 121, 122, 48, 49, 50, 51, 52, 53, 54, 55, 56, 57, 46, 45, 95]⟩))], (some (11, true))⟩,
 ⟨some 14, .bin .eql (.t 13) (.c (.str ⟨#[]⟩)), (some (11, true))⟩,
 ⟨some 15, .pick (.t 11) (.t 14) (.c (.bool false)), none⟩,
 ⟨some 16, .mv (.t 15), none⟩,
 ⟨some 17, .mv (.t 0), (some (16, true))⟩,
 ⟨some 18, .bin .neq (.t 17) (.c (.str ⟨#[46]⟩)), (some (16, true))⟩,
 ⟨some 19, .pick (.t 16) (.t 18) (.c (.bool false)), none⟩,
 ⟨some 20, .mv (.t 19), none⟩,
 ⟨some 21, .mv (.t 0), (some (20, true))⟩,
 ⟨some 22, .bin .neq (.t 21) (.c (.str ⟨#[46, 46]⟩)), (some (20, true))⟩,
 ⟨some 23, .pick (.t 20) (.t 22) (.c (.bool false)), none⟩,
 ⟨some 2, .mv (.t 23), none⟩] [2])
 (.ret))) }
def f122 : AFunc := { np := 1, res := [.tmp 2], pure := false, body :=
 (.seq (.reg [
 ⟨some 2, .mv (.c (.bool false)), none⟩] [0])
 (.seq (.seq (.reg [
 ⟨some 3, .mv (.t 0), none⟩,
 ⟨some 4, .nilc (.t 3), none⟩,
 ⟨some 5, .fadr 1 (.t 4), none⟩,
 ⟨some 6, .load false 1 (.t 5), none⟩] [0, 6])
 (.cond (.t 6) (.seq (.reg [
 ⟨some 7, .mv (.t 0), none⟩,
 ⟨some 8, .nilc (.t 7), none⟩,
 ⟨some 9, .fadr 5 (.t 8), none⟩,
 ⟨some 10, .load false 1 (.t 9), none⟩,
 ⟨some 11, .bin .eql (.t 10) (.c (.int .i64 0)), none⟩,
 ⟨some 12, .mv (.t 11), none⟩,
 ⟨some 13, .mv (.t 0), (some (12, true))⟩,
 ⟨some 14, .nilc (.t 13), (some (12, true))⟩,
 ⟨some 15, .fadr 6 (.t 14), (some (12, true))⟩,
 ⟨some 16, .load false 1 (.t 15), (some (12, true))⟩,
 ⟨some 17, .bin .eql (.t 16) (.c (.str ⟨#[]⟩)), (some (12, true))⟩,
 ⟨some 18, .pick (.t 12) (.t 17) (.c (.bool false)), none⟩,
 ⟨some 19, .mv (.t 18), none⟩,
 ⟨some 20, .mv (.t 0), (some (19, true))⟩,
 ⟨some 21, .nilc (.t 20), (some (19, true))⟩,
 ⟨some 22, .fadr 7 (.t 21), (some (19, true))⟩,
 ⟨some 23, .load false 1 (.t 22), (some (19, true))⟩,
 ⟨some 24, .bin .eql (.t 23) (.c (.int .i64 0)), (some (19, true))⟩,
 ⟨some 25, .pick (.t 19) (.t 24) (.c (.bool false)), none⟩,
 ⟨some 26, .mv (.t 25), none⟩,
 ⟨some 27, .mv (.t 0), (some (26, true))⟩,
 ⟨some 28, .nilc (.t 27), (some (26, true))⟩,
 ⟨some 29, .fadr 8 (.t 28), (some (26, true))⟩,
 ⟨some 30, .load false 1 (.t 29), (some (26, true))⟩,
 ⟨some 31, .bin .eql (.t 30) (.c (.int .i64 0)), (some (26, true))⟩,
 ⟨some 32, .pick (.t 26) (.t 31) (.c (.bool false)), none⟩,
 ⟨some 2, .mv (.t 32), none⟩] [2])
 (.ret))
 (.skip) [0]))
 (.seq (.seq (.reg [
 ⟨some 33, .mv (.t 0), none⟩,
 ⟨some 34, .nilc (.t 33), none⟩,
 ⟨some 35, .fadr 5 (.t 34), none⟩,
 ⟨some 36, .load false 1 (.t 35), none⟩] [0, 36])
 (.block 0 (.seq (.reg [
 ⟨some 38, .bin .eql (.t 36) (.c (.int .i64 0)), none⟩,
 ⟨some 37, .mv (.t 38), none⟩] [0, 36, 37])
 (.cond (.t 37) (.seq (.dreg [0, 1, 2, 3, 4, 5, 6, 7, 8, 9] [
 ⟨some 39, .mv (.t 0), none⟩,
 ⟨some 40, .nilc (.t 39), none⟩,
 ⟨some 41, .fadr 6 (.t 40), none⟩,
 ⟨some 42, .load false 1 (.t 41), none⟩,
 ⟨some 43, .len true (.t 42), none⟩,
 ⟨some 44, .mv (.t 0), none⟩,
 ⟨some 45, .nilc (.t 44), none⟩,
 ⟨some 46, .fadr 7 (.t 45), none⟩,
 ⟨some 47, .load false 1 (.t 46), none⟩,
 ⟨some 48, .bin .neq (.t 43) (.t 47), none⟩] [] [0, 48])
 (.cond (.t 48) (.seq (.reg [
 ⟨some 2, .mv (.c (.bool false)), none⟩] [2])
 (.ret))
 (.skip) [0]))
 (.seq (.reg [
 ⟨some 50, .bin .eql (.t 36) (.c (.int .i64 8)), none⟩,
 ⟨some 49, .mv (.t 50), none⟩] [0, 49])
 (.cond (.t 49) (.seq (.reg [
 ⟨some 51, .mv (.t 0), none⟩,
 ⟨some 52, .nilc (.t 51), none⟩,
 ⟨some 53, .fadr 6 (.t 52), none⟩,
 ⟨some 54, .load false 1 (.t 53), none⟩,
 ⟨some 55, .len true (.t 54), none⟩,
 ⟨some 56, .bin .gtr (.t 55) (.c (.int .i64 300)), none⟩] [0, 56])
 (.cond (.t 56) (.seq (.reg [
 ⟨some 2, .mv (.c (.bool false)), none⟩] [2])
 (.ret))
 (.skip) [0]))
 (.seq (.reg [
 ⟨some 2, .mv (.c (.bool false)), none⟩] [2])
 (.ret)) [0])) [0])) [0]))
 (.seq (.reg [
 ⟨some 57, .mv (.t 0), none⟩,
 ⟨some 58, .nilc (.t 57), none⟩,
 ⟨some 59, .fadr 7 (.t 58), none⟩,
 ⟨some 60, .load false 1 (.t 59), none⟩,
 ⟨some 61, .bin .geq (.t 60) (.c (.int .i64 0)), none⟩,
 ⟨some 62, .mv (.t 61), none⟩,
 ⟨some 63, .mv (.t 0), (some (62, true))⟩,
 ⟨some 64, .nilc (.t 63), (some (62, true))⟩,
 ⟨some 65, .fadr 7 (.t 64), (some (62, true))⟩,
 ⟨some 66, .load false 1 (.t 65), (some (62, true))⟩,
 ⟨some 67, .bin .leq (.t 66) (.c (.int .i64 300)), (some (62, true))⟩,
 ⟨some 68, .pick (.t 62) (.t 67) (.c (.bool false)), none⟩,
 ⟨some 69, .mv (.t 68), none⟩,
 ⟨some 70, .mv (.t 0), (some (69, true))⟩,
 ⟨some 71, .nilc (.t 70), (some (69, true))⟩,
 ⟨some 72, .fadr 8 (.t 71), (some (69, true))⟩,
 ⟨some 73, .load false 1 (.t 72), (some (69, true))⟩,
 ⟨some 74, .call (.c (.fn 105 [] [])) [(.t 73)], (some (69, true))⟩,
 ⟨some 75, .pick (.t 69) (.t 74) (.c (.bool false)), none⟩,
 ⟨some 2, .mv (.t 75), none⟩] [2])
 (.ret))))) }
def f123 : AFunc := { np := 1, res := [.tmp 2], pure := true, body :=
 (.seq (.reg [
 ⟨some 2, .mv (.c (.bool false)), none⟩] [0])
 (.seq (.reg [
 ⟨some 3, .mv (.t 0), none⟩,
 ⟨some 4, .call (.c (.fn 119 [] [])) [(.t 3)], none⟩,
 ⟨some 5, .not (.t 4), none⟩,
 ⟨some 2, .mv (.t 5), none⟩] [2])
 (.ret))) }
def f124 : AFunc := { np := 2, res := [.tmp 4], pure := true, body :=
 (.seq (.reg [
 ⟨some 4, .mv (.c (.str ⟨#[]⟩)), none⟩] [0, 1])
 (.seq (.seq (.reg [
 ⟨some 7, .mv (.t 0), none⟩,
 ⟨some 8, .bin .eql (.t 7) (.c (.str ⟨#[]⟩)), none⟩,
 ⟨some 9, .mv (.t 8), none⟩,
 ⟨some 10, .mv (.t 1), (some (9, false))⟩,
 ⟨some 11, .bin .eql (.t 10) (.c (.str ⟨#[]⟩)), (some (9, false))⟩,
 ⟨some 12, .pick (.t 9) (.c (.bool true)) (.t 11), none⟩] [0, 1, 12])
 (.cond (.t 12) (.seq (.reg [
 ⟨some 13, .mv (.t 0), none⟩,
 ⟨some 4, .mv (.t 13), none⟩] [4])
 (.ret))
 (.skip) [0, 1]))
 (.seq (.seq (.reg [
 ⟨some 14, .mv (.t 1), none⟩,
 ⟨some 15, .len true (.t 14), none⟩,
 ⟨some 16, .bin .eql (.t 15) (.c (.int .i64 1)), none⟩,
 ⟨some 17, .mv (.t 16), none⟩,
 ⟨some 18, .mv (.t 1), (some (17, true))⟩,
 ⟨some 19, .idxs (.t 18) (.c (.int .i64 0)), (some (17, true))⟩,
 ⟨some 20, .bin .lss (.t 19) (.c (.int .u8 128)), (some (17, true))⟩,
 ⟨some 21, .pick (.t 17) (.t 20) (.c (.bool false)), none⟩] [0, 1, 21])
 (.cond (.t 21) (.seq (.dreg [0, 1, 2, 3, 4, 5, 6, 7] [
 ⟨some 22, .mv (.t 0), none⟩,
 ⟨some 23, .mv (.t 1), none⟩,
 ⟨some 24, .idxs (.t 23) (.c (.int .i64 0)), none⟩,
 ⟨some 25, .call (.c (.fn 126 [] [])) [(.t 22), (.t 24)], none⟩,
 ⟨some 26, .mv (.t 1), none⟩,
 ⟨some 27, .idxs (.t 26) (.c (.int .i64 0)), none⟩,
 ⟨some 28, .call (.c (.fn 125 [] [])) [(.t 25), (.t 27)], none⟩,
 ⟨some 4, .mv (.t 28), none⟩] [] [4])
 (.ret))
 (.skip) [0, 1]))
 (.seq (.seq (.reg [
 ⟨some 30, .mv (.t 1), none⟩,
 ⟨some 31, .call (.c (.fn 127 [] [])) [(.t 30)], none⟩,
 ⟨some 29, .mv (.t 31), none⟩,
 ⟨some 32, .extr (.t 29) 0, none⟩,
 ⟨some 33, .extr (.t 29) 1, none⟩,
 ⟨some 5, .alloc [.bool false, .bool false, .bool false, .bool false, .bool false, .bool false, .bool false, .bool false, .bool false, .bool false, .bool false, .bool false, .bool false, .bool false, .bool false, .bool false, .bool false, .bool false, .bool false, .bool false, .bool false, .bool false, .bool false, .bool false, .bool false, .bool false, .bool false, .bool false, .bool false, .bool false, .bool false, .bool false, .bool false, .bool false, .bool false, .bool false, .bool false, .bool false, .bool false, .bool false, .bool false, .bool false, .bool false, .bool false, .bool false, .bool false, .bool false, .bool false, .bool false, .bool false, .bool false, .bool false, .bool false, .bool false, .bool false, .bool false, .bool false, .bool false, .bool false, .bool false, .bool false, .bool false, .bool false, .bool false, .bool false, .bool false, .bool false, .bool false, .bool false, .bool false, .bool false, .bool false, .bool false, .bool false, .bool false, .bool false, .bool false, .bool false, .bool false, .bool false, .bool false, .bool false, .bool false, .bool false, .bool false, .bool false, .bool false, .bool false, .bool false, .bool false, .bool false, .bool false, .bool false, .bool false, .bool false, .bool false, .bool false, .bool false, .bool false, .bool false, .bool false, .bool false, .bool false, .bool false, .bool false, .bool false, .bool false, .bool false, .bool false, .bool false, .bool false, .bool false, .bool false, .bool false, .bool false, .bool false, .bool false, .bool false, .bool false, .bool false, .bool false, .bool false, .bool false, .bool false, .bool false, .bool false, .bool false, .bool false, .bool false, .bool false, .bool false, .bool false, .bool false, .bool false, .bool false, .bool false, .bool false, .bool false, .bool false, .bool false, .bool false, .bool false, .bool false, .bool false, .bool false, .bool false, .bool false, .bool false, .bool false, .bool false, .bool false, .bool false, .bool false, .bool false, .bool false, .bool false, .bool false, .bool false, .bool false, .bool false, .bool false, .bool false, .bool false, .bool false, .bool false, .bool false, .bool false, .bool false, .bool false, .bool false, .bool false, .bool false, .bool false, .bool false, .bool false, .bool false, .bool false, .bool false, .bool false, .bool false, .bool false, .bool false, .bool false, .bool false, .bool false, .bool false, .bool false, .bool false, .bool false, .bool false, .bool false, .bool false, .bool false, .bool false, .bool false, .bool false, .bool false, .bool false, .bool false, .bool false, .bool false, .bool false, .bool false, .bool false, .bool false, .bool false, .bool false, .bool false, .bool false, .bool false, .bool false, .bool false, .bool false, .bool false, .bool false, .bool false, .bool false, .bool false, .bool false, .bool false, .bool false, .bool false, .bool false, .bool false, .bool false, .bool false, .bool false, .bool false, .bool false, .bool false, .bool false, .bool false, .bool false, .bool false, .bool false, .bool false, .bool false, .bool false, .bool false, .bool false, .bool false, .bool false, .bool false, .bool false, .bool false, .bool false, .bool false, .bool false, .bool false, .bool false, .bool false, .bool false, .bool false, .bool false, .bool false, .bool false], none⟩,
 ⟨none, .store 256 (.t 5) (.t 32), none⟩,
 ⟨some 6, .mv (.t 33), none⟩] [0, 1, 5, 6])
 (.seq (.reg [
 ⟨some 34, .mv (.t 6), none⟩] [0, 1, 5, 34])
 (.cond (.t 34) (.seq (.reg [
 ⟨some 35, .mv (.t 0), none⟩,
 ⟨some 36, .call (.c (.fn 129 [] [])) [(.t 35), (.t 5)], none⟩,
 ⟨some 37, .call (.c (.fn 128 [] [])) [(.t 36), (.t 5)], none⟩,
 ⟨some 4, .mv (.t 37), none⟩] [4])
 (.ret))
 (.skip) [0, 1])))
 (.seq (.reg [
 ⟨some 38, .mv (.t 0), none⟩,
 ⟨some 39, .mv (.t 1), none⟩,
 ⟨some 40, .call (.c (.fn 131 [] [])) [(.t 38), (.t 39)], none⟩,
 ⟨some 41, .mv (.t 1), none⟩,
 ⟨some 42, .call (.c (.fn 130 [] [])) [(.t 40), (.t 41)], none⟩,
 ⟨some 4, .mv (.t 42), none⟩] [4])
 (.ret)))))) }
def f125L0 : ACode :=
 (.seq (.seq (.reg [
 ⟨some 5, .mv (.t 0), none⟩,
 ⟨some 6, .len true (.t 5), none⟩,
 ⟨some 7, .bin .gtr (.t 6) (.c (.int .i64 0)), none⟩,
 ⟨some 8, .mv (.t 7), none⟩,
 ⟨some 9, .mv (.t 0), (some (8, true))⟩,
 ⟨some 10, .idxs (.t 9) (.c (.int .i64 0)), (some (8, true))⟩,
 ⟨some 11, .mv (.t 1), (some (8, true))⟩,
 ⟨some 12, .bin .eql (.t 10) (.t 11), (some (8, true))⟩,
 ⟨some 13, .pick (.t 8) (.t 12) (.c (.bool false)), none⟩] [0, 1, 13])
 (.cond (.t 13) (.skip)
 (.exit 0) [0, 1]))
 (.block 1 (.reg [
 ⟨some 14, .mv (.t 0), none⟩,
 ⟨some 15, .sls (.t 14) (some (.c (.int .i64 1))) none, none⟩,
 ⟨some 0, .mv (.t 15), none⟩] [0, 1]) [0, 1]))
def f125 : AFunc := { np := 2, res := [.tmp 4], pure := true, body :=
 (.seq (.reg [
 ⟨some 4, .mv (.c (.str ⟨#[]⟩)), none⟩] [0, 1])
 (.seq (.block 0 (.loop [0, 1] f125L0) [0])
 (.seq (.reg [
 ⟨some 16, .mv (.t 0), none⟩,
 ⟨some 4, .mv (.t 16), none⟩] [4])
 (.ret)))) }
def f126L0 : ACode :=
 (.seq (.seq (.reg [
 ⟨some 5, .mv (.t 0), none⟩,
 ⟨some 6, .len true (.t 5), none⟩,
 ⟨some 7, .bin .gtr (.t 6) (.c (.int .i64 0)), none⟩,
 ⟨some 8, .mv (.t 7), none⟩,
 ⟨some 9, .mv (.t 0), (some (8, true))⟩,
 ⟨some 10, .mv (.t 0), (some (8, true))⟩,
 ⟨some 11, .len true (.t 10), (some (8, true))⟩,
 ⟨some 12, .bin .sub (.t 11) (.c (.int .i64 1)), (some (8, true))⟩,
 ⟨some 13, .idxs (.t 9) (.t 12), (some (8, true))⟩,
 ⟨some 14, .mv (.t 1), (some (8, true))⟩,
 ⟨some 15, .bin .eql (.t 13) (.t 14), (some (8, true))⟩,
 ⟨some 16, .pick (.t 8) (.t 15) (.c (.bool false)), none⟩] [0, 1, 16])
 (.cond (.t 16) (.skip)
 (.exit 0) [0, 1]))
 (.block 1 (.reg [
 ⟨some 17, .mv (.t 0), none⟩,
 ⟨some 18, .mv (.t 0), none⟩,
 ⟨some 19, .len true (.t 18), none⟩,
 ⟨some 20, .bin .sub (.t 19) (.c (.int .i64 1)), none⟩,
 ⟨some 21, .sls (.t 17) none (some (.t 20)), none⟩,
 ⟨some 0, .mv (.t 21), none⟩] [0, 1]) [0, 1]))
def f126 : AFunc := { np := 2, res := [.tmp 4], pure := true, body :=
 (.seq (.reg [
 ⟨some 4, .mv (.c (.str ⟨#[]⟩)), none⟩] [0, 1])
 (.seq (.block 0 (.loop [0, 1] f126L0) [0])
 (.seq (.reg [
 ⟨some 22, .mv (.t 0), none⟩,
 ⟨some 4, .mv (.t 22), none⟩] [4])
 (.ret)))) }
def f127L0 : ACode :=
 (.seq (.seq (.reg [
 ⟨some 6, .mv (.t 4), none⟩,
 ⟨some 7, .mv (.t 0), none⟩,
 ⟨some 8, .len true (.t 7), none⟩,
 ⟨some 9, .bin .lss (.t 6) (.t 8), none⟩] [0, 2, 4, 9])
 (.cond (.t 9) (.skip)
 (.exit 0) [0, 2, 4]))
 (.seq (.block 1 (.seq (.reg [
 ⟨some 12, .mv (.t 0), none⟩,
 ⟨some 13, .mv (.t 4), none⟩,
 ⟨some 14, .idxs (.t 12) (.t 13), none⟩,
 ⟨some 5, .mv (.t 14), none⟩] [0, 2, 4, 5])
 (.seq (.seq (.reg [
 ⟨some 15, .mv (.t 5), none⟩,
 ⟨some 16, .bin .geq (.t 15) (.c (.int .u8 128)), none⟩] [0, 2, 4, 5, 16])
 (.cond (.t 16) (.seq (.reg [
 ⟨some 17, .load true 256 (.t 2), none⟩,
 ⟨none, .store 256 (.t 2) (.t 17), none⟩,
 ⟨some 3, .mv (.c (.bool false)), none⟩] [2, 3])
 (.ret))
 (.skip) [0, 2, 4, 5]))
 (.reg [
 ⟨some 18, .mv (.t 5), none⟩,
 ⟨some 19, .iadra 256 1 (.t 2) (.t 18), none⟩,
 ⟨none, .store 1 (.t 19) (.c (.bool true)), none⟩] [0, 2, 4]))) [0, 2, 4])
 (.reg [
 ⟨some 10, .mv (.t 4), none⟩,
 ⟨some 11, .bin .add (.t 10) (.c (.int .i64 1)), none⟩,
 ⟨some 4, .mv (.t 11), none⟩] [0, 2, 4])))
def f127 : AFunc := { np := 1, res := [.cell 2 true 256, .tmp 3], pure := true, body :=
 (.seq (.reg [
 ⟨some 2, .alloc [.bool false, .bool false, .bool false, .bool false, .bool false, .bool false, .bool false, .bool false, .bool false, .bool false, .bool false, .bool false, .bool false, .bool false, .bool false, .bool false, .bool false, .bool false, .bool false, .bool false, .bool false, .bool false, .bool false, .bool false, .bool false, .bool false, .bool false, .bool false, .bool false, .bool false, .bool false, .bool false, .bool false, .bool false, .bool false, .bool false, .bool false, .bool false, .bool false, .bool false, .bool false, .bool false, .bool false, .bool false, .bool false, .bool false, .bool false, .bool false, .bool false, .bool false, .bool false, .bool false, .bool false, .bool false, .bool false, .bool false, .bool false, .bool false, .bool false, .bool false, .bool false, .bool false, .bool false, .bool false, .bool false, .bool false, .bool false, .bool false, .bool false, .bool false, .bool false, .bool false, .bool false, .bool false, .bool false, .bool false, .bool false, .bool false, .bool false, .bool false, .bool false, .bool false, .bool false, .bool false, .bool false, .bool false, .bool false, .bool false, .bool false, .bool false, .bool false, .bool false, .bool false, .bool false, .bool false, .bool false, .bool false, .bool false, .bool false, .bool false, .bool false, .bool false, .bool false, .bool false, .bool false, .bool false, .bool false, .bool false, .bool false, .bool false, .bool false, .bool false, .bool false, .bool false, .bool false, .bool false, .bool false, .bool false, .bool false, .bool false, .bool false, .bool false, .bool false, .bool false, .bool false, .bool false, .bool false, .bool false, .bool false, .bool false, .bool false, .bool false, .bool false, .bool false, .bool false, .bool false, .bool false, .bool false, .bool false, .bool false, .bool false, .bool false, .bool false, .bool false, .bool false, .bool false, .bool false, .bool false, .bool false, .bool false, .bool false, .bool false, .bool false, .bool false, .bool false, .bool false, .bool false, .bool false, .bool false, .bool false, .bool false, .bool false, .bool false, .bool false, .bool false, .bool false, .bool false, .bool false, .bool false, .bool false, .bool false, .bool false, .bool false, .bool false, .bool false, .bool false, .bool false, .bool false, .bool false, .bool false, .bool false, .bool false, .bool false, .bool false, .bool false, .bool false, .bool false, .bool false, .bool false, .bool false, .bool false, .bool false, .bool false, .bool false, .bool false, .bool false, .bool false, .bool false, .bool false, .bool false, .bool false, .bool false, .bool false, .bool false, .bool false, .bool false, .bool false, .bool false, .bool false, .bool false, .bool false, .bool false, .bool false, .bool false, .bool false, .bool false, .bool false, .bool false, .bool false, .bool false, .bool false, .bool false, .bool false, .bool false, .bool false, .bool false, .bool false, .bool false, .bool false, .bool false, .bool false, .bool false, .bool false, .bool false, .bool false, .bool false, .bool false, .bool false, .bool false, .bool false, .bool false, .bool false, .bool false, .bool false, .bool false, .bool false, .bool false, .bool false, .bool false, .bool false, .bool false, .bool false, .bool false, .bool false, .bool false, .bool false], none⟩,
 ⟨some 3, .mv (.c (.bool false)), none⟩] [0, 2])
 (.seq (.seq (.reg [
 ⟨some 4, .mv (.c (.int .i64 0)), none⟩] [0, 2, 4])
 (.block 0 (.loop [0, 2, 4] f127L0) [2]))
 (.seq (.reg [
 ⟨some 20, .load true 256 (.t 2), none⟩,
 ⟨none, .store 256 (.t 2) (.t 20), none⟩,
 ⟨some 3, .mv (.c (.bool true)), none⟩] [2, 3])
 (.ret)))) }
def f128L0 : ACode :=
 (.seq (.seq (.reg [
 ⟨some 5, .mv (.t 0), none⟩,
 ⟨some 6, .len true (.t 5), none⟩,
 ⟨some 7, .bin .gtr (.t 6) (.c (.int .i64 0)), none⟩] [0, 1, 7])
 (.cond (.t 7) (.skip)
 (.exit 0) [0, 1]))
 (.block 1 (.seq (.seq (.reg [
 ⟨some 8, .mv (.t 1), none⟩,
 ⟨some 9, .mv (.t 0), none⟩,
 ⟨some 10, .idxs (.t 9) (.c (.int .i64 0)), none⟩,
 ⟨some 11, .call (.c (.fn 132 [] [])) [(.t 8), (.t 10)], none⟩,
 ⟨some 12, .not (.t 11), none⟩] [0, 1, 12])
 (.cond (.t 12) (.exit 0)
 (.skip) [0, 1]))
 (.reg [
 ⟨some 13, .mv (.t 0), none⟩,
 ⟨some 14, .sls (.t 13) (some (.c (.int .i64 1))) none, none⟩,
 ⟨some 0, .mv (.t 14), none⟩] [0, 1])) [0, 1]))
def f128 : AFunc := { np := 2, res := [.tmp 4], pure := false, body :=
 (.seq (.reg [
 ⟨some 4, .mv (.c (.str ⟨#[]⟩)), none⟩] [0, 1])
 (.seq (.block 0 (.loop [0, 1] f128L0) [0])
 (.seq (.reg [
 ⟨some 15, .mv (.t 0), none⟩,
 ⟨some 4, .mv (.t 15), none⟩] [4])
 (.ret)))) }
def f129L0 : ACode :=
 (.seq (.seq (.reg [
 ⟨some 5, .mv (.t 0), none⟩,
 ⟨some 6, .len true (.t 5), none⟩,
 ⟨some 7, .bin .gtr (.t 6) (.c (.int .i64 0)), none⟩] [0, 1, 7])
 (.cond (.t 7) (.skip)
 (.exit 0) [0, 1]))
 (.block 1 (.seq (.seq (.reg [
 ⟨some 8, .mv (.t 1), none⟩,
 ⟨some 9, .mv (.t 0), none⟩,
 ⟨some 10, .mv (.t 0), none⟩,
 ⟨some 11, .len true (.t 10), none⟩,
 ⟨some 12, .bin .sub (.t 11) (.c (.int .i64 1)), none⟩,
 ⟨some 13, .idxs (.t 9) (.t 12), none⟩,
 ⟨some 14, .call (.c (.fn 132 [] [])) [(.t 8), (.t 13)], none⟩,
 ⟨some 15, .not (.t 14), none⟩] [0, 1, 15])
 (.cond (.t 15) (.exit 0)
 (.skip) [0, 1]))
 (.reg [
 ⟨some 16, .mv (.t 0), none⟩,
 ⟨some 17, .mv (.t 0), none⟩,
 ⟨some 18, .len true (.t 17), none⟩,
 ⟨some 19, .bin .sub (.t 18) (.c (.int .i64 1)), none⟩,
 ⟨some 20, .sls (.t 16) none (some (.t 19)), none⟩,
 ⟨some 0, .mv (.t 20), none⟩] [0, 1])) [0, 1]))
def f129 : AFunc := { np := 2, res := [.tmp 4], pure := false, body :=
 (.seq (.reg [
 ⟨some 4, .mv (.c (.str ⟨#[]⟩)), none⟩] [0, 1])
 (.seq (.block 0 (.loop [0, 1] f129L0) [0])
 (.seq (.reg [
 ⟨some 21, .mv (.t 0), none⟩,
 ⟨some 4, .mv (.t 21), none⟩] [4])
 (.ret)))) }
def f130L0 : ACode :=
 (.seq (.seq (.reg [
 ⟨some 7, .mv (.t 0), none⟩,
 ⟨some 8, .len true (.t 7), none⟩,
 ⟨some 9, .bin .gtr (.t 8) (.c (.int .i64 0)), none⟩] [0, 1, 9])
 (.cond (.t 9) (.skip)
 (.exit 0) [0, 1]))
 (.block 1 (.seq (.reg [
 ⟨some 11, .mv (.t 0), none⟩,
 ⟨some 12, .call (.c (.fn 133 [] [])) [(.t 11)], none⟩,
 ⟨some 10, .mv (.t 12), none⟩,
 ⟨some 13, .extr (.t 10) 0, none⟩,
 ⟨some 14, .extr (.t 10) 1, none⟩,
 ⟨some 5, .mv (.t 13), none⟩,
 ⟨some 6, .mv (.t 14), none⟩] [0, 1, 5, 6])
 (.seq (.seq (.reg [
 ⟨some 15, .mv (.t 1), none⟩,
 ⟨some 16, .mv (.t 5), none⟩,
 ⟨some 17, .call (.c (.fn 134 [] [])) [(.t 15), (.t 16)], none⟩,
 ⟨some 18, .not (.t 17), none⟩] [0, 1, 6, 18])
 (.cond (.t 18) (.exit 0)
 (.skip) [0, 1, 6]))
 (.reg [
 ⟨some 19, .mv (.t 0), none⟩,
 ⟨some 20, .mv (.t 6), none⟩,
 ⟨some 21, .sls (.t 19) (some (.t 20)) none, none⟩,
 ⟨some 0, .mv (.t 21), none⟩] [0, 1]))) [0, 1]))
def f130 : AFunc := { np := 2, res := [.tmp 4], pure := true, body :=
 (.seq (.reg [
 ⟨some 4, .mv (.c (.str ⟨#[]⟩)), none⟩] [0, 1])
 (.seq (.block 0 (.loop [0, 1] f130L0) [0])
 (.seq (.reg [
 ⟨some 22, .mv (.t 0), none⟩,
 ⟨some 4, .mv (.t 22), none⟩] [4])
 (.ret)))) }
def f131L0 : ACode :=
 (.seq (.seq (.reg [
 ⟨some 7, .mv (.t 0), none⟩,
 ⟨some 8, .len true (.t 7), none⟩,
 ⟨some 9, .bin .gtr (.t 8) (.c (.int .i64 0)), none⟩] [0, 1, 9])
 (.cond (.t 9) (.skip)
 (.exit 0) [0, 1]))
 (.block 1 (.seq (.reg [
 ⟨some 10, .mv (.t 0), none⟩,
 ⟨some 11, .mv (.t 0), none⟩,
 ⟨some 12, .len true (.t 11), none⟩,
 ⟨some 13, .bin .sub (.t 12) (.c (.int .i64 1)), none⟩,
 ⟨some 14, .idxs (.t 10) (.t 13), none⟩,
 ⟨some 15, .conv .i32 (.t 14), none⟩,
 ⟨some 5, .mv (.t 15), none⟩,
 ⟨some 6, .mv (.c (.int .i64 1)), none⟩] [0, 1, 5, 6])
 (.seq (.seq (.reg [
 ⟨some 16, .mv (.t 5), none⟩,
 ⟨some 17, .bin .geq (.t 16) (.c (.int .i32 128)), none⟩] [0, 1, 5, 6, 17])
 (.cond (.t 17) (.reg [
 ⟨some 19, .mv (.t 0), none⟩,
 ⟨some 20, .call (.c (.fn 135 [] [])) [(.t 19)], none⟩,
 ⟨some 18, .mv (.t 20), none⟩,
 ⟨some 21, .extr (.t 18) 0, none⟩,
 ⟨some 22, .extr (.t 18) 1, none⟩,
 ⟨some 5, .mv (.t 21), none⟩,
 ⟨some 6, .mv (.t 22), none⟩] [0, 1, 5, 6])
 (.skip) [0, 1, 5, 6]))
 (.seq (.seq (.reg [
 ⟨some 23, .mv (.t 1), none⟩,
 ⟨some 24, .mv (.t 5), none⟩,
 ⟨some 25, .call (.c (.fn 134 [] [])) [(.t 23), (.t 24)], none⟩,
 ⟨some 26, .not (.t 25), none⟩] [0, 1, 6, 26])
 (.cond (.t 26) (.exit 0)
 (.skip) [0, 1, 6]))
 (.reg [
 ⟨some 27, .mv (.t 0), none⟩,
 ⟨some 28, .mv (.t 0), none⟩,
 ⟨some 29, .len true (.t 28), none⟩,
 ⟨some 30, .mv (.t 6), none⟩,
 ⟨some 31, .bin .sub (.t 29) (.t 30), none⟩,
 ⟨some 32, .sls (.t 27) none (some (.t 31)), none⟩,
 ⟨some 0, .mv (.t 32), none⟩] [0, 1])))) [0, 1]))
def f131 : AFunc := { np := 2, res := [.tmp 4], pure := true, body :=
 (.seq (.reg [
 ⟨some 4, .mv (.c (.str ⟨#[]⟩)), none⟩] [0, 1])
 (.seq (.block 0 (.loop [0, 1] f131L0) [0])
 (.seq (.reg [
 ⟨some 33, .mv (.t 0), none⟩,
 ⟨some 4, .mv (.t 33), none⟩] [4])
 (.ret)))) }
def f132 : AFunc := { np := 2, res := [.tmp 4], pure := false, body :=
 (.seq (.reg [
 ⟨some 4, .mv (.c (.bool false)), none⟩] [0, 1])
 (.seq (.reg [
 ⟨some 5, .mv (.t 0), none⟩,
 ⟨some 6, .mv (.t 1), none⟩,
 ⟨some 7, .nilc (.t 5), none⟩,
 ⟨some 8, .iadra 256 1 (.t 7) (.t 6), none⟩,
 ⟨some 9, .load false 1 (.t 8), none⟩,
 ⟨some 4, .mv (.t 9), none⟩] [4])
 (.ret))) }
def f133 : AFunc := { np := 1, res := [.tmp 2, .tmp 3], pure := true, body :=
 (.seq (.reg [
 ⟨some 2, .mv (.c (.int .i32 0)), none⟩,
 ⟨some 3, .mv (.c (.int .i64 0)), none⟩] [0])
 (.seq (.seq (.reg [
 ⟨some 4, .mv (.t 0), none⟩,
 ⟨some 5, .bin .neq (.t 4) (.c (.str ⟨#[]⟩)), none⟩,
 ⟨some 6, .mv (.t 5), none⟩,
 ⟨some 7, .mv (.t 0), (some (6, true))⟩,
 ⟨some 8, .idxs (.t 7) (.c (.int .i64 0)), (some (6, true))⟩,
 ⟨some 9, .bin .lss (.t 8) (.c (.int .u8 128)), (some (6, true))⟩,
 ⟨some 10, .pick (.t 6) (.t 9) (.c (.bool false)), none⟩] [0, 10])
 (.cond (.t 10) (.seq (.reg [
 ⟨some 11, .mv (.t 0), none⟩,
 ⟨some 12, .idxs (.t 11) (.c (.int .i64 0)), none⟩,
 ⟨some 13, .conv .i32 (.t 12), none⟩,
 ⟨some 2, .mv (.t 13), none⟩,
 ⟨some 3, .mv (.c (.int .i64 1)), none⟩] [2, 3])
 (.ret))
 (.reg [
 ⟨some 15, .mv (.t 0), none⟩,
 ⟨some 16, .call (.c (.fn 136 [] [])) [(.t 15)], none⟩,
 ⟨some 14, .mv (.t 16), none⟩,
 ⟨some 17, .extr (.t 14) 0, none⟩,
 ⟨some 18, .extr (.t 14) 1, none⟩,
 ⟨some 2, .mv (.t 17), none⟩,
 ⟨some 3, .mv (.t 18), none⟩] [2, 3]) [2, 3]))
 (.ret))) }
def f134 : AFunc := { np := 2, res := [.tmp 4], pure := true, body :=
 (.seq (.reg [
 ⟨some 4, .mv (.c (.bool false)), none⟩] [0, 1])
 (.seq (.reg [
 ⟨some 5, .mv (.t 0), none⟩,
 ⟨some 6, .mv (.t 1), none⟩,
 ⟨some 7, .call (.c (.fn 137 [] [])) [(.t 5), (.t 6)], none⟩,
 ⟨some 8, .bin .geq (.t 7) (.c (.int .i64 0)), none⟩,
 ⟨some 4, .mv (.t 8), none⟩] [4])
 (.ret))) }
def f135L0 : ACode :=
 (.seq (.seq (.reg [
 ⟨some 25, .mv (.t 5), none⟩,
 ⟨some 26, .mv (.t 6), none⟩,
 ⟨some 27, .bin .geq (.t 25) (.t 26), none⟩] [0, 4, 5, 6, 27])
 (.cond (.t 27) (.skip)
 (.exit 0) [0, 4, 5, 6]))
 (.seq (.block 1 (.seq (.reg [
 ⟨some 30, .mv (.t 0), none⟩,
 ⟨some 31, .mv (.t 5), none⟩,
 ⟨some 32, .idxs (.t 30) (.t 31), none⟩,
 ⟨some 33, .call (.c (.fn 138 [] [])) [(.t 32)], none⟩] [0, 4, 5, 6, 33])
 (.cond (.t 33) (.exit 0)
 (.skip) [0, 4, 5, 6])) [0, 4, 5, 6])
 (.reg [
 ⟨some 28, .mv (.t 5), none⟩,
 ⟨some 29, .bin .sub (.t 28) (.c (.int .i64 1)), none⟩,
 ⟨some 5, .mv (.t 29), none⟩] [0, 4, 5, 6])))
def f135 : AFunc := { np := 1, res := [.tmp 2, .tmp 3], pure := true, body :=
 (.seq (.reg [
 ⟨some 2, .mv (.c (.int .i32 0)), none⟩,
 ⟨some 3, .mv (.c (.int .i64 0)), none⟩] [0])
 (.seq (.reg [
 ⟨some 7, .mv (.t 0), none⟩,
 ⟨some 8, .len true (.t 7), none⟩,
 ⟨some 4, .mv (.t 8), none⟩] [0, 4])
 (.seq (.seq (.reg [
 ⟨some 9, .mv (.t 4), none⟩,
 ⟨some 10, .bin .eql (.t 9) (.c (.int .i64 0)), none⟩] [0, 4, 10])
 (.cond (.t 10) (.seq (.reg [
 ⟨some 2, .mv (.c (.int .i32 65533)), none⟩,
 ⟨some 3, .mv (.c (.int .i64 0)), none⟩] [2, 3])
 (.ret))
 (.skip) [0, 4]))
 (.seq (.reg [
 ⟨some 11, .mv (.t 4), none⟩,
 ⟨some 12, .bin .sub (.t 11) (.c (.int .i64 1)), none⟩,
 ⟨some 5, .mv (.t 12), none⟩] [0, 4, 5])
 (.seq (.reg [
 ⟨some 13, .mv (.t 0), none⟩,
 ⟨some 14, .mv (.t 5), none⟩,
 ⟨some 15, .idxs (.t 13) (.t 14), none⟩,
 ⟨some 16, .conv .i32 (.t 15), none⟩,
 ⟨some 2, .mv (.t 16), none⟩] [0, 2, 4, 5])
 (.seq (.seq (.reg [
 ⟨some 17, .mv (.t 2), none⟩,
 ⟨some 18, .bin .lss (.t 17) (.c (.int .i32 128)), none⟩] [0, 2, 4, 5, 18])
 (.cond (.t 18) (.seq (.reg [
 ⟨some 19, .mv (.t 2), none⟩,
 ⟨some 2, .mv (.t 19), none⟩,
 ⟨some 3, .mv (.c (.int .i64 1)), none⟩] [2, 3])
 (.ret))
 (.skip) [0, 4, 5]))
 (.seq (.reg [
 ⟨some 20, .mv (.t 4), none⟩,
 ⟨some 21, .bin .sub (.t 20) (.c (.int .i64 4)), none⟩,
 ⟨some 22, .mx [(.t 21), (.c (.int .i64 0))], none⟩,
 ⟨some 6, .mv (.t 22), none⟩] [0, 4, 5, 6])
 (.seq (.seq (.reg [
 ⟨some 23, .mv (.t 5), none⟩,
 ⟨some 24, .bin .sub (.t 23) (.c (.int .i64 1)), none⟩,
 ⟨some 5, .mv (.t 24), none⟩] [0, 4, 5, 6])
 (.block 0 (.loop [0, 4, 5, 6] f135L0) [0, 4, 5]))
 (.seq (.seq (.reg [
 ⟨some 34, .mv (.t 5), none⟩,
 ⟨some 35, .bin .lss (.t 34) (.c (.int .i64 0)), none⟩] [0, 4, 5, 35])
 (.cond (.t 35) (.reg [
 ⟨some 5, .mv (.c (.int .i64 0)), none⟩] [0, 4, 5])
 (.skip) [0, 4, 5]))
 (.seq (.reg [
 ⟨some 37, .mv (.t 0), none⟩,
 ⟨some 38, .mv (.t 5), none⟩,
 ⟨some 39, .mv (.t 4), none⟩,
 ⟨some 40, .sls (.t 37) (some (.t 38)) (some (.t 39)), none⟩,
 ⟨some 41, .call (.c (.fn 133 [] [])) [(.t 40)], none⟩,
 ⟨some 36, .mv (.t 41), none⟩,
 ⟨some 42, .extr (.t 36) 0, none⟩,
 ⟨some 43, .extr (.t 36) 1, none⟩,
 ⟨some 2, .mv (.t 42), none⟩,
 ⟨some 3, .mv (.t 43), none⟩] [2, 3, 4, 5])
 (.seq (.seq (.reg [
 ⟨some 44, .mv (.t 5), none⟩,
 ⟨some 45, .mv (.t 3), none⟩,
 ⟨some 46, .bin .add (.t 44) (.t 45), none⟩,
 ⟨some 47, .mv (.t 4), none⟩,
 ⟨some 48, .bin .neq (.t 46) (.t 47), none⟩] [2, 3, 48])
 (.cond (.t 48) (.seq (.reg [
 ⟨some 2, .mv (.c (.int .i32 65533)), none⟩,
 ⟨some 3, .mv (.c (.int .i64 1)), none⟩] [2, 3])
 (.ret))
 (.skip) [2, 3]))
 (.seq (.reg [
 ⟨some 49, .mv (.t 2), none⟩,
 ⟨some 50, .mv (.t 3), none⟩,
 ⟨some 2, .mv (.t 49), none⟩,
 ⟨some 3, .mv (.t 50), none⟩] [2, 3])
 (.ret))))))))))))) }
def f138 : AFunc := { np := 1, res := [.tmp 2], pure := true, body :=
 (.seq (.reg [
 ⟨some 2, .mv (.c (.bool false)), none⟩] [0])
 (.seq (.reg [
 ⟨some 3, .mv (.t 0), none⟩,
 ⟨some 4, .bin .and (.t 3) (.c (.int .u8 192)), none⟩,
 ⟨some 5, .bin .neq (.t 4) (.c (.int .u8 128)), none⟩,
 ⟨some 2, .mv (.t 5), none⟩] [2])
 (.ret))) }
def f139 : AFunc := { np := 2, res := [.tmp 4], pure := true, body :=
 (.seq (.reg [
 ⟨some 4, .mv (.c (.int .i64 0)), none⟩] [0, 1])
 (.seq (.reg [
 ⟨some 5, .mv (.t 0), none⟩,
 ⟨some 6, .mv (.t 1), none⟩,
 ⟨some 7, .call (.c (.fn 143 [] [])) [(.t 5), (.t 6)], none⟩,
 ⟨some 4, .mv (.t 7), none⟩] [4])
 (.ret))) }
def f140 : AFunc := { np := 1, res := [.tmp 2], pure := true, body :=
 (.seq (.reg [
 ⟨some 2, .mv (.c (.bool false)), none⟩] [0])
 (.seq (.block 0 (.seq (.reg [
 ⟨some 4, .mv (.t 0), none⟩,
 ⟨some 5, .bin .leq (.c (.int .i32 0)) (.t 4), none⟩,
 ⟨some 6, .mv (.t 5), none⟩,
 ⟨some 7, .mv (.t 0), (some (6, true))⟩,
 ⟨some 8, .bin .lss (.t 7) (.c (.int .i32 55296)), (some (6, true))⟩,
 ⟨some 9, .pick (.t 6) (.t 8) (.c (.bool false)), none⟩,
 ⟨some 3, .mv (.t 9), none⟩] [0, 3])
 (.cond (.t 3) (.seq (.reg [
 ⟨some 2, .mv (.c (.bool true)), none⟩] [2])
 (.ret))
 (.seq (.reg [
 ⟨some 11, .mv (.t 0), none⟩,
 ⟨some 12, .bin .lss (.c (.int .i32 57343)) (.t 11), none⟩,
 ⟨some 13, .mv (.t 12), none⟩,
 ⟨some 14, .mv (.t 0), (some (13, true))⟩,
 ⟨some 15, .bin .leq (.t 14) (.c (.int .i32 1114111)), (some (13, true))⟩,
 ⟨some 16, .pick (.t 13) (.t 15) (.c (.bool false)), none⟩,
 ⟨some 10, .mv (.t 16), none⟩] [10])
 (.cond (.t 10) (.seq (.reg [
 ⟨some 2, .mv (.c (.bool true)), none⟩] [2])
 (.ret))
 (.skip) [])) [])) [])
 (.seq (.reg [
 ⟨some 2, .mv (.c (.bool false)), none⟩] [2])
 (.ret)))) }
def f141 : AFunc := { np := 1, res := [.tmp 2], pure := true, body :=
 (.seq (.reg [
 ⟨some 2, .mv (.c (.int .i64 0)), none⟩] [0])
 (.seq (.reg [
 ⟨some 3, .mv (.t 0), none⟩,
 ⟨some 4, .bin .add (.t 3) (.c (.int .i64 16)), none⟩,
 ⟨some 5, .bin .quo (.t 4) (.c (.int .i64 8)), none⟩,
 ⟨some 2, .mv (.t 5), none⟩] [2])
 (.ret))) }
def f145 : AFunc := { np := 2, res := [.tmp 4], pure := true, body :=
 (.seq (.reg [
 ⟨some 2, .box 9 (.t 0), none⟩,
 ⟨some 4, .mv (.c (.bool false)), none⟩] [1, 2])
 (.seq (.reg [
 ⟨some 15, .load true 9 (.t 2), none⟩,
 ⟨some 16, .call (.c (.fn 92 [] [])) [(.t 15)], none⟩,
 ⟨some 17, .mv (.t 1), none⟩,
 ⟨some 18, .call (.c (.fn 150 [] [])) [(.t 17)], none⟩,
 ⟨some 5, .alloc [.str ⟨#[]⟩, .bool false, .nils, .int .i64 0, .int .i64 0, .int .i64 0, .str ⟨#[]⟩, .int .i64 0, .int .i64 0], none⟩,
 ⟨none, .store 9 (.t 5) (.t 16), none⟩,
 ⟨some 6, .mv (.t 18), none⟩] [1, 2, 5, 6])
 (.seq (.reg [
 ⟨some 20, .load true 9 (.t 5), none⟩,
 ⟨some 21, .call (.c (.fn 91 [] [])) [(.t 20)], none⟩,
 ⟨some 19, .mv (.t 21), none⟩,
 ⟨some 22, .extr (.t 19) 0, none⟩,
 ⟨some 23, .extr (.t 19) 1, none⟩,
 ⟨some 7, .mv (.t 22), none⟩,
 ⟨some 8, .mv (.t 23), none⟩] [1, 2, 5, 6, 7, 8])
 (.seq (.reg [
 ⟨some 25, .load true 9 (.t 2), none⟩,
 ⟨some 26, .call (.c (.fn 151 [] [])) [(.t 25)], none⟩,
 ⟨some 24, .mv (.t 26), none⟩,
 ⟨some 27, .extr (.t 24) 0, none⟩,
 ⟨some 28, .extr (.t 24) 1, none⟩,
 ⟨some 9, .mv (.t 27), none⟩,
 ⟨some 10, .mv (.t 28), none⟩] [1, 2, 5, 6, 7, 8, 9, 10])
 (.seq (.reg [
 ⟨some 30, .mv (.t 6), none⟩,
 ⟨some 31, .call (.c (.fn 93 [] [])) [(.t 30)], none⟩,
 ⟨some 29, .mv (.t 31), none⟩,
 ⟨some 32, .extr (.t 29) 0, none⟩,
 ⟨some 33, .extr (.t 29) 1, none⟩,
 ⟨some 11, .mv (.t 32), none⟩,
 ⟨some 12, .mv (.t 33), none⟩] [1, 2, 5, 6, 7, 8, 9, 10, 11, 12])
 (.seq (.reg [
 ⟨some 35, .mv (.t 1), none⟩,
 ⟨some 36, .call (.c (.fn 152 [] [])) [(.t 35)], none⟩,
 ⟨some 34, .mv (.t 36), none⟩,
 ⟨some 37, .extr (.t 34) 0, none⟩,
 ⟨some 38, .extr (.t 34) 1, none⟩,
 ⟨some 13, .mv (.t 37), none⟩,
 ⟨some 14, .mv (.t 38), none⟩] [1, 2, 5, 6, 7, 8, 9, 10, 11, 12, 13, 14])
 (.seq (.reg [
 ⟨some 39, .mv (.t 7), none⟩,
 ⟨some 40, .mv (.t 9), none⟩,
 ⟨some 41, .bin .eql (.t 39) (.t 40), none⟩,
 ⟨some 42, .mv (.t 41), none⟩,
 ⟨some 43, .mv (.t 8), (some (42, true))⟩,
 ⟨some 44, .call (.c (.fn 9 [] [])) [(.t 43)], (some (42, true))⟩,
 ⟨some 45, .mv (.t 10), (some (42, true))⟩,
 ⟨some 46, .bin .eql (.t 44) (.t 45), (some (42, true))⟩,
 ⟨some 47, .pick (.t 42) (.t 46) (.c (.bool false)), none⟩,
 ⟨some 48, .mv (.t 47), none⟩,
 ⟨some 49, .mv (.t 11), (some (48, true))⟩,
 ⟨some 50, .mv (.t 13), (some (48, true))⟩,
 ⟨some 51, .bin .eql (.t 49) (.t 50), (some (48, true))⟩,
 ⟨some 52, .pick (.t 48) (.t 51) (.c (.bool false)), none⟩,
 ⟨some 53, .mv (.t 52), none⟩,
 ⟨some 54, .mv (.t 12), (some (53, true))⟩,
 ⟨some 55, .call (.c (.fn 9 [] [])) [(.t 54)], (some (53, true))⟩,
 ⟨some 56, .mv (.t 14), (some (53, true))⟩,
 ⟨some 57, .bin .eql (.t 55) (.t 56), (some (53, true))⟩,
 ⟨some 58, .pick (.t 53) (.t 57) (.c (.bool false)), none⟩,
 ⟨some 59, .mv (.t 58), none⟩,
 ⟨some 60, .load true 9 (.t 5), (some (59, true))⟩,
 ⟨some 61, .load true 9 (.t 2), (some (59, true))⟩,
 ⟨some 62, .call (.c (.fn 98 [] [])) [(.t 60), (.t 61)], (some (59, true))⟩,
 ⟨some 63, .pick (.t 59) (.t 62) (.c (.bool false)), none⟩,
 ⟨some 64, .mv (.t 63), none⟩,
 ⟨some 65, .mv (.t 6), (some (64, true))⟩,
 ⟨some 66, .mv (.t 1), (some (64, true))⟩,
 ⟨some 67, .call (.c (.fn 153 [] [])) [(.t 65), (.t 66)], (some (64, true))⟩,
 ⟨some 68, .pick (.t 64) (.t 67) (.c (.bool false)), none⟩,
 ⟨some 69, .mv (.t 68), none⟩,
 ⟨some 70, .call (.c (.fn 90 [] [])) [], (some (69, true))⟩,
 ⟨some 71, .pick (.t 69) (.t 70) (.c (.bool false)), none⟩,
 ⟨some 4, .mv (.t 71), none⟩] [4])
 (.ret)))))))) }
def f150 : AFunc := { np := 1, res := [.tmp 2], pure := false, body :=
 (.seq (.reg [
 ⟨some 2, .mv (.c (.nils)), none⟩] [0])
 (.seq (.reg [
 ⟨some 4, .mv (.t 0), none⟩,
 ⟨some 5, .call (.c (.fn 159 [] [])) [(.t 4)], none⟩,
 ⟨some 6, .bslice 1 2 [.int .i64 0] [(0, (.c (.int .i64 (-7777)))), (1, (.c (.int .i64 (-8888))))], none⟩,
 ⟨some 7, .app 1 8 (.t 5) (.t 6), none⟩,
 ⟨some 3, .mv (.t 7), none⟩] [0, 3])
 (.seq (.reg [
 ⟨some 8, .mv (.t 3), none⟩,
 ⟨some 9, .mv (.t 0), none⟩,
 ⟨some 10, .len false (.t 9), none⟩,
 ⟨some 11, .sl 1 (.t 8) none (some (.t 10)) none, none⟩,
 ⟨some 2, .mv (.t 11), none⟩] [2])
 (.ret)))) }
def f151 : AFunc := { np := 1, res := [.tmp 2, .tmp 3], pure := true, body :=
 (.seq (.reg [
 ⟨some 1, .box 9 (.t 0), none⟩,
 ⟨some 2, .mv (.c (.int .i64 0)), none⟩,
 ⟨some 3, .mv (.c (.int .i64 0)), none⟩] [1])
 (.seq (.seq (.reg [
 ⟨some 6, .load true 9 (.t 1), none⟩,
 ⟨some 7, .call (.c (.fn 157 [] [])) [(.t 6)], none⟩,
 ⟨some 8, .not (.t 7), none⟩] [1, 8])
 (.cond (.t 8) (.seq (.reg [
 ⟨some 2, .mv (.c (.int .i64 0)), none⟩,
 ⟨some 3, .mv (.c (.int .i64 1500)), none⟩] [2, 3])
 (.ret))
 (.skip) [1]))
 (.seq (.reg [
 ⟨some 10, .load true 9 (.t 1), none⟩,
 ⟨some 11, .call (.c (.fn 160 [] [])) [(.t 10)], none⟩,
 ⟨some 9, .mv (.t 11), none⟩,
 ⟨some 12, .extr (.t 9) 0, none⟩,
 ⟨some 13, .extr (.t 9) 1, none⟩,
 ⟨some 4, .mv (.t 12), none⟩,
 ⟨some 5, .mv (.t 13), none⟩] [1, 4])
 (.seq (.dreg [0, 1, 2, 3, 4, 5, 6, 7, 8, 9, 10, 11, 12, 13, 14, 15] [
 ⟨some 14, .fadr 0 (.t 1), none⟩,
 ⟨some 15, .load false 1 (.t 14), none⟩,
 ⟨some 16, .len true (.t 15), none⟩,
 ⟨some 17, .call (.c (.fn 161 [] [])) [(.t 16), (.c (.int .i64 1))], none⟩,
 ⟨some 18, .fadr 0 (.t 1), none⟩,
 ⟨some 19, .load false 1 (.t 18), none⟩,
 ⟨some 20, .bin .add (.t 17) (.t 19), none⟩,
 ⟨some 21, .mv (.t 4), none⟩,
 ⟨some 22, .bin .add (.t 20) (.t 21), none⟩,
 ⟨some 23, .fadr 8 (.t 1), none⟩,
 ⟨some 24, .load false 1 (.t 23), none⟩,
 ⟨some 25, .call (.c (.fn 161 [] [])) [(.t 24), (.c (.int .i64 4))], none⟩,
 ⟨some 26, .bin .add (.t 22) (.t 25), none⟩,
 ⟨some 27, .call (.c (.fn 101 [] [])) [(.t 26)], none⟩,
 ⟨some 2, .mv (.t 27), none⟩,
 ⟨some 3, .mv (.c (.int .i64 0)), none⟩] [(5, [0, 2]), (10, [0])] [2, 3])
 (.ret))))) }
def f152L0 : ACode :=
 (.seq (.seq (.reg [
 ⟨some 6, .mv (.t 5), none⟩,
 ⟨some 7, .mv (.t 0), none⟩,
 ⟨some 8, .len false (.t 7), none⟩,
 ⟨some 9, .bin .lss (.t 6) (.t 8), none⟩] [0, 4, 5, 9])
 (.cond (.t 9) (.skip)
 (.exit 0) [0, 4, 5]))
 (.seq (.block 1 (.seq (.seq (.reg [
 ⟨some 12, .mv (.t 0), none⟩,
 ⟨some 13, .mv (.t 5), none⟩,
 ⟨some 14, .iadr 1 (.t 12) (.t 13), none⟩,
 ⟨some 15, .load false 1 (.t 14), none⟩,
 ⟨some 16, .call (.c (.fn 162 [] [])) [(.t 15)], none⟩,
 ⟨some 17, .not (.t 16), none⟩] [0, 4, 5, 17])
 (.cond (.t 17) (.seq (.reg [
 ⟨some 2, .mv (.c (.int .i64 0)), none⟩,
 ⟨some 3, .mv (.c (.int .i64 1500)), none⟩] [2, 3])
 (.ret))
 (.skip) [0, 4, 5]))
 (.reg [
 ⟨some 18, .mv (.t 4), none⟩,
 ⟨some 19, .mv (.t 0), none⟩,
 ⟨some 20, .mv (.t 5), none⟩,
 ⟨some 21, .iadr 1 (.t 19) (.t 20), none⟩,
 ⟨some 22, .load false 1 (.t 21), none⟩,
 ⟨some 23, .call (.c (.fn 161 [] [])) [(.t 22), (.c (.int .i64 4))], none⟩,
 ⟨some 24, .bin .add (.t 18) (.t 23), none⟩,
 ⟨some 4, .mv (.t 24), none⟩] [0, 4, 5])) [0, 4, 5])
 (.reg [
 ⟨some 10, .mv (.t 5), none⟩,
 ⟨some 11, .bin .add (.t 10) (.c (.int .i64 1)), none⟩,
 ⟨some 5, .mv (.t 11), none⟩] [0, 4, 5])))
def f152 : AFunc := { np := 1, res := [.tmp 2, .tmp 3], pure := true, body :=
 (.seq (.reg [
 ⟨some 2, .mv (.c (.int .i64 0)), none⟩,
 ⟨some 3, .mv (.c (.int .i64 0)), none⟩] [0])
 (.seq (.reg [
 ⟨some 4, .mv (.c (.str ⟨#[]⟩)), none⟩] [0, 4])
 (.seq (.seq (.reg [
 ⟨some 5, .mv (.c (.int .i64 0)), none⟩] [0, 4, 5])
 (.block 0 (.loop [0, 4, 5] f152L0) [4]))
 (.seq (.reg [
 ⟨some 25, .mv (.t 4), none⟩,
 ⟨some 26, .call (.c (.fn 101 [] [])) [(.t 25)], none⟩,
 ⟨some 2, .mv (.t 26), none⟩,
 ⟨some 3, .mv (.c (.int .i64 0)), none⟩] [2, 3])
 (.ret))))) }
def f153 : AFunc := { np := 2, res := [.tmp 4], pure := false, body :=
 (.seq (.reg [
 ⟨some 4, .mv (.c (.bool false)), none⟩] [0, 1])
 (.seq (.reg [
 ⟨some 6, .mv (.t 0), none⟩,
 ⟨some 7, .mv (.t 0), none⟩,
 ⟨some 8, .len false (.t 7), none⟩,
 ⟨some 9, .bin .add (.t 8) (.c (.int .i64 2)), none⟩,
 ⟨some 10, .sl 1 (.t 6) none (some (.t 9)) none, none⟩,
 ⟨some 5, .mv (.t 10), none⟩] [0, 1, 5])
 (.seq (.reg [
 ⟨some 11, .mv (.t 0), none⟩,
 ⟨some 12, .mv (.t 1), none⟩,
 ⟨some 13, .call (.c (.fn 106 [] [])) [(.t 11), (.t 12)], none⟩,
 ⟨some 14, .mv (.t 13), none⟩,
 ⟨some 15, .mv (.t 5), (some (14, true))⟩,
 ⟨some 16, .mv (.t 1), (some (14, true))⟩,
 ⟨some 17, .len false (.t 16), (some (14, true))⟩,
 ⟨some 18, .iadr 1 (.t 15) (.t 17), (some (14, true))⟩,
 ⟨some 19, .load false 1 (.t 18), (some (14, true))⟩,
 ⟨some 20, .bin .eql (.t 19) (.c (.int .i64 (-7777))), (some (14, true))⟩,
 ⟨some 21, .pick (.t 14) (.t 20) (.c (.bool false)), none⟩,
 ⟨some 22, .mv (.t 21), none⟩,
 ⟨some 23, .mv (.t 5), (some (22, true))⟩,
 ⟨some 24, .mv (.t 1), (some (22, true))⟩,
 ⟨some 25, .len false (.t 24), (some (22, true))⟩,
 ⟨some 26, .bin .add (.t 25) (.c (.int .i64 1)), (some (22, true))⟩,
 ⟨some 27, .iadr 1 (.t 23) (.t 26), (some (22, true))⟩,
 ⟨some 28, .load false 1 (.t 27), (some (22, true))⟩,
 ⟨some 29, .bin .eql (.t 28) (.c (.int .i64 (-8888))), (some (22, true))⟩,
 ⟨some 30, .pick (.t 22) (.t 29) (.c (.bool false)), none⟩,
 ⟨some 4, .mv (.t 30), none⟩] [4])
 (.ret)))) }
def f157 : AFunc := { np := 1, res := [.tmp 2], pure := true, body :=
 (.seq (.reg [
 ⟨some 1, .box 9 (.t 0), none⟩,
 ⟨some 2, .mv (.c (.bool false)), none⟩] [1])
 (.seq (.seq (.reg [
 ⟨some 5, .load true 9 (.t 1), none⟩,
 ⟨some 6, .call (.c (.fn 167 [] [])) [(.t 5)], none⟩,
 ⟨some 7, .not (.t 6), none⟩] [1, 7])
 (.cond (.t 7) (.seq (.reg [
 ⟨some 2, .mv (.c (.bool false)), none⟩] [2])
 (.ret))
 (.skip) [1]))
 (.seq (.seq (.reg [
 ⟨some 8, .fadr 1 (.t 1), none⟩,
 ⟨some 9, .load false 1 (.t 8), none⟩] [1, 9])
 (.cond (.t 9) (.seq (.reg [
 ⟨some 2, .mv (.c (.bool true)), none⟩] [2])
 (.ret))
 (.skip) [1]))
 (.seq (.reg [
 ⟨some 11, .fadr 5 (.t 1), none⟩,
 ⟨some 12, .load false 1 (.t 11), none⟩,
 ⟨some 13, .fadr 6 (.t 1), none⟩,
 ⟨some 14, .load false 1 (.t 13), none⟩,
 ⟨some 15, .fadr 7 (.t 1), none⟩,
 ⟨some 16, .load false 1 (.t 15), none⟩,
 ⟨some 17, .call (.c (.fn 164 [] [])) [(.t 12), (.t 14), (.t 16)], none⟩,
 ⟨some 10, .mv (.t 17), none⟩,
 ⟨some 18, .extr (.t 10) 0, none⟩,
 ⟨some 19, .extr (.t 10) 1, none⟩,
 ⟨some 3, .mv (.t 18), none⟩,
 ⟨some 4, .mv (.t 19), none⟩] [1, 3, 4])
 (.seq (.dreg [0, 1, 2, 3, 4, 5, 6, 7, 8, 9] [
 ⟨some 20, .mv (.t 4), none⟩,
 ⟨some 21, .bin .eql (.t 20) (.c (.int .i64 0)), none⟩,
 ⟨some 22, .mv (.t 21), none⟩,
 ⟨some 23, .mv (.t 3), (some (22, true))⟩,
 ⟨some 24, .call (.c (.fn 101 [] [])) [(.t 23)], (some (22, true))⟩,
 ⟨some 25, .fadr 8 (.t 1), (some (22, true))⟩,
 ⟨some 26, .load false 1 (.t 25), (some (22, true))⟩,
 ⟨some 27, .bin .eql (.t 24) (.t 26), (some (22, true))⟩,
 ⟨some 28, .pick (.t 22) (.t 27) (.c (.bool false)), none⟩,
 ⟨some 2, .mv (.t 28), none⟩] [(6, [0])] [2])
 (.ret)))))) }
def f159 : AFunc := { np := 1, res := [.tmp 2], pure := false, body :=
 (.seq (.reg [
 ⟨some 2, .mv (.c (.nils)), none⟩] [0])
 (.seq (.reg [
 ⟨some 3, .bslice 1 0 [.int .i64 0] [], none⟩,
 ⟨some 4, .mv (.t 0), none⟩,
 ⟨some 5, .app 1 8 (.t 3) (.t 4), none⟩,
 ⟨some 2, .mv (.t 5), none⟩] [2])
 (.ret))) }
def f160L0 : ACode :=
 (.seq (.seq (.reg [
 ⟨some 13, .mv (.t 5), none⟩,
 ⟨some 14, .fadr 2 (.t 1), none⟩,
 ⟨some 15, .load false 1 (.t 14), none⟩,
 ⟨some 16, .len false (.t 15), none⟩,
 ⟨some 17, .bin .lss (.t 13) (.t 16), none⟩] [1, 4, 5, 17])
 (.cond (.t 17) (.skip)
 (.exit 0) [1, 4, 5]))
 (.seq (.block 1 (.reg [
 ⟨some 20, .mv (.t 4), none⟩,
 ⟨some 21, .fadr 2 (.t 1), none⟩,
 ⟨some 22, .load false 1 (.t 21), none⟩,
 ⟨some 23, .mv (.t 5), none⟩,
 ⟨some 24, .iadr 1 (.t 22) (.t 23), none⟩,
 ⟨some 25, .load false 1 (.t 24), none⟩,
 ⟨some 26, .call (.c (.fn 161 [] [])) [(.t 25), (.c (.int .i64 4))], none⟩,
 ⟨some 27, .bin .add (.t 20) (.t 26), none⟩,
 ⟨some 4, .mv (.t 27), none⟩] [1, 4, 5]) [1, 4, 5])
 (.reg [
 ⟨some 18, .mv (.t 5), none⟩,
 ⟨some 19, .bin .add (.t 18) (.c (.int .i64 1)), none⟩,
 ⟨some 5, .mv (.t 19), none⟩] [1, 4, 5])))
def f160 : AFunc := { np := 1, res := [.tmp 2, .tmp 3], pure := true, body :=
 (.seq (.reg [
 ⟨some 1, .box 9 (.t 0), none⟩,
 ⟨some 2, .mv (.c (.str ⟨#[]⟩)), none⟩,
 ⟨some 3, .mv (.c (.int .i64 0)), none⟩] [1])
 (.seq (.seq (.reg [
 ⟨some 7, .load true 9 (.t 1), none⟩,
 ⟨some 8, .call (.c (.fn 169 [] [])) [(.t 7)], none⟩,
 ⟨some 9, .not (.t 8), none⟩] [1, 9])
 (.cond (.t 9) (.seq (.reg [
 ⟨some 2, .mv (.c (.str ⟨#[]⟩)), none⟩,
 ⟨some 3, .mv (.c (.int .i64 1200)), none⟩] [2, 3])
 (.ret))
 (.skip) [1]))
 (.seq (.reg [
 ⟨some 10, .call (.c (.fn 161 [] [])) [(.c (.int .i64 20592)), (.c (.int .i64 2))], none⟩,
 ⟨some 11, .call (.c (.fn 161 [] [])) [(.c (.int .i64 22)), (.c (.int .i64 2))], none⟩,
 ⟨some 12, .bin .add (.t 10) (.t 11), none⟩,
 ⟨some 4, .mv (.t 12), none⟩] [1, 4])
 (.seq (.seq (.reg [
 ⟨some 5, .mv (.c (.int .i64 0)), none⟩] [1, 4, 5])
 (.block 0 (.loop [1, 4, 5] f160L0) [1, 4]))
 (.seq (.reg [
 ⟨some 6, .mv (.c (.int .i64 0)), none⟩] [1, 4, 6])
 (.seq (.seq (.reg [
 ⟨some 28, .fadr 1 (.t 1), none⟩,
 ⟨some 29, .load false 1 (.t 28), none⟩] [1, 4, 6, 29])
 (.cond (.t 29) (.reg [
 ⟨some 6, .mv (.c (.int .i64 1)), none⟩] [1, 4, 6])
 (.skip) [1, 4, 6]))
 (.seq (.dreg [0, 1, 2, 3, 4, 5, 6, 7, 8, 9, 10, 11, 12, 13] [
 ⟨some 30, .mv (.t 4), none⟩,
 ⟨some 31, .fadr 3 (.t 1), none⟩,
 ⟨some 32, .load false 1 (.t 31), none⟩,
 ⟨some 33, .call (.c (.fn 161 [] [])) [(.t 32), (.c (.int .i64 4))], none⟩,
 ⟨some 34, .bin .add (.t 30) (.t 33), none⟩,
 ⟨some 35, .fadr 4 (.t 1), none⟩,
 ⟨some 36, .load false 1 (.t 35), none⟩,
 ⟨some 37, .call (.c (.fn 161 [] [])) [(.t 36), (.c (.int .i64 1))], none⟩,
 ⟨some 38, .bin .add (.t 34) (.t 37), none⟩,
 ⟨some 39, .mv (.t 6), none⟩,
 ⟨some 40, .call (.c (.fn 161 [] [])) [(.t 39), (.c (.int .i64 1))], none⟩,
 ⟨some 41, .bin .add (.t 38) (.t 40), none⟩,
 ⟨some 2, .mv (.t 41), none⟩,
 ⟨some 3, .mv (.c (.int .i64 0)), none⟩] [(6, [0])] [2, 3])
 (.ret)))))))) }
def f161L0 : ACode :=
 (.seq (.seq (.reg [
 ⟨some 7, .mv (.t 6), none⟩,
 ⟨some 8, .mv (.t 1), none⟩,
 ⟨some 9, .bin .lss (.t 7) (.t 8), none⟩] [0, 1, 5, 6, 9])
 (.cond (.t 9) (.skip)
 (.exit 0) [0, 1, 5, 6]))
 (.seq (.block 1 (.reg [
 ⟨some 12, .mv (.t 5), none⟩,
 ⟨some 13, .mv (.t 0), none⟩,
 ⟨some 14, .mv (.t 6), none⟩,
 ⟨some 15, .bin .mul (.c (.int .i64 8)) (.t 14), none⟩,
 ⟨some 16, .bin .shr (.t 13) (.t 15), none⟩,
 ⟨some 17, .conv .u8 (.t 16), none⟩,
 ⟨some 18, .bslice 1 1 [.int .u8 0] [(0, (.t 17))], none⟩,
 ⟨some 19, .app 1 1 (.t 12) (.t 18), none⟩,
 ⟨some 5, .mv (.t 19), none⟩] [0, 1, 5, 6]) [0, 1, 5, 6])
 (.reg [
 ⟨some 10, .mv (.t 6), none⟩,
 ⟨some 11, .bin .add (.t 10) (.c (.int .i64 1)), none⟩,
 ⟨some 6, .mv (.t 11), none⟩] [0, 1, 5, 6])))
def f161 : AFunc := { np := 2, res := [.tmp 4], pure := true, body :=
 (.seq (.reg [
 ⟨some 4, .mv (.c (.str ⟨#[]⟩)), none⟩] [0, 1])
 (.seq (.reg [
 ⟨some 5, .mv (.c (.nils)), none⟩] [0, 1, 5])
 (.seq (.seq (.reg [
 ⟨some 6, .mv (.c (.int .i64 0)), none⟩] [0, 1, 5, 6])
 (.block 0 (.loop [0, 1, 5, 6] f161L0) [5]))
 (.seq (.reg [
 ⟨some 20, .mv (.t 5), none⟩,
 ⟨some 21, .b2s (.t 20), none⟩,
 ⟨some 4, .mv (.t 21), none⟩] [4])
 (.ret))))) }
def f162 : AFunc := { np := 1, res := [.tmp 2], pure := true, body :=
 (.seq (.reg [
 ⟨some 2, .mv (.c (.bool false)), none⟩] [0])
 (.seq (.reg [
 ⟨some 3, .mv (.t 0), none⟩,
 ⟨some 4, .bin .geq (.t 3) (.c (.int .i64 0)), none⟩,
 ⟨some 5, .mv (.t 4), none⟩,
 ⟨some 6, .mv (.t 0), (some (5, true))⟩,
 ⟨some 7, .bin .leq (.t 6) (.c (.int .i64 4294967295)), (some (5, true))⟩,
 ⟨some 8, .pick (.t 5) (.t 7) (.c (.bool false)), none⟩,
 ⟨some 2, .mv (.t 8), none⟩] [2])
 (.ret))) }
def f164 : AFunc := { np := 3, res := [.tmp 6, .tmp 7], pure := true, body :=
 (.seq (.reg [
 ⟨some 6, .mv (.c (.str ⟨#[]⟩)), none⟩,
 ⟨some 7, .mv (.c (.int .i64 0)), none⟩] [0, 1, 2])
 (.seq (.seq (.reg [
 ⟨some 11, .mv (.t 2), none⟩,
 ⟨some 12, .bin .lss (.t 11) (.c (.int .i64 0)), none⟩,
 ⟨some 13, .mv (.t 12), none⟩,
 ⟨some 14, .mv (.t 2), (some (13, false))⟩,
 ⟨some 15, .bin .gtr (.t 14) (.c (.int .i64 300)), (some (13, false))⟩,
 ⟨some 16, .pick (.t 13) (.c (.bool true)) (.t 15), none⟩] [0, 1, 2, 16])
 (.cond (.t 16) (.seq (.reg [
 ⟨some 6, .mv (.c (.str ⟨#[]⟩)), none⟩,
 ⟨some 7, .mv (.c (.int .i64 900)), none⟩] [6, 7])
 (.ret))
 (.skip) [0, 1, 2]))
 (.seq (.seq (.reg [
 ⟨some 17, .mv (.t 0), none⟩] [1, 2, 17])
 (.block 0 (.seq (.reg [
 ⟨some 19, .bin .eql (.t 17) (.c (.int .i64 0)), none⟩,
 ⟨some 18, .mv (.t 19), none⟩] [1, 2, 17, 18])
 (.cond (.t 18) (.seq (.reg [
 ⟨some 20, .mv (.t 1), none⟩,
 ⟨some 21, .len true (.t 20), none⟩,
 ⟨some 22, .mv (.t 2), none⟩,
 ⟨some 23, .bin .eql (.t 21) (.t 22), none⟩] [1, 23])
 (.cond (.t 23) (.seq (.reg [
 ⟨some 24, .mv (.t 1), none⟩,
 ⟨some 6, .mv (.t 24), none⟩,
 ⟨some 7, .mv (.c (.int .i64 0)), none⟩] [6, 7])
 (.ret))
 (.skip) []))
 (.seq (.reg [
 ⟨some 26, .bin .eql (.t 17) (.c (.int .i64 8)), none⟩,
 ⟨some 25, .mv (.t 26), none⟩] [1, 2, 25])
 (.cond (.t 25) (.seq (.reg [
 ⟨some 28, .mv (.t 1), none⟩,
 ⟨some 29, .mv (.t 2), none⟩,
 ⟨some 30, .call (.c (.fn 8 [] [])) [(.t 28), (.t 29)], none⟩,
 ⟨some 27, .mv (.t 30), none⟩,
 ⟨some 31, .extr (.t 27) 0, none⟩,
 ⟨some 32, .extr (.t 27) 1, none⟩,
 ⟨some 33, .extr (.t 27) 2, none⟩,
 ⟨some 8, .mv (.t 31), none⟩,
 ⟨some 9, .mv (.t 32), none⟩,
 ⟨some 10, .mv (.t 33), none⟩] [1, 2, 8, 9, 10])
 (.seq (.reg [
 ⟨some 34, .mv (.t 10), none⟩,
 ⟨some 35, .bin .eql (.t 34) (.c (.int .i64 0)), none⟩,
 ⟨some 36, .mv (.t 35), none⟩,
 ⟨some 37, .mv (.t 8), (some (36, true))⟩,
 ⟨some 38, .len true (.t 37), (some (36, true))⟩,
 ⟨some 39, .mv (.t 2), (some (36, true))⟩,
 ⟨some 40, .bin .eql (.t 38) (.t 39), (some (36, true))⟩,
 ⟨some 41, .pick (.t 36) (.t 40) (.c (.bool false)), none⟩,
 ⟨some 42, .mv (.t 41), none⟩,
 ⟨some 43, .mv (.t 9), (some (42, true))⟩,
 ⟨some 44, .mv (.t 1), (some (42, true))⟩,
 ⟨some 45, .len true (.t 44), (some (42, true))⟩,
 ⟨some 46, .bin .eql (.t 43) (.t 45), (some (42, true))⟩,
 ⟨some 47, .pick (.t 42) (.t 46) (.c (.bool false)), none⟩] [8, 47])
 (.cond (.t 47) (.seq (.reg [
 ⟨some 48, .mv (.t 8), none⟩,
 ⟨some 6, .mv (.t 48), none⟩,
 ⟨some 7, .mv (.c (.int .i64 0)), none⟩] [6, 7])
 (.ret))
 (.skip) [])))
 (.skip) [])) [])) []))
 (.seq (.reg [
 ⟨some 6, .mv (.c (.str ⟨#[]⟩)), none⟩,
 ⟨some 7, .mv (.c (.int .i64 900)), none⟩] [6, 7])
 (.ret))))) }
def f167 : AFunc := { np := 1, res := [.tmp 2], pure := true, body :=
 (.seq (.reg [
 ⟨some 1, .box 9 (.t 0), none⟩,
 ⟨some 2, .mv (.c (.bool false)), none⟩] [1])
 (.seq (.seq (.reg [
 ⟨some 3, .fadr 0 (.t 1), none⟩,
 ⟨some 4, .load false 1 (.t 3), none⟩,
 ⟨some 5, .call (.c (.fn 173 [] [])) [(.t 4)], none⟩,
 ⟨some 6, .not (.t 5), none⟩,
 ⟨some 7, .mv (.t 6), none⟩,
 ⟨some 8, .load true 9 (.t 1), (some (7, false))⟩,
 ⟨some 9, .call (.c (.fn 169 [] [])) [(.t 8)], (some (7, false))⟩,
 ⟨some 10, .not (.t 9), (some (7, false))⟩,
 ⟨some 11, .pick (.t 7) (.c (.bool true)) (.t 10), none⟩] [1, 11])
 (.cond (.t 11) (.seq (.reg [
 ⟨some 2, .mv (.c (.bool false)), none⟩] [2])
 (.ret))
 (.skip) [1]))
 (.seq (.seq (.reg [
 ⟨some 12, .fadr 1 (.t 1), none⟩,
 ⟨some 13, .load false 1 (.t 12), none⟩] [1, 13])
 (.cond (.t 13) (.seq (.reg [
 ⟨some 14, .fadr 5 (.t 1), none⟩,
 ⟨some 15, .load false 1 (.t 14), none⟩,
 ⟨some 16, .bin .eql (.t 15) (.c (.int .i64 0)), none⟩,
 ⟨some 17, .mv (.t 16), none⟩,
 ⟨some 18, .fadr 6 (.t 1), (some (17, true))⟩,
 ⟨some 19, .load false 1 (.t 18), (some (17, true))⟩,
 ⟨some 20, .bin .eql (.t 19) (.c (.str ⟨#[]⟩)), (some (17, true))⟩,
 ⟨some 21, .pick (.t 17) (.t 20) (.c (.bool false)), none⟩,
 ⟨some 22, .mv (.t 21), none⟩,
 ⟨some 23, .fadr 7 (.t 1), (some (22, true))⟩,
 ⟨some 24, .load false 1 (.t 23), (some (22, true))⟩,
 ⟨some 25, .bin .eql (.t 24) (.c (.int .i64 0)), (some (22, true))⟩,
 ⟨some 26, .pick (.t 22) (.t 25) (.c (.bool false)), none⟩,
 ⟨some 27, .mv (.t 26), none⟩,
 ⟨some 28, .fadr 8 (.t 1), (some (27, true))⟩,
 ⟨some 29, .load false 1 (.t 28), (some (27, true))⟩,
 ⟨some 30, .bin .eql (.t 29) (.c (.int .i64 0)), (some (27, true))⟩,
 ⟨some 31, .pick (.t 27) (.t 30) (.c (.bool false)), none⟩,
 ⟨some 2, .mv (.t 31), none⟩] [2])
 (.ret))
 (.skip) [1]))
 (.seq (.seq (.reg [
 ⟨some 32, .fadr 7 (.t 1), none⟩,
 ⟨some 33, .load false 1 (.t 32), none⟩,
 ⟨some 34, .bin .lss (.t 33) (.c (.int .i64 0)), none⟩,
 ⟨some 35, .mv (.t 34), none⟩,
 ⟨some 36, .fadr 7 (.t 1), (some (35, false))⟩,
 ⟨some 37, .load false 1 (.t 36), (some (35, false))⟩,
 ⟨some 38, .bin .gtr (.t 37) (.c (.int .i64 300)), (some (35, false))⟩,
 ⟨some 39, .pick (.t 35) (.c (.bool true)) (.t 38), none⟩,
 ⟨some 40, .mv (.t 39), none⟩,
 ⟨some 41, .fadr 8 (.t 1), (some (40, false))⟩,
 ⟨some 42, .load false 1 (.t 41), (some (40, false))⟩,
 ⟨some 43, .bin .lss (.t 42) (.c (.int .i64 0)), (some (40, false))⟩,
 ⟨some 44, .pick (.t 40) (.c (.bool true)) (.t 43), none⟩,
 ⟨some 45, .mv (.t 44), none⟩,
 ⟨some 46, .fadr 8 (.t 1), (some (45, false))⟩,
 ⟨some 47, .load false 1 (.t 46), (some (45, false))⟩,
 ⟨some 48, .bin .gtr (.t 47) (.c (.int .i64 4294967295)), (some (45, false))⟩,
 ⟨some 49, .pick (.t 45) (.c (.bool true)) (.t 48), none⟩] [1, 49])
 (.cond (.t 49) (.seq (.reg [
 ⟨some 2, .mv (.c (.bool false)), none⟩] [2])
 (.ret))
 (.skip) [1]))
 (.seq (.reg [
 ⟨some 50, .fadr 5 (.t 1), none⟩,
 ⟨some 51, .load false 1 (.t 50), none⟩,
 ⟨some 52, .bin .eql (.t 51) (.c (.int .i64 0)), none⟩,
 ⟨some 53, .mv (.t 52), none⟩,
 ⟨some 54, .fadr 6 (.t 1), (some (53, true))⟩,
 ⟨some 55, .load false 1 (.t 54), (some (53, true))⟩,
 ⟨some 56, .len true (.t 55), (some (53, true))⟩,
 ⟨some 57, .fadr 7 (.t 1), (some (53, true))⟩,
 ⟨some 58, .load false 1 (.t 57), (some (53, true))⟩,
 ⟨some 59, .bin .eql (.t 56) (.t 58), (some (53, true))⟩,
 ⟨some 60, .pick (.t 53) (.t 59) (.c (.bool false)), none⟩,
 ⟨some 61, .mv (.t 60), none⟩,
 ⟨some 62, .fadr 5 (.t 1), (some (61, false))⟩,
 ⟨some 63, .load false 1 (.t 62), (some (61, false))⟩,
 ⟨some 64, .bin .eql (.t 63) (.c (.int .i64 8)), (some (61, false))⟩,
 ⟨some 65, .mv (.t 64), (some (61, false))⟩,
 ⟨some 66, .fadr 6 (.t 1), (some (65, true))⟩,
 ⟨some 67, .load false 1 (.t 66), (some (65, true))⟩,
 ⟨some 68, .len true (.t 67), (some (65, true))⟩,
 ⟨some 69, .bin .leq (.t 68) (.c (.int .i64 300)), (some (65, true))⟩,
 ⟨some 70, .pick (.t 65) (.t 69) (.c (.bool false)), (some (61, false))⟩,
 ⟨some 71, .pick (.t 61) (.c (.bool true)) (.t 70), none⟩,
 ⟨some 2, .mv (.t 71), none⟩] [2])
 (.ret)))))) }
def f169 : AFunc := { np := 1, res := [.tmp 2], pure := true, body :=
 (.seq (.reg [
 ⟨some 1, .box 9 (.t 0), none⟩,
 ⟨some 2, .mv (.c (.bool false)), none⟩] [1])
 (.seq (.reg [
 ⟨some 3, .fadr 2 (.t 1), none⟩,
 ⟨some 4, .load false 1 (.t 3), none⟩,
 ⟨some 5, .call (.c (.fn 172 [] [])) [(.t 4)], none⟩,
 ⟨some 6, .mv (.t 5), none⟩,
 ⟨some 7, .fadr 3 (.t 1), (some (6, true))⟩,
 ⟨some 8, .load false 1 (.t 7), (some (6, true))⟩,
 ⟨some 9, .bin .geq (.t 8) (.c (.int .i64 1)), (some (6, true))⟩,
 ⟨some 10, .pick (.t 6) (.t 9) (.c (.bool false)), none⟩,
 ⟨some 11, .mv (.t 10), none⟩,
 ⟨some 12, .fadr 3 (.t 1), (some (11, true))⟩,
 ⟨some 13, .load false 1 (.t 12), (some (11, true))⟩,
 ⟨some 14, .bin .leq (.t 13) (.c (.int .i64 1048576)), (some (11, true))⟩,
 ⟨some 15, .pick (.t 11) (.t 14) (.c (.bool false)), none⟩,
 ⟨some 16, .mv (.t 15), none⟩,
 ⟨some 17, .fadr 4 (.t 1), (some (16, true))⟩,
 ⟨some 18, .load false 1 (.t 17), (some (16, true))⟩,
 ⟨some 19, .bin .geq (.t 18) (.c (.int .i64 0)), (some (16, true))⟩,
 ⟨some 20, .pick (.t 16) (.t 19) (.c (.bool false)), none⟩,
 ⟨some 21, .mv (.t 20), none⟩,
 ⟨some 22, .fadr 4 (.t 1), (some (21, true))⟩,
 ⟨some 23, .load false 1 (.t 22), (some (21, true))⟩,
 ⟨some 24, .bin .lss (.t 23) (.c (.int .i64 4)), (some (21, true))⟩,
 ⟨some 25, .pick (.t 21) (.t 24) (.c (.bool false)), none⟩,
 ⟨some 2, .mv (.t 25), none⟩] [2])
 (.ret))) }
def f172L0 : ACode :=
 (.seq (.seq (.reg [
 ⟨some 4, .mv (.t 3), none⟩,
 ⟨some 5, .mv (.t 0), none⟩,
 ⟨some 6, .len false (.t 5), none⟩,
 ⟨some 7, .bin .lss (.t 4) (.t 6), none⟩] [0, 3, 7])
 (.cond (.t 7) (.skip)
 (.exit 0) [0, 3]))
 (.seq (.block 1 (.seq (.reg [
 ⟨some 10, .mv (.t 0), none⟩,
 ⟨some 11, .mv (.t 3), none⟩,
 ⟨some 12, .iadr 1 (.t 10) (.t 11), none⟩,
 ⟨some 13, .load false 1 (.t 12), none⟩,
 ⟨some 14, .bin .lss (.t 13) (.c (.int .i64 0)), none⟩,
 ⟨some 15, .mv (.t 14), none⟩,
 ⟨some 16, .mv (.t 0), (some (15, false))⟩,
 ⟨some 17, .mv (.t 3), (some (15, false))⟩,
 ⟨some 18, .iadr 1 (.t 16) (.t 17), (some (15, false))⟩,
 ⟨some 19, .load false 1 (.t 18), (some (15, false))⟩,
 ⟨some 20, .bin .gtr (.t 19) (.c (.int .i64 1048576)), (some (15, false))⟩,
 ⟨some 21, .pick (.t 15) (.c (.bool true)) (.t 20), none⟩] [0, 3, 21])
 (.cond (.t 21) (.seq (.reg [
 ⟨some 2, .mv (.c (.bool false)), none⟩] [2])
 (.ret))
 (.skip) [0, 3])) [0, 3])
 (.reg [
 ⟨some 8, .mv (.t 3), none⟩,
 ⟨some 9, .bin .add (.t 8) (.c (.int .i64 1)), none⟩,
 ⟨some 3, .mv (.t 9), none⟩] [0, 3])))
def f172 : AFunc := { np := 1, res := [.tmp 2], pure := true, body :=
 (.seq (.reg [
 ⟨some 2, .mv (.c (.bool false)), none⟩] [0])
 (.seq (.seq (.reg [
 ⟨some 3, .mv (.c (.int .i64 0)), none⟩] [0, 3])
 (.block 0 (.loop [0, 3] f172L0) [0]))
 (.seq (.reg [
 ⟨some 22, .mv (.t 0), none⟩,
 ⟨some 23, .len false (.t 22), none⟩,
 ⟨some 24, .bin .eql (.t 23) (.c (.int .i64 4)), none⟩,
 ⟨some 2, .mv (.t 24), none⟩] [2])
 (.ret)))) }
def f173L0 : ACode :=
 (.seq (.seq (.reg [
 ⟨some 21, .mv (.t 3), none⟩,
 ⟨some 22, .mv (.t 0), none⟩,
 ⟨some 23, .len true (.t 22), none⟩,
 ⟨some 24, .bin .lss (.t 21) (.t 23), none⟩] [0, 3, 24])
 (.cond (.t 24) (.skip)
 (.exit 0) [0, 3]))
 (.seq (.block 1 (.seq (.reg [
 ⟨some 27, .mv (.t 0), none⟩,
 ⟨some 28, .mv (.t 3), none⟩,
 ⟨some 29, .idxs (.t 27) (.t 28), none⟩,
 ⟨some 4, .mv (.t 29), none⟩] [0, 3, 4])
 (.seq (.reg [
 ⟨some 30, .mv (.t 4), none⟩,
 ⟨some 31, .bin .lss (.t 30) (.c (.int .u8 97)), none⟩,
 ⟨some 32, .mv (.t 31), none⟩,
 ⟨some 33, .mv (.t 4), (some (32, false))⟩,
 ⟨some 34, .bin .gtr (.t 33) (.c (.int .u8 122)), (some (32, false))⟩,
 ⟨some 35, .pick (.t 32) (.c (.bool true)) (.t 34), none⟩,
 ⟨some 36, .mv (.t 35), none⟩,
 ⟨some 37, .mv (.t 4), (some (36, true))⟩,
 ⟨some 38, .bin .lss (.t 37) (.c (.int .u8 48)), (some (36, true))⟩,
 ⟨some 39, .mv (.t 38), (some (36, true))⟩,
 ⟨some 40, .mv (.t 4), (some (39, false))⟩,
 ⟨some 41, .bin .gtr (.t 40) (.c (.int .u8 57)), (some (39, false))⟩,
 ⟨some 42, .pick (.t 39) (.c (.bool true)) (.t 41), (some (36, true))⟩,
 ⟨some 43, .pick (.t 36) (.t 42) (.c (.bool false)), none⟩,
 ⟨some 44, .mv (.t 43), none⟩,
 ⟨some 45, .mv (.t 4), (some (44, true))⟩,
 ⟨some 46, .bin .neq (.t 45) (.c (.int .u8 46)), (some (44, true))⟩,
 ⟨some 47, .pick (.t 44) (.t 46) (.c (.bool false)), none⟩,
 ⟨some 48, .mv (.t 47), none⟩,
 ⟨some 49, .mv (.t 4), (some (48, true))⟩,
 ⟨some 50, .bin .neq (.t 49) (.c (.int .u8 45)), (some (48, true))⟩,
 ⟨some 51, .pick (.t 48) (.t 50) (.c (.bool false)), none⟩,
 ⟨some 52, .mv (.t 51), none⟩,
 ⟨some 53, .mv (.t 4), (some (52, true))⟩,
 ⟨some 54, .bin .neq (.t 53) (.c (.int .u8 95)), (some (52, true))⟩,
 ⟨some 55, .pick (.t 52) (.t 54) (.c (.bool false)), none⟩] [0, 3, 55])
 (.cond (.t 55) (.seq (.reg [
 ⟨some 2, .mv (.c (.bool false)), none⟩] [2])
 (.ret))
 (.skip) [0, 3]))) [0, 3])
 (.reg [
 ⟨some 25, .mv (.t 3), none⟩,
 ⟨some 26, .bin .add (.t 25) (.c (.int .i64 1)), none⟩,
 ⟨some 3, .mv (.t 26), none⟩] [0, 3])))
def f173 : AFunc := { np := 1, res := [.tmp 2], pure := true, body :=
 (.seq (.reg [
 ⟨some 2, .mv (.c (.bool false)), none⟩] [0])
 (.seq (.seq (.reg [
 ⟨some 5, .mv (.t 0), none⟩,
 ⟨some 6, .len true (.t 5), none⟩,
 ⟨some 7, .bin .lss (.t 6) (.c (.int .i64 1)), none⟩,
 ⟨some 8, .mv (.t 7), none⟩,
 ⟨some 9, .mv (.t 0), (some (8, false))⟩,
 ⟨some 10, .len true (.t 9), (some (8, false))⟩,
 ⟨some 11, .bin .gtr (.t 10) (.c (.int .i64 8)), (some (8, false))⟩,
 ⟨some 12, .pick (.t 8) (.c (.bool true)) (.t 11), none⟩,
 ⟨some 13, .mv (.t 12), none⟩,
 ⟨some 14, .mv (.t 0), (some (13, false))⟩,
 ⟨some 15, .bin .eql (.t 14) (.c (.str ⟨#[46]⟩)), (some (13, false))⟩,
 ⟨some 16, .pick (.t 13) (.c (.bool true)) (.t 15), none⟩,
 ⟨some 17, .mv (.t 16), none⟩,
 ⟨some 18, .mv (.t 0), (some (17, false))⟩,
 ⟨some 19, .bin .eql (.t 18) (.c (.str ⟨#[46, 46]⟩)), (some (17, false))⟩,
 ⟨some 20, .pick (.t 17) (.c (.bool true)) (.t 19), none⟩] [0, 20])
 (.cond (.t 20) (.seq (.reg [
 ⟨some 2, .mv (.c (.bool false)), none⟩] [2])
 (.ret))
 (.skip) [0]))
 (.seq (.seq (.reg [
 ⟨some 3, .mv (.c (.int .i64 0)), none⟩] [0, 3])
 (.block 0 (.loop [0, 3] f173L0) []))
 (.seq (.reg [
 ⟨some 2, .mv (.c (.bool true)), none⟩] [2])
 (.ret))))) }
def tab : List (Nat × AFunc) := [(7, f7), (8, f8), (9, f9), (14, f14), (15, f15), (16, f16), (17, f17), (18, f18), (19, f19), (20, f20), (21, f21), (22, f22), (23, f23), (24, f24), (25, f25), (32, f32), (38, f38), (39, f39), (40, f40), (41, f41), (42, f42), (43, f43), (44, f44), (45, f45), (46, f46), (47, f47), (48, f48), (49, f49), (50, f50), (51, f51), (52, f52), (53, f53), (54, f54), (58, f58), (59, f59), (60, f60), (61, f61), (62, f62), (63, f63), (64, f64), (65, f65), (66, f66), (67, f67), (68, f68), (72, f72), (73, f73), (74, f74), (75, f75), (76, f76), (77, f77), (78, f78), (79, f79), (80, f80), (81, f81), (82, f82), (83, f83), (84, f84), (90, f90), (91, f91), (92, f92), (93, f93), (94, f94), (96, f96), (98, f98), (101, f101), (102, f102), (103, f103), (104, f104), (105, f105), (106, f106), (107, f107), (111, f111), (112, f112), (113, f113), (114, f114), (115, f115), (117, f117), (119, f119), (120, f120), (121, f121), (122, f122), (123, f123), (124, f124), (125, f125), (126, f126), (127, f127), (128, f128), (129, f129), (130, f130), (131, f131), (132, f132), (133, f133), (134, f134), (135, f135), (138, f138), (139, f139), (140, f140), (141, f141), (145, f145), (150, f150), (151, f151), (152, f152), (153, f153), (157, f157), (159, f159), (160, f160), (161, f161), (162, f162), (164, f164), (167, f167), (169, f169), (172, f172), (173, f173)]
def find : List (Nat × AFunc) → Nat → Option AFunc
 | [], _ => none
 | (i, f) :: r, k => if i = k then some f else find r k
def A : AProg := find tab
end Ab.AP
