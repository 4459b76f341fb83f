/- Part AP. -/
import Derived.Test.YtolinppbhjljcaaA2
namespace Ab.AP
open Go Ab
def f6 : AFunc := { np := 1, res := [.tmp 2], pure := true, body :=
 (.seq (.reg [
 ⟨some 2, .mv (.c (.bool false)), none⟩] [0])
 (.seq (.seq (.reg [
 ⟨some 13, .call (.c (.fn 10 [] [])) [], none⟩,
 ⟨some 14, .not (.t 13), none⟩] [0, 14])
 (.cond (.t 14) (.seq (.reg [
 ⟨some 2, .mv (.c (.bool false)), none⟩] [2])
 (.ret))
 (.skip) [0]))
 (.seq (.reg [
 ⟨some 16, .mv (.t 0), none⟩,
 ⟨some 17, .call (.c (.fn 12 [] [])) [(.t 16)], none⟩,
 ⟨some 15, .mv (.t 17), none⟩,
 ⟨some 18, .extr (.t 15) 0, none⟩,
 ⟨some 19, .extr (.t 15) 1, none⟩,
 ⟨some 3, .mv (.t 18), none⟩,
 ⟨some 4, .mv (.t 19), none⟩] [0, 3, 4])
 (.seq (.reg [
 ⟨some 21, .mv (.t 3), none⟩,
 ⟨some 22, .call (.c (.fn 13 [] [])) [(.t 21)], none⟩,
 ⟨some 20, .mv (.t 22), none⟩,
 ⟨some 23, .extr (.t 20) 0, none⟩,
 ⟨some 24, .extr (.t 20) 1, none⟩,
 ⟨some 5, .mv (.t 23), none⟩,
 ⟨some 6, .mv (.t 24), none⟩] [0, 4, 5, 6])
 (.seq (.seq (.reg [
 ⟨some 25, .mv (.t 4), none⟩,
 ⟨some 26, .bin .neq (.t 25) (.c (.int .i64 0)), none⟩,
 ⟨some 27, .mv (.t 26), none⟩,
 ⟨some 28, .mv (.t 6), (some (27, false))⟩,
 ⟨some 29, .bin .neq (.t 28) (.c (.int .i64 0)), (some (27, false))⟩,
 ⟨some 30, .pick (.t 27) (.c (.bool true)) (.t 29), none⟩] [0, 5, 30])
 (.cond (.t 30) (.seq (.reg [
 ⟨some 31, .mv (.t 0), none⟩,
 ⟨some 32, .len true (.t 31), none⟩,
 ⟨some 33, .bin .gtr (.t 32) (.c (.int .i64 300)), none⟩,
 ⟨some 2, .mv (.t 33), none⟩] [2])
 (.ret))
 (.skip) [0, 5]))
 (.seq (.reg [
 ⟨some 35, .mv (.t 5), none⟩,
 ⟨some 36, .mv (.t 0), none⟩,
 ⟨some 37, .bin .add (.t 35) (.t 36), none⟩,
 ⟨some 38, .call (.c (.fn 7 [] [])) [(.t 37), (.c (.int .i64 8192))], none⟩,
 ⟨some 34, .mv (.t 38), none⟩,
 ⟨some 39, .extr (.t 34) 0, none⟩,
 ⟨some 40, .extr (.t 34) 1, none⟩,
 ⟨some 41, .extr (.t 34) 2, none⟩,
 ⟨some 7, .mv (.t 39), none⟩,
 ⟨some 8, .mv (.t 40), none⟩,
 ⟨some 9, .mv (.t 41), none⟩] [0, 5, 7, 8, 9])
 (.seq (.reg [
 ⟨some 43, .mv (.t 5), none⟩,
 ⟨some 44, .mv (.t 0), none⟩,
 ⟨some 45, .len true (.t 44), none⟩,
 ⟨some 46, .bin .sub (.t 45) (.c (.int .i64 1)), none⟩,
 ⟨some 47, .mx [(.t 46), (.c (.int .i64 0))], none⟩,
 ⟨some 48, .call (.c (.fn 7 [] [])) [(.t 43), (.t 47)], none⟩,
 ⟨some 42, .mv (.t 48), none⟩,
 ⟨some 49, .extr (.t 42) 0, none⟩,
 ⟨some 50, .extr (.t 42) 1, none⟩,
 ⟨some 51, .extr (.t 42) 2, none⟩,
 ⟨some 10, .mv (.t 49), none⟩,
 ⟨some 11, .mv (.t 50), none⟩,
 ⟨some 12, .mv (.t 51), none⟩] [0, 5, 7, 8, 9, 12])
 (.seq (.reg [
 ⟨some 52, .mv (.t 9), none⟩,
 ⟨some 53, .call (.c (.fn 9 [] [])) [(.t 52)], none⟩,
 ⟨some 54, .bin .eql (.t 53) (.c (.int .i64 0)), none⟩,
 ⟨some 55, .mv (.t 54), none⟩,
 ⟨some 56, .mv (.t 7), (some (55, true))⟩,
 ⟨some 57, .mv (.t 0), (some (55, true))⟩,
 ⟨some 58, .bin .eql (.t 56) (.t 57), (some (55, true))⟩,
 ⟨some 59, .pick (.t 55) (.t 58) (.c (.bool false)), none⟩,
 ⟨some 60, .mv (.t 59), none⟩,
 ⟨some 61, .mv (.t 8), (some (60, true))⟩,
 ⟨some 62, .mv (.t 5), (some (60, true))⟩,
 ⟨some 63, .len true (.t 62), (some (60, true))⟩,
 ⟨some 64, .bin .eql (.t 61) (.t 63), (some (60, true))⟩,
 ⟨some 65, .pick (.t 60) (.t 64) (.c (.bool false)), none⟩,
 ⟨some 66, .mv (.t 65), none⟩,
 ⟨some 67, .mv (.t 12), (some (66, true))⟩,
 ⟨some 68, .call (.c (.fn 9 [] [])) [(.t 67)], (some (66, true))⟩,
 ⟨some 69, .bin .eql (.t 68) (.c (.int .i64 0)), (some (66, true))⟩,
 ⟨some 70, .mv (.t 0), (some (66, true))⟩,
 ⟨some 71, .len true (.t 70), (some (66, true))⟩,
 ⟨some 72, .bin .eql (.t 71) (.c (.int .i64 0)), (some (66, true))⟩,
 ⟨some 73, .eqb false (.t 69) (.t 72), (some (66, true))⟩,
 ⟨some 74, .pick (.t 66) (.t 73) (.c (.bool false)), none⟩,
 ⟨some 2, .mv (.t 74), none⟩] [2])
 (.ret))))))))) }
def f7L0 : ACode :=
 (.seq (.seq (.reg [
 ⟨some 20, .mv (.t 8), none⟩,
 ⟨some 21, .not (.t 20), none⟩,
 ⟨some 22, .mv (.t 21), none⟩,
 ⟨some 23, .mv (.t 7), (some (22, true))⟩,
 ⟨some 24, .nilc (.t 23), (some (22, true))⟩,
 ⟨some 25, .fadr 3 (.t 24), (some (22, true))⟩,
 ⟨some 26, .load false 1 (.t 25), (some (22, true))⟩,
 ⟨some 27, .bin .eql (.t 26) (.c (.int .i64 0)), (some (22, true))⟩,
 ⟨some 28, .pick (.t 22) (.t 27) (.c (.bool false)), none⟩] [7, 28])
 (.cond (.t 28) (.skip)
 (.exit 0) [7]))
 (.block 1 (.reg [
 ⟨some 29, .mv (.t 7), none⟩,
 ⟨some 30, .call (.c (.fn 15 [] [])) [(.t 29)], none⟩,
 ⟨some 8, .mv (.t 30), none⟩] [7, 8]) [7, 8]))
def f7 : AFunc := { np := 2, res := [.tmp 4, .tmp 5, .tmp 6], pure := true, body :=
 (.seq (.reg [
 ⟨some 4, .mv (.c (.str ⟨#[]⟩)), none⟩,
 ⟨some 5, .mv (.c (.int .i64 0)), none⟩,
 ⟨some 6, .mv (.c (.int .i64 0)), none⟩] [0, 1])
 (.seq (.seq (.reg [
 ⟨some 9, .mv (.t 1), none⟩,
 ⟨some 10, .bin .lss (.t 9) (.c (.int .i64 0)), none⟩,
 ⟨some 11, .mv (.t 10), none⟩,
 ⟨some 12, .mv (.t 1), (some (11, false))⟩,
 ⟨some 13, .bin .gtr (.t 12) (.c (.int .i64 8192)), (some (11, false))⟩,
 ⟨some 14, .pick (.t 11) (.c (.bool true)) (.t 13), none⟩] [0, 1, 14])
 (.cond (.t 14) (.seq (.reg [
 ⟨some 4, .mv (.c (.str ⟨#[]⟩)), none⟩,
 ⟨some 5, .mv (.c (.int .i64 0)), none⟩,
 ⟨some 6, .mv (.c (.int .i64 700)), none⟩] [4, 5, 6])
 (.ret))
 (.skip) [0, 1]))
 (.seq (.reg [
 ⟨some 15, .mv (.t 0), none⟩,
 ⟨some 16, .call (.c (.fn 14 [] [])) [(.t 15)], none⟩,
 ⟨some 17, .mv (.t 1), none⟩,
 ⟨some 18, .build [.nilp, .nils, .int .i64 0, .int .i64 0] [(0, 1, (.t 16)), (2, 1, (.t 17))], none⟩,
 ⟨some 19, .box 4 (.t 18), none⟩,
 ⟨some 7, .mv (.t 19), none⟩] [7])
 (.seq (.seq (.reg [
 ⟨some 8, .mv (.c (.bool false)), none⟩] [7, 8])
 (.block 0 (.loop [7, 8] f7L0) [7]))
 (.seq (.seq (.reg [
 ⟨some 31, .mv (.t 7), none⟩,
 ⟨some 32, .nilc (.t 31), none⟩,
 ⟨some 33, .fadr 3 (.t 32), none⟩,
 ⟨some 34, .load false 1 (.t 33), none⟩,
 ⟨some 35, .bin .neq (.t 34) (.c (.int .i64 0)), none⟩] [7, 35])
 (.cond (.t 35) (.seq (.dreg [0, 1, 2, 3, 4, 5, 6] [
 ⟨some 36, .mv (.t 7), none⟩,
 ⟨some 37, .nilc (.t 36), none⟩,
 ⟨some 38, .fadr 3 (.t 37), none⟩,
 ⟨some 39, .load false 1 (.t 38), none⟩,
 ⟨some 4, .mv (.c (.str ⟨#[]⟩)), none⟩,
 ⟨some 5, .mv (.c (.int .i64 0)), none⟩,
 ⟨some 6, .mv (.t 39), none⟩] [] [4, 5, 6])
 (.ret))
 (.skip) [7]))
 (.seq (.reg [
 ⟨some 40, .mv (.t 7), none⟩,
 ⟨some 41, .nilc (.t 40), none⟩,
 ⟨some 42, .fadr 0 (.t 41), none⟩,
 ⟨some 43, .load false 1 (.t 42), none⟩,
 ⟨some 44, .call (.c (.fn 16 [] [])) [(.t 43)], none⟩] [7])
 (.seq (.dreg [0, 1, 2, 3, 4, 5, 6, 7, 8, 9, 10, 11, 12, 13] [
 ⟨some 45, .mv (.t 7), none⟩,
 ⟨some 46, .nilc (.t 45), none⟩,
 ⟨some 47, .fadr 1 (.t 46), none⟩,
 ⟨some 48, .load false 1 (.t 47), none⟩,
 ⟨some 49, .b2s (.t 48), none⟩,
 ⟨some 50, .mv (.t 7), none⟩,
 ⟨some 51, .nilc (.t 50), none⟩,
 ⟨some 52, .fadr 0 (.t 51), none⟩,
 ⟨some 53, .load false 1 (.t 52), none⟩,
 ⟨some 54, .call (.c (.fn 17 [] [])) [(.t 53)], none⟩,
 ⟨some 55, .bin .quo (.t 54) (.c (.int .i64 8)), none⟩,
 ⟨some 4, .mv (.t 49), none⟩,
 ⟨some 5, .mv (.t 55), none⟩,
 ⟨some 6, .mv (.c (.int .i64 0)), none⟩] [(3, [1]), (4, [1])] [4, 5, 6])
 (.ret)))))))) }
def f9 : AFunc := { np := 1, res := [.tmp 2], pure := true, body :=
 (.seq (.reg [
 ⟨some 2, .mv (.c (.int .i64 0)), none⟩] [0])
 (.seq (.reg [
 ⟨some 3, .mv (.t 0), none⟩,
 ⟨some 2, .mv (.t 3), none⟩] [2])
 (.ret))) }
def f10 : AFunc := { np := 0, res := [.tmp 0], pure := true, body :=
 (.seq (.reg [
 ⟨some 0, .mv (.c (.bool false)), none⟩] [])
 (.seq (.reg [
 ⟨some 17, .call (.c (.fn 7 [] [])) [(.c (.str ⟨#[1, 2, 0, 253, 255, 104, 105, 120]⟩)), (.c (.int .i64 9))], none⟩,
 ⟨some 16, .mv (.t 17), none⟩,
 ⟨some 18, .extr (.t 16) 0, none⟩,
 ⟨some 19, .extr (.t 16) 1, none⟩,
 ⟨some 20, .extr (.t 16) 2, none⟩,
 ⟨some 1, .mv (.t 18), none⟩,
 ⟨some 2, .mv (.t 19), none⟩,
 ⟨some 3, .mv (.t 20), none⟩] [1, 2, 3])
 (.seq (.reg [
 ⟨some 22, .call (.c (.fn 7 [] [])) [(.c (.str ⟨#[75, 76, 4, 0]⟩)), (.c (.int .i64 9))], none⟩,
 ⟨some 21, .mv (.t 22), none⟩,
 ⟨some 23, .extr (.t 21) 0, none⟩,
 ⟨some 24, .extr (.t 21) 1, none⟩,
 ⟨some 25, .extr (.t 21) 2, none⟩,
 ⟨some 4, .mv (.t 23), none⟩,
 ⟨some 5, .mv (.t 24), none⟩,
 ⟨some 6, .mv (.t 25), none⟩] [1, 2, 3, 4, 5, 6])
 (.seq (.reg [
 ⟨some 27, .call (.c (.fn 7 [] [])) [(.c (.str ⟨#[75, 76, 4, 0]⟩)), (.c (.int .i64 1))], none⟩,
 ⟨some 26, .mv (.t 27), none⟩,
 ⟨some 28, .extr (.t 26) 0, none⟩,
 ⟨some 29, .extr (.t 26) 1, none⟩,
 ⟨some 30, .extr (.t 26) 2, none⟩,
 ⟨some 7, .mv (.t 28), none⟩,
 ⟨some 8, .mv (.t 29), none⟩,
 ⟨some 9, .mv (.t 30), none⟩] [1, 2, 3, 4, 5, 6, 9])
 (.seq (.reg [
 ⟨some 32, .call (.c (.fn 7 [] [])) [(.c (.str ⟨#[7]⟩)), (.c (.int .i64 9))], none⟩,
 ⟨some 31, .mv (.t 32), none⟩,
 ⟨some 33, .extr (.t 31) 0, none⟩,
 ⟨some 34, .extr (.t 31) 1, none⟩,
 ⟨some 35, .extr (.t 31) 2, none⟩,
 ⟨some 10, .mv (.t 33), none⟩,
 ⟨some 11, .mv (.t 34), none⟩,
 ⟨some 12, .mv (.t 35), none⟩] [1, 2, 3, 4, 5, 6, 9, 12])
 (.seq (.reg [
 ⟨some 37, .call (.c (.fn 7 [] [])) [(.c (.str ⟨#[]⟩)), (.c (.int .i64 9))], none⟩,
 ⟨some 36, .mv (.t 37), none⟩,
 ⟨some 38, .extr (.t 36) 0, none⟩,
 ⟨some 39, .extr (.t 36) 1, none⟩,
 ⟨some 40, .extr (.t 36) 2, none⟩,
 ⟨some 13, .mv (.t 38), none⟩,
 ⟨some 14, .mv (.t 39), none⟩,
 ⟨some 15, .mv (.t 40), none⟩] [1, 2, 3, 4, 5, 6, 9, 12, 15])
 (.seq (.reg [
 ⟨some 41, .mv (.t 1), none⟩,
 ⟨some 42, .bin .eql (.t 41) (.c (.str ⟨#[104, 105]⟩)), none⟩,
 ⟨some 43, .mv (.t 42), none⟩,
 ⟨some 44, .mv (.t 2), (some (43, true))⟩,
 ⟨some 45, .bin .eql (.t 44) (.c (.int .i64 7)), (some (43, true))⟩,
 ⟨some 46, .pick (.t 43) (.t 45) (.c (.bool false)), none⟩,
 ⟨some 47, .mv (.t 46), none⟩,
 ⟨some 48, .mv (.t 3), (some (47, true))⟩,
 ⟨some 49, .call (.c (.fn 9 [] [])) [(.t 48)], (some (47, true))⟩,
 ⟨some 50, .bin .eql (.t 49) (.c (.int .i64 0)), (some (47, true))⟩,
 ⟨some 51, .pick (.t 47) (.t 50) (.c (.bool false)), none⟩,
 ⟨some 52, .mv (.t 51), none⟩,
 ⟨some 53, .mv (.t 4), (some (52, true))⟩,
 ⟨some 54, .bin .eql (.t 53) (.c (.str ⟨#[97, 97]⟩)), (some (52, true))⟩,
 ⟨some 55, .pick (.t 52) (.t 54) (.c (.bool false)), none⟩,
 ⟨some 56, .mv (.t 55), none⟩,
 ⟨some 57, .mv (.t 5), (some (56, true))⟩,
 ⟨some 58, .bin .eql (.t 57) (.c (.int .i64 4)), (some (56, true))⟩,
 ⟨some 59, .pick (.t 56) (.t 58) (.c (.bool false)), none⟩,
 ⟨some 60, .mv (.t 59), none⟩,
 ⟨some 61, .mv (.t 6), (some (60, true))⟩,
 ⟨some 62, .call (.c (.fn 9 [] [])) [(.t 61)], (some (60, true))⟩,
 ⟨some 63, .bin .eql (.t 62) (.c (.int .i64 0)), (some (60, true))⟩,
 ⟨some 64, .pick (.t 60) (.t 63) (.c (.bool false)), none⟩,
 ⟨some 65, .mv (.t 64), none⟩,
 ⟨some 66, .mv (.t 9), (some (65, true))⟩,
 ⟨some 67, .call (.c (.fn 9 [] [])) [(.t 66)], (some (65, true))⟩,
 ⟨some 68, .bin .eql (.t 67) (.c (.int .i64 701)), (some (65, true))⟩,
 ⟨some 69, .pick (.t 65) (.t 68) (.c (.bool false)), none⟩,
 ⟨some 70, .mv (.t 69), none⟩,
 ⟨some 71, .mv (.t 12), (some (70, true))⟩,
 ⟨some 72, .call (.c (.fn 9 [] [])) [(.t 71)], (some (70, true))⟩,
 ⟨some 73, .bin .eql (.t 72) (.c (.int .i64 700)), (some (70, true))⟩,
 ⟨some 74, .pick (.t 70) (.t 73) (.c (.bool false)), none⟩,
 ⟨some 75, .mv (.t 74), none⟩,
 ⟨some 76, .mv (.t 15), (some (75, true))⟩,
 ⟨some 77, .call (.c (.fn 9 [] [])) [(.t 76)], (some (75, true))⟩,
 ⟨some 78, .bin .eql (.t 77) (.c (.int .i64 700)), (some (75, true))⟩,
 ⟨some 79, .pick (.t 75) (.t 78) (.c (.bool false)), none⟩,
 ⟨some 0, .mv (.t 79), none⟩] [0])
 (.ret)))))))) }
def f12L0 : ACode :=
 (.seq (.seq (.reg [
 ⟨some 19, .mv (.t 8), none⟩,
 ⟨some 20, .bin .geq (.t 19) (.c (.int .i64 0)), none⟩] [0, 4, 5, 6, 7, 8, 20])
 (.cond (.t 20) (.skip)
 (.exit 2) [0, 4, 5, 6, 7, 8]))
 (.seq (.block 3 (.seq (.reg [
 ⟨some 23, .mv (.t 0), none⟩,
 ⟨some 24, .mv (.t 5), none⟩,
 ⟨some 25, .mv (.t 8), none⟩,
 ⟨some 26, .call (.c (.fn 26 [] [])) [(.t 23), (.t 24), (.t 25)], none⟩,
 ⟨some 9, .mv (.t 26), none⟩] [0, 4, 5, 6, 7, 8, 9])
 (.seq (.reg [
 ⟨some 27, .mv (.t 9), none⟩,
 ⟨some 28, .mv (.t 6), none⟩,
 ⟨some 29, .bin .gtr (.t 27) (.t 28), none⟩] [0, 4, 5, 6, 7, 8, 9, 29])
 (.cond (.t 29) (.seq (.reg [
 ⟨some 30, .mv (.t 9), none⟩,
 ⟨some 6, .mv (.t 30), none⟩] [0, 4, 5, 6, 8])
 (.reg [
 ⟨some 31, .mv (.t 5), none⟩,
 ⟨some 32, .mv (.t 8), none⟩,
 ⟨some 33, .bin .sub (.t 31) (.t 32), none⟩,
 ⟨some 7, .mv (.t 33), none⟩] [0, 4, 5, 6, 7, 8]))
 (.skip) [0, 4, 5, 6, 7, 8]))) [0, 4, 5, 6, 7, 8])
 (.reg [
 ⟨some 21, .mv (.t 8), none⟩,
 ⟨some 22, .bin .sub (.t 21) (.c (.int .i64 1)), none⟩,
 ⟨some 8, .mv (.t 22), none⟩] [0, 4, 5, 6, 7, 8])))
def f12L1 : ACode :=
 (.seq (.seq (.reg [
 ⟨some 13, .mv (.t 5), none⟩,
 ⟨some 14, .mv (.t 0), none⟩,
 ⟨some 15, .len true (.t 14), none⟩,
 ⟨some 16, .bin .lss (.t 13) (.t 15), none⟩] [0, 4, 5, 16])
 (.cond (.t 16) (.skip)
 (.exit 0) [0, 4, 5]))
 (.block 1 (.seq (.reg [
 ⟨some 6, .mv (.c (.int .i64 0)), none⟩,
 ⟨some 7, .mv (.c (.int .i64 0)), none⟩] [0, 4, 5, 6, 7])
 (.seq (.seq (.reg [
 ⟨some 17, .mv (.t 5), none⟩,
 ⟨some 18, .bin .sub (.t 17) (.c (.int .i64 1)), none⟩,
 ⟨some 8, .mv (.t 18), none⟩] [0, 4, 5, 6, 7, 8])
 (.block 2 (.loop [0, 4, 5, 6, 7, 8] f12L0) [0, 4, 5, 6, 7]))
 (.seq (.reg [
 ⟨some 34, .mv (.t 6), none⟩,
 ⟨some 35, .bin .lss (.t 34) (.c (.int .i64 3)), none⟩] [0, 4, 5, 6, 7, 35])
 (.cond (.t 35) (.seq (.reg [
 ⟨some 36, .mv (.t 4), none⟩,
 ⟨some 37, .mv (.t 0), none⟩,
 ⟨some 38, .mv (.t 5), none⟩,
 ⟨some 39, .idxs (.t 37) (.t 38), none⟩,
 ⟨some 40, .conv .i64 (.t 39), none⟩,
 ⟨some 41, .build [.int .i64 0, .int .i64 0, .int .i64 0] [(0, 1, (.t 40))], none⟩,
 ⟨some 42, .bslice 3 1 [.int .i64 0, .int .i64 0, .int .i64 0] [(0, (.t 41))], none⟩,
 ⟨some 43, .app 3 24 (.t 36) (.t 42), none⟩,
 ⟨some 4, .mv (.t 43), none⟩] [0, 4, 5])
 (.reg [
 ⟨some 44, .mv (.t 5), none⟩,
 ⟨some 45, .bin .add (.t 44) (.c (.int .i64 1)), none⟩,
 ⟨some 5, .mv (.t 45), none⟩] [0, 4, 5]))
 (.seq (.reg [
 ⟨some 46, .mv (.t 4), none⟩,
 ⟨some 47, .mv (.t 6), none⟩,
 ⟨some 48, .mv (.t 7), none⟩,
 ⟨some 49, .build [.int .i64 0, .int .i64 0, .int .i64 0] [(1, 1, (.t 47)), (2, 1, (.t 48))], none⟩,
 ⟨some 50, .bslice 3 1 [.int .i64 0, .int .i64 0, .int .i64 0] [(0, (.t 49))], none⟩,
 ⟨some 51, .app 3 24 (.t 46) (.t 50), none⟩,
 ⟨some 4, .mv (.t 51), none⟩] [0, 4, 5, 6])
 (.reg [
 ⟨some 52, .mv (.t 5), none⟩,
 ⟨some 53, .mv (.t 6), none⟩,
 ⟨some 54, .bin .add (.t 52) (.t 53), none⟩,
 ⟨some 5, .mv (.t 54), none⟩] [0, 4, 5])) [0, 4, 5])))) [0, 4, 5]))
def f12 : AFunc := { np := 1, res := [.tmp 2, .tmp 3], pure := true, body :=
 (.seq (.reg [
 ⟨some 2, .mv (.c (.nils)), none⟩,
 ⟨some 3, .mv (.c (.int .i64 0)), none⟩] [0])
 (.seq (.seq (.reg [
 ⟨some 10, .mv (.t 0), none⟩,
 ⟨some 11, .len true (.t 10), none⟩,
 ⟨some 12, .bin .gtr (.t 11) (.c (.int .i64 300)), none⟩] [0, 12])
 (.cond (.t 12) (.seq (.reg [
 ⟨some 2, .mv (.c (.nils)), none⟩,
 ⟨some 3, .mv (.c (.int .i64 500)), none⟩] [2, 3])
 (.ret))
 (.skip) [0]))
 (.seq (.reg [
 ⟨some 4, .mv (.c (.nils)), none⟩] [0, 4])
 (.seq (.seq (.reg [
 ⟨some 5, .mv (.c (.int .i64 0)), none⟩] [0, 4, 5])
 (.block 0 (.loop [0, 4, 5] f12L1) [4]))
 (.seq (.reg [
 ⟨some 55, .mv (.t 4), none⟩,
 ⟨some 2, .mv (.t 55), none⟩,
 ⟨some 3, .mv (.c (.int .i64 0)), none⟩] [2, 3])
 (.ret)))))) }
def f13L0 : ACode :=
 (.seq (.seq (.reg [
 ⟨some 191, .mv (.t 28), none⟩,
 ⟨some 192, .mv (.t 15), none⟩,
 ⟨some 193, .len false (.t 192), none⟩,
 ⟨some 194, .bin .lss (.t 191) (.t 193), none⟩] [0, 11, 13, 15, 24, 26, 28, 194])
 (.cond (.t 194) (.skip)
 (.exit 8) [0, 11, 13, 15, 24, 26, 28]))
 (.seq (.block 9 (.reg [
 ⟨some 197, .mv (.t 24), none⟩,
 ⟨some 198, .mv (.t 26), none⟩,
 ⟨some 199, .mv (.t 15), none⟩,
 ⟨some 200, .mv (.t 28), none⟩,
 ⟨some 201, .iadr 1 (.t 199) (.t 200), none⟩,
 ⟨some 202, .load false 1 (.t 201), none⟩,
 ⟨some 203, .iadr 2 (.t 198) (.t 202), none⟩,
 ⟨some 204, .load true 2 (.t 203), none⟩,
 ⟨some 205, .call (.c (.fn 35 [] [])) [(.t 197), (.t 204)], none⟩] [0, 11, 13, 15, 24, 26, 28]) [0, 11, 13, 15, 24, 26, 28])
 (.reg [
 ⟨some 195, .mv (.t 28), none⟩,
 ⟨some 196, .bin .add (.t 195) (.c (.int .i64 1)), none⟩,
 ⟨some 28, .mv (.t 196), none⟩] [0, 11, 13, 15, 24, 26, 28])))
def f13L1 : ACode :=
 (.seq (.seq (.reg [
 ⟨some 175, .mv (.t 25), none⟩,
 ⟨some 176, .mv (.t 23), none⟩,
 ⟨some 177, .bin .lss (.t 175) (.t 176), none⟩] [0, 11, 13, 15, 18, 21, 23, 24, 25, 177])
 (.cond (.t 177) (.skip)
 (.exit 6) [0, 11, 13, 15, 18, 21, 23, 24, 25]))
 (.seq (.block 7 (.reg [
 ⟨some 180, .mv (.t 24), none⟩,
 ⟨some 181, .mv (.t 21), none⟩,
 ⟨some 182, .mv (.t 25), none⟩,
 ⟨some 183, .iadr 1 (.t 181) (.t 182), none⟩,
 ⟨some 184, .load false 1 (.t 183), none⟩,
 ⟨some 185, .call (.c (.fn 33 [] [])) [(.t 180), (.t 184), (.c (.int .i64 3))], none⟩] [0, 11, 13, 15, 18, 21, 23, 24, 25]) [0, 11, 13, 15, 18, 21, 23, 24, 25])
 (.reg [
 ⟨some 178, .mv (.t 25), none⟩,
 ⟨some 179, .bin .add (.t 178) (.c (.int .i64 1)), none⟩,
 ⟨some 25, .mv (.t 179), none⟩] [0, 11, 13, 15, 18, 21, 23, 24, 25])))
def f13L2 : ACode :=
 (.seq (.seq (.reg [
 ⟨some 141, .mv (.t 22), none⟩,
 ⟨some 142, .bin .lss (.t 141) (.c (.int .i64 19)), none⟩] [0, 11, 13, 15, 18, 20, 21, 22, 142])
 (.cond (.t 142) (.skip)
 (.exit 4) [0, 11, 13, 15, 18, 20, 21, 22]))
 (.seq (.block 5 (.reg [
 ⟨some 145, .mv (.t 21), none⟩,
 ⟨some 146, .mv (.t 22), none⟩,
 ⟨some 147, .mv (.t 18), none⟩,
 ⟨some 148, .mv (.t 20), none⟩,
 ⟨some 149, .mv (.t 22), none⟩,
 ⟨some 150, .iadr 1 (.t 148) (.t 149), none⟩,
 ⟨some 151, .load false 1 (.t 150), none⟩,
 ⟨some 152, .iadr 1 (.t 147) (.t 151), none⟩,
 ⟨some 153, .load false 1 (.t 152), none⟩,
 ⟨some 154, .iadr 1 (.t 145) (.t 146), none⟩,
 ⟨none, .store 1 (.t 154) (.t 153), none⟩] [0, 11, 13, 15, 18, 20, 21, 22]) [0, 11, 13, 15, 18, 20, 21, 22])
 (.reg [
 ⟨some 143, .mv (.t 22), none⟩,
 ⟨some 144, .bin .add (.t 143) (.c (.int .i64 1)), none⟩,
 ⟨some 22, .mv (.t 144), none⟩] [0, 11, 13, 15, 18, 20, 21, 22])))
def f13L3 : ACode :=
 (.seq (.seq (.reg [
 ⟨some 119, .mv (.t 17), none⟩,
 ⟨some 120, .mv (.t 15), none⟩,
 ⟨some 121, .len false (.t 120), none⟩,
 ⟨some 122, .bin .lss (.t 119) (.t 121), none⟩] [0, 11, 13, 15, 16, 17, 122])
 (.cond (.t 122) (.skip)
 (.exit 2) [0, 11, 13, 15, 16, 17]))
 (.seq (.block 3 (.reg [
 ⟨some 125, .mv (.t 16), none⟩,
 ⟨some 126, .mv (.t 15), none⟩,
 ⟨some 127, .mv (.t 17), none⟩,
 ⟨some 128, .iadr 1 (.t 126) (.t 127), none⟩,
 ⟨some 129, .load false 1 (.t 128), none⟩,
 ⟨some 130, .iadr 1 (.t 125) (.t 129), none⟩,
 ⟨some 131, .load false 1 (.t 130), none⟩,
 ⟨some 132, .bin .add (.t 131) (.c (.int .i64 1)), none⟩,
 ⟨some 133, .iadr 1 (.t 125) (.t 129), none⟩,
 ⟨none, .store 1 (.t 133) (.t 132), none⟩] [0, 11, 13, 15, 16, 17]) [0, 11, 13, 15, 16, 17])
 (.reg [
 ⟨some 123, .mv (.t 17), none⟩,
 ⟨some 124, .bin .add (.t 123) (.c (.int .i64 1)), none⟩,
 ⟨some 17, .mv (.t 124), none⟩] [0, 11, 13, 15, 16, 17])))
def f13L4 : ACode :=
 (.seq (.seq (.reg [
 ⟨some 40, .mv (.t 6), none⟩,
 ⟨some 41, .mv (.t 0), none⟩,
 ⟨some 42, .len false (.t 41), none⟩,
 ⟨some 43, .bin .lss (.t 40) (.t 42), none⟩] [0, 4, 5, 6, 43])
 (.cond (.t 43) (.skip)
 (.exit 0) [0, 4, 5, 6]))
 (.seq (.block 1 (.seq (.seq (.reg [
 ⟨some 46, .mv (.t 0), none⟩,
 ⟨some 47, .mv (.t 6), none⟩,
 ⟨some 48, .iadr 3 (.t 46) (.t 47), none⟩,
 ⟨some 49, .fadr 1 (.t 48), none⟩,
 ⟨some 50, .load false 1 (.t 49), none⟩,
 ⟨some 51, .bin .eql (.t 50) (.c (.int .i64 0)), none⟩] [0, 4, 5, 6, 51])
 (.cond (.t 51) (.seq (.reg [
 ⟨some 52, .mv (.t 4), none⟩,
 ⟨some 53, .mv (.t 0), none⟩,
 ⟨some 54, .mv (.t 6), none⟩,
 ⟨some 55, .iadr 3 (.t 53) (.t 54), none⟩,
 ⟨some 56, .fadr 0 (.t 55), none⟩,
 ⟨some 57, .load false 1 (.t 56), none⟩,
 ⟨some 58, .iadr 1 (.t 52) (.t 57), none⟩,
 ⟨some 59, .load false 1 (.t 58), none⟩,
 ⟨some 60, .bin .add (.t 59) (.c (.int .i64 1)), none⟩,
 ⟨some 61, .iadr 1 (.t 52) (.t 57), none⟩,
 ⟨none, .store 1 (.t 61) (.t 60), none⟩] [0, 4, 5, 6])
 (.exit 1))
 (.skip) [0, 4, 5, 6]))
 (.seq (.reg [
 ⟨some 63, .mv (.t 0), none⟩,
 ⟨some 64, .mv (.t 6), none⟩,
 ⟨some 65, .iadr 3 (.t 63) (.t 64), none⟩,
 ⟨some 66, .fadr 1 (.t 65), none⟩,
 ⟨some 67, .load false 1 (.t 66), none⟩,
 ⟨some 68, .call (.c (.fn 28 [] [])) [(.t 67)], none⟩,
 ⟨some 62, .mv (.t 68), none⟩,
 ⟨some 69, .extr (.t 62) 0, none⟩,
 ⟨some 70, .extr (.t 62) 1, none⟩,
 ⟨some 7, .alloc [.int .i64 0, .int .i64 0, .int .i64 0], none⟩,
 ⟨none, .store 3 (.t 7) (.t 69), none⟩,
 ⟨some 8, .mv (.t 70), none⟩] [0, 4, 5, 6, 7])
 (.seq (.reg [
 ⟨some 72, .mv (.t 0), none⟩,
 ⟨some 73, .mv (.t 6), none⟩,
 ⟨some 74, .iadr 3 (.t 72) (.t 73), none⟩,
 ⟨some 75, .fadr 2 (.t 74), none⟩,
 ⟨some 76, .load false 1 (.t 75), none⟩,
 ⟨some 77, .call (.c (.fn 29 [] [])) [(.t 76)], none⟩,
 ⟨some 71, .mv (.t 77), none⟩,
 ⟨some 78, .extr (.t 71) 0, none⟩,
 ⟨some 79, .extr (.t 71) 1, none⟩,
 ⟨some 9, .alloc [.int .i64 0, .int .i64 0, .int .i64 0], none⟩,
 ⟨none, .store 3 (.t 9) (.t 78), none⟩,
 ⟨some 10, .mv (.t 79), none⟩] [0, 4, 5, 6, 7, 9])
 (.seq (.reg [
 ⟨some 80, .mv (.t 4), none⟩,
 ⟨some 81, .fadr 0 (.t 7), none⟩,
 ⟨some 82, .load false 1 (.t 81), none⟩,
 ⟨some 83, .iadr 1 (.t 80) (.t 82), none⟩,
 ⟨some 84, .load false 1 (.t 83), none⟩,
 ⟨some 85, .bin .add (.t 84) (.c (.int .i64 1)), none⟩,
 ⟨some 86, .iadr 1 (.t 80) (.t 82), none⟩,
 ⟨none, .store 1 (.t 86) (.t 85), none⟩] [0, 4, 5, 6, 9])
 (.reg [
 ⟨some 87, .mv (.t 5), none⟩,
 ⟨some 88, .fadr 0 (.t 9), none⟩,
 ⟨some 89, .load false 1 (.t 88), none⟩,
 ⟨some 90, .iadr 1 (.t 87) (.t 89), none⟩,
 ⟨some 91, .load false 1 (.t 90), none⟩,
 ⟨some 92, .bin .add (.t 91) (.c (.int .i64 1)), none⟩,
 ⟨some 93, .iadr 1 (.t 87) (.t 89), none⟩,
 ⟨none, .store 1 (.t 93) (.t 92), none⟩] [0, 4, 5, 6]))))) [0, 4, 5, 6])
 (.reg [
 ⟨some 44, .mv (.t 6), none⟩,
 ⟨some 45, .bin .add (.t 44) (.c (.int .i64 1)), none⟩,
 ⟨some 6, .mv (.t 45), none⟩] [0, 4, 5, 6])))
def f13 : AFunc := { np := 1, res := [.tmp 2, .tmp 3], pure := true, body :=
 (.seq (.reg [
 ⟨some 2, .mv (.c (.str ⟨#[]⟩)), none⟩,
 ⟨some 3, .mv (.c (.int .i64 0)), none⟩] [0])
 (.seq (.seq (.reg [
 ⟨some 33, .mv (.t 0), none⟩,
 ⟨some 34, .call (.c (.fn 27 [] [])) [(.t 33)], none⟩,
 ⟨some 35, .not (.t 34), none⟩] [0, 35])
 (.cond (.t 35) (.seq (.reg [
 ⟨some 2, .mv (.c (.str ⟨#[]⟩)), none⟩,
 ⟨some 3, .mv (.c (.int .i64 800)), none⟩] [2, 3])
 (.ret))
 (.skip) [0]))
 (.seq (.dreg [0, 1, 2, 3] [
 ⟨some 36, .mksl 1 8 [.int .i64 0] (.c (.int .i64 286)) (.c (.int .i64 286)), none⟩,
 ⟨some 37, .mksl 1 8 [.int .i64 0] (.c (.int .i64 30)) (.c (.int .i64 30)), none⟩,
 ⟨some 4, .mv (.t 36), none⟩,
 ⟨some 5, .mv (.t 37), none⟩] [] [0, 4, 5])
 (.seq (.reg [
 ⟨some 38, .mv (.t 4), none⟩,
 ⟨some 39, .iadr 1 (.t 38) (.c (.int .i64 256)), none⟩,
 ⟨none, .store 1 (.t 39) (.c (.int .i64 1)), none⟩] [0, 4, 5])
 (.seq (.seq (.reg [
 ⟨some 6, .mv (.c (.int .i64 0)), none⟩] [0, 4, 5, 6])
 (.block 0 (.loop [0, 4, 5, 6] f13L4) [0, 4, 5]))
 (.seq (.reg [
 ⟨some 95, .mv (.t 4), none⟩,
 ⟨some 96, .call (.c (.fn 30 [] [])) [(.t 95), (.c (.int .i64 15))], none⟩,
 ⟨some 94, .mv (.t 96), none⟩,
 ⟨some 97, .extr (.t 94) 0, none⟩,
 ⟨some 98, .extr (.t 94) 1, none⟩,
 ⟨some 11, .mv (.t 97), none⟩,
 ⟨some 12, .mv (.t 98), none⟩] [0, 5, 11])
 (.seq (.reg [
 ⟨some 100, .mv (.t 5), none⟩,
 ⟨some 101, .call (.c (.fn 30 [] [])) [(.t 100), (.c (.int .i64 15))], none⟩,
 ⟨some 99, .mv (.t 101), none⟩,
 ⟨some 102, .extr (.t 99) 0, none⟩,
 ⟨some 103, .extr (.t 99) 1, none⟩,
 ⟨some 13, .mv (.t 102), none⟩,
 ⟨some 14, .mv (.t 103), none⟩] [0, 11, 13])
 (.seq (.reg [
 ⟨some 104, .mv (.t 11), none⟩,
 ⟨some 105, .mv (.t 11), none⟩,
 ⟨some 106, .call (.c (.fn 31 [] [])) [(.t 105), (.c (.int .i64 257))], none⟩,
 ⟨some 107, .sl 1 (.t 104) none (some (.t 106)) none, none⟩,
 ⟨some 11, .mv (.t 107), none⟩] [0, 11, 13])
 (.seq (.reg [
 ⟨some 108, .mv (.t 13), none⟩,
 ⟨some 109, .mv (.t 13), none⟩,
 ⟨some 110, .call (.c (.fn 31 [] [])) [(.t 109), (.c (.int .i64 1))], none⟩,
 ⟨some 111, .sl 1 (.t 108) none (some (.t 110)) none, none⟩,
 ⟨some 13, .mv (.t 111), none⟩] [0, 11, 13])
 (.seq (.reg [
 ⟨some 112, .bslice 1 0 [.int .i64 0] [], none⟩,
 ⟨some 113, .mv (.t 11), none⟩,
 ⟨some 114, .app 1 8 (.t 112) (.t 113), none⟩,
 ⟨some 15, .mv (.t 114), none⟩] [0, 11, 13, 15])
 (.seq (.reg [
 ⟨some 115, .mv (.t 15), none⟩,
 ⟨some 116, .mv (.t 13), none⟩,
 ⟨some 117, .app 1 8 (.t 115) (.t 116), none⟩,
 ⟨some 15, .mv (.t 117), none⟩] [0, 11, 13, 15])
 (.seq (.reg [
 ⟨some 118, .mksl 1 8 [.int .i64 0] (.c (.int .i64 19)) (.c (.int .i64 19)), none⟩,
 ⟨some 16, .mv (.t 118), none⟩] [0, 11, 13, 15, 16])
 (.seq (.seq (.reg [
 ⟨some 17, .mv (.c (.int .i64 0)), none⟩] [0, 11, 13, 15, 16, 17])
 (.block 2 (.loop [0, 11, 13, 15, 16, 17] f13L3) [0, 11, 13, 15, 16]))
 (.seq (.reg [
 ⟨some 135, .mv (.t 16), none⟩,
 ⟨some 136, .call (.c (.fn 30 [] [])) [(.t 135), (.c (.int .i64 7))], none⟩,
 ⟨some 134, .mv (.t 136), none⟩,
 ⟨some 137, .extr (.t 134) 0, none⟩,
 ⟨some 138, .extr (.t 134) 1, none⟩,
 ⟨some 18, .mv (.t 137), none⟩,
 ⟨some 19, .mv (.t 138), none⟩] [0, 11, 13, 15, 18])
 (.seq (.reg [
 ⟨some 139, .call (.c (.fn 32 [] [])) [], none⟩,
 ⟨some 20, .mv (.t 139), none⟩] [0, 11, 13, 15, 18, 20])
 (.seq (.reg [
 ⟨some 140, .mksl 1 8 [.int .i64 0] (.c (.int .i64 19)) (.c (.int .i64 19)), none⟩,
 ⟨some 21, .mv (.t 140), none⟩] [0, 11, 13, 15, 18, 20, 21])
 (.seq (.seq (.reg [
 ⟨some 22, .mv (.c (.int .i64 0)), none⟩] [0, 11, 13, 15, 18, 20, 21, 22])
 (.block 4 (.loop [0, 11, 13, 15, 18, 20, 21, 22] f13L2) [0, 11, 13, 15, 18, 21]))
 (.seq (.reg [
 ⟨some 155, .mv (.t 21), none⟩,
 ⟨some 156, .call (.c (.fn 31 [] [])) [(.t 155), (.c (.int .i64 4))], none⟩,
 ⟨some 23, .mv (.t 156), none⟩] [0, 11, 13, 15, 18, 21, 23])
 (.seq (.reg [
 ⟨some 157, .build [.nils, .int .i64 0] [], none⟩,
 ⟨some 158, .box 2 (.t 157), none⟩,
 ⟨some 24, .mv (.t 158), none⟩] [0, 11, 13, 15, 18, 21, 23, 24])
 (.seq (.reg [
 ⟨some 159, .mv (.t 24), none⟩,
 ⟨some 160, .call (.c (.fn 33 [] [])) [(.t 159), (.c (.int .i64 5)), (.c (.int .i64 3))], none⟩] [0, 11, 13, 15, 18, 21, 23, 24])
 (.seq (.reg [
 ⟨some 161, .mv (.t 24), none⟩,
 ⟨some 162, .mv (.t 11), none⟩,
 ⟨some 163, .len false (.t 162), none⟩,
 ⟨some 164, .bin .sub (.t 163) (.c (.int .i64 257)), none⟩,
 ⟨some 165, .call (.c (.fn 33 [] [])) [(.t 161), (.t 164), (.c (.int .i64 5))], none⟩] [0, 11, 13, 15, 18, 21, 23, 24])
 (.seq (.reg [
 ⟨some 166, .mv (.t 24), none⟩,
 ⟨some 167, .mv (.t 13), none⟩,
 ⟨some 168, .len false (.t 167), none⟩,
 ⟨some 169, .bin .sub (.t 168) (.c (.int .i64 1)), none⟩,
 ⟨some 170, .call (.c (.fn 33 [] [])) [(.t 166), (.t 169), (.c (.int .i64 5))], none⟩] [0, 11, 13, 15, 18, 21, 23, 24])
 (.seq (.reg [
 ⟨some 171, .mv (.t 24), none⟩,
 ⟨some 172, .mv (.t 23), none⟩,
 ⟨some 173, .bin .sub (.t 172) (.c (.int .i64 4)), none⟩,
 ⟨some 174, .call (.c (.fn 33 [] [])) [(.t 171), (.t 173), (.c (.int .i64 4))], none⟩] [0, 11, 13, 15, 18, 21, 23, 24])
 (.seq (.seq (.reg [
 ⟨some 25, .mv (.c (.int .i64 0)), none⟩] [0, 11, 13, 15, 18, 21, 23, 24, 25])
 (.block 6 (.loop [0, 11, 13, 15, 18, 21, 23, 24, 25] f13L1) [0, 11, 13, 15, 18, 24]))
 (.seq (.reg [
 ⟨some 187, .mv (.t 18), none⟩,
 ⟨some 188, .call (.c (.fn 34 [] [])) [(.t 187)], none⟩,
 ⟨some 186, .mv (.t 188), none⟩,
 ⟨some 189, .extr (.t 186) 0, none⟩,
 ⟨some 190, .extr (.t 186) 1, none⟩,
 ⟨some 26, .mv (.t 189), none⟩,
 ⟨some 27, .mv (.t 190), none⟩] [0, 11, 13, 15, 24, 26])
 (.seq (.seq (.reg [
 ⟨some 28, .mv (.c (.int .i64 0)), none⟩] [0, 11, 13, 15, 24, 26, 28])
 (.block 8 (.loop [0, 11, 13, 15, 24, 26, 28] f13L0) [0, 11, 13, 24]))
 (.seq (.reg [
 ⟨some 207, .mv (.t 11), none⟩,
 ⟨some 208, .call (.c (.fn 34 [] [])) [(.t 207)], none⟩,
 ⟨some 206, .mv (.t 208), none⟩,
 ⟨some 209, .extr (.t 206) 0, none⟩,
 ⟨some 210, .extr (.t 206) 1, none⟩,
 ⟨some 29, .mv (.t 209), none⟩,
 ⟨some 30, .mv (.t 210), none⟩] [0, 13, 24, 29])
 (.seq (.reg [
 ⟨some 212, .mv (.t 13), none⟩,
 ⟨some 213, .call (.c (.fn 34 [] [])) [(.t 212)], none⟩,
 ⟨some 211, .mv (.t 213), none⟩,
 ⟨some 214, .extr (.t 211) 0, none⟩,
 ⟨some 215, .extr (.t 211) 1, none⟩,
 ⟨some 31, .mv (.t 214), none⟩,
 ⟨some 32, .mv (.t 215), none⟩] [0, 24, 29, 31])
 (.seq (.reg [
 ⟨some 216, .mv (.t 24), none⟩,
 ⟨some 217, .mv (.t 0), none⟩,
 ⟨some 218, .mv (.t 29), none⟩,
 ⟨some 219, .mv (.t 31), none⟩,
 ⟨some 220, .call (.c (.fn 36 [] [])) [(.t 216), (.t 217), (.t 218), (.t 219)], none⟩] [24])
 (.seq (.reg [
 ⟨some 221, .mv (.t 24), none⟩,
 ⟨some 222, .call (.c (.fn 37 [] [])) [(.t 221)], none⟩,
 ⟨some 2, .mv (.t 222), none⟩,
 ⟨some 3, .mv (.c (.int .i64 0)), none⟩] [2, 3])
 (.ret))))))))))))))))))))))))))))))) }
def f14 : AFunc := { np := 1, res := [.tmp 2], pure := false, body :=
 (.seq (.reg [
 ⟨some 2, .mv (.c (.nilp)), none⟩] [0])
 (.seq (.reg [
 ⟨some 3, .mv (.t 0), none⟩,
 ⟨some 4, .build [.str ⟨#[]⟩, .int .i64 0] [(0, 1, (.t 3))], none⟩,
 ⟨some 5, .box 2 (.t 4), none⟩,
 ⟨some 2, .mv (.t 5), none⟩] [2])
 (.ret))) }
def f15 : AFunc := { np := 1, res := [.tmp 2], pure := false, body :=
 (.seq (.reg [
 ⟨some 2, .mv (.c (.bool false)), none⟩] [0])
 (.seq (.reg [
 ⟨some 4, .mv (.t 0), none⟩,
 ⟨some 5, .call (.c (.fn 38 [] [])) [(.t 4), (.c (.int .i64 1))], none⟩,
 ⟨some 6, .bin .eql (.t 5) (.c (.int .i64 1)), none⟩,
 ⟨some 3, .mv (.t 6), none⟩] [0, 3])
 (.seq (.seq (.reg [
 ⟨some 7, .mv (.t 0), none⟩,
 ⟨some 8, .call (.c (.fn 38 [] [])) [(.t 7), (.c (.int .i64 2))], none⟩] [0, 3, 8])
 (.block 0 (.seq (.reg [
 ⟨some 12, .bin .eql (.t 8) (.c (.int .i64 0)), none⟩,
 ⟨some 11, .mv (.t 12), none⟩] [0, 3, 8, 11])
 (.cond (.t 11) (.seq (.reg [
 ⟨some 13, .mv (.t 0), none⟩,
 ⟨some 14, .nilc (.t 13), none⟩,
 ⟨some 15, .fadr 3 (.t 14), none⟩,
 ⟨some 16, .load false 1 (.t 15), none⟩,
 ⟨some 17, .bin .eql (.t 16) (.c (.int .i64 0)), none⟩] [0, 3, 17])
 (.cond (.t 17) (.reg [
 ⟨some 18, .mv (.t 0), none⟩,
 ⟨some 19, .call (.c (.fn 39 [] [])) [(.t 18)], none⟩] [3])
 (.skip) [3]))
 (.seq (.reg [
 ⟨some 21, .bin .eql (.t 8) (.c (.int .i64 1)), none⟩,
 ⟨some 20, .mv (.t 21), none⟩] [0, 3, 8, 20])
 (.cond (.t 20) (.reg [
 ⟨some 22, .mv (.t 0), none⟩,
 ⟨some 23, .call (.c (.fn 42 [] [])) [], none⟩,
 ⟨some 24, .call (.c (.fn 41 [] [])) [(.t 23)], none⟩,
 ⟨some 25, .bslice 1 1 [.int .i64 0] [(0, (.c (.int .i64 5)))], none⟩,
 ⟨some 26, .call (.c (.fn 43 [] [])) [(.t 25), (.c (.int .i64 30))], none⟩,
 ⟨some 27, .call (.c (.fn 41 [] [])) [(.t 26)], none⟩,
 ⟨some 28, .call (.c (.fn 40 [] [])) [(.t 22), (.t 24), (.t 27)], none⟩] [3])
 (.seq (.reg [
 ⟨some 30, .bin .eql (.t 8) (.c (.int .i64 2)), none⟩,
 ⟨some 29, .mv (.t 30), none⟩] [0, 3, 29])
 (.cond (.t 29) (.reg [
 ⟨some 31, .mv (.t 0), none⟩,
 ⟨some 32, .call (.c (.fn 44 [] [])) [(.t 31)], none⟩] [3])
 (.reg [
 ⟨some 9, .mv (.t 0), none⟩,
 ⟨some 10, .call (.c (.fn 45 [] [])) [(.t 9), (.c (.int .i64 700))], none⟩] [3]) [3])) [3])) [3])) [3]))
 (.seq (.reg [
 ⟨some 33, .mv (.t 3), none⟩,
 ⟨some 2, .mv (.t 33), none⟩] [2])
 (.ret))))) }
def f16 : AFunc := { np := 1, res := [.tmp 2], pure := false, body :=
 (.seq (.reg [
 ⟨some 2, .mv (.c (.int .i64 0)), none⟩] [0])
 (.seq (.seq (.reg [
 ⟨some 3, .mv (.t 0), none⟩,
 ⟨some 4, .eqn 0 false (.t 3) (.c (.nilp)), none⟩] [0, 4])
 (.cond (.t 4) (.seq (.reg [
 ⟨some 2, .mv (.c (.int .i64 1)), none⟩] [2])
 (.ret))
 (.skip) [0]))
 (.seq (.reg [
 ⟨some 5, .mv (.t 0), none⟩,
 ⟨some 6, .mv (.t 0), none⟩,
 ⟨some 7, .nilc (.t 6), none⟩,
 ⟨some 8, .fadr 1 (.t 7), none⟩,
 ⟨some 9, .load false 1 (.t 8), none⟩,
 ⟨some 10, .bin .add (.t 9) (.c (.int .i64 8)), none⟩,
 ⟨some 11, .bin .sub (.t 10) (.c (.int .i64 1)), none⟩,
 ⟨some 12, .bin .quo (.t 11) (.c (.int .i64 8)), none⟩,
 ⟨some 13, .bin .mul (.t 12) (.c (.int .i64 8)), none⟩,
 ⟨some 14, .nilc (.t 5), none⟩,
 ⟨some 15, .fadr 1 (.t 14), none⟩,
 ⟨none, .store 1 (.t 15) (.t 13), none⟩] [])
 (.seq (.reg [
 ⟨some 2, .mv (.c (.int .i64 0)), none⟩] [2])
 (.ret))))) }
def f17 : AFunc := { np := 1, res := [.tmp 2], pure := false, body :=
 (.seq (.reg [
 ⟨some 2, .mv (.c (.int .i64 0)), none⟩] [0])
 (.seq (.seq (.reg [
 ⟨some 3, .mv (.t 0), none⟩,
 ⟨some 4, .eqn 0 false (.t 3) (.c (.nilp)), none⟩] [0, 4])
 (.cond (.t 4) (.seq (.reg [
 ⟨some 2, .mv (.c (.int .i64 0)), none⟩] [2])
 (.ret))
 (.skip) [0]))
 (.seq (.reg [
 ⟨some 5, .mv (.t 0), none⟩,
 ⟨some 6, .nilc (.t 5), none⟩,
 ⟨some 7, .fadr 1 (.t 6), none⟩,
 ⟨some 8, .load false 1 (.t 7), none⟩,
 ⟨some 2, .mv (.t 8), none⟩] [2])
 (.ret)))) }
def f26L0 : ACode :=
 (.seq (.seq (.dreg [0, 1, 2, 3, 4, 5, 6, 7, 8, 9, 10, 11, 12, 13, 14, 15, 16, 17, 18, 19, 20, 21, 22] [
 ⟨some 8, .mv (.t 7), none⟩,
 ⟨some 9, .bin .lss (.t 8) (.c (.int .i64 258)), none⟩,
 ⟨some 10, .mv (.t 9), none⟩,
 ⟨some 11, .mv (.t 1), (some (10, true))⟩,
 ⟨some 12, .mv (.t 7), (some (10, true))⟩,
 ⟨some 13, .bin .add (.t 11) (.t 12), (some (10, true))⟩,
 ⟨some 14, .mv (.t 0), (some (10, true))⟩,
 ⟨some 15, .len true (.t 14), (some (10, true))⟩,
 ⟨some 16, .bin .lss (.t 13) (.t 15), (some (10, true))⟩,
 ⟨some 17, .pick (.t 10) (.t 16) (.c (.bool false)), none⟩,
 ⟨some 18, .mv (.t 17), none⟩,
 ⟨some 19, .mv (.t 0), (some (18, true))⟩,
 ⟨some 20, .mv (.t 1), (some (18, true))⟩,
 ⟨some 21, .mv (.t 7), (some (18, true))⟩,
 ⟨some 22, .bin .add (.t 20) (.t 21), (some (18, true))⟩,
 ⟨some 23, .idxs (.t 19) (.t 22), (some (18, true))⟩,
 ⟨some 24, .mv (.t 0), (some (18, true))⟩,
 ⟨some 25, .mv (.t 2), (some (18, true))⟩,
 ⟨some 26, .mv (.t 7), (some (18, true))⟩,
 ⟨some 27, .bin .add (.t 25) (.t 26), (some (18, true))⟩,
 ⟨some 28, .idxs (.t 24) (.t 27), (some (18, true))⟩,
 ⟨some 29, .bin .eql (.t 23) (.t 28), (some (18, true))⟩,
 ⟨some 30, .pick (.t 18) (.t 29) (.c (.bool false)), none⟩] [] [0, 1, 2, 7, 30])
 (.cond (.t 30) (.skip)
 (.exit 0) [0, 1, 2, 7]))
 (.block 1 (.reg [
 ⟨some 31, .mv (.t 7), none⟩,
 ⟨some 32, .bin .add (.t 31) (.c (.int .i64 1)), none⟩,
 ⟨some 7, .mv (.t 32), none⟩] [0, 1, 2, 7]) [0, 1, 2, 7]))
def f26 : AFunc := { np := 3, res := [.tmp 6], pure := true, body :=
 (.seq (.reg [
 ⟨some 6, .mv (.c (.int .i64 0)), none⟩] [0, 1, 2])
 (.seq (.reg [
 ⟨some 7, .mv (.c (.int .i64 0)), none⟩] [0, 1, 2, 7])
 (.seq (.block 0 (.loop [0, 1, 2, 7] f26L0) [7])
 (.seq (.reg [
 ⟨some 33, .mv (.t 7), none⟩,
 ⟨some 6, .mv (.t 33), none⟩] [6])
 (.ret))))) }
def f27 : AFunc := { np := 1, res := [.tmp 2], pure := true, body :=
 (.seq (.reg [
 ⟨some 2, .mv (.c (.bool false)), none⟩] [0])
 (.seq (.reg [
 ⟨some 6, .mv (.t 0), none⟩,
 ⟨some 7, .call (.c (.fn 55 [] [])) [(.t 6)], none⟩,
 ⟨some 5, .mv (.t 7), none⟩,
 ⟨some 8, .extr (.t 5) 0, none⟩,
 ⟨some 9, .extr (.t 5) 1, none⟩,
 ⟨some 3, .mv (.t 8), none⟩,
 ⟨some 4, .mv (.t 9), none⟩] [3, 4])
 (.seq (.reg [
 ⟨some 10, .mv (.t 4), none⟩,
 ⟨some 11, .bin .eql (.t 10) (.c (.int .i64 0)), none⟩,
 ⟨some 12, .mv (.t 11), none⟩,
 ⟨some 13, .mv (.t 3), (some (12, true))⟩,
 ⟨some 14, .len true (.t 13), (some (12, true))⟩,
 ⟨some 15, .bin .leq (.t 14) (.c (.int .i64 300)), (some (12, true))⟩,
 ⟨some 16, .pick (.t 12) (.t 15) (.c (.bool false)), none⟩,
 ⟨some 2, .mv (.t 16), none⟩] [2])
 (.ret)))) }
def f28L0 : ACode :=
 (.seq (.block 1 (.seq (.reg [
 ⟨some 18, .mv (.t 4), none⟩,
 ⟨some 19, .call (.c (.fn 50 [] [])) [(.t 18)], none⟩,
 ⟨some 17, .mv (.t 19), none⟩,
 ⟨some 20, .extr (.t 17) 0, none⟩,
 ⟨some 21, .extr (.t 17) 1, none⟩,
 ⟨some 22, .extr (.t 17) 2, none⟩,
 ⟨some 5, .mv (.t 20), none⟩,
 ⟨some 6, .mv (.t 21), none⟩,
 ⟨some 7, .mv (.t 22), none⟩] [0, 2, 4, 5, 6])
 (.seq (.reg [
 ⟨some 23, .mv (.t 0), none⟩,
 ⟨some 24, .mv (.t 5), none⟩,
 ⟨some 25, .bin .geq (.t 23) (.t 24), none⟩] [0, 2, 4, 5, 6, 25])
 (.cond (.t 25) (.seq (.reg [
 ⟨some 26, .mv (.t 4), none⟩,
 ⟨some 27, .mv (.t 6), none⟩,
 ⟨some 28, .mv (.t 0), none⟩,
 ⟨some 29, .mv (.t 5), none⟩,
 ⟨some 30, .bin .sub (.t 28) (.t 29), none⟩,
 ⟨some 31, .build [.int .i64 0, .int .i64 0, .int .i64 0] [(0, 1, (.t 26)), (1, 1, (.t 27)), (2, 1, (.t 30))], none⟩,
 ⟨none, .store 3 (.t 2) (.t 31), none⟩,
 ⟨some 3, .mv (.c (.int .i64 0)), none⟩] [2, 3])
 (.ret))
 (.skip) [0, 2, 4]))) [0, 2, 4])
 (.reg [
 ⟨some 15, .mv (.t 4), none⟩,
 ⟨some 16, .bin .sub (.t 15) (.c (.int .i64 1)), none⟩,
 ⟨some 4, .mv (.t 16), none⟩] [0, 2, 4]))
def f28 : AFunc := { np := 1, res := [.cell 2 true 3, .tmp 3], pure := true, body :=
 (.seq (.reg [
 ⟨some 2, .alloc [.int .i64 0, .int .i64 0, .int .i64 0], none⟩,
 ⟨some 3, .mv (.c (.int .i64 0)), none⟩] [0, 2])
 (.seq (.seq (.reg [
 ⟨some 8, .mv (.t 0), none⟩,
 ⟨some 9, .bin .lss (.t 8) (.c (.int .i64 3)), none⟩,
 ⟨some 10, .mv (.t 9), none⟩,
 ⟨some 11, .mv (.t 0), (some (10, false))⟩,
 ⟨some 12, .bin .gtr (.t 11) (.c (.int .i64 258)), (some (10, false))⟩,
 ⟨some 13, .pick (.t 10) (.c (.bool true)) (.t 12), none⟩] [0, 2, 13])
 (.cond (.t 13) (.seq (.reg [
 ⟨some 14, .build [.int .i64 0, .int .i64 0, .int .i64 0] [], none⟩,
 ⟨none, .store 3 (.t 2) (.t 14), none⟩,
 ⟨some 3, .mv (.c (.int .i64 600)), none⟩] [2, 3])
 (.ret))
 (.skip) [0, 2]))
 (.seq (.reg [
 ⟨some 4, .mv (.c (.int .i64 285)), none⟩] [0, 2, 4])
 (.block 0 (.loop [0, 2, 4] f28L0) [2, 3])))) }
def f29L0 : ACode :=
 (.seq (.block 1 (.seq (.reg [
 ⟨some 18, .mv (.t 4), none⟩,
 ⟨some 19, .call (.c (.fn 51 [] [])) [(.t 18)], none⟩,
 ⟨some 17, .mv (.t 19), none⟩,
 ⟨some 20, .extr (.t 17) 0, none⟩,
 ⟨some 21, .extr (.t 17) 1, none⟩,
 ⟨some 22, .extr (.t 17) 2, none⟩,
 ⟨some 5, .mv (.t 20), none⟩,
 ⟨some 6, .mv (.t 21), none⟩,
 ⟨some 7, .mv (.t 22), none⟩] [0, 2, 4, 5, 6])
 (.seq (.reg [
 ⟨some 23, .mv (.t 0), none⟩,
 ⟨some 24, .mv (.t 5), none⟩,
 ⟨some 25, .bin .geq (.t 23) (.t 24), none⟩] [0, 2, 4, 5, 6, 25])
 (.cond (.t 25) (.seq (.reg [
 ⟨some 26, .mv (.t 4), none⟩,
 ⟨some 27, .mv (.t 6), none⟩,
 ⟨some 28, .mv (.t 0), none⟩,
 ⟨some 29, .mv (.t 5), none⟩,
 ⟨some 30, .bin .sub (.t 28) (.t 29), none⟩,
 ⟨some 31, .build [.int .i64 0, .int .i64 0, .int .i64 0] [(0, 1, (.t 26)), (1, 1, (.t 27)), (2, 1, (.t 30))], none⟩,
 ⟨none, .store 3 (.t 2) (.t 31), none⟩,
 ⟨some 3, .mv (.c (.int .i64 0)), none⟩] [2, 3])
 (.ret))
 (.skip) [0, 2, 4]))) [0, 2, 4])
 (.reg [
 ⟨some 15, .mv (.t 4), none⟩,
 ⟨some 16, .bin .sub (.t 15) (.c (.int .i64 1)), none⟩,
 ⟨some 4, .mv (.t 16), none⟩] [0, 2, 4]))
def f29 : AFunc := { np := 1, res := [.cell 2 true 3, .tmp 3], pure := true, body :=
 (.seq (.reg [
 ⟨some 2, .alloc [.int .i64 0, .int .i64 0, .int .i64 0], none⟩,
 ⟨some 3, .mv (.c (.int .i64 0)), none⟩] [0, 2])
 (.seq (.seq (.reg [
 ⟨some 8, .mv (.t 0), none⟩,
 ⟨some 9, .bin .lss (.t 8) (.c (.int .i64 1)), none⟩,
 ⟨some 10, .mv (.t 9), none⟩,
 ⟨some 11, .mv (.t 0), (some (10, false))⟩,
 ⟨some 12, .bin .gtr (.t 11) (.c (.int .i64 32768)), (some (10, false))⟩,
 ⟨some 13, .pick (.t 10) (.c (.bool true)) (.t 12), none⟩] [0, 2, 13])
 (.cond (.t 13) (.seq (.reg [
 ⟨some 14, .build [.int .i64 0, .int .i64 0, .int .i64 0] [], none⟩,
 ⟨none, .store 3 (.t 2) (.t 14), none⟩,
 ⟨some 3, .mv (.c (.int .i64 600)), none⟩] [2, 3])
 (.ret))
 (.skip) [0, 2]))
 (.seq (.reg [
 ⟨some 4, .mv (.c (.int .i64 29)), none⟩] [0, 2, 4])
 (.block 0 (.loop [0, 2, 4] f29L0) [2, 3])))) }
def f30L0 : ACode :=
 (.seq (.seq (.reg [
 ⟨some 126, .mv (.t 13), none⟩,
 ⟨some 127, .mv (.t 7), none⟩,
 ⟨some 128, .len false (.t 127), none⟩,
 ⟨some 129, .bin .lss (.t 126) (.t 128), none⟩] [1, 6, 7, 9, 13, 129])
 (.cond (.t 129) (.skip)
 (.exit 6) [1, 6, 7, 9, 13]))
 (.seq (.block 7 (.reg [
 ⟨some 132, .mv (.t 7), none⟩,
 ⟨some 133, .mv (.t 13), none⟩,
 ⟨some 134, .mv (.t 7), none⟩,
 ⟨some 135, .mv (.t 13), none⟩,
 ⟨some 136, .iadr 1 (.t 134) (.t 135), none⟩,
 ⟨some 137, .load false 1 (.t 136), none⟩,
 ⟨some 138, .bin .add (.t 137) (.c (.int .i64 1)), none⟩,
 ⟨some 139, .bin .quo (.t 138) (.c (.int .i64 2)), none⟩,
 ⟨some 140, .iadr 1 (.t 132) (.t 133), none⟩,
 ⟨none, .store 1 (.t 140) (.t 139), none⟩] [1, 6, 7, 9, 13]) [1, 6, 7, 9, 13])
 (.reg [
 ⟨some 130, .mv (.t 13), none⟩,
 ⟨some 131, .bin .add (.t 130) (.c (.int .i64 1)), none⟩,
 ⟨some 13, .mv (.t 131), none⟩] [1, 6, 7, 9, 13])))
def f30L1 : ACode :=
 (.seq (.seq (.reg [
 ⟨some 100, .mv (.t 12), none⟩,
 ⟨some 101, .mv (.t 10), none⟩,
 ⟨some 102, .len false (.t 101), none⟩,
 ⟨some 103, .bin .lss (.t 100) (.t 102), none⟩] [1, 6, 7, 9, 10, 11, 12, 103])
 (.cond (.t 103) (.skip)
 (.exit 4) [1, 6, 7, 9, 10, 11, 12]))
 (.seq (.block 5 (.seq (.dreg [0, 1, 2, 3, 4, 5, 6, 7, 8, 9, 10] [
 ⟨some 106, .mv (.t 9), none⟩,
 ⟨some 107, .mv (.t 6), none⟩,
 ⟨some 108, .mv (.t 12), none⟩,
 ⟨some 109, .iadr 1 (.t 107) (.t 108), none⟩,
 ⟨some 110, .load false 1 (.t 109), none⟩,
 ⟨some 111, .mv (.t 10), none⟩,
 ⟨some 112, .mv (.t 12), none⟩,
 ⟨some 113, .iadr 1 (.t 111) (.t 112), none⟩,
 ⟨some 114, .load false 1 (.t 113), none⟩,
 ⟨some 115, .iadr 1 (.t 106) (.t 110), none⟩,
 ⟨none, .store 1 (.t 115) (.t 114), none⟩] [] [1, 6, 7, 9, 10, 11, 12])
 (.reg [
 ⟨some 116, .mv (.t 11), none⟩,
 ⟨some 117, .mv (.t 10), none⟩,
 ⟨some 118, .mv (.t 12), none⟩,
 ⟨some 119, .iadr 1 (.t 117) (.t 118), none⟩,
 ⟨some 120, .load false 1 (.t 119), none⟩,
 ⟨some 121, .mx [(.t 116), (.t 120)], none⟩,
 ⟨some 11, .mv (.t 121), none⟩] [1, 6, 7, 9, 10, 11, 12])) [1, 6, 7, 9, 10, 11, 12])
 (.reg [
 ⟨some 104, .mv (.t 12), none⟩,
 ⟨some 105, .bin .add (.t 104) (.c (.int .i64 1)), none⟩,
 ⟨some 12, .mv (.t 105), none⟩] [1, 6, 7, 9, 10, 11, 12])))
def f30L2 : ACode :=
 (.block 3 (.seq (.reg [
 ⟨some 98, .mv (.t 7), none⟩,
 ⟨some 99, .call (.c (.fn 56 [] [])) [(.t 98)], none⟩,
 ⟨some 10, .mv (.t 99), none⟩] [1, 6, 7, 9, 10])
 (.seq (.reg [
 ⟨some 11, .mv (.c (.int .i64 0)), none⟩] [1, 6, 7, 9, 10, 11])
 (.seq (.seq (.reg [
 ⟨some 12, .mv (.c (.int .i64 0)), none⟩] [1, 6, 7, 9, 10, 11, 12])
 (.block 4 (.loop [1, 6, 7, 9, 10, 11, 12] f30L1) [1, 6, 7, 9, 11]))
 (.seq (.seq (.reg [
 ⟨some 122, .mv (.t 11), none⟩,
 ⟨some 123, .mv (.t 1), none⟩,
 ⟨some 124, .bin .leq (.t 122) (.t 123), none⟩] [1, 6, 7, 9, 124])
 (.cond (.t 124) (.seq (.reg [
 ⟨some 125, .mv (.t 9), none⟩,
 ⟨some 4, .mv (.t 125), none⟩,
 ⟨some 5, .mv (.c (.int .i64 0)), none⟩] [4, 5])
 (.ret))
 (.skip) [1, 6, 7, 9]))
 (.seq (.reg [
 ⟨some 13, .mv (.c (.int .i64 0)), none⟩] [1, 6, 7, 9, 13])
 (.block 6 (.loop [1, 6, 7, 9, 13] f30L0) [1, 6, 7, 9])))))) [1, 6, 7, 9])
def f30L3 : ACode :=
 (.seq (.seq (.reg [
 ⟨some 30, .mv (.t 8), none⟩,
 ⟨some 31, .mv (.t 0), none⟩,
 ⟨some 32, .len false (.t 31), none⟩,
 ⟨some 33, .bin .lss (.t 30) (.t 32), none⟩] [0, 1, 6, 7, 8, 33])
 (.cond (.t 33) (.skip)
 (.exit 0) [0, 1, 6, 7, 8]))
 (.seq (.block 1 (.seq (.seq (.reg [
 ⟨some 36, .mv (.t 0), none⟩,
 ⟨some 37, .mv (.t 8), none⟩,
 ⟨some 38, .iadr 1 (.t 36) (.t 37), none⟩,
 ⟨some 39, .load false 1 (.t 38), none⟩,
 ⟨some 40, .bin .lss (.t 39) (.c (.int .i64 0)), none⟩,
 ⟨some 41, .mv (.t 40), none⟩,
 ⟨some 42, .mv (.t 0), (some (41, false))⟩,
 ⟨some 43, .mv (.t 8), (some (41, false))⟩,
 ⟨some 44, .iadr 1 (.t 42) (.t 43), (some (41, false))⟩,
 ⟨some 45, .load false 1 (.t 44), (some (41, false))⟩,
 ⟨some 46, .bin .gtr (.t 45) (.c (.int .i64 2147483647)), (some (41, false))⟩,
 ⟨some 47, .pick (.t 41) (.c (.bool true)) (.t 46), none⟩] [0, 1, 6, 7, 8, 47])
 (.cond (.t 47) (.seq (.reg [
 ⟨some 4, .mv (.c (.nils)), none⟩,
 ⟨some 5, .mv (.c (.int .i64 400)), none⟩] [4, 5])
 (.ret))
 (.skip) [0, 1, 6, 7, 8]))
 (.seq (.reg [
 ⟨some 48, .mv (.t 0), none⟩,
 ⟨some 49, .mv (.t 8), none⟩,
 ⟨some 50, .iadr 1 (.t 48) (.t 49), none⟩,
 ⟨some 51, .load false 1 (.t 50), none⟩,
 ⟨some 52, .bin .gtr (.t 51) (.c (.int .i64 0)), none⟩] [0, 1, 6, 7, 8, 52])
 (.cond (.t 52) (.seq (.reg [
 ⟨some 53, .mv (.t 6), none⟩,
 ⟨some 54, .mv (.t 8), none⟩,
 ⟨some 55, .bslice 1 1 [.int .i64 0] [(0, (.t 54))], none⟩,
 ⟨some 56, .app 1 8 (.t 53) (.t 55), none⟩,
 ⟨some 6, .mv (.t 56), none⟩] [0, 1, 6, 7, 8])
 (.reg [
 ⟨some 57, .mv (.t 7), none⟩,
 ⟨some 58, .mv (.t 0), none⟩,
 ⟨some 59, .mv (.t 8), none⟩,
 ⟨some 60, .iadr 1 (.t 58) (.t 59), none⟩,
 ⟨some 61, .load false 1 (.t 60), none⟩,
 ⟨some 62, .bslice 1 1 [.int .i64 0] [(0, (.t 61))], none⟩,
 ⟨some 63, .app 1 8 (.t 57) (.t 62), none⟩,
 ⟨some 7, .mv (.t 63), none⟩] [0, 1, 6, 7, 8]))
 (.skip) [0, 1, 6, 7, 8]))) [0, 1, 6, 7, 8])
 (.reg [
 ⟨some 34, .mv (.t 8), none⟩,
 ⟨some 35, .bin .add (.t 34) (.c (.int .i64 1)), none⟩,
 ⟨some 8, .mv (.t 35), none⟩] [0, 1, 6, 7, 8])))
def f30 : AFunc := { np := 2, res := [.tmp 4, .tmp 5], pure := true, body :=
 (.seq (.reg [
 ⟨some 4, .mv (.c (.nils)), none⟩,
 ⟨some 5, .mv (.c (.int .i64 0)), none⟩] [0, 1])
 (.seq (.seq (.reg [
 ⟨some 14, .mv (.t 0), none⟩,
 ⟨some 15, .len false (.t 14), none⟩,
 ⟨some 16, .bin .lss (.t 15) (.c (.int .i64 2)), none⟩,
 ⟨some 17, .mv (.t 16), none⟩,
 ⟨some 18, .mv (.t 0), (some (17, false))⟩,
 ⟨some 19, .len false (.t 18), (some (17, false))⟩,
 ⟨some 20, .bin .gtr (.t 19) (.c (.int .i64 288)), (some (17, false))⟩,
 ⟨some 21, .pick (.t 17) (.c (.bool true)) (.t 20), none⟩,
 ⟨some 22, .mv (.t 21), none⟩,
 ⟨some 23, .mv (.t 1), (some (22, false))⟩,
 ⟨some 24, .bin .lss (.t 23) (.c (.int .i64 1)), (some (22, false))⟩,
 ⟨some 25, .pick (.t 22) (.c (.bool true)) (.t 24), none⟩,
 ⟨some 26, .mv (.t 25), none⟩,
 ⟨some 27, .mv (.t 1), (some (26, false))⟩,
 ⟨some 28, .bin .gtr (.t 27) (.c (.int .i64 15)), (some (26, false))⟩,
 ⟨some 29, .pick (.t 26) (.c (.bool true)) (.t 28), none⟩] [0, 1, 29])
 (.cond (.t 29) (.seq (.reg [
 ⟨some 4, .mv (.c (.nils)), none⟩,
 ⟨some 5, .mv (.c (.int .i64 400)), none⟩] [4, 5])
 (.ret))
 (.skip) [0, 1]))
 (.seq (.reg [
 ⟨some 6, .mv (.c (.nils)), none⟩,
 ⟨some 7, .mv (.c (.nils)), none⟩] [0, 1, 6, 7])
 (.seq (.seq (.reg [
 ⟨some 8, .mv (.c (.int .i64 0)), none⟩] [0, 1, 6, 7, 8])
 (.block 0 (.loop [0, 1, 6, 7, 8] f30L3) [0, 1, 6, 7]))
 (.seq (.seq (.reg [
 ⟨some 64, .mv (.t 6), none⟩,
 ⟨some 65, .len false (.t 64), none⟩,
 ⟨some 66, .bin .eql (.t 65) (.c (.int .i64 1)), none⟩,
 ⟨some 67, .mv (.t 66), none⟩,
 ⟨some 68, .mv (.t 6), (some (67, true))⟩,
 ⟨some 69, .iadr 1 (.t 68) (.c (.int .i64 0)), (some (67, true))⟩,
 ⟨some 70, .load false 1 (.t 69), (some (67, true))⟩,
 ⟨some 71, .bin .gtr (.t 70) (.c (.int .i64 0)), (some (67, true))⟩,
 ⟨some 72, .pick (.t 67) (.t 71) (.c (.bool false)), none⟩] [0, 1, 6, 7, 72])
 (.cond (.t 72) (.seq (.reg [
 ⟨some 73, .mv (.t 6), none⟩,
 ⟨some 74, .iadr 1 (.t 73) (.c (.int .i64 0)), none⟩,
 ⟨some 75, .load false 1 (.t 74), none⟩,
 ⟨some 76, .bslice 1 2 [.int .i64 0] [(0, (.c (.int .i64 0))), (1, (.t 75))], none⟩,
 ⟨some 6, .mv (.t 76), none⟩] [0, 1, 6, 7])
 (.reg [
 ⟨some 77, .mv (.t 7), none⟩,
 ⟨some 78, .iadr 1 (.t 77) (.c (.int .i64 0)), none⟩,
 ⟨some 79, .load false 1 (.t 78), none⟩,
 ⟨some 80, .bslice 1 2 [.int .i64 0] [(0, (.c (.int .i64 1))), (1, (.t 79))], none⟩,
 ⟨some 7, .mv (.t 80), none⟩] [0, 1, 6, 7]))
 (.seq (.reg [
 ⟨some 81, .mv (.t 6), none⟩,
 ⟨some 82, .len false (.t 81), none⟩,
 ⟨some 83, .bin .eql (.t 82) (.c (.int .i64 1)), none⟩] [0, 1, 6, 7, 83])
 (.cond (.t 83) (.seq (.reg [
 ⟨some 84, .mv (.t 6), none⟩,
 ⟨some 85, .bslice 1 1 [.int .i64 0] [(0, (.c (.int .i64 1)))], none⟩,
 ⟨some 86, .app 1 8 (.t 84) (.t 85), none⟩,
 ⟨some 6, .mv (.t 86), none⟩] [0, 1, 6, 7])
 (.reg [
 ⟨some 87, .mv (.t 7), none⟩,
 ⟨some 88, .bslice 1 1 [.int .i64 0] [(0, (.c (.int .i64 1)))], none⟩,
 ⟨some 89, .app 1 8 (.t 87) (.t 88), none⟩,
 ⟨some 7, .mv (.t 89), none⟩] [0, 1, 6, 7]))
 (.skip) [0, 1, 6, 7])) [0, 1, 6, 7]))
 (.seq (.seq (.reg [
 ⟨some 90, .mv (.t 1), none⟩,
 ⟨some 91, .bin .shl (.c (.int .i64 1)) (.t 90), none⟩,
 ⟨some 92, .mv (.t 6), none⟩,
 ⟨some 93, .len false (.t 92), none⟩,
 ⟨some 94, .bin .lss (.t 91) (.t 93), none⟩] [0, 1, 6, 7, 94])
 (.cond (.t 94) (.seq (.reg [
 ⟨some 4, .mv (.c (.nils)), none⟩,
 ⟨some 5, .mv (.c (.int .i64 400)), none⟩] [4, 5])
 (.ret))
 (.skip) [0, 1, 6, 7]))
 (.seq (.reg [
 ⟨some 95, .mv (.t 0), none⟩,
 ⟨some 96, .len false (.t 95), none⟩,
 ⟨some 97, .mksl 1 8 [.int .i64 0] (.t 96) (.t 96), none⟩,
 ⟨some 9, .mv (.t 97), none⟩] [1, 6, 7, 9])
 (.block 2 (.loop [1, 6, 7, 9] f30L2) [4, 5])))))))) }
def f31L0 : ACode :=
 (.seq (.seq (.reg [
 ⟨some 8, .mv (.t 5), none⟩,
 ⟨some 9, .mv (.t 1), none⟩,
 ⟨some 10, .bin .gtr (.t 8) (.t 9), none⟩] [0, 1, 5, 10])
 (.cond (.t 10) (.skip)
 (.exit 0) [0, 1, 5]))
 (.seq (.block 1 (.seq (.reg [
 ⟨some 13, .mv (.t 0), none⟩,
 ⟨some 14, .mv (.t 5), none⟩,
 ⟨some 15, .bin .sub (.t 14) (.c (.int .i64 1)), none⟩,
 ⟨some 16, .iadr 1 (.t 13) (.t 15), none⟩,
 ⟨some 17, .load false 1 (.t 16), none⟩,
 ⟨some 18, .bin .gtr (.t 17) (.c (.int .i64 0)), none⟩] [0, 1, 5, 18])
 (.cond (.t 18) (.seq (.reg [
 ⟨some 19, .mv (.t 5), none⟩,
 ⟨some 4, .mv (.t 19), none⟩] [4])
 (.ret))
 (.skip) [0, 1, 5])) [0, 1, 5])
 (.reg [
 ⟨some 11, .mv (.t 5), none⟩,
 ⟨some 12, .bin .sub (.t 11) (.c (.int .i64 1)), none⟩,
 ⟨some 5, .mv (.t 12), none⟩] [0, 1, 5])))
def f31 : AFunc := { np := 2, res := [.tmp 4], pure := true, body :=
 (.seq (.reg [
 ⟨some 4, .mv (.c (.int .i64 0)), none⟩] [0, 1])
 (.seq (.seq (.reg [
 ⟨some 6, .mv (.t 0), none⟩,
 ⟨some 7, .len false (.t 6), none⟩,
 ⟨some 5, .mv (.t 7), none⟩] [0, 1, 5])
 (.block 0 (.loop [0, 1, 5] f31L0) [1]))
 (.seq (.reg [
 ⟨some 20, .mv (.t 1), none⟩,
 ⟨some 4, .mv (.t 20), none⟩] [4])
 (.ret)))) }
def f32 : AFunc := { np := 0, res := [.tmp 0], pure := true, body :=
 (.seq (.reg [
 ⟨some 0, .mv (.c (.nils)), none⟩] [])
 (.seq (.reg [
 ⟨some 1, .bslice 1 19 [.int .i64 0] [(0, (.c (.int .i64 16))), (1, (.c (.int .i64 17))), (2, (.c (.int .i64 18))), (3, (.c (.int .i64 0))), (4, (.c (.int .i64 8))), (5, (.c (.int .i64 7))), (6, (.c (.int .i64 9))), (7, (.c (.int .i64 6))), (8, (.c (.int .i64 10))), (9, (.c (.int .i64 5))), (10, (.c (.int .i64 11))), (11, (.c (.int .i64 4))), (12, (.c (.int .i64 12))), (13, (.c (.int .i64 3))), (14, (.c (.int .i64 13))), (15, (.c (.int .i64 2))), (16, (.c (.int .i64 14))), (17, (.c (.int .i64 1))), (18, (.c (.int .i64 15)))], none⟩,
 ⟨some 0, .mv (.t 1), none⟩] [0])
 (.ret))) }
def f33L0 : ACode :=
 (.seq (.seq (.reg [
 ⟨some 33, .mv (.t 7), none⟩,
 ⟨some 34, .mv (.t 2), none⟩,
 ⟨some 35, .bin .lss (.t 33) (.t 34), none⟩] [0, 1, 2, 7, 35])
 (.cond (.t 35) (.skip)
 (.exit 0) [0, 1, 2, 7]))
 (.seq (.block 1 (.reg [
 ⟨some 38, .mv (.t 0), none⟩,
 ⟨some 39, .mv (.t 1), none⟩,
 ⟨some 40, .mv (.t 7), none⟩,
 ⟨some 41, .bin .shr (.t 39) (.t 40), none⟩,
 ⟨some 42, .bin .and (.t 41) (.c (.int .i64 1)), none⟩,
 ⟨some 43, .call (.c (.fn 57 [] [])) [(.t 38), (.t 42)], none⟩] [0, 1, 2, 7]) [0, 1, 2, 7])
 (.reg [
 ⟨some 36, .mv (.t 7), none⟩,
 ⟨some 37, .bin .add (.t 36) (.c (.int .i64 1)), none⟩,
 ⟨some 7, .mv (.t 37), none⟩] [0, 1, 2, 7])))
def f33 : AFunc := { np := 3, res := [.tmp 6], pure := false, body :=
 (.seq (.reg [
 ⟨some 6, .mv (.c (.int .i64 0)), none⟩] [0, 1, 2])
 (.seq (.seq (.reg [
 ⟨some 8, .mv (.t 2), none⟩,
 ⟨some 9, .bin .lss (.t 8) (.c (.int .i64 0)), none⟩,
 ⟨some 10, .mv (.t 9), none⟩,
 ⟨some 11, .mv (.t 2), (some (10, false))⟩,
 ⟨some 12, .bin .gtr (.t 11) (.c (.int .i64 16)), (some (10, false))⟩,
 ⟨some 13, .pick (.t 10) (.c (.bool true)) (.t 12), none⟩,
 ⟨some 14, .mv (.t 13), none⟩,
 ⟨some 15, .mv (.t 1), (some (14, false))⟩,
 ⟨some 16, .bin .lss (.t 15) (.c (.int .i64 0)), (some (14, false))⟩,
 ⟨some 17, .pick (.t 14) (.c (.bool true)) (.t 16), none⟩,
 ⟨some 18, .mv (.t 17), none⟩,
 ⟨some 19, .mv (.t 1), (some (18, false))⟩,
 ⟨some 20, .mv (.t 2), (some (18, false))⟩,
 ⟨some 21, .bin .shl (.c (.int .i64 1)) (.t 20), (some (18, false))⟩,
 ⟨some 22, .bin .geq (.t 19) (.t 21), (some (18, false))⟩,
 ⟨some 23, .pick (.t 18) (.c (.bool true)) (.t 22), none⟩,
 ⟨some 24, .mv (.t 23), none⟩,
 ⟨some 25, .mv (.t 0), (some (24, false))⟩,
 ⟨some 26, .nilc (.t 25), (some (24, false))⟩,
 ⟨some 27, .fadr 1 (.t 26), (some (24, false))⟩,
 ⟨some 28, .load false 1 (.t 27), (some (24, false))⟩,
 ⟨some 29, .mv (.t 2), (some (24, false))⟩,
 ⟨some 30, .bin .add (.t 28) (.t 29), (some (24, false))⟩,
 ⟨some 31, .bin .gtr (.t 30) (.c (.int .i64 65536)), (some (24, false))⟩,
 ⟨some 32, .pick (.t 24) (.c (.bool true)) (.t 31), none⟩] [0, 1, 2, 32])
 (.cond (.t 32) (.seq (.reg [
 ⟨some 6, .mv (.c (.int .i64 100)), none⟩] [6])
 (.ret))
 (.skip) [0, 1, 2]))
 (.seq (.seq (.reg [
 ⟨some 7, .mv (.c (.int .i64 0)), none⟩] [0, 1, 2, 7])
 (.block 0 (.loop [0, 1, 2, 7] f33L0) []))
 (.seq (.reg [
 ⟨some 6, .mv (.c (.int .i64 0)), none⟩] [6])
 (.ret))))) }
def f34L0 : ACode :=
 (.seq (.seq (.reg [
 ⟨some 27, .mv (.t 8), none⟩,
 ⟨some 28, .mv (.t 0), none⟩,
 ⟨some 29, .len false (.t 28), none⟩,
 ⟨some 30, .bin .lss (.t 27) (.t 29), none⟩] [0, 5, 6, 7, 8, 30])
 (.cond (.t 30) (.skip)
 (.exit 2) [0, 5, 6, 7, 8]))
 (.seq (.block 3 (.seq (.reg [
 ⟨some 33, .mv (.t 0), none⟩,
 ⟨some 34, .mv (.t 8), none⟩,
 ⟨some 35, .iadr 1 (.t 33) (.t 34), none⟩,
 ⟨some 36, .load false 1 (.t 35), none⟩,
 ⟨some 37, .mv (.t 7), none⟩,
 ⟨some 38, .bin .eql (.t 36) (.t 37), none⟩] [0, 5, 6, 7, 8, 38])
 (.cond (.t 38) (.seq (.reg [
 ⟨some 39, .mv (.t 5), none⟩,
 ⟨some 40, .mv (.t 8), none⟩,
 ⟨some 41, .mv (.t 7), none⟩,
 ⟨some 42, .mv (.t 6), none⟩,
 ⟨some 43, .build [.int .i64 0, .int .i64 0] [(0, 1, (.t 41)), (1, 1, (.t 42))], none⟩,
 ⟨some 44, .iadr 2 (.t 39) (.t 40), none⟩,
 ⟨none, .store 2 (.t 44) (.t 43), none⟩] [0, 5, 6, 7, 8])
 (.reg [
 ⟨some 45, .mv (.t 6), none⟩,
 ⟨some 46, .bin .add (.t 45) (.c (.int .i64 1)), none⟩,
 ⟨some 6, .mv (.t 46), none⟩] [0, 5, 6, 7, 8]))
 (.skip) [0, 5, 6, 7, 8])) [0, 5, 6, 7, 8])
 (.reg [
 ⟨some 31, .mv (.t 8), none⟩,
 ⟨some 32, .bin .add (.t 31) (.c (.int .i64 1)), none⟩,
 ⟨some 8, .mv (.t 32), none⟩] [0, 5, 6, 7, 8])))
def f34L1 : ACode :=
 (.seq (.seq (.reg [
 ⟨some 21, .mv (.t 7), none⟩,
 ⟨some 22, .bin .leq (.t 21) (.c (.int .i64 15)), none⟩] [0, 5, 6, 7, 22])
 (.cond (.t 22) (.skip)
 (.exit 0) [0, 5, 6, 7]))
 (.seq (.block 1 (.seq (.reg [
 ⟨some 25, .mv (.t 6), none⟩,
 ⟨some 26, .bin .mul (.c (.int .i64 2)) (.t 25), none⟩,
 ⟨some 6, .mv (.t 26), none⟩] [0, 5, 6, 7])
 (.seq (.reg [
 ⟨some 8, .mv (.c (.int .i64 0)), none⟩] [0, 5, 6, 7, 8])
 (.block 2 (.loop [0, 5, 6, 7, 8] f34L0) [0, 5, 6, 7]))) [0, 5, 6, 7])
 (.reg [
 ⟨some 23, .mv (.t 7), none⟩,
 ⟨some 24, .bin .add (.t 23) (.c (.int .i64 1)), none⟩,
 ⟨some 7, .mv (.t 24), none⟩] [0, 5, 6, 7])))
def f34 : AFunc := { np := 1, res := [.tmp 2, .tmp 3], pure := true, body :=
 (.seq (.reg [
 ⟨some 2, .mv (.c (.nils)), none⟩,
 ⟨some 3, .mv (.c (.int .i64 0)), none⟩] [0])
 (.seq (.reg [
 ⟨some 9, .mv (.t 0), none⟩,
 ⟨some 10, .call (.c (.fn 52 [] [])) [(.t 9)], none⟩,
 ⟨some 4, .mv (.t 10), none⟩] [0, 4])
 (.seq (.seq (.reg [
 ⟨some 11, .mv (.t 4), none⟩,
 ⟨some 12, .bin .neq (.t 11) (.c (.int .i64 0)), none⟩,
 ⟨some 13, .mv (.t 12), none⟩,
 ⟨some 14, .mv (.t 4), (some (13, true))⟩,
 ⟨some 15, .bin .neq (.t 14) (.c (.int .i64 302)), (some (13, true))⟩,
 ⟨some 16, .pick (.t 13) (.t 15) (.c (.bool false)), none⟩] [0, 4, 16])
 (.cond (.t 16) (.seq (.reg [
 ⟨some 17, .mv (.t 4), none⟩,
 ⟨some 2, .mv (.c (.nils)), none⟩,
 ⟨some 3, .mv (.t 17), none⟩] [2, 3])
 (.ret))
 (.skip) [0]))
 (.seq (.reg [
 ⟨some 18, .mv (.t 0), none⟩,
 ⟨some 19, .len false (.t 18), none⟩,
 ⟨some 20, .mksl 2 16 [.int .i64 0, .int .i64 0] (.t 19) (.t 19), none⟩,
 ⟨some 5, .mv (.t 20), none⟩] [0, 5])
 (.seq (.reg [
 ⟨some 6, .mv (.c (.int .i64 0)), none⟩] [0, 5, 6])
 (.seq (.seq (.reg [
 ⟨some 7, .mv (.c (.int .i64 1)), none⟩] [0, 5, 6, 7])
 (.block 0 (.loop [0, 5, 6, 7] f34L1) [5]))
 (.seq (.reg [
 ⟨some 47, .mv (.t 5), none⟩,
 ⟨some 2, .mv (.t 47), none⟩,
 ⟨some 3, .mv (.c (.int .i64 0)), none⟩] [2, 3])
 (.ret)))))))) }
def f35L0 : ACode :=
 (.seq (.seq (.reg [
 ⟨some 40, .mv (.t 5), none⟩,
 ⟨some 41, .bin .geq (.t 40) (.c (.int .i64 0)), none⟩] [0, 3, 5, 41])
 (.cond (.t 41) (.skip)
 (.exit 0) [0, 3, 5]))
 (.seq (.block 1 (.reg [
 ⟨some 44, .mv (.t 0), none⟩,
 ⟨some 45, .fadr 1 (.t 3), none⟩,
 ⟨some 46, .load false 1 (.t 45), none⟩,
 ⟨some 47, .mv (.t 5), none⟩,
 ⟨some 48, .bin .shr (.t 46) (.t 47), none⟩,
 ⟨some 49, .bin .and (.t 48) (.c (.int .i64 1)), none⟩,
 ⟨some 50, .call (.c (.fn 57 [] [])) [(.t 44), (.t 49)], none⟩] [0, 3, 5]) [0, 3, 5])
 (.reg [
 ⟨some 42, .mv (.t 5), none⟩,
 ⟨some 43, .bin .sub (.t 42) (.c (.int .i64 1)), none⟩,
 ⟨some 5, .mv (.t 43), none⟩] [0, 3, 5])))
def f35 : AFunc := { np := 2, res := [.tmp 4], pure := false, body :=
 (.seq (.reg [
 ⟨some 3, .box 2 (.t 1), none⟩,
 ⟨some 4, .mv (.c (.int .i64 0)), none⟩] [0, 3])
 (.seq (.seq (.dreg [0, 1, 2, 3, 4, 5, 6, 7, 8, 9, 10, 11, 12, 13, 14, 15, 16, 17, 18, 19, 20, 21, 22, 23, 24, 25, 26, 27, 28, 29, 30] [
 ⟨some 6, .fadr 0 (.t 3), none⟩,
 ⟨some 7, .load false 1 (.t 6), none⟩,
 ⟨some 8, .bin .lss (.t 7) (.c (.int .i64 1)), none⟩,
 ⟨some 9, .mv (.t 8), none⟩,
 ⟨some 10, .fadr 0 (.t 3), (some (9, false))⟩,
 ⟨some 11, .load false 1 (.t 10), (some (9, false))⟩,
 ⟨some 12, .bin .gtr (.t 11) (.c (.int .i64 15)), (some (9, false))⟩,
 ⟨some 13, .pick (.t 9) (.c (.bool true)) (.t 12), none⟩,
 ⟨some 14, .mv (.t 13), none⟩,
 ⟨some 15, .fadr 1 (.t 3), (some (14, false))⟩,
 ⟨some 16, .load false 1 (.t 15), (some (14, false))⟩,
 ⟨some 17, .bin .lss (.t 16) (.c (.int .i64 0)), (some (14, false))⟩,
 ⟨some 18, .pick (.t 14) (.c (.bool true)) (.t 17), none⟩,
 ⟨some 19, .mv (.t 18), none⟩,
 ⟨some 20, .fadr 1 (.t 3), (some (19, false))⟩,
 ⟨some 21, .load false 1 (.t 20), (some (19, false))⟩,
 ⟨some 22, .fadr 0 (.t 3), (some (19, false))⟩,
 ⟨some 23, .load false 1 (.t 22), (some (19, false))⟩,
 ⟨some 24, .bin .shl (.c (.int .i64 1)) (.t 23), (some (19, false))⟩,
 ⟨some 25, .bin .geq (.t 21) (.t 24), (some (19, false))⟩,
 ⟨some 26, .pick (.t 19) (.c (.bool true)) (.t 25), none⟩,
 ⟨some 27, .mv (.t 26), none⟩,
 ⟨some 28, .mv (.t 0), (some (27, false))⟩,
 ⟨some 29, .nilc (.t 28), (some (27, false))⟩,
 ⟨some 30, .fadr 1 (.t 29), (some (27, false))⟩,
 ⟨some 31, .load false 1 (.t 30), (some (27, false))⟩,
 ⟨some 32, .fadr 0 (.t 3), (some (27, false))⟩,
 ⟨some 33, .load false 1 (.t 32), (some (27, false))⟩,
 ⟨some 34, .bin .add (.t 31) (.t 33), (some (27, false))⟩,
 ⟨some 35, .bin .gtr (.t 34) (.c (.int .i64 65536)), (some (27, false))⟩,
 ⟨some 36, .pick (.t 27) (.c (.bool true)) (.t 35), none⟩] [] [0, 3, 36])
 (.cond (.t 36) (.seq (.reg [
 ⟨some 4, .mv (.c (.int .i64 100)), none⟩] [4])
 (.ret))
 (.skip) [0, 3]))
 (.seq (.seq (.reg [
 ⟨some 37, .fadr 0 (.t 3), none⟩,
 ⟨some 38, .load false 1 (.t 37), none⟩,
 ⟨some 39, .bin .sub (.t 38) (.c (.int .i64 1)), none⟩,
 ⟨some 5, .mv (.t 39), none⟩] [0, 3, 5])
 (.block 0 (.loop [0, 3, 5] f35L0) []))
 (.seq (.reg [
 ⟨some 4, .mv (.c (.int .i64 0)), none⟩] [4])
 (.ret))))) }
def f36L0 : ACode :=
 (.seq (.seq (.reg [
 ⟨some 13, .mv (.t 8), none⟩,
 ⟨some 14, .mv (.t 1), none⟩,
 ⟨some 15, .len false (.t 14), none⟩,
 ⟨some 16, .bin .lss (.t 13) (.t 15), none⟩] [0, 1, 2, 3, 8, 16])
 (.cond (.t 16) (.skip)
 (.exit 0) [0, 1, 2, 3, 8]))
 (.seq (.block 1 (.seq (.seq (.reg [
 ⟨some 19, .mv (.t 1), none⟩,
 ⟨some 20, .mv (.t 8), none⟩,
 ⟨some 21, .iadr 3 (.t 19) (.t 20), none⟩,
 ⟨some 22, .fadr 1 (.t 21), none⟩,
 ⟨some 23, .load false 1 (.t 22), none⟩,
 ⟨some 24, .bin .eql (.t 23) (.c (.int .i64 0)), none⟩] [0, 1, 2, 3, 8, 24])
 (.cond (.t 24) (.seq (.reg [
 ⟨some 25, .mv (.t 0), none⟩,
 ⟨some 26, .mv (.t 2), none⟩,
 ⟨some 27, .mv (.t 1), none⟩,
 ⟨some 28, .mv (.t 8), none⟩,
 ⟨some 29, .iadr 3 (.t 27) (.t 28), none⟩,
 ⟨some 30, .fadr 0 (.t 29), none⟩,
 ⟨some 31, .load false 1 (.t 30), none⟩,
 ⟨some 32, .iadr 2 (.t 26) (.t 31), none⟩,
 ⟨some 33, .load true 2 (.t 32), none⟩,
 ⟨some 34, .call (.c (.fn 35 [] [])) [(.t 25), (.t 33)], none⟩] [0, 1, 2, 3, 8])
 (.exit 1))
 (.skip) [0, 1, 2, 3, 8]))
 (.seq (.reg [
 ⟨some 36, .mv (.t 1), none⟩,
 ⟨some 37, .mv (.t 8), none⟩,
 ⟨some 38, .iadr 3 (.t 36) (.t 37), none⟩,
 ⟨some 39, .fadr 1 (.t 38), none⟩,
 ⟨some 40, .load false 1 (.t 39), none⟩,
 ⟨some 41, .call (.c (.fn 28 [] [])) [(.t 40)], none⟩,
 ⟨some 35, .mv (.t 41), none⟩,
 ⟨some 42, .extr (.t 35) 0, none⟩,
 ⟨some 43, .extr (.t 35) 1, none⟩,
 ⟨some 9, .alloc [.int .i64 0, .int .i64 0, .int .i64 0], none⟩,
 ⟨none, .store 3 (.t 9) (.t 42), none⟩,
 ⟨some 10, .mv (.t 43), none⟩] [0, 1, 2, 3, 8, 9])
 (.seq (.reg [
 ⟨some 44, .mv (.t 0), none⟩,
 ⟨some 45, .mv (.t 2), none⟩,
 ⟨some 46, .fadr 0 (.t 9), none⟩,
 ⟨some 47, .load false 1 (.t 46), none⟩,
 ⟨some 48, .iadr 2 (.t 45) (.t 47), none⟩,
 ⟨some 49, .load true 2 (.t 48), none⟩,
 ⟨some 50, .call (.c (.fn 35 [] [])) [(.t 44), (.t 49)], none⟩] [0, 1, 2, 3, 8, 9])
 (.seq (.reg [
 ⟨some 51, .mv (.t 0), none⟩,
 ⟨some 52, .fadr 2 (.t 9), none⟩,
 ⟨some 53, .load false 1 (.t 52), none⟩,
 ⟨some 54, .fadr 1 (.t 9), none⟩,
 ⟨some 55, .load false 1 (.t 54), none⟩,
 ⟨some 56, .call (.c (.fn 33 [] [])) [(.t 51), (.t 53), (.t 55)], none⟩] [0, 1, 2, 3, 8])
 (.seq (.reg [
 ⟨some 58, .mv (.t 1), none⟩,
 ⟨some 59, .mv (.t 8), none⟩,
 ⟨some 60, .iadr 3 (.t 58) (.t 59), none⟩,
 ⟨some 61, .fadr 2 (.t 60), none⟩,
 ⟨some 62, .load false 1 (.t 61), none⟩,
 ⟨some 63, .call (.c (.fn 29 [] [])) [(.t 62)], none⟩,
 ⟨some 57, .mv (.t 63), none⟩,
 ⟨some 64, .extr (.t 57) 0, none⟩,
 ⟨some 65, .extr (.t 57) 1, none⟩,
 ⟨some 11, .alloc [.int .i64 0, .int .i64 0, .int .i64 0], none⟩,
 ⟨none, .store 3 (.t 11) (.t 64), none⟩,
 ⟨some 12, .mv (.t 65), none⟩] [0, 1, 2, 3, 8, 11])
 (.seq (.reg [
 ⟨some 66, .mv (.t 0), none⟩,
 ⟨some 67, .mv (.t 3), none⟩,
 ⟨some 68, .fadr 0 (.t 11), none⟩,
 ⟨some 69, .load false 1 (.t 68), none⟩,
 ⟨some 70, .iadr 2 (.t 67) (.t 69), none⟩,
 ⟨some 71, .load true 2 (.t 70), none⟩,
 ⟨some 72, .call (.c (.fn 35 [] [])) [(.t 66), (.t 71)], none⟩] [0, 1, 2, 3, 8, 11])
 (.reg [
 ⟨some 73, .mv (.t 0), none⟩,
 ⟨some 74, .fadr 2 (.t 11), none⟩,
 ⟨some 75, .load false 1 (.t 74), none⟩,
 ⟨some 76, .fadr 1 (.t 11), none⟩,
 ⟨some 77, .load false 1 (.t 76), none⟩,
 ⟨some 78, .call (.c (.fn 33 [] [])) [(.t 73), (.t 75), (.t 77)], none⟩] [0, 1, 2, 3, 8]))))))) [0, 1, 2, 3, 8])
 (.reg [
 ⟨some 17, .mv (.t 8), none⟩,
 ⟨some 18, .bin .add (.t 17) (.c (.int .i64 1)), none⟩,
 ⟨some 8, .mv (.t 18), none⟩] [0, 1, 2, 3, 8])))
def f36 : AFunc := { np := 4, res := [], pure := false, body :=
 (.seq (.seq (.reg [
 ⟨some 8, .mv (.c (.int .i64 0)), none⟩] [0, 1, 2, 3, 8])
 (.block 0 (.loop [0, 1, 2, 3, 8] f36L0) [0, 2]))
 (.reg [
 ⟨some 79, .mv (.t 0), none⟩,
 ⟨some 80, .mv (.t 2), none⟩,
 ⟨some 81, .iadr 2 (.t 80) (.c (.int .i64 256)), none⟩,
 ⟨some 82, .load true 2 (.t 81), none⟩,
 ⟨some 83, .call (.c (.fn 35 [] [])) [(.t 79), (.t 82)], none⟩] [])) }
def f37 : AFunc := { np := 1, res := [.tmp 2], pure := false, body :=
 (.seq (.reg [
 ⟨some 2, .mv (.c (.str ⟨#[]⟩)), none⟩] [0])
 (.seq (.reg [
 ⟨some 3, .mv (.t 0), none⟩,
 ⟨some 4, .nilc (.t 3), none⟩,
 ⟨some 5, .fadr 0 (.t 4), none⟩,
 ⟨some 6, .load false 1 (.t 5), none⟩,
 ⟨some 7, .b2s (.t 6), none⟩,
 ⟨some 2, .mv (.t 7), none⟩] [2])
 (.ret))) }
def f38 : AFunc := { np := 2, res := [.tmp 4], pure := false, body :=
 (.seq (.reg [
 ⟨some 4, .mv (.c (.int .i64 0)), none⟩] [0, 1])
 (.seq (.reg [
 ⟨some 8, .mv (.t 0), none⟩,
 ⟨some 9, .nilc (.t 8), none⟩,
 ⟨some 10, .fadr 0 (.t 9), none⟩,
 ⟨some 11, .load false 1 (.t 10), none⟩,
 ⟨some 12, .mv (.t 1), none⟩,
 ⟨some 13, .call (.c (.fn 58 [] [])) [(.t 11), (.t 12)], none⟩,
 ⟨some 7, .mv (.t 13), none⟩,
 ⟨some 14, .extr (.t 7) 0, none⟩,
 ⟨some 15, .extr (.t 7) 1, none⟩,
 ⟨some 5, .mv (.t 14), none⟩,
 ⟨some 6, .mv (.t 15), none⟩] [0, 5, 6])
 (.seq (.seq (.reg [
 ⟨some 16, .mv (.t 6), none⟩,
 ⟨some 17, .bin .neq (.t 16) (.c (.int .i64 0)), none⟩] [0, 5, 17])
 (.cond (.t 17) (.reg [
 ⟨some 18, .mv (.t 0), none⟩,
 ⟨some 19, .call (.c (.fn 45 [] [])) [(.t 18), (.c (.int .i64 700))], none⟩] [5])
 (.skip) [5]))
 (.seq (.reg [
 ⟨some 20, .mv (.t 5), none⟩,
 ⟨some 4, .mv (.t 20), none⟩] [4])
 (.ret))))) }
def f39L0 : ACode :=
 (.seq (.seq (.reg [
 ⟨some 18, .mv (.t 2), none⟩,
 ⟨some 19, .bin .gtr (.t 18) (.c (.int .i64 0)), none⟩,
 ⟨some 20, .mv (.t 19), none⟩,
 ⟨some 21, .mv (.t 0), (some (20, true))⟩,
 ⟨some 22, .nilc (.t 21), (some (20, true))⟩,
 ⟨some 23, .fadr 3 (.t 22), (some (20, true))⟩,
 ⟨some 24, .load false 1 (.t 23), (some (20, true))⟩,
 ⟨some 25, .bin .eql (.t 24) (.c (.int .i64 0)), (some (20, true))⟩,
 ⟨some 26, .pick (.t 20) (.t 25) (.c (.bool false)), none⟩] [0, 2, 26])
 (.cond (.t 26) (.skip)
 (.exit 0) [0, 2]))
 (.seq (.block 1 (.seq (.reg [
 ⟨some 29, .mv (.t 0), none⟩,
 ⟨some 30, .call (.c (.fn 38 [] [])) [(.t 29), (.c (.int .i64 8))], none⟩,
 ⟨some 3, .mv (.t 30), none⟩] [0, 2, 3])
 (.seq (.reg [
 ⟨some 31, .mv (.t 0), none⟩,
 ⟨some 32, .nilc (.t 31), none⟩,
 ⟨some 33, .fadr 3 (.t 32), none⟩,
 ⟨some 34, .load false 1 (.t 33), none⟩,
 ⟨some 35, .bin .eql (.t 34) (.c (.int .i64 0)), none⟩] [0, 2, 3, 35])
 (.cond (.t 35) (.reg [
 ⟨some 36, .mv (.t 0), none⟩,
 ⟨some 37, .mv (.t 3), none⟩,
 ⟨some 38, .conv .u8 (.t 37), none⟩,
 ⟨some 39, .call (.c (.fn 59 [] [])) [(.t 36), (.t 38)], none⟩] [0, 2])
 (.skip) [0, 2]))) [0, 2])
 (.reg [
 ⟨some 27, .mv (.t 2), none⟩,
 ⟨some 28, .bin .sub (.t 27) (.c (.int .i64 1)), none⟩,
 ⟨some 2, .mv (.t 28), none⟩] [0, 2])))
def f39 : AFunc := { np := 1, res := [], pure := false, body :=
 (.seq (.reg [
 ⟨some 4, .mv (.t 0), none⟩,
 ⟨some 5, .nilc (.t 4), none⟩,
 ⟨some 6, .fadr 0 (.t 5), none⟩,
 ⟨some 7, .load false 1 (.t 6), none⟩,
 ⟨some 8, .call (.c (.fn 16 [] [])) [(.t 7)], none⟩] [0])
 (.seq (.reg [
 ⟨some 9, .mv (.t 0), none⟩,
 ⟨some 10, .call (.c (.fn 38 [] [])) [(.t 9), (.c (.int .i64 16))], none⟩,
 ⟨some 2, .mv (.t 10), none⟩] [0, 2])
 (.seq (.seq (.reg [
 ⟨some 11, .mv (.t 0), none⟩,
 ⟨some 12, .call (.c (.fn 38 [] [])) [(.t 11), (.c (.int .i64 16))], none⟩,
 ⟨some 13, .mv (.t 2), none⟩,
 ⟨some 14, .bin .xor (.t 13) (.c (.int .i64 65535)), none⟩,
 ⟨some 15, .bin .neq (.t 12) (.t 14), none⟩] [0, 2, 15])
 (.cond (.t 15) (.reg [
 ⟨some 16, .mv (.t 0), none⟩,
 ⟨some 17, .call (.c (.fn 45 [] [])) [(.t 16), (.c (.int .i64 700))], none⟩] [0, 2])
 (.skip) [0, 2]))
 (.block 0 (.loop [0, 2] f39L0) [])))) }
def f40L0 : ACode :=
 (.seq (.seq (.reg [
 ⟨some 7, .mv (.t 0), none⟩,
 ⟨some 8, .nilc (.t 7), none⟩,
 ⟨some 9, .fadr 3 (.t 8), none⟩,
 ⟨some 10, .load false 1 (.t 9), none⟩,
 ⟨some 11, .bin .eql (.t 10) (.c (.int .i64 0)), none⟩] [0, 1, 2, 11])
 (.cond (.t 11) (.skip)
 (.exit 0) [0, 1, 2]))
 (.block 1 (.seq (.reg [
 ⟨some 12, .mv (.t 0), none⟩,
 ⟨some 13, .mv (.t 1), none⟩,
 ⟨some 14, .call (.c (.fn 60 [] [])) [(.t 12), (.t 13)], none⟩,
 ⟨some 6, .mv (.t 14), none⟩] [0, 1, 2, 6])
 (.block 2 (.seq (.reg [
 ⟨some 20, .mv (.t 6), none⟩,
 ⟨some 21, .bin .lss (.t 20) (.c (.int .i64 256)), none⟩,
 ⟨some 19, .mv (.t 21), none⟩] [0, 1, 2, 6, 19])
 (.cond (.t 19) (.reg [
 ⟨some 22, .mv (.t 0), none⟩,
 ⟨some 23, .mv (.t 6), none⟩,
 ⟨some 24, .conv .u8 (.t 23), none⟩,
 ⟨some 25, .call (.c (.fn 59 [] [])) [(.t 22), (.t 24)], none⟩] [0, 1, 2])
 (.seq (.reg [
 ⟨some 27, .mv (.t 6), none⟩,
 ⟨some 28, .bin .eql (.t 27) (.c (.int .i64 256)), none⟩,
 ⟨some 26, .mv (.t 28), none⟩] [0, 1, 2, 6, 26])
 (.cond (.t 26) (.ret)
 (.reg [
 ⟨some 15, .mv (.t 0), none⟩,
 ⟨some 16, .mv (.t 6), none⟩,
 ⟨some 17, .mv (.t 2), none⟩,
 ⟨some 18, .call (.c (.fn 61 [] [])) [(.t 15), (.t 16), (.t 17)], none⟩] [0, 1, 2]) [0, 1, 2])) [0, 1, 2])) [0, 1, 2])) [0, 1, 2]))
def f40 : AFunc := { np := 3, res := [], pure := false, body :=
 (.block 0 (.loop [0, 1, 2] f40L0) []) }
def f41L0 : ACode :=
 (.seq (.seq (.reg [
 ⟨some 44, .mv (.t 7), none⟩,
 ⟨some 45, .bin .leq (.t 44) (.c (.int .i64 15)), none⟩] [3, 6, 7, 45])
 (.cond (.t 45) (.skip)
 (.exit 2) [3, 6, 7]))
 (.seq (.block 3 (.seq (.reg [
 ⟨some 48, .mv (.t 6), none⟩,
 ⟨some 49, .mv (.t 3), none⟩,
 ⟨some 50, .mv (.t 7), none⟩,
 ⟨some 51, .bin .sub (.t 50) (.c (.int .i64 1)), none⟩,
 ⟨some 52, .nilc (.t 49), none⟩,
 ⟨some 53, .fadr 16 (.t 52), none⟩,
 ⟨some 54, .iadra 16 1 (.t 53) (.t 51), none⟩,
 ⟨some 55, .load false 1 (.t 54), none⟩,
 ⟨some 56, .bin .add (.t 48) (.t 55), none⟩,
 ⟨some 57, .bin .mul (.t 56) (.c (.int .i64 2)), none⟩,
 ⟨some 6, .mv (.t 57), none⟩] [3, 6, 7])
 (.seq (.reg [
 ⟨some 58, .mv (.t 3), none⟩,
 ⟨some 59, .mv (.t 7), none⟩,
 ⟨some 60, .mv (.t 6), none⟩,
 ⟨some 61, .nilc (.t 58), none⟩,
 ⟨some 62, .fadr 0 (.t 61), none⟩,
 ⟨some 63, .iadra 16 1 (.t 62) (.t 59), none⟩,
 ⟨none, .store 1 (.t 63) (.t 60), none⟩] [3, 6, 7])
 (.dreg [0, 1, 2, 3, 4, 5, 6, 7, 8, 9, 10, 11, 12, 13, 14, 15] [
 ⟨some 64, .mv (.t 3), none⟩,
 ⟨some 65, .mv (.t 3), none⟩,
 ⟨some 66, .nilc (.t 65), none⟩,
 ⟨some 67, .fadr 48 (.t 66), none⟩,
 ⟨some 68, .load false 1 (.t 67), none⟩,
 ⟨some 69, .bin .mul (.t 68) (.c (.int .i64 2)), none⟩,
 ⟨some 70, .mv (.t 3), none⟩,
 ⟨some 71, .mv (.t 7), none⟩,
 ⟨some 72, .nilc (.t 70), none⟩,
 ⟨some 73, .fadr 16 (.t 72), none⟩,
 ⟨some 74, .iadra 16 1 (.t 73) (.t 71), none⟩,
 ⟨some 75, .load false 1 (.t 74), none⟩,
 ⟨some 76, .bin .sub (.t 69) (.t 75), none⟩,
 ⟨some 77, .nilc (.t 64), none⟩,
 ⟨some 78, .fadr 48 (.t 77), none⟩,
 ⟨none, .store 1 (.t 78) (.t 76), none⟩] [] [3, 6, 7]))) [3, 6, 7])
 (.reg [
 ⟨some 46, .mv (.t 7), none⟩,
 ⟨some 47, .bin .add (.t 46) (.c (.int .i64 1)), none⟩,
 ⟨some 7, .mv (.t 47), none⟩] [3, 6, 7])))
def f41L1 : ACode :=
 (.seq (.reg [
 ⟨some 13, .bin .lss (.t 12) (.t 11), none⟩] [3, 10, 11, 12, 13])
 (.seq (.cond (.t 13) (.skip)
 (.exit 0) [3, 10, 11, 12])
 (.seq (.block 1 (.seq (.reg [
 ⟨some 14, .mv (.t 12), none⟩,
 ⟨some 15, .iadr 1 (.t 10) (.t 12), none⟩,
 ⟨some 16, .load false 1 (.t 15), none⟩,
 ⟨some 4, .mv (.t 14), none⟩,
 ⟨some 5, .mv (.t 16), none⟩] [3, 4, 5, 10, 11, 12])
 (.seq (.reg [
 ⟨some 17, .mv (.t 5), none⟩,
 ⟨some 18, .bin .gtr (.t 17) (.c (.int .i64 0)), none⟩] [3, 4, 5, 10, 11, 12, 18])
 (.cond (.t 18) (.seq (.dreg [0, 1, 2, 3, 4, 5, 6, 7, 8, 9, 10] [
 ⟨some 19, .mv (.t 3), none⟩,
 ⟨some 20, .mv (.t 5), none⟩,
 ⟨some 21, .nilc (.t 19), none⟩,
 ⟨some 22, .fadr 16 (.t 21), none⟩,
 ⟨some 23, .iadra 16 1 (.t 22) (.t 20), none⟩,
 ⟨some 24, .load false 1 (.t 23), none⟩,
 ⟨some 25, .bin .add (.t 24) (.c (.int .i64 1)), none⟩,
 ⟨some 26, .nilc (.t 19), none⟩,
 ⟨some 27, .fadr 16 (.t 26), none⟩,
 ⟨some 28, .iadra 16 1 (.t 27) (.t 20), none⟩,
 ⟨none, .store 1 (.t 28) (.t 25), none⟩] [] [3, 4, 5, 10, 11, 12])
 (.dreg [0, 1, 2, 3, 4, 5, 6, 7, 8, 9, 10, 11, 12, 13, 14] [
 ⟨some 29, .mv (.t 3), none⟩,
 ⟨some 30, .mv (.t 5), none⟩,
 ⟨some 31, .mv (.t 3), none⟩,
 ⟨some 32, .mv (.t 5), none⟩,
 ⟨some 33, .nilc (.t 31), none⟩,
 ⟨some 34, .fadr 32 (.t 33), none⟩,
 ⟨some 35, .iadra 16 1 (.t 34) (.t 32), none⟩,
 ⟨some 36, .load false 1 (.t 35), none⟩,
 ⟨some 37, .mv (.t 4), none⟩,
 ⟨some 38, .bslice 1 1 [.int .i64 0] [(0, (.t 37))], none⟩,
 ⟨some 39, .app 1 8 (.t 36) (.t 38), none⟩,
 ⟨some 40, .nilc (.t 29), none⟩,
 ⟨some 41, .fadr 32 (.t 40), none⟩,
 ⟨some 42, .iadra 16 1 (.t 41) (.t 30), none⟩,
 ⟨none, .store 1 (.t 42) (.t 39), none⟩] [] [3, 10, 11, 12]))
 (.skip) [3, 10, 11, 12]))) [3, 10, 11, 12])
 (.reg [
 ⟨some 43, .bin .add (.t 12) (.c (.int .i64 1)), none⟩,
 ⟨some 12, .mv (.t 43), none⟩] [3, 10, 11, 12]))))
def f41 : AFunc := { np := 1, res := [.tmp 2], pure := true, body :=
 (.seq (.reg [
 ⟨some 2, .mv (.c (.nilp)), none⟩] [0])
 (.seq (.reg [
 ⟨some 8, .build [.int .i64 0, .int .i64 0, .int .i64 0, .int .i64 0, .int .i64 0, .int .i64 0, .int .i64 0, .int .i64 0, .int .i64 0, .int .i64 0, .int .i64 0, .int .i64 0, .int .i64 0, .int .i64 0, .int .i64 0, .int .i64 0, .int .i64 0, .int .i64 0, .int .i64 0, .int .i64 0, .int .i64 0, .int .i64 0, .int .i64 0, .int .i64 0, .int .i64 0, .int .i64 0, .int .i64 0, .int .i64 0, .int .i64 0, .int .i64 0, .int .i64 0, .int .i64 0, .nils, .nils, .nils, .nils, .nils, .nils, .nils, .nils, .nils, .nils, .nils, .nils, .nils, .nils, .nils, .nils, .int .i64 0] [(48, 1, (.c (.int .i64 1)))], none⟩,
 ⟨some 9, .box 49 (.t 8), none⟩,
 ⟨some 3, .mv (.t 9), none⟩] [0, 3])
 (.seq (.seq (.reg [
 ⟨some 10, .mv (.t 0), none⟩,
 ⟨some 11, .len false (.t 10), none⟩,
 ⟨some 12, .mv (.c (.int .i64 0)), none⟩] [3, 10, 11, 12])
 (.block 0 (.loop [3, 10, 11, 12] f41L1) [3]))
 (.seq (.reg [
 ⟨some 6, .mv (.c (.int .i64 0)), none⟩] [3, 6])
 (.seq (.seq (.reg [
 ⟨some 7, .mv (.c (.int .i64 1)), none⟩] [3, 6, 7])
 (.block 2 (.loop [3, 6, 7] f41L0) [3]))
 (.seq (.reg [
 ⟨some 79, .mv (.t 3), none⟩,
 ⟨some 2, .mv (.t 79), none⟩] [2])
 (.ret))))))) }
def f42 : AFunc := { np := 0, res := [.tmp 0], pure := true, body :=
 (.seq (.reg [
 ⟨some 0, .mv (.c (.nils)), none⟩] [])
 (.seq (.reg [
 ⟨some 1, .bslice 1 1 [.int .i64 0] [(0, (.c (.int .i64 8)))], none⟩,
 ⟨some 2, .call (.c (.fn 43 [] [])) [(.t 1), (.c (.int .i64 144))], none⟩,
 ⟨some 3, .bslice 1 1 [.int .i64 0] [(0, (.c (.int .i64 9)))], none⟩,
 ⟨some 4, .call (.c (.fn 43 [] [])) [(.t 3), (.c (.int .i64 112))], none⟩,
 ⟨some 5, .bslice 1 1 [.int .i64 0] [(0, (.c (.int .i64 7)))], none⟩,
 ⟨some 6, .call (.c (.fn 43 [] [])) [(.t 5), (.c (.int .i64 24))], none⟩,
 ⟨some 7, .bslice 1 1 [.int .i64 0] [(0, (.c (.int .i64 8)))], none⟩,
 ⟨some 8, .call (.c (.fn 43 [] [])) [(.t 7), (.c (.int .i64 8))], none⟩,
 ⟨some 9, .bslice 1 4 [.nils] [(0, (.t 2)), (1, (.t 4)), (2, (.t 6)), (3, (.t 8))], none⟩,
 ⟨some 10, .call (.c (.fn 62 [] [])) [(.t 9)], none⟩,
 ⟨some 0, .mv (.t 10), none⟩] [0])
 (.ret))) }
def f43L0 : ACode :=
 (.seq (.seq (.reg [
 ⟨some 34, .mv (.t 8), none⟩,
 ⟨some 35, .mv (.t 7), none⟩,
 ⟨some 36, .len false (.t 35), none⟩,
 ⟨some 37, .bin .lss (.t 34) (.t 36), none⟩] [7, 8, 37])
 (.cond (.t 37) (.skip)
 (.exit 0) [7, 8]))
 (.block 1 (.dreg [0, 1, 2, 3, 4, 5, 6, 7, 8, 9] [
 ⟨some 38, .mv (.t 8), none⟩,
 ⟨some 39, .mv (.t 7), none⟩,
 ⟨some 40, .mv (.t 8), none⟩,
 ⟨some 41, .sl 1 (.t 39) (some (.t 40)) none none, none⟩,
 ⟨some 42, .mv (.t 7), none⟩,
 ⟨some 43, .mv (.t 8), none⟩,
 ⟨some 44, .sl 1 (.t 42) none (some (.t 43)) none, none⟩,
 ⟨some 45, .copy 1 (.t 41) (.t 44), none⟩,
 ⟨some 46, .bin .add (.t 38) (.t 45), none⟩,
 ⟨some 8, .mv (.t 46), none⟩] [] [7, 8]) [7, 8]))
def f43 : AFunc := { np := 2, res := [.tmp 4], pure := true, body :=
 (.seq (.reg [
 ⟨some 4, .mv (.c (.nils)), none⟩] [0, 1])
 (.seq (.seq (.reg [
 ⟨some 9, .mv (.t 1), none⟩,
 ⟨some 10, .bin .lss (.t 9) (.c (.int .i64 0)), none⟩] [0, 1, 10])
 (.cond (.t 10) (.reg [
 ⟨some 11, .mkif 0 (.c (.str ⟨#[99, 97, 110, 110, 111, 116, 32, 98, 101, 32, 110, 101, 103, 97, 116, 105, 118, 101]⟩)), none⟩,
 ⟨none, .pan , none⟩] [0, 1])
 (.skip) [0, 1]))
 (.seq (.reg [
 ⟨some 13, .mv (.t 0), none⟩,
 ⟨some 14, .len false (.t 13), none⟩,
 ⟨some 15, .conv .u64 (.t 14), none⟩,
 ⟨some 16, .mv (.t 1), none⟩,
 ⟨some 17, .conv .u64 (.t 16), none⟩,
 ⟨some 18, .call (.c (.fn 63 [] [])) [(.t 15), (.t 17)], none⟩,
 ⟨some 12, .mv (.t 18), none⟩,
 ⟨some 19, .extr (.t 12) 0, none⟩,
 ⟨some 20, .extr (.t 12) 1, none⟩,
 ⟨some 5, .mv (.t 19), none⟩,
 ⟨some 6, .mv (.t 20), none⟩] [0, 5, 6])
 (.seq (.seq (.reg [
 ⟨some 21, .mv (.t 5), none⟩,
 ⟨some 22, .bin .gtr (.t 21) (.c (.int .u64 0)), none⟩,
 ⟨some 23, .mv (.t 22), none⟩,
 ⟨some 24, .mv (.t 6), (some (23, false))⟩,
 ⟨some 25, .bin .gtr (.t 24) (.c (.int .u64 9223372036854775807)), (some (23, false))⟩,
 ⟨some 26, .pick (.t 23) (.c (.bool true)) (.t 25), none⟩] [0, 6, 26])
 (.cond (.t 26) (.reg [
 ⟨some 27, .mkif 0 (.c (.str ⟨#[116, 104, 101, 32, 114, 101, 115, 117, 108, 116, 32, 111, 102, 32, 40, 108, 101, 110, 40, 120, 41, 32, 42, 32, 99, 111, 117, 110, 116, 41, 32, 111, 118, 101, 114, 102, 108, 111, 119, 115]⟩)), none⟩,
 ⟨none, .pan , none⟩] [0, 6])
 (.skip) [0, 6]))
 (.seq (.reg [
 ⟨some 28, .mv (.t 6), none⟩,
 ⟨some 29, .conv .i64 (.t 28), none⟩,
 ⟨some 30, .mksl 1 8 [.int .i64 0] (.t 29) (.t 29), none⟩,
 ⟨some 7, .mv (.t 30), none⟩] [0, 7])
 (.seq (.reg [
 ⟨some 31, .mv (.t 7), none⟩,
 ⟨some 32, .mv (.t 0), none⟩,
 ⟨some 33, .copy 1 (.t 31) (.t 32), none⟩,
 ⟨some 8, .mv (.t 33), none⟩] [7, 8])
 (.seq (.block 0 (.loop [7, 8] f43L0) [7])
 (.seq (.reg [
 ⟨some 47, .mv (.t 7), none⟩,
 ⟨some 4, .mv (.t 47), none⟩] [4])
 (.ret))))))))) }
def f44 : AFunc := { np := 1, res := [], pure := false, body :=
 (.seq (.reg [
 ⟨some 7, .mv (.t 0), none⟩,
 ⟨some 8, .call (.c (.fn 38 [] [])) [(.t 7), (.c (.int .i64 5))], none⟩,
 ⟨some 9, .bin .add (.t 8) (.c (.int .i64 257)), none⟩,
 ⟨some 10, .mv (.t 0), none⟩,
 ⟨some 11, .call (.c (.fn 38 [] [])) [(.t 10), (.c (.int .i64 5))], none⟩,
 ⟨some 12, .bin .add (.t 11) (.c (.int .i64 1)), none⟩,
 ⟨some 2, .mv (.t 9), none⟩,
 ⟨some 3, .mv (.t 12), none⟩] [0, 2, 3])
 (.seq (.seq (.reg [
 ⟨some 13, .mv (.t 0), none⟩,
 ⟨some 14, .nilc (.t 13), none⟩,
 ⟨some 15, .fadr 3 (.t 14), none⟩,
 ⟨some 16, .load false 1 (.t 15), none⟩,
 ⟨some 17, .bin .neq (.t 16) (.c (.int .i64 0)), none⟩,
 ⟨some 18, .mv (.t 17), none⟩,
 ⟨some 19, .mv (.t 2), (some (18, false))⟩,
 ⟨some 20, .bin .gtr (.t 19) (.c (.int .i64 286)), (some (18, false))⟩,
 ⟨some 21, .pick (.t 18) (.c (.bool true)) (.t 20), none⟩,
 ⟨some 22, .mv (.t 21), none⟩,
 ⟨some 23, .mv (.t 3), (some (22, false))⟩,
 ⟨some 24, .bin .gtr (.t 23) (.c (.int .i64 30)), (some (22, false))⟩,
 ⟨some 25, .pick (.t 22) (.c (.bool true)) (.t 24), none⟩] [0, 2, 3, 25])
 (.cond (.t 25) (.seq (.reg [
 ⟨some 26, .mv (.t 0), none⟩,
 ⟨some 27, .call (.c (.fn 45 [] [])) [(.t 26), (.c (.int .i64 700))], none⟩] [])
 (.ret))
 (.skip) [0, 2, 3]))
 (.seq (.reg [
 ⟨some 28, .mv (.t 0), none⟩,
 ⟨some 29, .mv (.t 2), none⟩,
 ⟨some 30, .mv (.t 3), none⟩,
 ⟨some 31, .bin .add (.t 29) (.t 30), none⟩,
 ⟨some 32, .call (.c (.fn 64 [] [])) [(.t 28), (.t 31)], none⟩,
 ⟨some 4, .mv (.t 32), none⟩] [0, 2, 4])
 (.seq (.seq (.reg [
 ⟨some 33, .mv (.t 0), none⟩,
 ⟨some 34, .nilc (.t 33), none⟩,
 ⟨some 35, .fadr 3 (.t 34), none⟩,
 ⟨some 36, .load false 1 (.t 35), none⟩,
 ⟨some 37, .bin .neq (.t 36) (.c (.int .i64 0)), none⟩] [0, 2, 4, 37])
 (.cond (.t 37) (.ret)
 (.skip) [0, 2, 4]))
 (.seq (.dreg [0, 1, 2, 3, 4, 5, 6, 7] [
 ⟨some 38, .mv (.t 4), none⟩,
 ⟨some 39, .mv (.t 2), none⟩,
 ⟨some 40, .sl 1 (.t 38) none (some (.t 39)) none, none⟩,
 ⟨some 41, .mv (.t 4), none⟩,
 ⟨some 42, .mv (.t 2), none⟩,
 ⟨some 43, .sl 1 (.t 41) (some (.t 42)) none none, none⟩,
 ⟨some 5, .mv (.t 40), none⟩,
 ⟨some 6, .mv (.t 43), none⟩] [] [0, 5, 6])
 (.seq (.seq (.reg [
 ⟨some 44, .mv (.t 5), none⟩,
 ⟨some 45, .call (.c (.fn 65 [] [])) [(.t 44)], none⟩,
 ⟨some 46, .bin .neq (.t 45) (.c (.int .i64 0)), none⟩,
 ⟨some 47, .mv (.t 46), none⟩,
 ⟨some 48, .mv (.t 5), (some (47, false))⟩,
 ⟨some 49, .iadr 1 (.t 48) (.c (.int .i64 256)), (some (47, false))⟩,
 ⟨some 50, .load false 1 (.t 49), (some (47, false))⟩,
 ⟨some 51, .bin .eql (.t 50) (.c (.int .i64 0)), (some (47, false))⟩,
 ⟨some 52, .pick (.t 47) (.c (.bool true)) (.t 51), none⟩,
 ⟨some 53, .mv (.t 52), none⟩,
 ⟨some 54, .mv (.t 6), (some (53, false))⟩,
 ⟨some 55, .call (.c (.fn 65 [] [])) [(.t 54)], (some (53, false))⟩,
 ⟨some 56, .bin .neq (.t 55) (.c (.int .i64 0)), (some (53, false))⟩,
 ⟨some 57, .mv (.t 56), (some (53, false))⟩,
 ⟨some 58, .mv (.t 6), (some (57, true))⟩,
 ⟨some 59, .call (.c (.fn 66 [] [])) [(.t 58)], (some (57, true))⟩,
 ⟨some 60, .not (.t 59), (some (57, true))⟩,
 ⟨some 61, .pick (.t 57) (.t 60) (.c (.bool false)), (some (53, false))⟩,
 ⟨some 62, .pick (.t 53) (.c (.bool true)) (.t 61), none⟩] [0, 5, 6, 62])
 (.cond (.t 62) (.seq (.reg [
 ⟨some 63, .mv (.t 0), none⟩,
 ⟨some 64, .call (.c (.fn 45 [] [])) [(.t 63), (.c (.int .i64 700))], none⟩] [])
 (.ret))
 (.skip) [0, 5, 6]))
 (.reg [
 ⟨some 65, .mv (.t 0), none⟩,
 ⟨some 66, .mv (.t 5), none⟩,
 ⟨some 67, .call (.c (.fn 41 [] [])) [(.t 66)], none⟩,
 ⟨some 68, .mv (.t 6), none⟩,
 ⟨some 69, .call (.c (.fn 41 [] [])) [(.t 68)], none⟩,
 ⟨some 70, .call (.c (.fn 40 [] [])) [(.t 65), (.t 67), (.t 69)], none⟩] []))))))) }
def f45 : AFunc := { np := 2, res := [], pure := false, body :=
 (.seq (.reg [
 ⟨some 4, .mv (.t 0), none⟩,
 ⟨some 5, .nilc (.t 4), none⟩,
 ⟨some 6, .fadr 3 (.t 5), none⟩,
 ⟨some 7, .load false 1 (.t 6), none⟩,
 ⟨some 8, .bin .eql (.t 7) (.c (.int .i64 0)), none⟩] [0, 1, 8])
 (.cond (.t 8) (.reg [
 ⟨some 9, .mv (.t 0), none⟩,
 ⟨some 10, .mv (.t 1), none⟩,
 ⟨some 11, .nilc (.t 9), none⟩,
 ⟨some 12, .fadr 3 (.t 11), none⟩,
 ⟨none, .store 1 (.t 12) (.t 10), none⟩] [])
 (.skip) [])) }
def f50 : AFunc := { np := 1, res := [.tmp 2, .tmp 3, .tmp 4], pure := true, body :=
 (.seq (.reg [
 ⟨some 2, .mv (.c (.int .i64 0)), none⟩,
 ⟨some 3, .mv (.c (.int .i64 0)), none⟩,
 ⟨some 4, .mv (.c (.int .i64 0)), none⟩] [0])
 (.seq (.seq (.reg [
 ⟨some 6, .mv (.t 0), none⟩,
 ⟨some 7, .bin .lss (.t 6) (.c (.int .i64 257)), none⟩,
 ⟨some 8, .mv (.t 7), none⟩,
 ⟨some 9, .mv (.t 0), (some (8, false))⟩,
 ⟨some 10, .bin .gtr (.t 9) (.c (.int .i64 285)), (some (8, false))⟩,
 ⟨some 11, .pick (.t 8) (.c (.bool true)) (.t 10), none⟩] [0, 11])
 (.cond (.t 11) (.seq (.reg [
 ⟨some 2, .mv (.c (.int .i64 0)), none⟩,
 ⟨some 3, .mv (.c (.int .i64 0)), none⟩,
 ⟨some 4, .mv (.c (.int .i64 600)), none⟩] [2, 3, 4])
 (.ret))
 (.skip) [0]))
 (.seq (.seq (.reg [
 ⟨some 12, .mv (.t 0), none⟩,
 ⟨some 13, .bin .eql (.t 12) (.c (.int .i64 285)), none⟩] [0, 13])
 (.cond (.t 13) (.seq (.reg [
 ⟨some 2, .mv (.c (.int .i64 258)), none⟩,
 ⟨some 3, .mv (.c (.int .i64 0)), none⟩,
 ⟨some 4, .mv (.c (.int .i64 0)), none⟩] [2, 3, 4])
 (.ret))
 (.skip) [0]))
 (.seq (.seq (.reg [
 ⟨some 14, .mv (.t 0), none⟩,
 ⟨some 15, .bin .lss (.t 14) (.c (.int .i64 265)), none⟩] [0, 15])
 (.cond (.t 15) (.seq (.reg [
 ⟨some 16, .mv (.t 0), none⟩,
 ⟨some 17, .bin .sub (.t 16) (.c (.int .i64 254)), none⟩,
 ⟨some 2, .mv (.t 17), none⟩,
 ⟨some 3, .mv (.c (.int .i64 0)), none⟩,
 ⟨some 4, .mv (.c (.int .i64 0)), none⟩] [2, 3, 4])
 (.ret))
 (.skip) [0]))
 (.seq (.reg [
 ⟨some 18, .mv (.t 0), none⟩,
 ⟨some 19, .bin .sub (.t 18) (.c (.int .i64 261)), none⟩,
 ⟨some 20, .bin .quo (.t 19) (.c (.int .i64 4)), none⟩,
 ⟨some 5, .mv (.t 20), none⟩] [0, 5])
 (.seq (.reg [
 ⟨some 21, .mv (.t 0), none⟩,
 ⟨some 22, .bin .sub (.t 21) (.c (.int .i64 261)), none⟩,
 ⟨some 23, .bin .rem (.t 22) (.c (.int .i64 4)), none⟩,
 ⟨some 24, .bin .add (.c (.int .i64 4)) (.t 23), none⟩,
 ⟨some 25, .mv (.t 5), none⟩,
 ⟨some 26, .bin .shl (.t 24) (.t 25), none⟩,
 ⟨some 27, .bin .add (.c (.int .i64 3)) (.t 26), none⟩,
 ⟨some 28, .mv (.t 5), none⟩,
 ⟨some 2, .mv (.t 27), none⟩,
 ⟨some 3, .mv (.t 28), none⟩,
 ⟨some 4, .mv (.c (.int .i64 0)), none⟩] [2, 3, 4])
 (.ret))))))) }
def f51 : AFunc := { np := 1, res := [.tmp 2, .tmp 3, .tmp 4], pure := true, body :=
 (.seq (.reg [
 ⟨some 2, .mv (.c (.int .i64 0)), none⟩,
 ⟨some 3, .mv (.c (.int .i64 0)), none⟩,
 ⟨some 4, .mv (.c (.int .i64 0)), none⟩] [0])
 (.seq (.seq (.reg [
 ⟨some 6, .mv (.t 0), none⟩,
 ⟨some 7, .bin .lss (.t 6) (.c (.int .i64 0)), none⟩,
 ⟨some 8, .mv (.t 7), none⟩,
 ⟨some 9, .mv (.t 0), (some (8, false))⟩,
 ⟨some 10, .bin .gtr (.t 9) (.c (.int .i64 29)), (some (8, false))⟩,
 ⟨some 11, .pick (.t 8) (.c (.bool true)) (.t 10), none⟩] [0, 11])
 (.cond (.t 11) (.seq (.reg [
 ⟨some 2, .mv (.c (.int .i64 0)), none⟩,
 ⟨some 3, .mv (.c (.int .i64 0)), none⟩,
 ⟨some 4, .mv (.c (.int .i64 600)), none⟩] [2, 3, 4])
 (.ret))
 (.skip) [0]))
 (.seq (.seq (.reg [
 ⟨some 12, .mv (.t 0), none⟩,
 ⟨some 13, .bin .lss (.t 12) (.c (.int .i64 4)), none⟩] [0, 13])
 (.cond (.t 13) (.seq (.reg [
 ⟨some 14, .mv (.t 0), none⟩,
 ⟨some 15, .bin .add (.t 14) (.c (.int .i64 1)), none⟩,
 ⟨some 2, .mv (.t 15), none⟩,
 ⟨some 3, .mv (.c (.int .i64 0)), none⟩,
 ⟨some 4, .mv (.c (.int .i64 0)), none⟩] [2, 3, 4])
 (.ret))
 (.skip) [0]))
 (.seq (.reg [
 ⟨some 16, .mv (.t 0), none⟩,
 ⟨some 17, .bin .sub (.t 16) (.c (.int .i64 2)), none⟩,
 ⟨some 18, .bin .quo (.t 17) (.c (.int .i64 2)), none⟩,
 ⟨some 5, .mv (.t 18), none⟩] [0, 5])
 (.seq (.reg [
 ⟨some 19, .mv (.t 0), none⟩,
 ⟨some 20, .bin .rem (.t 19) (.c (.int .i64 2)), none⟩,
 ⟨some 21, .bin .add (.c (.int .i64 2)) (.t 20), none⟩,
 ⟨some 22, .mv (.t 5), none⟩,
 ⟨some 23, .bin .shl (.t 21) (.t 22), none⟩,
 ⟨some 24, .bin .add (.c (.int .i64 1)) (.t 23), none⟩,
 ⟨some 25, .mv (.t 5), none⟩,
 ⟨some 2, .mv (.t 24), none⟩,
 ⟨some 3, .mv (.t 25), none⟩,
 ⟨some 4, .mv (.c (.int .i64 0)), none⟩] [2, 3, 4])
 (.ret)))))) }
def f52 : AFunc := { np := 1, res := [.tmp 2], pure := true, body :=
 (.seq (.reg [
 ⟨some 2, .mv (.c (.int .i64 0)), none⟩] [0])
 (.seq (.seq (.reg [
 ⟨some 4, .mv (.t 0), none⟩,
 ⟨some 5, .call (.c (.fn 67 [] [])) [(.t 4)], none⟩,
 ⟨some 6, .not (.t 5), none⟩] [0, 6])
 (.cond (.t 6) (.seq (.reg [
 ⟨some 2, .mv (.c (.int .i64 300)), none⟩] [2])
 (.ret))
 (.skip) [0]))
 (.seq (.reg [
 ⟨some 7, .mv (.t 0), none⟩,
 ⟨some 8, .call (.c (.fn 68 [] [])) [(.t 7)], none⟩,
 ⟨some 3, .mv (.t 8), none⟩] [3])
 (.seq (.seq (.reg [
 ⟨some 9, .mv (.t 3), none⟩,
 ⟨some 10, .bin .gtr (.t 9) (.c (.int .i64 32768)), none⟩] [3, 10])
 (.cond (.t 10) (.seq (.reg [
 ⟨some 2, .mv (.c (.int .i64 301)), none⟩] [2])
 (.ret))
 (.skip) [3]))
 (.seq (.seq (.reg [
 ⟨some 11, .mv (.t 3), none⟩,
 ⟨some 12, .bin .lss (.t 11) (.c (.int .i64 32768)), none⟩] [12])
 (.cond (.t 12) (.seq (.reg [
 ⟨some 2, .mv (.c (.int .i64 302)), none⟩] [2])
 (.ret))
 (.skip) []))
 (.seq (.reg [
 ⟨some 2, .mv (.c (.int .i64 0)), none⟩] [2])
 (.ret))))))) }
def f55L0 : ACode :=
 (.seq (.seq (.reg [
 ⟨some 31, .mv (.t 6), none⟩,
 ⟨some 32, .mv (.t 0), none⟩,
 ⟨some 33, .mv (.t 5), none⟩,
 ⟨some 34, .iadr 3 (.t 32) (.t 33), none⟩,
 ⟨some 35, .fadr 1 (.t 34), none⟩,
 ⟨some 36, .load false 1 (.t 35), none⟩,
 ⟨some 37, .bin .lss (.t 31) (.t 36), none⟩] [0, 4, 5, 6, 37])
 (.cond (.t 37) (.skip)
 (.exit 2) [0, 4, 5, 6]))
 (.seq (.block 3 (.reg [
 ⟨some 40, .mv (.t 4), none⟩,
 ⟨some 41, .mv (.t 4), none⟩,
 ⟨some 42, .mv (.t 4), none⟩,
 ⟨some 43, .len false (.t 42), none⟩,
 ⟨some 44, .mv (.t 0), none⟩,
 ⟨some 45, .mv (.t 5), none⟩,
 ⟨some 46, .iadr 3 (.t 44) (.t 45), none⟩,
 ⟨some 47, .fadr 2 (.t 46), none⟩,
 ⟨some 48, .load false 1 (.t 47), none⟩,
 ⟨some 49, .bin .sub (.t 43) (.t 48), none⟩,
 ⟨some 50, .iadr 1 (.t 41) (.t 49), none⟩,
 ⟨some 51, .load false 1 (.t 50), none⟩,
 ⟨some 52, .bslice 1 1 [.int .u8 0] [(0, (.t 51))], none⟩,
 ⟨some 53, .app 1 1 (.t 40) (.t 52), none⟩,
 ⟨some 4, .mv (.t 53), none⟩] [0, 4, 5, 6]) [0, 4, 5, 6])
 (.reg [
 ⟨some 38, .mv (.t 6), none⟩,
 ⟨some 39, .bin .add (.t 38) (.c (.int .i64 1)), none⟩,
 ⟨some 6, .mv (.t 39), none⟩] [0, 4, 5, 6])))
def f55L1 : ACode :=
 (.seq (.seq (.reg [
 ⟨some 10, .mv (.t 5), none⟩,
 ⟨some 11, .mv (.t 0), none⟩,
 ⟨some 12, .len false (.t 11), none⟩,
 ⟨some 13, .bin .lss (.t 10) (.t 12), none⟩] [0, 4, 5, 13])
 (.cond (.t 13) (.skip)
 (.exit 0) [0, 4, 5]))
 (.seq (.block 1 (.seq (.seq (.reg [
 ⟨some 16, .mv (.t 0), none⟩,
 ⟨some 17, .mv (.t 5), none⟩,
 ⟨some 18, .iadr 3 (.t 16) (.t 17), none⟩,
 ⟨some 19, .fadr 1 (.t 18), none⟩,
 ⟨some 20, .load false 1 (.t 19), none⟩,
 ⟨some 21, .bin .eql (.t 20) (.c (.int .i64 0)), none⟩] [0, 4, 5, 21])
 (.cond (.t 21) (.reg [
 ⟨some 22, .mv (.t 4), none⟩,
 ⟨some 23, .mv (.t 0), none⟩,
 ⟨some 24, .mv (.t 5), none⟩,
 ⟨some 25, .iadr 3 (.t 23) (.t 24), none⟩,
 ⟨some 26, .fadr 0 (.t 25), none⟩,
 ⟨some 27, .load false 1 (.t 26), none⟩,
 ⟨some 28, .conv .u8 (.t 27), none⟩,
 ⟨some 29, .bslice 1 1 [.int .u8 0] [(0, (.t 28))], none⟩,
 ⟨some 30, .app 1 1 (.t 22) (.t 29), none⟩,
 ⟨some 4, .mv (.t 30), none⟩] [0, 4, 5])
 (.skip) [0, 4, 5]))
 (.seq (.reg [
 ⟨some 6, .mv (.c (.int .i64 0)), none⟩] [0, 4, 5, 6])
 (.block 2 (.loop [0, 4, 5, 6] f55L0) [0, 4, 5]))) [0, 4, 5])
 (.reg [
 ⟨some 14, .mv (.t 5), none⟩,
 ⟨some 15, .bin .add (.t 14) (.c (.int .i64 1)), none⟩,
 ⟨some 5, .mv (.t 15), none⟩] [0, 4, 5])))
def f55 : AFunc := { np := 1, res := [.tmp 2, .tmp 3], pure := true, body :=
 (.seq (.reg [
 ⟨some 2, .mv (.c (.str ⟨#[]⟩)), none⟩,
 ⟨some 3, .mv (.c (.int .i64 0)), none⟩] [0])
 (.seq (.seq (.reg [
 ⟨some 7, .mv (.t 0), none⟩,
 ⟨some 8, .call (.c (.fn 69 [] [])) [(.t 7)], none⟩,
 ⟨some 9, .not (.t 8), none⟩] [0, 9])
 (.cond (.t 9) (.seq (.reg [
 ⟨some 2, .mv (.c (.str ⟨#[]⟩)), none⟩,
 ⟨some 3, .mv (.c (.int .i64 500)), none⟩] [2, 3])
 (.ret))
 (.skip) [0]))
 (.seq (.reg [
 ⟨some 4, .mv (.c (.nils)), none⟩] [0, 4])
 (.seq (.seq (.reg [
 ⟨some 5, .mv (.c (.int .i64 0)), none⟩] [0, 4, 5])
 (.block 0 (.loop [0, 4, 5] f55L1) [4]))
 (.seq (.reg [
 ⟨some 54, .mv (.t 4), none⟩,
 ⟨some 55, .b2s (.t 54), none⟩,
 ⟨some 2, .mv (.t 55), none⟩,
 ⟨some 3, .mv (.c (.int .i64 0)), none⟩] [2, 3])
 (.ret)))))) }
def f56L0 : ACode :=
 (.seq (.seq (.reg [
 ⟨some 88, .mv (.t 11), none⟩,
 ⟨some 89, .bin .geq (.t 88) (.c (.int .i64 0)), none⟩] [0, 3, 8, 9, 10, 11, 89])
 (.cond (.t 89) (.skip)
 (.exit 6) [0, 3, 8, 9, 10, 11]))
 (.seq (.block 7 (.reg [
 ⟨some 97, .mv (.t 10), none⟩,
 ⟨some 98, .bin .add (.t 97) (.c (.int .i64 1)), none⟩,
 ⟨some 10, .mv (.t 98), none⟩] [0, 3, 8, 9, 10, 11]) [0, 3, 8, 9, 10, 11])
 (.reg [
 ⟨some 90, .mv (.t 3), none⟩,
 ⟨some 91, .nilc (.t 90), none⟩,
 ⟨some 92, .fadr 1 (.t 91), none⟩,
 ⟨some 93, .load false 1 (.t 92), none⟩,
 ⟨some 94, .mv (.t 11), none⟩,
 ⟨some 95, .iadr 1 (.t 93) (.t 94), none⟩,
 ⟨some 96, .load false 1 (.t 95), none⟩,
 ⟨some 11, .mv (.t 96), none⟩] [0, 3, 8, 9, 10, 11])))
def f56L1 : ACode :=
 (.seq (.seq (.reg [
 ⟨some 75, .mv (.t 9), none⟩,
 ⟨some 76, .mv (.t 0), none⟩,
 ⟨some 77, .len false (.t 76), none⟩,
 ⟨some 78, .bin .lss (.t 75) (.t 77), none⟩] [0, 3, 8, 9, 78])
 (.cond (.t 78) (.skip)
 (.exit 4) [0, 3, 8, 9]))
 (.seq (.block 5 (.seq (.reg [
 ⟨some 10, .mv (.c (.int .i64 0)), none⟩] [0, 3, 8, 9, 10])
 (.seq (.seq (.reg [
 ⟨some 81, .mv (.t 3), none⟩,
 ⟨some 82, .nilc (.t 81), none⟩,
 ⟨some 83, .fadr 1 (.t 82), none⟩,
 ⟨some 84, .load false 1 (.t 83), none⟩,
 ⟨some 85, .mv (.t 9), none⟩,
 ⟨some 86, .iadr 1 (.t 84) (.t 85), none⟩,
 ⟨some 87, .load false 1 (.t 86), none⟩,
 ⟨some 11, .mv (.t 87), none⟩] [0, 3, 8, 9, 10, 11])
 (.block 6 (.loop [0, 3, 8, 9, 10, 11] f56L0) [0, 3, 8, 9, 10]))
 (.reg [
 ⟨some 99, .mv (.t 8), none⟩,
 ⟨some 100, .mv (.t 10), none⟩,
 ⟨some 101, .bslice 1 1 [.int .i64 0] [(0, (.t 100))], none⟩,
 ⟨some 102, .app 1 8 (.t 99) (.t 101), none⟩,
 ⟨some 8, .mv (.t 102), none⟩] [0, 3, 8, 9]))) [0, 3, 8, 9])
 (.reg [
 ⟨some 79, .mv (.t 9), none⟩,
 ⟨some 80, .bin .add (.t 79) (.c (.int .i64 1)), none⟩,
 ⟨some 9, .mv (.t 80), none⟩] [0, 3, 8, 9])))
def f56L2 : ACode :=
 (.seq (.seq (.reg [
 ⟨some 26, .mv (.t 5), none⟩,
 ⟨some 27, .mv (.t 0), none⟩,
 ⟨some 28, .len false (.t 27), none⟩,
 ⟨some 29, .bin .lss (.t 26) (.t 28), none⟩] [0, 3, 5, 29])
 (.cond (.t 29) (.skip)
 (.exit 2) [0, 3, 5]))
 (.seq (.block 3 (.seq (.reg [
 ⟨some 32, .mv (.t 3), none⟩,
 ⟨some 33, .call (.c (.fn 71 [] [])) [(.t 32)], none⟩,
 ⟨some 6, .mv (.t 33), none⟩] [0, 3, 5, 6])
 (.seq (.reg [
 ⟨some 34, .mv (.t 3), none⟩,
 ⟨some 35, .call (.c (.fn 71 [] [])) [(.t 34)], none⟩,
 ⟨some 7, .mv (.t 35), none⟩] [0, 3, 5, 6, 7])
 (.seq (.dreg [0, 1, 2, 3, 4, 5, 6, 7, 8, 9, 10, 11] [
 ⟨some 36, .mv (.t 3), none⟩,
 ⟨some 37, .nilc (.t 36), none⟩,
 ⟨some 38, .fadr 1 (.t 37), none⟩,
 ⟨some 39, .load false 1 (.t 38), none⟩,
 ⟨some 40, .mv (.t 6), none⟩,
 ⟨some 41, .mv (.t 3), none⟩,
 ⟨some 42, .nilc (.t 41), none⟩,
 ⟨some 43, .fadr 1 (.t 42), none⟩,
 ⟨some 44, .load false 1 (.t 43), none⟩,
 ⟨some 45, .len false (.t 44), none⟩,
 ⟨some 46, .iadr 1 (.t 39) (.t 40), none⟩,
 ⟨none, .store 1 (.t 46) (.t 45), none⟩] [] [0, 3, 5, 6, 7])
 (.seq (.dreg [0, 1, 2, 3, 4, 5, 6, 7, 8, 9, 10, 11] [
 ⟨some 47, .mv (.t 3), none⟩,
 ⟨some 48, .nilc (.t 47), none⟩,
 ⟨some 49, .fadr 1 (.t 48), none⟩,
 ⟨some 50, .load false 1 (.t 49), none⟩,
 ⟨some 51, .mv (.t 7), none⟩,
 ⟨some 52, .mv (.t 3), none⟩,
 ⟨some 53, .nilc (.t 52), none⟩,
 ⟨some 54, .fadr 1 (.t 53), none⟩,
 ⟨some 55, .load false 1 (.t 54), none⟩,
 ⟨some 56, .len false (.t 55), none⟩,
 ⟨some 57, .iadr 1 (.t 50) (.t 51), none⟩,
 ⟨none, .store 1 (.t 57) (.t 56), none⟩] [] [0, 3, 5, 6, 7])
 (.dreg [0, 1, 2, 3, 4, 5, 6, 7, 8, 9, 10, 11, 12, 13, 14, 15, 16] [
 ⟨some 58, .mv (.t 3), none⟩,
 ⟨some 59, .mv (.t 3), none⟩,
 ⟨some 60, .nilc (.t 59), none⟩,
 ⟨some 61, .fadr 0 (.t 60), none⟩,
 ⟨some 62, .load false 1 (.t 61), none⟩,
 ⟨some 63, .mv (.t 6), none⟩,
 ⟨some 64, .iadr 1 (.t 62) (.t 63), none⟩,
 ⟨some 65, .load false 1 (.t 64), none⟩,
 ⟨some 66, .mv (.t 3), none⟩,
 ⟨some 67, .nilc (.t 66), none⟩,
 ⟨some 68, .fadr 0 (.t 67), none⟩,
 ⟨some 69, .load false 1 (.t 68), none⟩,
 ⟨some 70, .mv (.t 7), none⟩,
 ⟨some 71, .iadr 1 (.t 69) (.t 70), none⟩,
 ⟨some 72, .load false 1 (.t 71), none⟩,
 ⟨some 73, .bin .add (.t 65) (.t 72), none⟩,
 ⟨some 74, .call (.c (.fn 70 [] [])) [(.t 58), (.t 73)], none⟩] [] [0, 3, 5]))))) [0, 3, 5])
 (.reg [
 ⟨some 30, .mv (.t 5), none⟩,
 ⟨some 31, .bin .add (.t 30) (.c (.int .i64 1)), none⟩,
 ⟨some 5, .mv (.t 31), none⟩] [0, 3, 5])))
def f56L3 : ACode :=
 (.seq (.seq (.reg [
 ⟨some 14, .mv (.t 4), none⟩,
 ⟨some 15, .mv (.t 0), none⟩,
 ⟨some 16, .len false (.t 15), none⟩,
 ⟨some 17, .bin .lss (.t 14) (.t 16), none⟩] [0, 3, 4, 17])
 (.cond (.t 17) (.skip)
 (.exit 0) [0, 3, 4]))
 (.seq (.block 1 (.reg [
 ⟨some 20, .mv (.t 3), none⟩,
 ⟨some 21, .mv (.t 0), none⟩,
 ⟨some 22, .mv (.t 4), none⟩,
 ⟨some 23, .iadr 1 (.t 21) (.t 22), none⟩,
 ⟨some 24, .load false 1 (.t 23), none⟩,
 ⟨some 25, .call (.c (.fn 70 [] [])) [(.t 20), (.t 24)], none⟩] [0, 3, 4]) [0, 3, 4])
 (.reg [
 ⟨some 18, .mv (.t 4), none⟩,
 ⟨some 19, .bin .add (.t 18) (.c (.int .i64 1)), none⟩,
 ⟨some 4, .mv (.t 19), none⟩] [0, 3, 4])))
def f56 : AFunc := { np := 1, res := [.tmp 2], pure := true, body :=
 (.seq (.reg [
 ⟨some 2, .mv (.c (.nils)), none⟩] [0])
 (.seq (.reg [
 ⟨some 12, .build [.nils, .nils, .nils] [], none⟩,
 ⟨some 13, .box 3 (.t 12), none⟩,
 ⟨some 3, .mv (.t 13), none⟩] [0, 3])
 (.seq (.seq (.reg [
 ⟨some 4, .mv (.c (.int .i64 0)), none⟩] [0, 3, 4])
 (.block 0 (.loop [0, 3, 4] f56L3) [0, 3]))
 (.seq (.seq (.reg [
 ⟨some 5, .mv (.c (.int .i64 1)), none⟩] [0, 3, 5])
 (.block 2 (.loop [0, 3, 5] f56L2) [0, 3]))
 (.seq (.reg [
 ⟨some 8, .mv (.c (.nils)), none⟩] [0, 3, 8])
 (.seq (.seq (.reg [
 ⟨some 9, .mv (.c (.int .i64 0)), none⟩] [0, 3, 8, 9])
 (.block 4 (.loop [0, 3, 8, 9] f56L1) [8]))
 (.seq (.reg [
 ⟨some 103, .mv (.t 8), none⟩,
 ⟨some 2, .mv (.t 103), none⟩] [2])
 (.ret)))))))) }
def f57 : AFunc := { np := 2, res := [], pure := false, body :=
 (.seq (.seq (.reg [
 ⟨some 5, .mv (.t 0), none⟩,
 ⟨some 6, .nilc (.t 5), none⟩,
 ⟨some 7, .fadr 1 (.t 6), none⟩,
 ⟨some 8, .load false 1 (.t 7), none⟩,
 ⟨some 9, .bin .rem (.t 8) (.c (.int .i64 8)), none⟩,
 ⟨some 10, .bin .eql (.t 9) (.c (.int .i64 0)), none⟩] [0, 1, 10])
 (.cond (.t 10) (.reg [
 ⟨some 11, .mv (.t 0), none⟩,
 ⟨some 12, .mv (.t 0), none⟩,
 ⟨some 13, .nilc (.t 12), none⟩,
 ⟨some 14, .fadr 0 (.t 13), none⟩,
 ⟨some 15, .load false 1 (.t 14), none⟩,
 ⟨some 16, .bslice 1 1 [.int .u8 0] [(0, (.c (.int .u8 0)))], none⟩,
 ⟨some 17, .app 1 1 (.t 15) (.t 16), none⟩,
 ⟨some 18, .nilc (.t 11), none⟩,
 ⟨some 19, .fadr 0 (.t 18), none⟩,
 ⟨none, .store 1 (.t 19) (.t 17), none⟩] [0, 1])
 (.skip) [0, 1]))
 (.seq (.reg [
 ⟨some 20, .mv (.t 0), none⟩,
 ⟨some 21, .nilc (.t 20), none⟩,
 ⟨some 22, .fadr 0 (.t 21), none⟩,
 ⟨some 23, .load false 1 (.t 22), none⟩,
 ⟨some 24, .len false (.t 23), none⟩,
 ⟨some 25, .bin .sub (.t 24) (.c (.int .i64 1)), none⟩,
 ⟨some 4, .mv (.t 25), none⟩] [0, 1, 4])
 (.seq (.dreg [0, 1, 2, 3, 4, 5, 6, 7, 8, 9, 10, 11, 12, 13, 14, 15, 16, 17, 18, 19, 20, 21, 22] [
 ⟨some 26, .mv (.t 0), none⟩,
 ⟨some 27, .nilc (.t 26), none⟩,
 ⟨some 28, .fadr 0 (.t 27), none⟩,
 ⟨some 29, .load false 1 (.t 28), none⟩,
 ⟨some 30, .mv (.t 4), none⟩,
 ⟨some 31, .mv (.t 0), none⟩,
 ⟨some 32, .nilc (.t 31), none⟩,
 ⟨some 33, .fadr 0 (.t 32), none⟩,
 ⟨some 34, .load false 1 (.t 33), none⟩,
 ⟨some 35, .mv (.t 4), none⟩,
 ⟨some 36, .iadr 1 (.t 34) (.t 35), none⟩,
 ⟨some 37, .load false 1 (.t 36), none⟩,
 ⟨some 38, .mv (.t 1), none⟩,
 ⟨some 39, .mv (.t 0), none⟩,
 ⟨some 40, .nilc (.t 39), none⟩,
 ⟨some 41, .fadr 1 (.t 40), none⟩,
 ⟨some 42, .load false 1 (.t 41), none⟩,
 ⟨some 43, .bin .rem (.t 42) (.c (.int .i64 8)), none⟩,
 ⟨some 44, .bin .shl (.t 38) (.t 43), none⟩,
 ⟨some 45, .conv .u8 (.t 44), none⟩,
 ⟨some 46, .bin .or (.t 37) (.t 45), none⟩,
 ⟨some 47, .iadr 1 (.t 29) (.t 30), none⟩,
 ⟨none, .store 1 (.t 47) (.t 46), none⟩] [] [0])
 (.reg [
 ⟨some 48, .mv (.t 0), none⟩,
 ⟨some 49, .nilc (.t 48), none⟩,
 ⟨some 50, .fadr 1 (.t 49), none⟩,
 ⟨some 51, .load false 1 (.t 50), none⟩,
 ⟨some 52, .bin .add (.t 51) (.c (.int .i64 1)), none⟩,
 ⟨some 53, .nilc (.t 48), none⟩,
 ⟨some 54, .fadr 1 (.t 53), none⟩,
 ⟨none, .store 1 (.t 54) (.t 52), none⟩] [])))) }
def f58L0 : ACode :=
 (.seq (.reg [
 ⟨some 34, .bin .lss (.t 33) (.t 32), none⟩] [0, 6, 32, 33, 34])
 (.seq (.cond (.t 34) (.skip)
 (.exit 1) [0, 6, 32, 33])
 (.seq (.block 2 (.seq (.reg [
 ⟨some 35, .mv (.t 33), none⟩,
 ⟨some 7, .mv (.t 35), none⟩] [0, 6, 7, 32, 33])
 (.seq (.dreg [0, 1, 2, 3, 4, 5, 6, 7, 8, 9, 10, 11, 12, 13, 14, 15, 16, 17, 18, 19, 20, 21, 22] [
 ⟨some 36, .mv (.t 6), none⟩,
 ⟨some 37, .mv (.t 0), none⟩,
 ⟨some 38, .nilc (.t 37), none⟩,
 ⟨some 39, .fadr 0 (.t 38), none⟩,
 ⟨some 40, .load false 1 (.t 39), none⟩,
 ⟨some 41, .mv (.t 0), none⟩,
 ⟨some 42, .nilc (.t 41), none⟩,
 ⟨some 43, .fadr 1 (.t 42), none⟩,
 ⟨some 44, .load false 1 (.t 43), none⟩,
 ⟨some 45, .bin .quo (.t 44) (.c (.int .i64 8)), none⟩,
 ⟨some 46, .idxs (.t 40) (.t 45), none⟩,
 ⟨some 47, .mv (.t 0), none⟩,
 ⟨some 48, .nilc (.t 47), none⟩,
 ⟨some 49, .fadr 1 (.t 48), none⟩,
 ⟨some 50, .load false 1 (.t 49), none⟩,
 ⟨some 51, .bin .rem (.t 50) (.c (.int .i64 8)), none⟩,
 ⟨some 52, .bin .shr (.t 46) (.t 51), none⟩,
 ⟨some 53, .bin .and (.t 52) (.c (.int .u8 1)), none⟩,
 ⟨some 54, .conv .i64 (.t 53), none⟩,
 ⟨some 55, .mv (.t 7), none⟩,
 ⟨some 56, .bin .shl (.t 54) (.t 55), none⟩,
 ⟨some 57, .bin .or (.t 36) (.t 56), none⟩,
 ⟨some 6, .mv (.t 57), none⟩] [] [0, 6, 32, 33])
 (.reg [
 ⟨some 58, .mv (.t 0), none⟩,
 ⟨some 59, .nilc (.t 58), none⟩,
 ⟨some 60, .fadr 1 (.t 59), none⟩,
 ⟨some 61, .load false 1 (.t 60), none⟩,
 ⟨some 62, .bin .add (.t 61) (.c (.int .i64 1)), none⟩,
 ⟨some 63, .nilc (.t 58), none⟩,
 ⟨some 64, .fadr 1 (.t 63), none⟩,
 ⟨none, .store 1 (.t 64) (.t 62), none⟩] [0, 6, 32, 33]))) [0, 6, 32, 33])
 (.reg [
 ⟨some 65, .bin .add (.t 33) (.c (.int .i64 1)), none⟩,
 ⟨some 33, .mv (.t 65), none⟩] [0, 6, 32, 33]))))
def f58 : AFunc := { np := 2, res := [.tmp 4, .tmp 5], pure := false, body :=
 (.seq (.reg [
 ⟨some 4, .mv (.c (.int .i64 0)), none⟩,
 ⟨some 5, .mv (.c (.int .i64 0)), none⟩] [0, 1])
 (.seq (.block 0 (.seq (.reg [
 ⟨some 9, .mv (.t 0), none⟩,
 ⟨some 10, .eqn 0 false (.t 9) (.c (.nilp)), none⟩,
 ⟨some 8, .mv (.t 10), none⟩] [0, 1, 8])
 (.cond (.t 8) (.seq (.reg [
 ⟨some 4, .mv (.c (.int .i64 0)), none⟩,
 ⟨some 5, .mv (.c (.int .i64 1)), none⟩] [4, 5])
 (.ret))
 (.seq (.reg [
 ⟨some 12, .mv (.t 1), none⟩,
 ⟨some 13, .bin .lss (.t 12) (.c (.int .i64 0)), none⟩,
 ⟨some 14, .mv (.t 13), none⟩,
 ⟨some 15, .mv (.t 1), (some (14, false))⟩,
 ⟨some 16, .bin .gtr (.t 15) (.c (.int .i64 16)), (some (14, false))⟩,
 ⟨some 17, .pick (.t 14) (.c (.bool true)) (.t 16), none⟩,
 ⟨some 11, .mv (.t 17), none⟩] [0, 1, 11])
 (.cond (.t 11) (.seq (.reg [
 ⟨some 4, .mv (.c (.int .i64 0)), none⟩,
 ⟨some 5, .mv (.c (.int .i64 100)), none⟩] [4, 5])
 (.ret))
 (.seq (.dreg [0, 1, 2, 3, 4, 5, 6, 7, 8, 9, 10, 11, 12, 13] [
 ⟨some 19, .mv (.t 1), none⟩,
 ⟨some 20, .mv (.t 0), none⟩,
 ⟨some 21, .nilc (.t 20), none⟩,
 ⟨some 22, .fadr 0 (.t 21), none⟩,
 ⟨some 23, .load false 1 (.t 22), none⟩,
 ⟨some 24, .len true (.t 23), none⟩,
 ⟨some 25, .bin .mul (.c (.int .i64 8)) (.t 24), none⟩,
 ⟨some 26, .mv (.t 0), none⟩,
 ⟨some 27, .nilc (.t 26), none⟩,
 ⟨some 28, .fadr 1 (.t 27), none⟩,
 ⟨some 29, .load false 1 (.t 28), none⟩,
 ⟨some 30, .bin .sub (.t 25) (.t 29), none⟩,
 ⟨some 31, .bin .gtr (.t 19) (.t 30), none⟩,
 ⟨some 18, .mv (.t 31), none⟩] [] [0, 1, 18])
 (.cond (.t 18) (.seq (.reg [
 ⟨some 4, .mv (.c (.int .i64 0)), none⟩,
 ⟨some 5, .mv (.c (.int .i64 101)), none⟩] [4, 5])
 (.ret))
 (.skip) [0, 1])) [0, 1])) [0, 1])) [0, 1])
 (.seq (.reg [
 ⟨some 6, .mv (.c (.int .i64 0)), none⟩] [0, 1, 6])
 (.seq (.seq (.reg [
 ⟨some 32, .mv (.t 1), none⟩,
 ⟨some 33, .mv (.c (.int .i64 0)), none⟩] [0, 6, 32, 33])
 (.block 1 (.loop [0, 6, 32, 33] f58L0) [6]))
 (.seq (.reg [
 ⟨some 66, .mv (.t 6), none⟩,
 ⟨some 4, .mv (.t 66), none⟩,
 ⟨some 5, .mv (.c (.int .i64 0)), none⟩] [4, 5])
 (.ret)))))) }
def f59 : AFunc := { np := 2, res := [], pure := false, body :=
 (.seq (.seq (.dreg [0, 1, 2, 3, 4, 5, 6, 7, 8, 9] [
 ⟨some 4, .mv (.t 0), none⟩,
 ⟨some 5, .nilc (.t 4), none⟩,
 ⟨some 6, .fadr 1 (.t 5), none⟩,
 ⟨some 7, .load false 1 (.t 6), none⟩,
 ⟨some 8, .len false (.t 7), none⟩,
 ⟨some 9, .mv (.t 0), none⟩,
 ⟨some 10, .nilc (.t 9), none⟩,
 ⟨some 11, .fadr 2 (.t 10), none⟩,
 ⟨some 12, .load false 1 (.t 11), none⟩,
 ⟨some 13, .bin .geq (.t 8) (.t 12), none⟩] [] [0, 1, 13])
 (.cond (.t 13) (.reg [
 ⟨some 14, .mv (.t 0), none⟩,
 ⟨some 15, .call (.c (.fn 45 [] [])) [(.t 14), (.c (.int .i64 701))], none⟩] [0, 1])
 (.skip) [0, 1]))
 (.seq (.reg [
 ⟨some 16, .mv (.t 0), none⟩,
 ⟨some 17, .nilc (.t 16), none⟩,
 ⟨some 18, .fadr 3 (.t 17), none⟩,
 ⟨some 19, .load false 1 (.t 18), none⟩,
 ⟨some 20, .bin .eql (.t 19) (.c (.int .i64 0)), none⟩] [0, 1, 20])
 (.cond (.t 20) (.reg [
 ⟨some 21, .mv (.t 0), none⟩,
 ⟨some 22, .mv (.t 0), none⟩,
 ⟨some 23, .nilc (.t 22), none⟩,
 ⟨some 24, .fadr 1 (.t 23), none⟩,
 ⟨some 25, .load false 1 (.t 24), none⟩,
 ⟨some 26, .mv (.t 1), none⟩,
 ⟨some 27, .bslice 1 1 [.int .u8 0] [(0, (.t 26))], none⟩,
 ⟨some 28, .app 1 1 (.t 25) (.t 27), none⟩,
 ⟨some 29, .nilc (.t 21), none⟩,
 ⟨some 30, .fadr 1 (.t 29), none⟩,
 ⟨none, .store 1 (.t 30) (.t 28), none⟩] [])
 (.skip) []))) }
def f60L0 : ACode :=
 (.seq (.seq (.reg [
 ⟨some 9, .mv (.t 6), none⟩,
 ⟨some 10, .bin .leq (.t 9) (.c (.int .i64 15)), none⟩,
 ⟨some 11, .mv (.t 10), none⟩,
 ⟨some 12, .mv (.t 0), (some (11, true))⟩,
 ⟨some 13, .nilc (.t 12), (some (11, true))⟩,
 ⟨some 14, .fadr 3 (.t 13), (some (11, true))⟩,
 ⟨some 15, .load false 1 (.t 14), (some (11, true))⟩,
 ⟨some 16, .bin .eql (.t 15) (.c (.int .i64 0)), (some (11, true))⟩,
 ⟨some 17, .pick (.t 11) (.t 16) (.c (.bool false)), none⟩] [0, 1, 5, 6, 17])
 (.cond (.t 17) (.skip)
 (.exit 0) [0, 1, 5, 6]))
 (.seq (.block 1 (.seq (.reg [
 ⟨some 20, .mv (.t 5), none⟩,
 ⟨some 21, .bin .mul (.t 20) (.c (.int .i64 2)), none⟩,
 ⟨some 22, .mv (.t 0), none⟩,
 ⟨some 23, .call (.c (.fn 38 [] [])) [(.t 22), (.c (.int .i64 1))], none⟩,
 ⟨some 24, .bin .add (.t 21) (.t 23), none⟩,
 ⟨some 5, .mv (.t 24), none⟩] [0, 1, 5, 6])
 (.seq (.reg [
 ⟨some 26, .mv (.t 1), none⟩,
 ⟨some 27, .mv (.t 6), none⟩,
 ⟨some 28, .mv (.t 5), none⟩,
 ⟨some 29, .call (.c (.fn 72 [] [])) [(.t 26), (.t 27), (.t 28)], none⟩,
 ⟨some 25, .mv (.t 29), none⟩,
 ⟨some 30, .extr (.t 25) 0, none⟩,
 ⟨some 31, .extr (.t 25) 1, none⟩,
 ⟨some 7, .mv (.t 30), none⟩,
 ⟨some 8, .mv (.t 31), none⟩] [0, 1, 5, 6, 7, 8])
 (.seq (.reg [
 ⟨some 32, .mv (.t 8), none⟩,
 ⟨some 33, .mv (.t 32), none⟩,
 ⟨some 34, .mv (.t 0), (some (33, true))⟩,
 ⟨some 35, .nilc (.t 34), (some (33, true))⟩,
 ⟨some 36, .fadr 3 (.t 35), (some (33, true))⟩,
 ⟨some 37, .load false 1 (.t 36), (some (33, true))⟩,
 ⟨some 38, .bin .eql (.t 37) (.c (.int .i64 0)), (some (33, true))⟩,
 ⟨some 39, .pick (.t 33) (.t 38) (.c (.bool false)), none⟩] [0, 1, 5, 6, 7, 39])
 (.cond (.t 39) (.seq (.reg [
 ⟨some 40, .mv (.t 7), none⟩,
 ⟨some 4, .mv (.t 40), none⟩] [4])
 (.ret))
 (.skip) [0, 1, 5, 6])))) [0, 1, 5, 6])
 (.reg [
 ⟨some 18, .mv (.t 6), none⟩,
 ⟨some 19, .bin .add (.t 18) (.c (.int .i64 1)), none⟩,
 ⟨some 6, .mv (.t 19), none⟩] [0, 1, 5, 6])))
def f60 : AFunc := { np := 2, res := [.tmp 4], pure := false, body :=
 (.seq (.reg [
 ⟨some 4, .mv (.c (.int .i64 0)), none⟩] [0, 1])
 (.seq (.reg [
 ⟨some 5, .mv (.c (.int .i64 0)), none⟩] [0, 1, 5])
 (.seq (.seq (.reg [
 ⟨some 6, .mv (.c (.int .i64 1)), none⟩] [0, 1, 5, 6])
 (.block 0 (.loop [0, 1, 5, 6] f60L0) [0]))
 (.seq (.reg [
 ⟨some 41, .mv (.t 0), none⟩,
 ⟨some 42, .call (.c (.fn 45 [] [])) [(.t 41), (.c (.int .i64 700))], none⟩] [])
 (.seq (.reg [
 ⟨some 4, .mv (.c (.int .i64 256)), none⟩] [4])
 (.ret)))))) }
def f61L0 : ACode :=
 (.seq (.seq (.reg [
 ⟨some 45, .mv (.t 6), none⟩,
 ⟨some 46, .bin .gtr (.t 45) (.c (.int .i64 0)), none⟩,
 ⟨some 47, .mv (.t 46), none⟩,
 ⟨some 48, .mv (.t 0), (some (47, true))⟩,
 ⟨some 49, .nilc (.t 48), (some (47, true))⟩,
 ⟨some 50, .fadr 3 (.t 49), (some (47, true))⟩,
 ⟨some 51, .load false 1 (.t 50), (some (47, true))⟩,
 ⟨some 52, .bin .eql (.t 51) (.c (.int .i64 0)), (some (47, true))⟩,
 ⟨some 53, .pick (.t 47) (.t 52) (.c (.bool false)), none⟩] [0, 6, 8, 53])
 (.cond (.t 53) (.skip)
 (.exit 0) [0, 6, 8]))
 (.seq (.block 1 (.dreg [0, 1, 2, 3, 4, 5, 6, 7, 8, 9, 10, 11, 12, 13, 14] [
 ⟨some 56, .mv (.t 0), none⟩,
 ⟨some 57, .mv (.t 0), none⟩,
 ⟨some 58, .nilc (.t 57), none⟩,
 ⟨some 59, .fadr 1 (.t 58), none⟩,
 ⟨some 60, .load false 1 (.t 59), none⟩,
 ⟨some 61, .mv (.t 0), none⟩,
 ⟨some 62, .nilc (.t 61), none⟩,
 ⟨some 63, .fadr 1 (.t 62), none⟩,
 ⟨some 64, .load false 1 (.t 63), none⟩,
 ⟨some 65, .len false (.t 64), none⟩,
 ⟨some 66, .mv (.t 8), none⟩,
 ⟨some 67, .bin .sub (.t 65) (.t 66), none⟩,
 ⟨some 68, .iadr 1 (.t 60) (.t 67), none⟩,
 ⟨some 69, .load false 1 (.t 68), none⟩,
 ⟨some 70, .call (.c (.fn 59 [] [])) [(.t 56), (.t 69)], none⟩] [] [0, 6, 8]) [0, 6, 8])
 (.reg [
 ⟨some 54, .mv (.t 6), none⟩,
 ⟨some 55, .bin .sub (.t 54) (.c (.int .i64 1)), none⟩,
 ⟨some 6, .mv (.t 55), none⟩] [0, 6, 8])))
def f61 : AFunc := { np := 3, res := [], pure := false, body :=
 (.seq (.reg [
 ⟨some 9, .mv (.t 0), none⟩,
 ⟨some 10, .mv (.t 1), none⟩,
 ⟨some 11, .call (.c (.fn 74 [] [])) [(.t 10)], none⟩,
 ⟨some 12, .extr (.t 11) 0, none⟩,
 ⟨some 13, .extr (.t 11) 1, none⟩,
 ⟨some 14, .extr (.t 11) 2, none⟩,
 ⟨some 15, .call (.c (.fn 73 [] [])) [(.t 9), (.t 12), (.t 13), (.t 14)], none⟩,
 ⟨some 6, .mv (.t 15), none⟩] [0, 2, 6])
 (.seq (.seq (.reg [
 ⟨some 16, .mv (.t 0), none⟩,
 ⟨some 17, .nilc (.t 16), none⟩,
 ⟨some 18, .fadr 3 (.t 17), none⟩,
 ⟨some 19, .load false 1 (.t 18), none⟩,
 ⟨some 20, .bin .neq (.t 19) (.c (.int .i64 0)), none⟩] [0, 2, 6, 20])
 (.cond (.t 20) (.ret)
 (.skip) [0, 2, 6]))
 (.seq (.reg [
 ⟨some 21, .mv (.t 0), none⟩,
 ⟨some 22, .mv (.t 2), none⟩,
 ⟨some 23, .call (.c (.fn 60 [] [])) [(.t 21), (.t 22)], none⟩,
 ⟨some 7, .mv (.t 23), none⟩] [0, 6, 7])
 (.seq (.seq (.reg [
 ⟨some 24, .mv (.t 0), none⟩,
 ⟨some 25, .nilc (.t 24), none⟩,
 ⟨some 26, .fadr 3 (.t 25), none⟩,
 ⟨some 27, .load false 1 (.t 26), none⟩,
 ⟨some 28, .bin .neq (.t 27) (.c (.int .i64 0)), none⟩] [0, 6, 7, 28])
 (.cond (.t 28) (.ret)
 (.skip) [0, 6, 7]))
 (.seq (.reg [
 ⟨some 29, .mv (.t 0), none⟩,
 ⟨some 30, .mv (.t 7), none⟩,
 ⟨some 31, .call (.c (.fn 75 [] [])) [(.t 30)], none⟩,
 ⟨some 32, .extr (.t 31) 0, none⟩,
 ⟨some 33, .extr (.t 31) 1, none⟩,
 ⟨some 34, .extr (.t 31) 2, none⟩,
 ⟨some 35, .call (.c (.fn 73 [] [])) [(.t 29), (.t 32), (.t 33), (.t 34)], none⟩,
 ⟨some 8, .mv (.t 35), none⟩] [0, 6, 8])
 (.seq (.seq (.reg [
 ⟨some 36, .mv (.t 8), none⟩,
 ⟨some 37, .mv (.t 0), none⟩,
 ⟨some 38, .nilc (.t 37), none⟩,
 ⟨some 39, .fadr 1 (.t 38), none⟩,
 ⟨some 40, .load false 1 (.t 39), none⟩,
 ⟨some 41, .len false (.t 40), none⟩,
 ⟨some 42, .bin .gtr (.t 36) (.t 41), none⟩] [0, 6, 8, 42])
 (.cond (.t 42) (.reg [
 ⟨some 43, .mv (.t 0), none⟩,
 ⟨some 44, .call (.c (.fn 45 [] [])) [(.t 43), (.c (.int .i64 700))], none⟩] [0, 6, 8])
 (.skip) [0, 6, 8]))
 (.block 0 (.loop [0, 6, 8] f61L0) []))))))) }
def f62L0 : ACode :=
 (.seq (.reg [
 ⟨some 28, .bin .lss (.t 27) (.t 26), none⟩] [6, 25, 26, 27, 28])
 (.seq (.cond (.t 28) (.skip)
 (.exit 2) [6, 25, 26, 27])
 (.seq (.block 3 (.seq (.reg [
 ⟨some 29, .iadr 1 (.t 25) (.t 27), none⟩,
 ⟨some 30, .load false 1 (.t 29), none⟩,
 ⟨some 8, .mv (.t 30), none⟩] [6, 8, 25, 26, 27])
 (.reg [
 ⟨some 31, .mv (.t 6), none⟩,
 ⟨some 32, .mv (.t 8), none⟩,
 ⟨some 33, .app 1 8 (.t 31) (.t 32), none⟩,
 ⟨some 6, .mv (.t 33), none⟩] [6, 25, 26, 27])) [6, 25, 26, 27])
 (.reg [
 ⟨some 34, .bin .add (.t 27) (.c (.int .i64 1)), none⟩,
 ⟨some 27, .mv (.t 34), none⟩] [6, 25, 26, 27]))))
def f62L1 : ACode :=
 (.seq (.reg [
 ⟨some 12, .bin .lss (.t 11) (.t 10), none⟩] [0, 3, 9, 10, 11, 12])
 (.seq (.cond (.t 12) (.skip)
 (.exit 0) [0, 3, 9, 10, 11])
 (.seq (.block 1 (.seq (.reg [
 ⟨some 13, .iadr 1 (.t 9) (.t 11), none⟩,
 ⟨some 14, .load false 1 (.t 13), none⟩,
 ⟨some 5, .mv (.t 14), none⟩] [0, 3, 5, 9, 10, 11])
 (.seq (.reg [
 ⟨some 15, .mv (.t 3), none⟩,
 ⟨some 16, .mv (.t 5), none⟩,
 ⟨some 17, .len false (.t 16), none⟩,
 ⟨some 18, .bin .add (.t 15) (.t 17), none⟩,
 ⟨some 3, .mv (.t 18), none⟩] [0, 3, 9, 10, 11])
 (.seq (.reg [
 ⟨some 19, .mv (.t 3), none⟩,
 ⟨some 20, .bin .lss (.t 19) (.c (.int .i64 0)), none⟩] [0, 3, 9, 10, 11, 20])
 (.cond (.t 20) (.reg [
 ⟨some 21, .mkif 0 (.c (.str ⟨#[108, 101, 110, 32, 111, 117, 116, 32, 111, 102, 32, 114, 97, 110, 103, 101]⟩)), none⟩,
 ⟨none, .pan , none⟩] [0, 3, 9, 10, 11])
 (.skip) [0, 3, 9, 10, 11])))) [0, 3, 9, 10, 11])
 (.reg [
 ⟨some 22, .bin .add (.t 11) (.c (.int .i64 1)), none⟩,
 ⟨some 11, .mv (.t 22), none⟩] [0, 3, 9, 10, 11]))))
def f62 : AFunc := { np := 1, res := [.tmp 2], pure := true, body :=
 (.seq (.reg [
 ⟨some 2, .mv (.c (.nils)), none⟩] [0])
 (.seq (.reg [
 ⟨some 3, .mv (.c (.int .i64 0)), none⟩] [0, 3])
 (.seq (.seq (.reg [
 ⟨some 9, .mv (.t 0), none⟩,
 ⟨some 10, .len false (.t 9), none⟩,
 ⟨some 11, .mv (.c (.int .i64 0)), none⟩] [0, 3, 9, 10, 11])
 (.block 0 (.loop [0, 3, 9, 10, 11] f62L1) [0, 3]))
 (.seq (.reg [
 ⟨some 23, .mv (.t 3), none⟩,
 ⟨some 24, .call (.c (.fn 76 [] [])) [(.c (.nils)), (.t 23)], none⟩,
 ⟨some 6, .mv (.t 24), none⟩] [0, 6])
 (.seq (.seq (.reg [
 ⟨some 25, .mv (.t 0), none⟩,
 ⟨some 26, .len false (.t 25), none⟩,
 ⟨some 27, .mv (.c (.int .i64 0)), none⟩] [6, 25, 26, 27])
 (.block 2 (.loop [6, 25, 26, 27] f62L0) [6]))
 (.seq (.reg [
 ⟨some 35, .mv (.t 6), none⟩,
 ⟨some 2, .mv (.t 35), none⟩] [2])
 (.ret))))))) }
def f63 : AFunc := { np := 2, res := [.tmp 4, .tmp 5], pure := true, body :=
 (.seq (.reg [
 ⟨some 4, .mv (.c (.int .u64 0)), none⟩,
 ⟨some 5, .mv (.c (.int .u64 0)), none⟩] [0, 1])
 (.seq (.cond (.c (.bool false)) (.seq (.reg [
 ⟨some 11, .mv (.t 0), none⟩,
 ⟨some 12, .conv .u32 (.t 11), none⟩,
 ⟨some 13, .mv (.t 1), none⟩,
 ⟨some 14, .conv .u32 (.t 13), none⟩,
 ⟨some 15, .call (.c (.fn 77 [] [])) [(.t 12), (.t 14)], none⟩,
 ⟨some 10, .mv (.t 15), none⟩,
 ⟨some 16, .extr (.t 10) 0, none⟩,
 ⟨some 17, .extr (.t 10) 1, none⟩,
 ⟨some 6, .mv (.t 16), none⟩,
 ⟨some 7, .mv (.t 17), none⟩] [6, 7])
 (.seq (.reg [
 ⟨some 18, .mv (.t 6), none⟩,
 ⟨some 19, .conv .u64 (.t 18), none⟩,
 ⟨some 20, .mv (.t 7), none⟩,
 ⟨some 21, .conv .u64 (.t 20), none⟩,
 ⟨some 4, .mv (.t 19), none⟩,
 ⟨some 5, .mv (.t 21), none⟩] [4, 5])
 (.ret)))
 (.skip) [0, 1])
 (.seq (.reg [
 ⟨some 23, .mv (.t 0), none⟩,
 ⟨some 24, .mv (.t 1), none⟩,
 ⟨some 25, .call (.c (.fn 78 [] [])) [(.t 23), (.t 24)], none⟩,
 ⟨some 22, .mv (.t 25), none⟩,
 ⟨some 26, .extr (.t 22) 0, none⟩,
 ⟨some 27, .extr (.t 22) 1, none⟩,
 ⟨some 8, .mv (.t 26), none⟩,
 ⟨some 9, .mv (.t 27), none⟩] [8, 9])
 (.seq (.reg [
 ⟨some 28, .mv (.t 8), none⟩,
 ⟨some 29, .mv (.t 9), none⟩,
 ⟨some 4, .mv (.t 28), none⟩,
 ⟨some 5, .mv (.t 29), none⟩] [4, 5])
 (.ret))))) }
def f64L0 : ACode :=
 (.seq (.seq (.reg [
 ⟨some 36, .mv (.t 10), none⟩,
 ⟨some 37, .len false (.t 36), none⟩,
 ⟨some 38, .mv (.t 1), none⟩,
 ⟨some 39, .bin .lss (.t 37) (.t 38), none⟩,
 ⟨some 40, .mv (.t 39), none⟩,
 ⟨some 41, .mv (.t 0), (some (40, true))⟩,
 ⟨some 42, .nilc (.t 41), (some (40, true))⟩,
 ⟨some 43, .fadr 3 (.t 42), (some (40, true))⟩,
 ⟨some 44, .load false 1 (.t 43), (some (40, true))⟩,
 ⟨some 45, .bin .eql (.t 44) (.c (.int .i64 0)), (some (40, true))⟩,
 ⟨some 46, .pick (.t 40) (.t 45) (.c (.bool false)), none⟩] [0, 1, 9, 10, 46])
 (.cond (.t 46) (.skip)
 (.exit 2) [0, 1, 9, 10]))
 (.block 3 (.seq (.reg [
 ⟨some 48, .mv (.t 0), none⟩,
 ⟨some 49, .mv (.t 0), none⟩,
 ⟨some 50, .mv (.t 9), none⟩,
 ⟨some 51, .call (.c (.fn 60 [] [])) [(.t 49), (.t 50)], none⟩,
 ⟨some 52, .mv (.t 10), none⟩,
 ⟨some 53, .call (.c (.fn 80 [] [])) [(.t 48), (.t 51), (.t 52)], none⟩,
 ⟨some 47, .mv (.t 53), none⟩,
 ⟨some 54, .extr (.t 47) 0, none⟩,
 ⟨some 55, .extr (.t 47) 1, none⟩,
 ⟨some 11, .mv (.t 54), none⟩,
 ⟨some 12, .mv (.t 55), none⟩] [0, 1, 9, 10, 11, 12])
 (.reg [
 ⟨some 56, .mv (.t 10), none⟩,
 ⟨some 57, .mv (.t 11), none⟩,
 ⟨some 58, .bslice 1 1 [.int .i64 0] [(0, (.t 57))], none⟩,
 ⟨some 59, .mv (.t 12), none⟩,
 ⟨some 60, .call (.c (.fn 43 [] [])) [(.t 58), (.t 59)], none⟩,
 ⟨some 61, .app 1 8 (.t 56) (.t 60), none⟩,
 ⟨some 10, .mv (.t 61), none⟩] [0, 1, 9, 10])) [0, 1, 9, 10]))
def f64L1 : ACode :=
 (.seq (.reg [
 ⟨some 21, .bin .lss (.t 20) (.t 19), none⟩] [0, 1, 5, 18, 19, 20, 21])
 (.seq (.cond (.t 21) (.skip)
 (.exit 0) [0, 1, 5, 18, 19, 20])
 (.seq (.block 1 (.seq (.reg [
 ⟨some 22, .iadr 1 (.t 18) (.t 20), none⟩,
 ⟨some 23, .load false 1 (.t 22), none⟩,
 ⟨some 8, .mv (.t 23), none⟩] [0, 1, 5, 8, 18, 19, 20])
 (.reg [
 ⟨some 24, .mv (.t 8), none⟩,
 ⟨some 25, .mv (.t 0), none⟩,
 ⟨some 26, .call (.c (.fn 38 [] [])) [(.t 25), (.c (.int .i64 3))], none⟩,
 ⟨some 27, .iadra 19 1 (.t 5) (.t 24), none⟩,
 ⟨none, .store 1 (.t 27) (.t 26), none⟩] [0, 1, 5, 18, 19, 20])) [0, 1, 5, 18, 19, 20])
 (.reg [
 ⟨some 28, .bin .add (.t 20) (.c (.int .i64 1)), none⟩,
 ⟨some 20, .mv (.t 28), none⟩] [0, 1, 5, 18, 19, 20]))))
def f64 : AFunc := { np := 2, res := [.tmp 4], pure := false, body :=
 (.seq (.reg [
 ⟨some 4, .mv (.c (.nils)), none⟩] [0, 1])
 (.seq (.reg [
 ⟨some 5, .alloc [.int .i64 0, .int .i64 0, .int .i64 0, .int .i64 0, .int .i64 0, .int .i64 0, .int .i64 0, .int .i64 0, .int .i64 0, .int .i64 0, .int .i64 0, .int .i64 0, .int .i64 0, .int .i64 0, .int .i64 0, .int .i64 0, .int .i64 0, .int .i64 0, .int .i64 0], none⟩] [0, 1, 5])
 (.seq (.reg [
 ⟨some 13, .call (.c (.fn 79 [] [])) [], none⟩,
 ⟨some 6, .mv (.t 13), none⟩] [0, 1, 5, 6])
 (.seq (.seq (.reg [
 ⟨some 14, .mv (.t 6), none⟩,
 ⟨some 15, .mv (.t 0), none⟩,
 ⟨some 16, .call (.c (.fn 38 [] [])) [(.t 15), (.c (.int .i64 4))], none⟩,
 ⟨some 17, .bin .add (.t 16) (.c (.int .i64 4)), none⟩,
 ⟨some 18, .sl 1 (.t 14) none (some (.t 17)) none, none⟩,
 ⟨some 19, .len false (.t 18), none⟩,
 ⟨some 20, .mv (.c (.int .i64 0)), none⟩] [0, 1, 5, 18, 19, 20])
 (.block 0 (.loop [0, 1, 5, 18, 19, 20] f64L1) [0, 1, 5]))
 (.seq (.seq (.reg [
 ⟨some 29, .sla 19 1 (.t 5) none none, none⟩,
 ⟨some 30, .call (.c (.fn 65 [] [])) [(.t 29)], none⟩,
 ⟨some 31, .bin .neq (.t 30) (.c (.int .i64 0)), none⟩] [0, 1, 5, 31])
 (.cond (.t 31) (.reg [
 ⟨some 32, .mv (.t 0), none⟩,
 ⟨some 33, .call (.c (.fn 45 [] [])) [(.t 32), (.c (.int .i64 700))], none⟩] [0, 1, 5])
 (.skip) [0, 1, 5]))
 (.seq (.reg [
 ⟨some 34, .sla 19 1 (.t 5) none none, none⟩,
 ⟨some 35, .call (.c (.fn 41 [] [])) [(.t 34)], none⟩,
 ⟨some 9, .mv (.t 35), none⟩] [0, 1, 9])
 (.seq (.reg [
 ⟨some 10, .mv (.c (.nils)), none⟩] [0, 1, 9, 10])
 (.seq (.block 2 (.loop [0, 1, 9, 10] f64L0) [0, 1, 10])
 (.seq (.seq (.reg [
 ⟨some 62, .mv (.t 10), none⟩,
 ⟨some 63, .len false (.t 62), none⟩,
 ⟨some 64, .mv (.t 1), none⟩,
 ⟨some 65, .bin .gtr (.t 63) (.t 64), none⟩] [0, 10, 65])
 (.cond (.t 65) (.reg [
 ⟨some 66, .mv (.t 0), none⟩,
 ⟨some 67, .call (.c (.fn 45 [] [])) [(.t 66), (.c (.int .i64 700))], none⟩] [10])
 (.skip) [10]))
 (.seq (.reg [
 ⟨some 68, .mv (.t 10), none⟩,
 ⟨some 4, .mv (.t 68), none⟩] [4])
 (.ret))))))))))) }
def f65 : AFunc := { np := 1, res := [.tmp 2], pure := true, body :=
 (.seq (.reg [
 ⟨some 2, .mv (.c (.int .i64 0)), none⟩] [0])
 (.seq (.seq (.reg [
 ⟨some 4, .mv (.t 0), none⟩,
 ⟨some 5, .call (.c (.fn 81 [] [])) [(.t 4)], none⟩,
 ⟨some 6, .not (.t 5), none⟩] [0, 6])
 (.cond (.t 6) (.seq (.reg [
 ⟨some 2, .mv (.c (.int .i64 300)), none⟩] [2])
 (.ret))
 (.skip) [0]))
 (.seq (.seq (.reg [
 ⟨some 7, .mv (.t 0), none⟩,
 ⟨some 8, .call (.c (.fn 41 [] [])) [(.t 7)], none⟩,
 ⟨some 9, .nilc (.t 8), none⟩,
 ⟨some 10, .fadr 48 (.t 9), none⟩,
 ⟨some 11, .load false 1 (.t 10), none⟩,
 ⟨some 3, .mv (.t 11), none⟩] [3])
 (.block 0 (.seq (.reg [
 ⟨some 13, .mv (.t 3), none⟩,
 ⟨some 14, .bin .lss (.t 13) (.c (.int .i64 0)), none⟩,
 ⟨some 12, .mv (.t 14), none⟩] [3, 12])
 (.cond (.t 12) (.seq (.reg [
 ⟨some 2, .mv (.c (.int .i64 301)), none⟩] [2])
 (.ret))
 (.seq (.reg [
 ⟨some 16, .mv (.t 3), none⟩,
 ⟨some 17, .bin .gtr (.t 16) (.c (.int .i64 0)), none⟩,
 ⟨some 15, .mv (.t 17), none⟩] [15])
 (.cond (.t 15) (.seq (.reg [
 ⟨some 2, .mv (.c (.int .i64 302)), none⟩] [2])
 (.ret))
 (.skip) [])) [])) []))
 (.seq (.reg [
 ⟨some 2, .mv (.c (.int .i64 0)), none⟩] [2])
 (.ret))))) }
def f66L0 : ACode :=
 (.seq (.reg [
 ⟨some 9, .bin .lss (.t 8) (.t 7), none⟩] [3, 6, 7, 8, 9])
 (.seq (.cond (.t 9) (.skip)
 (.exit 0) [3, 6, 7, 8])
 (.seq (.block 1 (.seq (.reg [
 ⟨some 10, .iadr 1 (.t 6) (.t 8), none⟩,
 ⟨some 11, .load false 1 (.t 10), none⟩,
 ⟨some 5, .mv (.t 11), none⟩] [3, 5, 6, 7, 8])
 (.reg [
 ⟨some 12, .mv (.t 3), none⟩,
 ⟨some 13, .mv (.t 5), none⟩,
 ⟨some 14, .bin .add (.t 12) (.t 13), none⟩,
 ⟨some 3, .mv (.t 14), none⟩] [3, 6, 7, 8])) [3, 6, 7, 8])
 (.reg [
 ⟨some 15, .bin .add (.t 8) (.c (.int .i64 1)), none⟩,
 ⟨some 8, .mv (.t 15), none⟩] [3, 6, 7, 8]))))
def f66 : AFunc := { np := 1, res := [.tmp 2], pure := true, body :=
 (.seq (.reg [
 ⟨some 2, .mv (.c (.bool false)), none⟩] [0])
 (.seq (.reg [
 ⟨some 3, .mv (.c (.int .i64 0)), none⟩] [0, 3])
 (.seq (.seq (.reg [
 ⟨some 6, .mv (.t 0), none⟩,
 ⟨some 7, .len false (.t 6), none⟩,
 ⟨some 8, .mv (.c (.int .i64 0)), none⟩] [3, 6, 7, 8])
 (.block 0 (.loop [3, 6, 7, 8] f66L0) [3]))
 (.seq (.reg [
 ⟨some 16, .mv (.t 3), none⟩,
 ⟨some 17, .bin .leq (.t 16) (.c (.int .i64 1)), none⟩,
 ⟨some 2, .mv (.t 17), none⟩] [2])
 (.ret))))) }
def f67L0 : ACode :=
 (.seq (.seq (.reg [
 ⟨some 12, .mv (.t 3), none⟩,
 ⟨some 13, .mv (.t 0), none⟩,
 ⟨some 14, .len false (.t 13), none⟩,
 ⟨some 15, .bin .lss (.t 12) (.t 14), none⟩] [0, 3, 15])
 (.cond (.t 15) (.skip)
 (.exit 0) [0, 3]))
 (.seq (.block 1 (.seq (.reg [
 ⟨some 18, .mv (.t 0), none⟩,
 ⟨some 19, .mv (.t 3), none⟩,
 ⟨some 20, .iadr 1 (.t 18) (.t 19), none⟩,
 ⟨some 21, .load false 1 (.t 20), none⟩,
 ⟨some 22, .bin .lss (.t 21) (.c (.int .i64 0)), none⟩,
 ⟨some 23, .mv (.t 22), none⟩,
 ⟨some 24, .mv (.t 0), (some (23, false))⟩,
 ⟨some 25, .mv (.t 3), (some (23, false))⟩,
 ⟨some 26, .iadr 1 (.t 24) (.t 25), (some (23, false))⟩,
 ⟨some 27, .load false 1 (.t 26), (some (23, false))⟩,
 ⟨some 28, .bin .gtr (.t 27) (.c (.int .i64 15)), (some (23, false))⟩,
 ⟨some 29, .pick (.t 23) (.c (.bool true)) (.t 28), none⟩] [0, 3, 29])
 (.cond (.t 29) (.seq (.reg [
 ⟨some 2, .mv (.c (.bool false)), none⟩] [2])
 (.ret))
 (.skip) [0, 3])) [0, 3])
 (.reg [
 ⟨some 16, .mv (.t 3), none⟩,
 ⟨some 17, .bin .add (.t 16) (.c (.int .i64 1)), none⟩,
 ⟨some 3, .mv (.t 17), none⟩] [0, 3])))
def f67 : AFunc := { np := 1, res := [.tmp 2], pure := true, body :=
 (.seq (.reg [
 ⟨some 2, .mv (.c (.bool false)), none⟩] [0])
 (.seq (.seq (.reg [
 ⟨some 4, .mv (.t 0), none⟩,
 ⟨some 5, .len false (.t 4), none⟩,
 ⟨some 6, .bin .lss (.t 5) (.c (.int .i64 1)), none⟩,
 ⟨some 7, .mv (.t 6), none⟩,
 ⟨some 8, .mv (.t 0), (some (7, false))⟩,
 ⟨some 9, .len false (.t 8), (some (7, false))⟩,
 ⟨some 10, .bin .gtr (.t 9) (.c (.int .i64 288)), (some (7, false))⟩,
 ⟨some 11, .pick (.t 7) (.c (.bool true)) (.t 10), none⟩] [0, 11])
 (.cond (.t 11) (.seq (.reg [
 ⟨some 2, .mv (.c (.bool false)), none⟩] [2])
 (.ret))
 (.skip) [0]))
 (.seq (.seq (.reg [
 ⟨some 3, .mv (.c (.int .i64 0)), none⟩] [0, 3])
 (.block 0 (.loop [0, 3] f67L0) []))
 (.seq (.reg [
 ⟨some 2, .mv (.c (.bool true)), none⟩] [2])
 (.ret))))) }
def f68L0 : ACode :=
 (.seq (.seq (.reg [
 ⟨some 5, .mv (.t 4), none⟩,
 ⟨some 6, .mv (.t 0), none⟩,
 ⟨some 7, .len false (.t 6), none⟩,
 ⟨some 8, .bin .lss (.t 5) (.t 7), none⟩] [0, 3, 4, 8])
 (.cond (.t 8) (.skip)
 (.exit 0) [0, 3, 4]))
 (.seq (.block 1 (.seq (.reg [
 ⟨some 11, .mv (.t 0), none⟩,
 ⟨some 12, .mv (.t 4), none⟩,
 ⟨some 13, .iadr 1 (.t 11) (.t 12), none⟩,
 ⟨some 14, .load false 1 (.t 13), none⟩,
 ⟨some 15, .bin .gtr (.t 14) (.c (.int .i64 0)), none⟩] [0, 3, 4, 15])
 (.cond (.t 15) (.reg [
 ⟨some 16, .mv (.t 3), none⟩,
 ⟨some 17, .mv (.t 0), none⟩,
 ⟨some 18, .mv (.t 4), none⟩,
 ⟨some 19, .iadr 1 (.t 17) (.t 18), none⟩,
 ⟨some 20, .load false 1 (.t 19), none⟩,
 ⟨some 21, .bin .sub (.c (.int .i64 15)) (.t 20), none⟩,
 ⟨some 22, .bin .shl (.c (.int .i64 1)) (.t 21), none⟩,
 ⟨some 23, .bin .add (.t 16) (.t 22), none⟩,
 ⟨some 3, .mv (.t 23), none⟩] [0, 3, 4])
 (.skip) [0, 3, 4])) [0, 3, 4])
 (.reg [
 ⟨some 9, .mv (.t 4), none⟩,
 ⟨some 10, .bin .add (.t 9) (.c (.int .i64 1)), none⟩,
 ⟨some 4, .mv (.t 10), none⟩] [0, 3, 4])))
def f68 : AFunc := { np := 1, res := [.tmp 2], pure := true, body :=
 (.seq (.reg [
 ⟨some 2, .mv (.c (.int .i64 0)), none⟩] [0])
 (.seq (.reg [
 ⟨some 3, .mv (.c (.int .i64 0)), none⟩] [0, 3])
 (.seq (.seq (.reg [
 ⟨some 4, .mv (.c (.int .i64 0)), none⟩] [0, 3, 4])
 (.block 0 (.loop [0, 3, 4] f68L0) [3]))
 (.seq (.reg [
 ⟨some 24, .mv (.t 3), none⟩,
 ⟨some 2, .mv (.t 24), none⟩] [2])
 (.ret))))) }
def f69L0 : ACode :=
 (.seq (.seq (.reg [
 ⟨some 6, .mv (.t 4), none⟩,
 ⟨some 7, .mv (.t 0), none⟩,
 ⟨some 8, .len false (.t 7), none⟩,
 ⟨some 9, .bin .lss (.t 6) (.t 8), none⟩] [0, 3, 4, 9])
 (.cond (.t 9) (.skip)
 (.exit 0) [0, 3, 4]))
 (.seq (.block 1 (.seq (.reg [
 ⟨some 12, .mv (.t 0), none⟩,
 ⟨some 13, .mv (.t 4), none⟩,
 ⟨some 14, .iadr 3 (.t 12) (.t 13), none⟩,
 ⟨some 15, .load true 3 (.t 14), none⟩,
 ⟨some 5, .alloc [.int .i64 0, .int .i64 0, .int .i64 0], none⟩,
 ⟨none, .store 3 (.t 5) (.t 15), none⟩] [0, 3, 4, 5])
 (.seq (.seq (.reg [
 ⟨some 16, .fadr 1 (.t 5), none⟩,
 ⟨some 17, .load false 1 (.t 16), none⟩,
 ⟨some 18, .bin .eql (.t 17) (.c (.int .i64 0)), none⟩] [0, 3, 4, 5, 18])
 (.cond (.t 18) (.seq (.seq (.reg [
 ⟨some 19, .fadr 0 (.t 5), none⟩,
 ⟨some 20, .load false 1 (.t 19), none⟩,
 ⟨some 21, .bin .lss (.t 20) (.c (.int .i64 0)), none⟩,
 ⟨some 22, .mv (.t 21), none⟩,
 ⟨some 23, .fadr 0 (.t 5), (some (22, false))⟩,
 ⟨some 24, .load false 1 (.t 23), (some (22, false))⟩,
 ⟨some 25, .bin .gtr (.t 24) (.c (.int .i64 255)), (some (22, false))⟩,
 ⟨some 26, .pick (.t 22) (.c (.bool true)) (.t 25), none⟩,
 ⟨some 27, .mv (.t 26), none⟩,
 ⟨some 28, .fadr 2 (.t 5), (some (27, false))⟩,
 ⟨some 29, .load false 1 (.t 28), (some (27, false))⟩,
 ⟨some 30, .bin .neq (.t 29) (.c (.int .i64 0)), (some (27, false))⟩,
 ⟨some 31, .pick (.t 27) (.c (.bool true)) (.t 30), none⟩] [0, 3, 4, 31])
 (.cond (.t 31) (.seq (.reg [
 ⟨some 2, .mv (.c (.bool false)), none⟩] [2])
 (.ret))
 (.skip) [0, 3, 4]))
 (.reg [
 ⟨some 32, .mv (.t 3), none⟩,
 ⟨some 33, .bin .add (.t 32) (.c (.int .i64 1)), none⟩,
 ⟨some 3, .mv (.t 33), none⟩] [0, 3, 4]))
 (.seq (.seq (.reg [
 ⟨some 34, .fadr 1 (.t 5), none⟩,
 ⟨some 35, .load false 1 (.t 34), none⟩,
 ⟨some 36, .bin .lss (.t 35) (.c (.int .i64 3)), none⟩,
 ⟨some 37, .mv (.t 36), none⟩,
 ⟨some 38, .fadr 1 (.t 5), (some (37, false))⟩,
 ⟨some 39, .load false 1 (.t 38), (some (37, false))⟩,
 ⟨some 40, .bin .gtr (.t 39) (.c (.int .i64 258)), (some (37, false))⟩,
 ⟨some 41, .pick (.t 37) (.c (.bool true)) (.t 40), none⟩,
 ⟨some 42, .mv (.t 41), none⟩,
 ⟨some 43, .fadr 2 (.t 5), (some (42, false))⟩,
 ⟨some 44, .load false 1 (.t 43), (some (42, false))⟩,
 ⟨some 45, .bin .lss (.t 44) (.c (.int .i64 1)), (some (42, false))⟩,
 ⟨some 46, .pick (.t 42) (.c (.bool true)) (.t 45), none⟩,
 ⟨some 47, .mv (.t 46), none⟩,
 ⟨some 48, .fadr 2 (.t 5), (some (47, false))⟩,
 ⟨some 49, .load false 1 (.t 48), (some (47, false))⟩,
 ⟨some 50, .bin .gtr (.t 49) (.c (.int .i64 32768)), (some (47, false))⟩,
 ⟨some 51, .pick (.t 47) (.c (.bool true)) (.t 50), none⟩,
 ⟨some 52, .mv (.t 51), none⟩,
 ⟨some 53, .fadr 2 (.t 5), (some (52, false))⟩,
 ⟨some 54, .load false 1 (.t 53), (some (52, false))⟩,
 ⟨some 55, .mv (.t 3), (some (52, false))⟩,
 ⟨some 56, .bin .gtr (.t 54) (.t 55), (some (52, false))⟩,
 ⟨some 57, .pick (.t 52) (.c (.bool true)) (.t 56), none⟩,
 ⟨some 58, .mv (.t 57), none⟩,
 ⟨some 59, .fadr 0 (.t 5), (some (58, false))⟩,
 ⟨some 60, .load false 1 (.t 59), (some (58, false))⟩,
 ⟨some 61, .bin .neq (.t 60) (.c (.int .i64 0)), (some (58, false))⟩,
 ⟨some 62, .pick (.t 58) (.c (.bool true)) (.t 61), none⟩] [0, 3, 4, 5, 62])
 (.cond (.t 62) (.seq (.reg [
 ⟨some 2, .mv (.c (.bool false)), none⟩] [2])
 (.ret))
 (.skip) [0, 3, 4, 5]))
 (.reg [
 ⟨some 63, .mv (.t 3), none⟩,
 ⟨some 64, .fadr 1 (.t 5), none⟩,
 ⟨some 65, .load false 1 (.t 64), none⟩,
 ⟨some 66, .bin .add (.t 63) (.t 65), none⟩,
 ⟨some 3, .mv (.t 66), none⟩] [0, 3, 4])) [0, 3, 4]))
 (.seq (.reg [
 ⟨some 67, .mv (.t 3), none⟩,
 ⟨some 68, .bin .gtr (.t 67) (.c (.int .i64 8192)), none⟩] [0, 3, 4, 68])
 (.cond (.t 68) (.seq (.reg [
 ⟨some 2, .mv (.c (.bool false)), none⟩] [2])
 (.ret))
 (.skip) [0, 3, 4])))) [0, 3, 4])
 (.reg [
 ⟨some 10, .mv (.t 4), none⟩,
 ⟨some 11, .bin .add (.t 10) (.c (.int .i64 1)), none⟩,
 ⟨some 4, .mv (.t 11), none⟩] [0, 3, 4])))
def f69 : AFunc := { np := 1, res := [.tmp 2], pure := true, body :=
 (.seq (.reg [
 ⟨some 2, .mv (.c (.bool false)), none⟩] [0])
 (.seq (.reg [
 ⟨some 3, .mv (.c (.int .i64 0)), none⟩] [0, 3])
 (.seq (.seq (.reg [
 ⟨some 4, .mv (.c (.int .i64 0)), none⟩] [0, 3, 4])
 (.block 0 (.loop [0, 3, 4] f69L0) []))
 (.seq (.reg [
 ⟨some 2, .mv (.c (.bool true)), none⟩] [2])
 (.ret))))) }
def f70 : AFunc := { np := 2, res := [], pure := false, body :=
 (.seq (.reg [
 ⟨some 4, .mv (.t 0), none⟩,
 ⟨some 5, .mv (.t 0), none⟩,
 ⟨some 6, .nilc (.t 5), none⟩,
 ⟨some 7, .fadr 0 (.t 6), none⟩,
 ⟨some 8, .load false 1 (.t 7), none⟩,
 ⟨some 9, .mv (.t 1), none⟩,
 ⟨some 10, .bslice 1 1 [.int .i64 0] [(0, (.t 9))], none⟩,
 ⟨some 11, .app 1 8 (.t 8) (.t 10), none⟩,
 ⟨some 12, .nilc (.t 4), none⟩,
 ⟨some 13, .fadr 0 (.t 12), none⟩,
 ⟨none, .store 1 (.t 13) (.t 11), none⟩] [0])
 (.seq (.reg [
 ⟨some 14, .mv (.t 0), none⟩,
 ⟨some 15, .mv (.t 0), none⟩,
 ⟨some 16, .nilc (.t 15), none⟩,
 ⟨some 17, .fadr 1 (.t 16), none⟩,
 ⟨some 18, .load false 1 (.t 17), none⟩,
 ⟨some 19, .bslice 1 1 [.int .i64 0] [(0, (.c (.int .i64 (-1))))], none⟩,
 ⟨some 20, .app 1 8 (.t 18) (.t 19), none⟩,
 ⟨some 21, .nilc (.t 14), none⟩,
 ⟨some 22, .fadr 1 (.t 21), none⟩,
 ⟨none, .store 1 (.t 22) (.t 20), none⟩] [0])
 (.reg [
 ⟨some 23, .mv (.t 0), none⟩,
 ⟨some 24, .mv (.t 0), none⟩,
 ⟨some 25, .nilc (.t 24), none⟩,
 ⟨some 26, .fadr 2 (.t 25), none⟩,
 ⟨some 27, .load false 1 (.t 26), none⟩,
 ⟨some 28, .bslice 1 1 [.bool false] [(0, (.c (.bool true)))], none⟩,
 ⟨some 29, .app 1 1 (.t 27) (.t 28), none⟩,
 ⟨some 30, .nilc (.t 23), none⟩,
 ⟨some 31, .fadr 2 (.t 30), none⟩,
 ⟨none, .store 1 (.t 31) (.t 29), none⟩] []))) }
def f71L0 : ACode :=
 (.seq (.seq (.reg [
 ⟨some 5, .mv (.t 4), none⟩,
 ⟨some 6, .mv (.t 0), none⟩,
 ⟨some 7, .nilc (.t 6), none⟩,
 ⟨some 8, .fadr 0 (.t 7), none⟩,
 ⟨some 9, .load false 1 (.t 8), none⟩,
 ⟨some 10, .len false (.t 9), none⟩,
 ⟨some 11, .bin .lss (.t 5) (.t 10), none⟩] [0, 3, 4, 11])
 (.cond (.t 11) (.skip)
 (.exit 0) [0, 3, 4]))
 (.seq (.block 1 (.seq (.dreg [0, 1, 2, 3, 4, 5, 6, 7, 8, 9, 10, 11, 12, 13, 14, 15, 16, 17, 18, 19, 20, 21, 22, 23, 24, 25, 26, 27] [
 ⟨some 14, .mv (.t 0), none⟩,
 ⟨some 15, .nilc (.t 14), none⟩,
 ⟨some 16, .fadr 2 (.t 15), none⟩,
 ⟨some 17, .load false 1 (.t 16), none⟩,
 ⟨some 18, .mv (.t 4), none⟩,
 ⟨some 19, .iadr 1 (.t 17) (.t 18), none⟩,
 ⟨some 20, .load false 1 (.t 19), none⟩,
 ⟨some 21, .mv (.t 20), none⟩,
 ⟨some 22, .mv (.t 3), (some (21, true))⟩,
 ⟨some 23, .bin .lss (.t 22) (.c (.int .i64 0)), (some (21, true))⟩,
 ⟨some 24, .mv (.t 23), (some (21, true))⟩,
 ⟨some 25, .mv (.t 0), (some (24, false))⟩,
 ⟨some 26, .nilc (.t 25), (some (24, false))⟩,
 ⟨some 27, .fadr 0 (.t 26), (some (24, false))⟩,
 ⟨some 28, .load false 1 (.t 27), (some (24, false))⟩,
 ⟨some 29, .mv (.t 4), (some (24, false))⟩,
 ⟨some 30, .iadr 1 (.t 28) (.t 29), (some (24, false))⟩,
 ⟨some 31, .load false 1 (.t 30), (some (24, false))⟩,
 ⟨some 32, .mv (.t 0), (some (24, false))⟩,
 ⟨some 33, .nilc (.t 32), (some (24, false))⟩,
 ⟨some 34, .fadr 0 (.t 33), (some (24, false))⟩,
 ⟨some 35, .load false 1 (.t 34), (some (24, false))⟩,
 ⟨some 36, .mv (.t 3), (some (24, false))⟩,
 ⟨some 37, .iadr 1 (.t 35) (.t 36), (some (24, false))⟩,
 ⟨some 38, .load false 1 (.t 37), (some (24, false))⟩,
 ⟨some 39, .bin .lss (.t 31) (.t 38), (some (24, false))⟩,
 ⟨some 40, .pick (.t 24) (.c (.bool true)) (.t 39), (some (21, true))⟩,
 ⟨some 41, .pick (.t 21) (.t 40) (.c (.bool false)), none⟩] [] [0, 3, 4, 41])
 (.cond (.t 41) (.reg [
 ⟨some 42, .mv (.t 4), none⟩,
 ⟨some 3, .mv (.t 42), none⟩] [0, 3, 4])
 (.skip) [0, 3, 4])) [0, 3, 4])
 (.reg [
 ⟨some 12, .mv (.t 4), none⟩,
 ⟨some 13, .bin .add (.t 12) (.c (.int .i64 1)), none⟩,
 ⟨some 4, .mv (.t 13), none⟩] [0, 3, 4])))
def f71 : AFunc := { np := 1, res := [.tmp 2], pure := false, body :=
 (.seq (.reg [
 ⟨some 2, .mv (.c (.int .i64 0)), none⟩] [0])
 (.seq (.reg [
 ⟨some 3, .mv (.c (.int .i64 (-1))), none⟩] [0, 3])
 (.seq (.seq (.reg [
 ⟨some 4, .mv (.c (.int .i64 0)), none⟩] [0, 3, 4])
 (.block 0 (.loop [0, 3, 4] f71L0) [0, 3]))
 (.seq (.reg [
 ⟨some 43, .mv (.t 0), none⟩,
 ⟨some 44, .nilc (.t 43), none⟩,
 ⟨some 45, .fadr 2 (.t 44), none⟩,
 ⟨some 46, .load false 1 (.t 45), none⟩,
 ⟨some 47, .mv (.t 3), none⟩,
 ⟨some 48, .iadr 1 (.t 46) (.t 47), none⟩,
 ⟨none, .store 1 (.t 48) (.c (.bool false)), none⟩] [3])
 (.seq (.reg [
 ⟨some 49, .mv (.t 3), none⟩,
 ⟨some 2, .mv (.t 49), none⟩] [2])
 (.ret)))))) }
def f72 : AFunc := { np := 3, res := [.tmp 6, .tmp 7], pure := false, body :=
 (.seq (.reg [
 ⟨some 6, .mv (.c (.int .i64 0)), none⟩,
 ⟨some 7, .mv (.c (.bool false)), none⟩] [0, 1, 2])
 (.seq (.seq (.dreg [0, 1, 2, 3, 4, 5, 6, 7, 8, 9, 10, 11, 12, 13, 14, 15, 16, 17, 18, 19, 20, 21, 22, 23, 24, 25, 26, 27, 28, 29, 30, 31, 32] [
 ⟨some 8, .mv (.t 1), none⟩,
 ⟨some 9, .bin .lss (.t 8) (.c (.int .i64 1)), none⟩,
 ⟨some 10, .mv (.t 9), none⟩,
 ⟨some 11, .mv (.t 1), (some (10, false))⟩,
 ⟨some 12, .bin .gtr (.t 11) (.c (.int .i64 15)), (some (10, false))⟩,
 ⟨some 13, .pick (.t 10) (.c (.bool true)) (.t 12), none⟩,
 ⟨some 14, .mv (.t 13), none⟩,
 ⟨some 15, .mv (.t 2), (some (14, false))⟩,
 ⟨some 16, .mv (.t 0), (some (14, false))⟩,
 ⟨some 17, .mv (.t 1), (some (14, false))⟩,
 ⟨some 18, .nilc (.t 16), (some (14, false))⟩,
 ⟨some 19, .fadr 0 (.t 18), (some (14, false))⟩,
 ⟨some 20, .iadra 16 1 (.t 19) (.t 17), (some (14, false))⟩,
 ⟨some 21, .load false 1 (.t 20), (some (14, false))⟩,
 ⟨some 22, .bin .lss (.t 15) (.t 21), (some (14, false))⟩,
 ⟨some 23, .pick (.t 14) (.c (.bool true)) (.t 22), none⟩,
 ⟨some 24, .mv (.t 23), none⟩,
 ⟨some 25, .mv (.t 2), (some (24, false))⟩,
 ⟨some 26, .mv (.t 0), (some (24, false))⟩,
 ⟨some 27, .mv (.t 1), (some (24, false))⟩,
 ⟨some 28, .nilc (.t 26), (some (24, false))⟩,
 ⟨some 29, .fadr 0 (.t 28), (some (24, false))⟩,
 ⟨some 30, .iadra 16 1 (.t 29) (.t 27), (some (24, false))⟩,
 ⟨some 31, .load false 1 (.t 30), (some (24, false))⟩,
 ⟨some 32, .bin .sub (.t 25) (.t 31), (some (24, false))⟩,
 ⟨some 33, .mv (.t 0), (some (24, false))⟩,
 ⟨some 34, .mv (.t 1), (some (24, false))⟩,
 ⟨some 35, .nilc (.t 33), (some (24, false))⟩,
 ⟨some 36, .fadr 16 (.t 35), (some (24, false))⟩,
 ⟨some 37, .iadra 16 1 (.t 36) (.t 34), (some (24, false))⟩,
 ⟨some 38, .load false 1 (.t 37), (some (24, false))⟩,
 ⟨some 39, .bin .geq (.t 32) (.t 38), (some (24, false))⟩,
 ⟨some 40, .pick (.t 24) (.c (.bool true)) (.t 39), none⟩] [] [0, 1, 2, 40])
 (.cond (.t 40) (.seq (.reg [
 ⟨some 6, .mv (.c (.int .i64 0)), none⟩,
 ⟨some 7, .mv (.c (.bool false)), none⟩] [6, 7])
 (.ret))
 (.skip) [0, 1, 2]))
 (.seq (.dreg [0, 1, 2, 3, 4, 5, 6, 7, 8, 9, 10, 11, 12, 13, 14, 15, 16, 17] [
 ⟨some 41, .mv (.t 0), none⟩,
 ⟨some 42, .mv (.t 1), none⟩,
 ⟨some 43, .nilc (.t 41), none⟩,
 ⟨some 44, .fadr 32 (.t 43), none⟩,
 ⟨some 45, .iadra 16 1 (.t 44) (.t 42), none⟩,
 ⟨some 46, .load false 1 (.t 45), none⟩,
 ⟨some 47, .mv (.t 2), none⟩,
 ⟨some 48, .mv (.t 0), none⟩,
 ⟨some 49, .mv (.t 1), none⟩,
 ⟨some 50, .nilc (.t 48), none⟩,
 ⟨some 51, .fadr 0 (.t 50), none⟩,
 ⟨some 52, .iadra 16 1 (.t 51) (.t 49), none⟩,
 ⟨some 53, .load false 1 (.t 52), none⟩,
 ⟨some 54, .bin .sub (.t 47) (.t 53), none⟩,
 ⟨some 55, .iadr 1 (.t 46) (.t 54), none⟩,
 ⟨some 56, .load false 1 (.t 55), none⟩,
 ⟨some 6, .mv (.t 56), none⟩,
 ⟨some 7, .mv (.c (.bool true)), none⟩] [] [6, 7])
 (.ret)))) }
def f73 : AFunc := { np := 4, res := [.tmp 8], pure := false, body :=
 (.seq (.reg [
 ⟨some 8, .mv (.c (.int .i64 0)), none⟩] [0, 1, 2, 3])
 (.seq (.seq (.reg [
 ⟨some 9, .mv (.t 3), none⟩,
 ⟨some 10, .bin .neq (.t 9) (.c (.int .i64 0)), none⟩] [0, 1, 2, 10])
 (.cond (.t 10) (.reg [
 ⟨some 11, .mv (.t 0), none⟩,
 ⟨some 12, .call (.c (.fn 45 [] [])) [(.t 11), (.c (.int .i64 700))], none⟩] [0, 1, 2])
 (.skip) [0, 1, 2]))
 (.seq (.reg [
 ⟨some 13, .mv (.t 1), none⟩,
 ⟨some 14, .mv (.t 0), none⟩,
 ⟨some 15, .mv (.t 2), none⟩,
 ⟨some 16, .call (.c (.fn 38 [] [])) [(.t 14), (.t 15)], none⟩,
 ⟨some 17, .bin .add (.t 13) (.t 16), none⟩,
 ⟨some 8, .mv (.t 17), none⟩] [8])
 (.ret)))) }
def f74 : AFunc := { np := 1, res := [.tmp 2, .tmp 3, .tmp 4], pure := true, body :=
 (.seq (.reg [
 ⟨some 2, .mv (.c (.int .i64 0)), none⟩,
 ⟨some 3, .mv (.c (.int .i64 0)), none⟩,
 ⟨some 4, .mv (.c (.int .i64 0)), none⟩] [0])
 (.seq (.reg [
 ⟨some 7, .mv (.t 0), none⟩,
 ⟨some 8, .bin .sub (.t 7) (.c (.int .i64 256)), none⟩,
 ⟨some 9, .bin .sub (.t 8) (.c (.int .i64 1)), none⟩,
 ⟨some 5, .mv (.t 9), none⟩] [0, 5])
 (.seq (.block 0 (.seq (.reg [
 ⟨some 11, .mv (.t 0), none⟩,
 ⟨some 12, .bin .leq (.t 11) (.c (.int .i64 256)), none⟩,
 ⟨some 13, .mv (.t 12), none⟩,
 ⟨some 14, .mv (.t 0), (some (13, false))⟩,
 ⟨some 15, .bin .gtr (.t 14) (.c (.int .i64 285)), (some (13, false))⟩,
 ⟨some 16, .pick (.t 13) (.c (.bool true)) (.t 15), none⟩,
 ⟨some 10, .mv (.t 16), none⟩] [0, 5, 10])
 (.cond (.t 10) (.seq (.reg [
 ⟨some 2, .mv (.c (.int .i64 0)), none⟩,
 ⟨some 3, .mv (.c (.int .i64 0)), none⟩,
 ⟨some 4, .mv (.c (.int .i64 600)), none⟩] [2, 3, 4])
 (.ret))
 (.seq (.reg [
 ⟨some 18, .mv (.t 0), none⟩,
 ⟨some 19, .bin .eql (.t 18) (.c (.int .i64 285)), none⟩,
 ⟨some 17, .mv (.t 19), none⟩] [5, 17])
 (.cond (.t 17) (.seq (.reg [
 ⟨some 2, .mv (.c (.int .i64 258)), none⟩,
 ⟨some 3, .mv (.c (.int .i64 0)), none⟩,
 ⟨some 4, .mv (.c (.int .i64 0)), none⟩] [2, 3, 4])
 (.ret))
 (.seq (.reg [
 ⟨some 21, .mv (.t 5), none⟩,
 ⟨some 22, .bin .lss (.t 21) (.c (.int .i64 8)), none⟩,
 ⟨some 20, .mv (.t 22), none⟩] [5, 20])
 (.cond (.t 20) (.seq (.reg [
 ⟨some 23, .mv (.t 5), none⟩,
 ⟨some 24, .bin .add (.c (.int .i64 3)) (.t 23), none⟩,
 ⟨some 2, .mv (.t 24), none⟩,
 ⟨some 3, .mv (.c (.int .i64 0)), none⟩,
 ⟨some 4, .mv (.c (.int .i64 0)), none⟩] [2, 3, 4])
 (.ret))
 (.skip) [5])) [5])) [5])) [5])
 (.seq (.reg [
 ⟨some 25, .mv (.t 5), none⟩,
 ⟨some 26, .bin .quo (.t 25) (.c (.int .i64 4)), none⟩,
 ⟨some 27, .bin .sub (.t 26) (.c (.int .i64 1)), none⟩,
 ⟨some 6, .mv (.t 27), none⟩] [5, 6])
 (.seq (.reg [
 ⟨some 28, .mv (.t 5), none⟩,
 ⟨some 29, .bin .rem (.t 28) (.c (.int .i64 4)), none⟩,
 ⟨some 30, .bin .add (.c (.int .i64 4)) (.t 29), none⟩,
 ⟨some 31, .mv (.t 6), none⟩,
 ⟨some 32, .bin .shl (.t 30) (.t 31), none⟩,
 ⟨some 33, .bin .add (.c (.int .i64 3)) (.t 32), none⟩,
 ⟨some 34, .mv (.t 6), none⟩,
 ⟨some 2, .mv (.t 33), none⟩,
 ⟨some 3, .mv (.t 34), none⟩,
 ⟨some 4, .mv (.c (.int .i64 0)), none⟩] [2, 3, 4])
 (.ret)))))) }
def f75 : AFunc := { np := 1, res := [.tmp 2, .tmp 3, .tmp 4], pure := true, body :=
 (.seq (.reg [
 ⟨some 2, .mv (.c (.int .i64 0)), none⟩,
 ⟨some 3, .mv (.c (.int .i64 0)), none⟩,
 ⟨some 4, .mv (.c (.int .i64 0)), none⟩] [0])
 (.seq (.block 0 (.seq (.reg [
 ⟨some 7, .mv (.t 0), none⟩,
 ⟨some 8, .bin .lss (.t 7) (.c (.int .i64 0)), none⟩,
 ⟨some 9, .mv (.t 8), none⟩,
 ⟨some 10, .mv (.t 0), (some (9, false))⟩,
 ⟨some 11, .bin .geq (.t 10) (.c (.int .i64 30)), (some (9, false))⟩,
 ⟨some 12, .pick (.t 9) (.c (.bool true)) (.t 11), none⟩,
 ⟨some 6, .mv (.t 12), none⟩] [0, 6])
 (.cond (.t 6) (.seq (.reg [
 ⟨some 2, .mv (.c (.int .i64 0)), none⟩,
 ⟨some 3, .mv (.c (.int .i64 0)), none⟩,
 ⟨some 4, .mv (.c (.int .i64 600)), none⟩] [2, 3, 4])
 (.ret))
 (.seq (.reg [
 ⟨some 14, .mv (.t 0), none⟩,
 ⟨some 15, .bin .lss (.t 14) (.c (.int .i64 4)), none⟩,
 ⟨some 13, .mv (.t 15), none⟩] [0, 13])
 (.cond (.t 13) (.seq (.reg [
 ⟨some 16, .mv (.t 0), none⟩,
 ⟨some 17, .bin .add (.c (.int .i64 1)) (.t 16), none⟩,
 ⟨some 2, .mv (.t 17), none⟩,
 ⟨some 3, .mv (.c (.int .i64 0)), none⟩,
 ⟨some 4, .mv (.c (.int .i64 0)), none⟩] [2, 3, 4])
 (.ret))
 (.skip) [0])) [0])) [0])
 (.seq (.reg [
 ⟨some 18, .mv (.t 0), none⟩,
 ⟨some 19, .bin .quo (.t 18) (.c (.int .i64 2)), none⟩,
 ⟨some 20, .bin .sub (.t 19) (.c (.int .i64 1)), none⟩,
 ⟨some 5, .mv (.t 20), none⟩] [0, 5])
 (.seq (.reg [
 ⟨some 21, .mv (.t 0), none⟩,
 ⟨some 22, .bin .rem (.t 21) (.c (.int .i64 2)), none⟩,
 ⟨some 23, .bin .add (.c (.int .i64 2)) (.t 22), none⟩,
 ⟨some 24, .mv (.t 5), none⟩,
 ⟨some 25, .bin .shl (.t 23) (.t 24), none⟩,
 ⟨some 26, .bin .add (.c (.int .i64 1)) (.t 25), none⟩,
 ⟨some 27, .mv (.t 5), none⟩,
 ⟨some 2, .mv (.t 26), none⟩,
 ⟨some 3, .mv (.t 27), none⟩,
 ⟨some 4, .mv (.c (.int .i64 0)), none⟩] [2, 3, 4])
 (.ret))))) }
def f76 : AFunc := { np := 2, res := [.tmp 4], pure := false, body :=
 (.seq (.reg [
 ⟨some 4, .mv (.c (.nils)), none⟩] [0, 1])
 (.seq (.seq (.reg [
 ⟨some 5, .mv (.t 1), none⟩,
 ⟨some 6, .bin .lss (.t 5) (.c (.int .i64 0)), none⟩] [0, 1, 6])
 (.cond (.t 6) (.reg [
 ⟨some 7, .mkif 0 (.c (.str ⟨#[99, 97, 110, 110, 111, 116, 32, 98, 101, 32, 110, 101, 103, 97, 116, 105, 118, 101]⟩)), none⟩,
 ⟨none, .pan , none⟩] [0, 1])
 (.skip) [0, 1]))
 (.seq (.seq (.reg [
 ⟨some 8, .mv (.t 1), none⟩,
 ⟨some 9, .mv (.t 0), none⟩,
 ⟨some 10, .cap (.t 9), none⟩,
 ⟨some 11, .mv (.t 0), none⟩,
 ⟨some 12, .len false (.t 11), none⟩,
 ⟨some 13, .bin .sub (.t 10) (.t 12), none⟩,
 ⟨some 14, .bin .sub (.t 8) (.t 13), none⟩,
 ⟨some 1, .mv (.t 14), none⟩] [0, 1])
 (.seq (.reg [
 ⟨some 15, .mv (.t 1), none⟩,
 ⟨some 16, .bin .gtr (.t 15) (.c (.int .i64 0)), none⟩] [0, 1, 16])
 (.cond (.t 16) (.reg [
 ⟨some 17, .mv (.t 0), none⟩,
 ⟨some 18, .mv (.t 0), none⟩,
 ⟨some 19, .cap (.t 18), none⟩,
 ⟨some 20, .sl 1 (.t 17) none (some (.t 19)) none, none⟩,
 ⟨some 21, .mv (.t 1), none⟩,
 ⟨some 22, .appz 1 8 [.int .i64 0] (.t 20) (.t 21), none⟩,
 ⟨some 23, .mv (.t 0), none⟩,
 ⟨some 24, .len false (.t 23), none⟩,
 ⟨some 25, .sl 1 (.t 22) none (some (.t 24)) none, none⟩,
 ⟨some 0, .mv (.t 25), none⟩] [0])
 (.skip) [0])))
 (.seq (.reg [
 ⟨some 26, .mv (.t 0), none⟩,
 ⟨some 4, .mv (.t 26), none⟩] [4])
 (.ret))))) }
def f77 : AFunc := { np := 2, res := [.tmp 4, .tmp 5], pure := true, body :=
 (.seq (.reg [
 ⟨some 4, .mv (.c (.int .u32 0)), none⟩,
 ⟨some 5, .mv (.c (.int .u32 0)), none⟩] [0, 1])
 (.seq (.reg [
 ⟨some 7, .mv (.t 0), none⟩,
 ⟨some 8, .conv .u64 (.t 7), none⟩,
 ⟨some 9, .mv (.t 1), none⟩,
 ⟨some 10, .conv .u64 (.t 9), none⟩,
 ⟨some 11, .bin .mul (.t 8) (.t 10), none⟩,
 ⟨some 6, .mv (.t 11), none⟩] [6])
 (.seq (.reg [
 ⟨some 12, .mv (.t 6), none⟩,
 ⟨some 13, .bin .shr (.t 12) (.c (.int .u64 32)), none⟩,
 ⟨some 14, .conv .u32 (.t 13), none⟩,
 ⟨some 15, .mv (.t 6), none⟩,
 ⟨some 16, .conv .u32 (.t 15), none⟩,
 ⟨some 4, .mv (.t 14), none⟩,
 ⟨some 5, .mv (.t 16), none⟩] [4, 5])
 (.ret)))) }
def f78 : AFunc := { np := 2, res := [.tmp 4, .tmp 5], pure := true, body :=
 (.seq (.reg [
 ⟨some 4, .mv (.c (.int .u64 0)), none⟩,
 ⟨some 5, .mv (.c (.int .u64 0)), none⟩] [0, 1])
 (.seq (.reg [
 ⟨some 14, .mv (.t 0), none⟩,
 ⟨some 15, .bin .and (.t 14) (.c (.int .u64 4294967295)), none⟩,
 ⟨some 6, .mv (.t 15), none⟩] [0, 1, 6])
 (.seq (.reg [
 ⟨some 16, .mv (.t 0), none⟩,
 ⟨some 17, .bin .shr (.t 16) (.c (.int .u64 32)), none⟩,
 ⟨some 7, .mv (.t 17), none⟩] [0, 1, 6, 7])
 (.seq (.reg [
 ⟨some 18, .mv (.t 1), none⟩,
 ⟨some 19, .bin .and (.t 18) (.c (.int .u64 4294967295)), none⟩,
 ⟨some 8, .mv (.t 19), none⟩] [0, 1, 6, 7, 8])
 (.seq (.reg [
 ⟨some 20, .mv (.t 1), none⟩,
 ⟨some 21, .bin .shr (.t 20) (.c (.int .u64 32)), none⟩,
 ⟨some 9, .mv (.t 21), none⟩] [0, 1, 6, 7, 8, 9])
 (.seq (.reg [
 ⟨some 22, .mv (.t 6), none⟩,
 ⟨some 23, .mv (.t 8), none⟩,
 ⟨some 24, .bin .mul (.t 22) (.t 23), none⟩,
 ⟨some 10, .mv (.t 24), none⟩] [0, 1, 6, 7, 8, 9, 10])
 (.seq (.reg [
 ⟨some 25, .mv (.t 7), none⟩,
 ⟨some 26, .mv (.t 8), none⟩,
 ⟨some 27, .bin .mul (.t 25) (.t 26), none⟩,
 ⟨some 28, .mv (.t 10), none⟩,
 ⟨some 29, .bin .shr (.t 28) (.c (.int .u64 32)), none⟩,
 ⟨some 30, .bin .add (.t 27) (.t 29), none⟩,
 ⟨some 11, .mv (.t 30), none⟩] [0, 1, 6, 7, 9, 11])
 (.seq (.reg [
 ⟨some 31, .mv (.t 11), none⟩,
 ⟨some 32, .bin .and (.t 31) (.c (.int .u64 4294967295)), none⟩,
 ⟨some 12, .mv (.t 32), none⟩] [0, 1, 6, 7, 9, 11, 12])
 (.seq (.reg [
 ⟨some 33, .mv (.t 11), none⟩,
 ⟨some 34, .bin .shr (.t 33) (.c (.int .u64 32)), none⟩,
 ⟨some 13, .mv (.t 34), none⟩] [0, 1, 6, 7, 9, 12, 13])
 (.seq (.reg [
 ⟨some 35, .mv (.t 12), none⟩,
 ⟨some 36, .mv (.t 6), none⟩,
 ⟨some 37, .mv (.t 9), none⟩,
 ⟨some 38, .bin .mul (.t 36) (.t 37), none⟩,
 ⟨some 39, .bin .add (.t 35) (.t 38), none⟩,
 ⟨some 12, .mv (.t 39), none⟩] [0, 1, 7, 9, 12, 13])
 (.seq (.reg [
 ⟨some 40, .mv (.t 7), none⟩,
 ⟨some 41, .mv (.t 9), none⟩,
 ⟨some 42, .bin .mul (.t 40) (.t 41), none⟩,
 ⟨some 43, .mv (.t 13), none⟩,
 ⟨some 44, .bin .add (.t 42) (.t 43), none⟩,
 ⟨some 45, .mv (.t 12), none⟩,
 ⟨some 46, .bin .shr (.t 45) (.c (.int .u64 32)), none⟩,
 ⟨some 47, .bin .add (.t 44) (.t 46), none⟩,
 ⟨some 4, .mv (.t 47), none⟩] [0, 1, 4])
 (.seq (.reg [
 ⟨some 48, .mv (.t 0), none⟩,
 ⟨some 49, .mv (.t 1), none⟩,
 ⟨some 50, .bin .mul (.t 48) (.t 49), none⟩,
 ⟨some 5, .mv (.t 50), none⟩] [4, 5])
 (.ret))))))))))))) }
def f79 : AFunc := { np := 0, res := [.tmp 0], pure := true, body :=
 (.seq (.reg [
 ⟨some 0, .mv (.c (.nils)), none⟩] [])
 (.seq (.reg [
 ⟨some 1, .bslice 1 19 [.int .i64 0] [(0, (.c (.int .i64 16))), (1, (.c (.int .i64 17))), (2, (.c (.int .i64 18))), (3, (.c (.int .i64 0))), (4, (.c (.int .i64 8))), (5, (.c (.int .i64 7))), (6, (.c (.int .i64 9))), (7, (.c (.int .i64 6))), (8, (.c (.int .i64 10))), (9, (.c (.int .i64 5))), (10, (.c (.int .i64 11))), (11, (.c (.int .i64 4))), (12, (.c (.int .i64 12))), (13, (.c (.int .i64 3))), (14, (.c (.int .i64 13))), (15, (.c (.int .i64 2))), (16, (.c (.int .i64 14))), (17, (.c (.int .i64 1))), (18, (.c (.int .i64 15)))], none⟩,
 ⟨some 0, .mv (.t 1), none⟩] [0])
 (.ret))) }
def f80 : AFunc := { np := 3, res := [.tmp 6, .tmp 7], pure := false, body :=
 (.seq (.reg [
 ⟨some 6, .mv (.c (.int .i64 0)), none⟩,
 ⟨some 7, .mv (.c (.int .i64 0)), none⟩] [0, 1, 2])
 (.seq (.seq (.reg [
 ⟨some 8, .mv (.t 1), none⟩] [0, 1, 2, 8])
 (.block 0 (.seq (.reg [
 ⟨some 10, .bin .eql (.t 8) (.c (.int .i64 16)), none⟩,
 ⟨some 9, .mv (.t 10), none⟩] [0, 1, 2, 8, 9])
 (.cond (.t 9) (.seq (.seq (.reg [
 ⟨some 11, .mv (.t 2), none⟩,
 ⟨some 12, .len false (.t 11), none⟩,
 ⟨some 13, .bin .eql (.t 12) (.c (.int .i64 0)), none⟩] [0, 2, 13])
 (.cond (.t 13) (.seq (.reg [
 ⟨some 14, .mv (.t 0), none⟩,
 ⟨some 15, .call (.c (.fn 45 [] [])) [(.t 14), (.c (.int .i64 700))], none⟩] [])
 (.seq (.reg [
 ⟨some 6, .mv (.c (.int .i64 0)), none⟩,
 ⟨some 7, .mv (.c (.int .i64 0)), none⟩] [6, 7])
 (.ret)))
 (.skip) [0, 2]))
 (.seq (.dreg [0, 1, 2, 3, 4, 5, 6, 7, 8, 9, 10] [
 ⟨some 16, .mv (.t 2), none⟩,
 ⟨some 17, .mv (.t 2), none⟩,
 ⟨some 18, .len false (.t 17), none⟩,
 ⟨some 19, .bin .sub (.t 18) (.c (.int .i64 1)), none⟩,
 ⟨some 20, .iadr 1 (.t 16) (.t 19), none⟩,
 ⟨some 21, .load false 1 (.t 20), none⟩,
 ⟨some 22, .mv (.t 0), none⟩,
 ⟨some 23, .call (.c (.fn 38 [] [])) [(.t 22), (.c (.int .i64 2))], none⟩,
 ⟨some 24, .bin .add (.c (.int .i64 3)) (.t 23), none⟩,
 ⟨some 6, .mv (.t 21), none⟩,
 ⟨some 7, .mv (.t 24), none⟩] [(5, [1])] [6, 7])
 (.ret)))
 (.seq (.reg [
 ⟨some 26, .bin .eql (.t 8) (.c (.int .i64 17)), none⟩,
 ⟨some 25, .mv (.t 26), none⟩] [0, 1, 8, 25])
 (.cond (.t 25) (.seq (.reg [
 ⟨some 27, .mv (.t 0), none⟩,
 ⟨some 28, .call (.c (.fn 38 [] [])) [(.t 27), (.c (.int .i64 3))], none⟩,
 ⟨some 29, .bin .add (.c (.int .i64 3)) (.t 28), none⟩,
 ⟨some 6, .mv (.c (.int .i64 0)), none⟩,
 ⟨some 7, .mv (.t 29), none⟩] [6, 7])
 (.ret))
 (.seq (.reg [
 ⟨some 31, .bin .eql (.t 8) (.c (.int .i64 18)), none⟩,
 ⟨some 30, .mv (.t 31), none⟩] [0, 1, 30])
 (.cond (.t 30) (.seq (.reg [
 ⟨some 32, .mv (.t 0), none⟩,
 ⟨some 33, .call (.c (.fn 38 [] [])) [(.t 32), (.c (.int .i64 7))], none⟩,
 ⟨some 34, .bin .add (.c (.int .i64 11)) (.t 33), none⟩,
 ⟨some 6, .mv (.c (.int .i64 0)), none⟩,
 ⟨some 7, .mv (.t 34), none⟩] [6, 7])
 (.ret))
 (.skip) [1])) [1])) [1])) [1]))
 (.seq (.reg [
 ⟨some 35, .mv (.t 1), none⟩,
 ⟨some 6, .mv (.t 35), none⟩,
 ⟨some 7, .mv (.c (.int .i64 1)), none⟩] [6, 7])
 (.ret)))) }
def f81 : AFunc := { np := 1, res := [.tmp 2], pure := true, body :=
 (.seq (.reg [
 ⟨some 2, .mv (.c (.bool false)), none⟩] [0])
 (.seq (.reg [
 ⟨some 3, .mv (.c (.fn 82 [] [])), none⟩] [0, 3])
 (.seq (.reg [
 ⟨some 4, .mv (.t 0), none⟩,
 ⟨some 5, .len false (.t 4), none⟩,
 ⟨some 6, .bin .geq (.t 5) (.c (.int .i64 1)), none⟩,
 ⟨some 7, .mv (.t 6), none⟩,
 ⟨some 8, .mv (.t 0), (some (7, true))⟩,
 ⟨some 9, .len false (.t 8), (some (7, true))⟩,
 ⟨some 10, .bin .leq (.t 9) (.c (.int .i64 288)), (some (7, true))⟩,
 ⟨some 11, .pick (.t 7) (.t 10) (.c (.bool false)), none⟩,
 ⟨some 12, .mv (.t 11), none⟩,
 ⟨some 13, .mv (.t 0), (some (12, true))⟩,
 ⟨some 14, .mv (.t 3), (some (12, true))⟩,
 ⟨some 15, .call (.c (.fn 83 [] [])) [(.t 13), (.t 14)], (some (12, true))⟩,
 ⟨some 16, .not (.t 15), (some (12, true))⟩,
 ⟨some 17, .pick (.t 12) (.t 16) (.c (.bool false)), none⟩,
 ⟨some 2, .mv (.t 17), none⟩] [2])
 (.ret)))) }
def f82 : AFunc := { np := 1, res := [.tmp 2], pure := true, body :=
 (.seq (.reg [
 ⟨some 2, .mv (.c (.bool false)), none⟩] [0])
 (.seq (.reg [
 ⟨some 3, .mv (.t 0), none⟩,
 ⟨some 4, .bin .lss (.t 3) (.c (.int .i64 0)), none⟩,
 ⟨some 5, .mv (.t 4), none⟩,
 ⟨some 6, .mv (.t 0), (some (5, false))⟩,
 ⟨some 7, .bin .gtr (.t 6) (.c (.int .i64 15)), (some (5, false))⟩,
 ⟨some 8, .pick (.t 5) (.c (.bool true)) (.t 7), none⟩,
 ⟨some 2, .mv (.t 8), none⟩] [2])
 (.ret))) }
def f83 : AFunc := { np := 2, res := [.tmp 4], pure := true, body :=
 (.seq (.reg [
 ⟨some 4, .mv (.c (.bool false)), none⟩] [0, 1])
 (.seq (.reg [
 ⟨some 5, .mv (.t 0), none⟩,
 ⟨some 6, .mv (.t 1), none⟩,
 ⟨some 7, .call (.c (.fn 84 [] [])) [(.t 5), (.t 6)], none⟩,
 ⟨some 8, .bin .geq (.t 7) (.c (.int .i64 0)), none⟩,
 ⟨some 4, .mv (.t 8), none⟩] [4])
 (.ret))) }
def f84L0 : ACode :=
 (.seq (.reg [
 ⟨some 9, .bin .lss (.t 8) (.t 7), none⟩] [0, 1, 7, 8, 9])
 (.seq (.cond (.t 9) (.skip)
 (.exit 0) [0, 1, 7, 8])
 (.seq (.block 1 (.seq (.reg [
 ⟨some 10, .mv (.t 8), none⟩,
 ⟨some 5, .mv (.t 10), none⟩] [0, 1, 5, 7, 8])
 (.seq (.reg [
 ⟨some 11, .mv (.t 1), none⟩,
 ⟨some 12, .mv (.t 0), none⟩,
 ⟨some 13, .mv (.t 5), none⟩,
 ⟨some 14, .iadr 1 (.t 12) (.t 13), none⟩,
 ⟨some 15, .load false 1 (.t 14), none⟩,
 ⟨some 16, .call (.t 11) [(.t 15)], none⟩] [0, 1, 5, 7, 8, 16])
 (.cond (.t 16) (.seq (.reg [
 ⟨some 17, .mv (.t 5), none⟩,
 ⟨some 4, .mv (.t 17), none⟩] [4])
 (.ret))
 (.skip) [0, 1, 7, 8]))) [0, 1, 7, 8])
 (.reg [
 ⟨some 18, .bin .add (.t 8) (.c (.int .i64 1)), none⟩,
 ⟨some 8, .mv (.t 18), none⟩] [0, 1, 7, 8]))))
def f84 : AFunc := { np := 2, res := [.tmp 4], pure := true, body :=
 (.seq (.reg [
 ⟨some 4, .mv (.c (.int .i64 0)), none⟩] [0, 1])
 (.seq (.seq (.reg [
 ⟨some 6, .mv (.t 0), none⟩,
 ⟨some 7, .len false (.t 6), none⟩,
 ⟨some 8, .mv (.c (.int .i64 0)), none⟩] [0, 1, 7, 8])
 (.block 0 (.loop [0, 1, 7, 8] f84L0) []))
 (.seq (.reg [
 ⟨some 4, .mv (.c (.int .i64 (-1))), none⟩] [4])
 (.ret)))) }
def tab : List (Nat × AFunc) := [(6, f6), (7, f7), (9, f9), (10, f10), (12, f12), (13, f13), (14, f14), (15, f15), (16, f16), (17, f17), (26, f26), (27, f27), (28, f28), (29, f29), (30, f30), (31, f31), (32, f32), (33, f33), (34, f34), (35, f35), (36, f36), (37, f37), (38, f38), (39, f39), (40, f40), (41, f41), (42, f42), (43, f43), (44, f44), (45, f45), (50, f50), (51, f51), (52, f52), (55, f55), (56, f56), (57, f57), (58, f58), (59, f59), (60, f60), (61, f61), (62, f62), (63, f63), (64, f64), (65, f65), (66, f66), (67, f67), (68, f68), (69, f69), (70, f70), (71, f71), (72, f72), (73, f73), (74, f74), (75, f75), (76, f76), (77, f77), (78, f78), (79, f79), (80, f80), (81, f81), (82, f82), (83, f83), (84, f84)]
def find : List (Nat × AFunc) → Nat → Option AFunc
 | [], _ => none
 | (i, f) :: r, k => if i = k then some f else find r k
def A : AProg := find tab
end Ab.AP
