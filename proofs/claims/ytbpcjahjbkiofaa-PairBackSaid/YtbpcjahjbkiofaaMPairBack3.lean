/- Part 4 of the proof of PairBack: CODES1, CODES2, S1, S3, S4, S5, S6, S7, S8, S9, S10, S27, S28, S29, S17, S18. -/
import Derived.Test.YtbpcjahjbkiofaaMPairBack2
set_option maxRecDepth 100000
namespace Go.Proofs.Ytbpcjahjbkiofaa.Fn
open Go Go.Proofs Go.Proofs.Ytbpcjahjbkiofaa.AV
namespace typing_made_there
/-- (*instar/typing.made).there -/
abbrev id : FuncId := 51
abbrev nt : Nat := 122
def code : ACode := .seq (.reg [⟨some 2, .mv (.c (.int .i64 0)), none⟩]) (.seq (.reg [⟨some 6, .mv (.t 0), none⟩, ⟨some 7, .call 95 [.t 6], none⟩, ⟨some 3, .mv (.t 7), none⟩]) (.seq (.seq (.reg [⟨some 8, .mv (.t 0), none⟩, ⟨some 9, .nilc (.t 8), none⟩, ⟨some 10, .fa 0 (.t 9), none⟩, ⟨some 11, .fa 0 (.t 10), none⟩, ⟨some 12, .ld 1 false (.t 11), none⟩, ⟨some 13, .bin .eql (.t 12) (.c (.int .i64 9)), none⟩]) (.cond (.t 13) (.seq (.seq (.reg [⟨some 14, .mv (.t 3), none⟩]) (.cond (.t 14) (.seq (.reg [⟨some 2, .mv (.c (.int .i64 9)), none⟩]) .ret) .skip)) (.seq (.reg [⟨some 2, .mv (.c (.int .i64 0)), none⟩]) .ret)) .skip)) (.seq (.seq (.reg [⟨some 15, .mv (.t 3), none⟩, ⟨some 16, .not (.t 15), none⟩]) (.cond (.t 16) (.seq (.reg [⟨some 2, .mv (.c (.int .i64 8)), none⟩]) .ret) .skip)) (.seq (.draw [⟨some 17, .mv (.t 0), none⟩, ⟨some 18, .nilc (.t 17), none⟩, ⟨some 19, .fa 16 (.t 18), none⟩, ⟨some 20, .fa 1 (.t 19), none⟩, ⟨some 21, .ld 1 false (.t 20), none⟩, ⟨some 22, .mv (.t 0), none⟩, ⟨some 23, .nilc (.t 22), none⟩, ⟨some 24, .fa 18 (.t 23), none⟩, ⟨some 25, .ld 1 false (.t 24), none⟩, ⟨some 26, .ia 2 (.t 21) (.t 25), none⟩, ⟨some 27, .ld 2 true (.t 26), none⟩, ⟨some 4, .alloc [.int .i64 0, .slice none 0 0], none⟩, ⟨none, .st 2 (.t 4) (.t 27), none⟩] [0, 1, 3, 7, 15, 0, 32, 96, 224, 511, 1023, 0, 4095]) (.seq (.draw [⟨some 28, .mv (.t 0), none⟩, ⟨some 29, .ld 2 true (.t 4), none⟩, ⟨some 30, .mv (.t 0), none⟩, ⟨some 31, .nilc (.t 30), none⟩, ⟨some 32, .fa 0 (.t 31), none⟩, ⟨some 33, .fa 2 (.t 32), none⟩, ⟨some 34, .ld 1 false (.t 33), none⟩, ⟨some 35, .call 96 [.t 29, .t 34], none⟩, ⟨some 36, .nilc (.t 28), none⟩, ⟨some 37, .fa 19 (.t 36), none⟩, ⟨none, .st 1 (.t 37) (.t 35), none⟩] [0, 0, 0, 4, 12, 28, 60, 126, 255, 511, 1023]) (.seq (.reg [⟨some 5, .mv (.c (.int .i64 (-1))), none⟩]) (.seq (.seq (.reg [⟨some 38, .mv (.t 0), none⟩, ⟨some 39, .nilc (.t 38), none⟩, ⟨some 40, .fa 0 (.t 39), none⟩, ⟨some 41, .fa 0 (.t 40), none⟩, ⟨some 42, .ld 1 false (.t 41), none⟩]) (.block 0 (.seq (.reg [⟨some 44, .bin .eql (.t 42) (.c (.int .i64 1)), none⟩, ⟨some 43, .mv (.t 44), none⟩]) (.cond (.t 43) (.seq (.reg [⟨some 45, .mv (.t 0), none⟩, ⟨some 46, .mv (.t 0), none⟩, ⟨some 47, .nilc (.t 46), none⟩, ⟨some 48, .fa 0 (.t 47), none⟩, ⟨some 49, .fa 3 (.t 48), none⟩, ⟨some 50, .ld 1 false (.t 49), none⟩, ⟨some 51, .nilc (.t 45), none⟩, ⟨some 52, .fa 19 (.t 51), none⟩, ⟨none, .st 1 (.t 52) (.t 50), none⟩]) (.reg [⟨some 53, .mv (.t 0), none⟩, ⟨some 54, .nilc (.t 53), none⟩, ⟨some 55, .fa 0 (.t 54), none⟩, ⟨some 56, .fa 7 (.t 55), none⟩, ⟨some 57, .fa 0 (.t 56), none⟩, ⟨some 58, .ld 1 false (.t 57), none⟩, ⟨some 5, .mv (.t 58), none⟩])) (.seq (.seq (.reg [⟨some 60, .bin .eql (.t 42) (.c (.int .i64 6)), none⟩, ⟨some 59, .mv (.t 60), none⟩]) (.cond (.t 59) .skip (.reg [⟨some 61, .bin .eql (.t 42) (.c (.int .i64 8)), none⟩, ⟨some 59, .mv (.t 61), none⟩]))) (.cond (.t 59) (.reg [⟨some 62, .mv (.t 0), none⟩, ⟨some 63, .nilc (.t 62), none⟩, ⟨some 64, .fa 0 (.t 63), none⟩, ⟨some 65, .fa 4 (.t 64), none⟩, ⟨some 66, .ld 1 false (.t 65), none⟩, ⟨some 5, .mv (.t 66), none⟩]) (.seq (.reg [⟨some 68, .bin .eql (.t 42) (.c (.int .i64 10)), none⟩, ⟨some 67, .mv (.t 68), none⟩]) (.cond (.t 67) (.reg [⟨some 69, .mv (.t 0), none⟩, ⟨some 70, .nilc (.t 69), none⟩, ⟨some 71, .fa 19 (.t 70), none⟩, ⟨none, .st 1 (.t 71) (.c (.int .i64 0)), none⟩]) .skip)))))))) (.seq (.block 1 (.seq (.reg [⟨some 73, .mv (.t 0), none⟩, ⟨some 74, .nilc (.t 73), none⟩, ⟨some 75, .fa 19 (.t 74), none⟩, ⟨some 76, .ld 1 false (.t 75), none⟩, ⟨some 77, .bin .lss (.t 76) (.c (.int .i64 0)), none⟩, ⟨some 72, .mv (.t 77), none⟩]) (.cond (.t 72) (.seq (.reg [⟨some 2, .mv (.c (.int .i64 8)), none⟩]) .ret) (.seq (.reg [⟨some 79, .mv (.t 5), none⟩, ⟨some 80, .bin .geq (.t 79) (.c (.int .i64 0)), none⟩, ⟨some 81, .mv (.t 80), none⟩, ⟨some 82, .ld 2 true (.t 4), some (81, true)⟩, ⟨some 83, .mv (.t 5), some (81, true)⟩, ⟨some 84, .call 96 [.t 82, .t 83], some (81, true)⟩, ⟨some 85, .bin .geq (.t 84) (.c (.int .i64 0)), some (81, true)⟩, ⟨some 86, .pick (.t 81) (.t 85) (.c (.bool false)), none⟩, ⟨some 78, .mv (.t 86), none⟩]) (.cond (.t 78) (.seq (.reg [⟨some 2, .mv (.c (.int .i64 9)), none⟩]) .ret) (.seq (.seq (.draw [⟨some 88, .mv (.t 0), none⟩, ⟨some 89, .nilc (.t 88), none⟩, ⟨some 90, .fa 0 (.t 89), none⟩, ⟨some 91, .fa 0 (.t 90), none⟩, ⟨some 92, .ld 1 false (.t 91), none⟩, ⟨some 93, .bin .eql (.t 92) (.c (.int .i64 1)), none⟩, ⟨some 94, .mv (.t 93), none⟩, ⟨some 95, .mv (.t 0), some (94, true)⟩, ⟨some 96, .nilc (.t 95), some (94, true)⟩, ⟨some 97, .fa 0 (.t 96), some (94, true)⟩, ⟨some 98, .fa 3 (.t 97), some (94, true)⟩, ⟨some 99, .ld 1 false (.t 98), some (94, true)⟩, ⟨some 100, .fa 1 (.t 4), some (94, true)⟩, ⟨some 101, .ld 1 false (.t 100), some (94, true)⟩, ⟨some 102, .len (.t 101), some (94, true)⟩, ⟨some 103, .bin .gtr (.t 99) (.t 102), some (94, true)⟩, ⟨some 104, .pick (.t 94) (.t 103) (.c (.bool false)), none⟩, ⟨some 87, .mv (.t 104), none⟩] [0, 1, 3, 7, 15, 31, 63, 127, 255, 511, 1023, 2047, 127, 4223, 12415, 32767, 65535, 131071]) (.cond (.t 87) .skip (.draw [⟨some 105, .mv (.t 0), none⟩, ⟨some 106, .nilc (.t 105), none⟩, ⟨some 107, .fa 0 (.t 106), none⟩, ⟨some 108, .fa 0 (.t 107), none⟩, ⟨some 109, .ld 1 false (.t 108), none⟩, ⟨some 110, .bin .eql (.t 109) (.c (.int .i64 7)), none⟩, ⟨some 111, .mv (.t 110), none⟩, ⟨some 112, .mv (.t 0), some (111, true)⟩, ⟨some 113, .nilc (.t 112), some (111, true)⟩, ⟨some 114, .fa 0 (.t 113), some (111, true)⟩, ⟨some 115, .fa 3 (.t 114), some (111, true)⟩, ⟨some 116, .ld 1 false (.t 115), some (111, true)⟩, ⟨some 117, .fa 1 (.t 4), some (111, true)⟩, ⟨some 118, .ld 1 false (.t 117), some (111, true)⟩, ⟨some 119, .len (.t 118), some (111, true)⟩, ⟨some 120, .bin .geq (.t 116) (.t 119), some (111, true)⟩, ⟨some 121, .pick (.t 111) (.t 120) (.c (.bool false)), none⟩, ⟨some 87, .mv (.t 121), none⟩] [0, 1, 3, 7, 15, 31, 63, 127, 255, 511, 1023, 2047, 127, 4223, 12415, 32767, 65535, 131071]))) (.cond (.t 87) (.seq (.reg [⟨some 2, .mv (.c (.int .i64 3)), none⟩]) .ret) .skip))))))) (.seq (.reg [⟨some 2, .mv (.c (.int .i64 0)), none⟩]) .ret)))))))))
def res : List RItem := [.t 2]
theorem ok : Option.bind Try.f51.body (cCode P Try.f51.ntmps) = some code := by kernel_rfl
theorem rok : cRes P Try.f51.results.toList = some res := by kernel_rfl
theorem intro {args : List AV} {T T2 : Tab} {r : AV} (ha : (Nat.ble args.length nt && Nat.ble T.length 4) = true) (h : Run P nt [.code code] (argEnv 0 args) T (RetQ res T T2 r)) : AC P id args T r T2 :=
  AC.introB Try.func51 ok rfl rok ha h
end typing_made_there
namespace slices_Insert_api_Form_api_Form
/-- slices.Insert[[]instar/api.Form,instar/api.Form] -/
abbrev id : FuncId := 52
abbrev nt : Nat := 95
def code : ACode := .seq (.reg [⟨some 6, .mv (.c (.slice none 0 0)), none⟩]) (.seq (.reg [⟨some 10, .mv (.t 0), none⟩, ⟨some 11, .mv (.t 1), none⟩, ⟨some 12, .sl 2 (.t 10) (some (.t 11)) none none, none⟩]) (.seq (.reg [⟨some 13, .mv (.t 2), none⟩, ⟨some 14, .len (.t 13), none⟩, ⟨some 7, .mv (.t 14), none⟩]) (.seq (.seq (.reg [⟨some 15, .mv (.t 7), none⟩, ⟨some 16, .bin .eql (.t 15) (.c (.int .i64 0)), none⟩]) (.cond (.t 16) (.seq (.reg [⟨some 17, .mv (.t 0), none⟩, ⟨some 6, .mv (.t 17), none⟩]) .ret) .skip)) (.seq (.reg [⟨some 18, .mv (.t 0), none⟩, ⟨some 19, .len (.t 18), none⟩, ⟨some 8, .mv (.t 19), none⟩]) (.seq (.seq (.reg [⟨some 20, .mv (.t 1), none⟩, ⟨some 21, .mv (.t 8), none⟩, ⟨some 22, .bin .eql (.t 20) (.t 21), none⟩]) (.cond (.t 22) (.seq (.reg [⟨some 23, .mv (.t 0), none⟩, ⟨some 24, .mv (.t 2), none⟩, ⟨some 25, .app 2 32 (.t 23) (.t 24), none⟩, ⟨some 6, .mv (.t 25), none⟩]) .ret) .skip)) (.seq (.seq (.reg [⟨some 26, .mv (.t 8), none⟩, ⟨some 27, .mv (.t 7), none⟩, ⟨some 28, .bin .add (.t 26) (.t 27), none⟩, ⟨some 29, .mv (.t 0), none⟩, ⟨some 30, .cap (.t 29), none⟩, ⟨some 31, .bin .gtr (.t 28) (.t 30), none⟩]) (.cond (.t 31) (.seq (.reg [⟨some 32, .mv (.t 0), none⟩, ⟨some 33, .mv (.t 1), none⟩, ⟨some 34, .sl 2 (.t 32) none (some (.t 33)) none, none⟩, ⟨some 35, .mv (.t 8), none⟩, ⟨some 36, .mv (.t 7), none⟩, ⟨some 37, .bin .add (.t 35) (.t 36), none⟩, ⟨some 38, .mv (.t 1), none⟩, ⟨some 39, .bin .sub (.t 37) (.t 38), none⟩, ⟨some 40, .appz 2 32 [.int .i64 0, .slice none 0 0] (.t 34) (.t 39), none⟩, ⟨some 9, .mv (.t 40), none⟩]) (.seq (.reg [⟨some 41, .mv (.t 9), none⟩, ⟨some 42, .mv (.t 1), none⟩, ⟨some 43, .sl 2 (.t 41) (some (.t 42)) none none, none⟩, ⟨some 44, .mv (.t 2), none⟩, ⟨some 45, .copy 2 (.t 43) (.t 44), none⟩]) (.seq (.draw [⟨some 46, .mv (.t 9), none⟩, ⟨some 47, .mv (.t 1), none⟩, ⟨some 48, .mv (.t 7), none⟩, ⟨some 49, .bin .add (.t 47) (.t 48), none⟩, ⟨some 50, .sl 2 (.t 46) (some (.t 49)) none none, none⟩, ⟨some 51, .mv (.t 0), none⟩, ⟨some 52, .mv (.t 1), none⟩, ⟨some 53, .sl 2 (.t 51) (some (.t 52)) none none, none⟩, ⟨some 54, .copy 2 (.t 50) (.t 53), none⟩] [0, 0, 0, 6, 15, 0, 0, 96, 255]) (.seq (.reg [⟨some 55, .mv (.t 9), none⟩, ⟨some 6, .mv (.t 55), none⟩]) .ret)))) .skip)) (.seq (.reg [⟨some 56, .mv (.t 0), none⟩, ⟨some 57, .mv (.t 8), none⟩, ⟨some 58, .mv (.t 7), none⟩, ⟨some 59, .bin .add (.t 57) (.t 58), none⟩, ⟨some 60, .sl 2 (.t 56) none (some (.t 59)) none, none⟩, ⟨some 0, .mv (.t 60), none⟩]) (.seq (.seq (.reg [⟨some 61, .mv (.t 2), none⟩, ⟨some 62, .mv (.t 0), none⟩, ⟨some 63, .mv (.t 1), none⟩, ⟨some 64, .mv (.t 7), none⟩, ⟨some 65, .bin .add (.t 63) (.t 64), none⟩, ⟨some 66, .sl 2 (.t 62) (some (.t 65)) none none, none⟩, ⟨some 67, .ovl 97 (.t 61) (.t 66), none⟩, ⟨some 68, .not (.t 67), none⟩]) (.cond (.t 68) (.seq (.draw [⟨some 69, .mv (.t 0), none⟩, ⟨some 70, .mv (.t 1), none⟩, ⟨some 71, .mv (.t 7), none⟩, ⟨some 72, .bin .add (.t 70) (.t 71), none⟩, ⟨some 73, .sl 2 (.t 69) (some (.t 72)) none none, none⟩, ⟨some 74, .mv (.t 0), none⟩, ⟨some 75, .mv (.t 1), none⟩, ⟨some 76, .sl 2 (.t 74) (some (.t 75)) none none, none⟩, ⟨some 77, .copy 2 (.t 73) (.t 76), none⟩] [0, 0, 0, 6, 15, 0, 0, 96, 255]) (.seq (.reg [⟨some 78, .mv (.t 0), none⟩, ⟨some 79, .mv (.t 1), none⟩, ⟨some 80, .sl 2 (.t 78) (some (.t 79)) none none, none⟩, ⟨some 81, .mv (.t 2), none⟩, ⟨some 82, .copy 2 (.t 80) (.t 81), none⟩]) (.seq (.reg [⟨some 83, .mv (.t 0), none⟩, ⟨some 6, .mv (.t 83), none⟩]) .ret))) .skip)) (.seq (.reg [⟨some 84, .mv (.t 0), none⟩, ⟨some 85, .mv (.t 8), none⟩, ⟨some 86, .sl 2 (.t 84) (some (.t 85)) none none, none⟩, ⟨some 87, .mv (.t 2), none⟩, ⟨some 88, .copy 2 (.t 86) (.t 87), none⟩]) (.seq (.reg [⟨some 89, .mv (.t 0), none⟩, ⟨some 90, .mv (.t 1), none⟩, ⟨some 91, .sl 2 (.t 89) (some (.t 90)) none none, none⟩, ⟨some 92, .mv (.t 7), none⟩, ⟨some 93, .call 98 [.t 91, .t 92], none⟩]) (.seq (.reg [⟨some 94, .mv (.t 0), none⟩, ⟨some 6, .mv (.t 94), none⟩]) .ret)))))))))))
def res : List RItem := [.t 6]
theorem ok : Option.bind Try.f52.body (cCode P Try.f52.ntmps) = some code := by kernel_rfl
theorem rok : cRes P Try.f52.results.toList = some res := by kernel_rfl
theorem intro {args : List AV} {T T2 : Tab} {r : AV} (ha : (Nat.ble args.length nt && Nat.ble T.length 4) = true) (h : Run P nt [.code code] (argEnv 0 args) T (RetQ res T T2 r)) : AC P id args T r T2 :=
  AC.introB Try.func52 ok rfl rok ha h
end slices_Insert_api_Form_api_Form
namespace slices_Clone_api_Field_api_Field
/-- slices.Clone[[]instar/api.Field,instar/api.Field] -/
abbrev id : FuncId := 53
abbrev nt : Nat := 8
def code : ACode := .seq (.reg [⟨some 2, .mv (.c (.slice none 0 0)), none⟩]) (.seq (.seq (.reg [⟨some 3, .mv (.t 0), none⟩, ⟨some 4, .eqNil false (.t 3), none⟩]) (.cond (.t 4) (.seq (.reg [⟨some 2, .mv (.c (.slice none 0 0)), none⟩]) .ret) .skip)) (.seq (.reg [⟨some 5, .bsl 5 [], none⟩, ⟨some 6, .mv (.t 0), none⟩, ⟨some 7, .app 5 40 (.t 5) (.t 6), none⟩, ⟨some 2, .mv (.t 7), none⟩]) .ret))
def res : List RItem := [.t 2]
theorem ok : Option.bind Try.f53.body (cCode P Try.f53.ntmps) = some code := by kernel_rfl
theorem rok : cRes P Try.f53.results.toList = some res := by kernel_rfl
theorem intro {args : List AV} {T T2 : Tab} {r : AV} (ha : (Nat.ble args.length nt && Nat.ble T.length 4) = true) (h : Run P nt [.code code] (argEnv 0 args) T (RetQ res T T2 r)) : AC P id args T r T2 :=
  AC.introB Try.func53 ok rfl rok ha h
end slices_Clone_api_Field_api_Field
namespace slices_Delete_api_Form_api_Form
/-- slices.Delete[[]instar/api.Form,instar/api.Form] -/
abbrev id : FuncId := 54
abbrev nt : Nat := 33
def code : ACode := .seq (.reg [⟨some 6, .mv (.c (.slice none 0 0)), none⟩]) (.seq (.reg [⟨some 8, .mv (.t 0), none⟩, ⟨some 9, .mv (.t 1), none⟩, ⟨some 10, .mv (.t 2), none⟩, ⟨some 11, .mv (.t 0), none⟩, ⟨some 12, .len (.t 11), none⟩, ⟨some 13, .sl 2 (.t 8) (some (.t 9)) (some (.t 10)) (some (.t 12)), none⟩]) (.seq (.seq (.reg [⟨some 14, .mv (.t 1), none⟩, ⟨some 15, .mv (.t 2), none⟩, ⟨some 16, .bin .eql (.t 14) (.t 15), none⟩]) (.cond (.t 16) (.seq (.reg [⟨some 17, .mv (.t 0), none⟩, ⟨some 6, .mv (.t 17), none⟩]) .ret) .skip)) (.seq (.reg [⟨some 18, .mv (.t 0), none⟩, ⟨some 19, .len (.t 18), none⟩, ⟨some 7, .mv (.t 19), none⟩]) (.seq (.draw [⟨some 20, .mv (.t 0), none⟩, ⟨some 21, .mv (.t 1), none⟩, ⟨some 22, .sl 2 (.t 20) none (some (.t 21)) none, none⟩, ⟨some 23, .mv (.t 0), none⟩, ⟨some 24, .mv (.t 2), none⟩, ⟨some 25, .sl 2 (.t 23) (some (.t 24)) none none, none⟩, ⟨some 26, .app 2 32 (.t 22) (.t 25), none⟩, ⟨some 0, .mv (.t 26), none⟩] [0, 0, 3, 0, 0, 24, 63, 127]) (.seq (.reg [⟨some 27, .mv (.t 0), none⟩, ⟨some 28, .mv (.t 0), none⟩, ⟨some 29, .len (.t 28), none⟩, ⟨some 30, .mv (.t 7), none⟩, ⟨some 31, .sl 2 (.t 27) (some (.t 29)) (some (.t 30)) none, none⟩, ⟨none, .clr 2 [.int .i64 0, .slice none 0 0] (.t 31), none⟩]) (.seq (.reg [⟨some 32, .mv (.t 0), none⟩, ⟨some 6, .mv (.t 32), none⟩]) .ret))))))
def res : List RItem := [.t 6]
theorem ok : Option.bind Try.f54.body (cCode P Try.f54.ntmps) = some code := by kernel_rfl
theorem rok : cRes P Try.f54.results.toList = some res := by kernel_rfl
theorem intro {args : List AV} {T T2 : Tab} {r : AV} (ha : (Nat.ble args.length nt && Nat.ble T.length 4) = true) (h : Run P nt [.code code] (argEnv 0 args) T (RetQ res T T2 r)) : AC P id args T r T2 :=
  AC.introB Try.func54 ok rfl rok ha h
end slices_Delete_api_Form_api_Form
namespace typing_made_change
/-- (*instar/typing.made).change -/
abbrev id : FuncId := 55
abbrev nt : Nat := 71
def code : ACode := .seq (.reg [⟨some 2, .mv (.c (.bool false)), none⟩]) (.seq (.reg [⟨some 8, .mv (.t 0), none⟩, ⟨some 9, .call 99 [.t 8], none⟩, ⟨some 10, .call 53 [.t 9], none⟩, ⟨some 3, .mv (.t 10), none⟩]) (.seq (.seq (.reg [⟨some 11, .mv (.t 0), none⟩, ⟨some 12, .nilc (.t 11), none⟩, ⟨some 13, .fa 0 (.t 12), none⟩, ⟨some 14, .fa 0 (.t 13), none⟩, ⟨some 15, .ld 1 false (.t 14), none⟩, ⟨some 16, .bin .eql (.t 15) (.c (.int .i64 7)), none⟩]) (.cond (.t 16) (.seq (.reg [⟨some 17, .mv (.t 0), none⟩, ⟨some 18, .call 100 [.t 17], none⟩, ⟨some 4, .alloc [.int .i64 0, .int .i64 0, .int .i64 0, .int .i64 0, .int .i64 0], none⟩, ⟨none, .st 5 (.t 4) (.t 18), none⟩]) (.draw [⟨some 19, .mv (.t 3), none⟩, ⟨some 20, .mv (.t 0), none⟩, ⟨some 21, .nilc (.t 20), none⟩, ⟨some 22, .fa 19 (.t 21), none⟩, ⟨some 23, .ld 1 false (.t 22), none⟩, ⟨some 24, .mv (.t 0), none⟩, ⟨some 25, .nilc (.t 24), none⟩, ⟨some 26, .fa 19 (.t 25), none⟩, ⟨some 27, .ld 1 false (.t 26), none⟩, ⟨some 28, .bin .add (.t 27) (.c (.int .i64 1)), none⟩, ⟨some 29, .call 102 [.t 19, .t 23, .t 28], none⟩, ⟨some 30, .mv (.t 0), none⟩, ⟨some 31, .nilc (.t 30), none⟩, ⟨some 32, .fa 0 (.t 31), none⟩, ⟨some 33, .fa 3 (.t 32), none⟩, ⟨some 34, .ld 1 false (.t 33), none⟩, ⟨some 35, .ld 5 true (.t 4), none⟩, ⟨some 36, .bslF 5 [.t 35], none⟩, ⟨some 37, .call 101 [.t 29, .t 34, .t 36], none⟩, ⟨some 3, .mv (.t 37), none⟩] [0, 0, 2, 6, 14, 0, 32, 96, 224, 480, 1023, 0, 2048, 6144, 14336, 30720, 0, 65536, 262143, 524287])) (.seq (.reg [⟨some 39, .mv (.t 0), none⟩, ⟨some 40, .call 103 [.t 39], none⟩, ⟨some 38, .mv (.t 40), none⟩, ⟨some 41, .ext 0 (.t 38), none⟩, ⟨some 42, .ext 1 (.t 38), none⟩, ⟨some 43, .ext 2 (.t 38), none⟩, ⟨some 5, .mv (.t 41), none⟩, ⟨some 6, .mv (.t 42), none⟩, ⟨some 7, .mv (.t 43), none⟩]) (.seq (.seq (.reg [⟨some 44, .mv (.t 7), none⟩, ⟨some 45, .not (.t 44), none⟩]) (.cond (.t 45) (.seq (.reg [⟨some 2, .mv (.c (.bool false)), none⟩]) .ret) .skip)) (.draw [⟨some 46, .mv (.t 3), none⟩, ⟨some 47, .mv (.t 0), none⟩, ⟨some 48, .nilc (.t 47), none⟩, ⟨some 49, .fa 19 (.t 48), none⟩, ⟨some 50, .ld 1 false (.t 49), none⟩, ⟨some 51, .mv (.t 0), none⟩, ⟨some 52, .nilc (.t 51), none⟩, ⟨some 53, .fa 19 (.t 52), none⟩, ⟨some 54, .ld 1 false (.t 53), none⟩, ⟨some 55, .mv (.t 6), none⟩, ⟨some 56, .bin .add (.t 54) (.t 55), none⟩, ⟨some 57, .mv (.t 5), none⟩, ⟨some 58, .call 104 [.t 46, .t 50, .t 56, .t 57], none⟩, ⟨some 3, .mv (.t 58), none⟩] [0, 0, 2, 6, 14, 0, 32, 96, 224, 0, 992, 0, 4095, 8191]))))) (.seq (.draw [⟨some 59, .mv (.t 0), none⟩, ⟨some 60, .nilc (.t 59), none⟩, ⟨some 61, .fa 16 (.t 60), none⟩, ⟨some 62, .fa 1 (.t 61), none⟩, ⟨some 63, .ld 1 false (.t 62), none⟩, ⟨some 64, .mv (.t 0), none⟩, ⟨some 65, .nilc (.t 64), none⟩, ⟨some 66, .fa 18 (.t 65), none⟩, ⟨some 67, .ld 1 false (.t 66), none⟩, ⟨some 68, .mv (.t 3), none⟩, ⟨some 69, .ia 2 (.t 63) (.t 67), none⟩, ⟨some 70, .fa 1 (.t 69), none⟩, ⟨none, .st 1 (.t 70) (.t 68), none⟩] [0, 1, 3, 7, 15, 0, 32, 96, 224, 0, 1023, 2047, 4095]) (.seq (.reg [⟨some 2, .mv (.c (.bool true)), none⟩]) .ret))))
def res : List RItem := [.t 2]
theorem ok : Option.bind Try.f55.body (cCode P Try.f55.ntmps) = some code := by kernel_rfl
theorem rok : cRes P Try.f55.results.toList = some res := by kernel_rfl
theorem intro {args : List AV} {T T2 : Tab} {r : AV} (ha : (Nat.ble args.length nt && Nat.ble T.length 4) = true) (h : Run P nt [.code code] (argEnv 0 args) T (RetQ res T T2 r)) : AC P id args T r T2 :=
  AC.introB Try.func55 ok rfl rok ha h
end typing_made_change
namespace R16_names
/-- instar/instarref16.names -/
abbrev id : FuncId := 56
abbrev nt : Nat := 85
def code : ACode := .seq (.reg [⟨some 2, .box (.t 0), none⟩, ⟨some 3, .box (.t 1), none⟩, ⟨some 4, .mv (.c (.int .i64 0)), none⟩]) (.seq (.reg [⟨some 7, .ld 2 true (.t 2), none⟩, ⟨some 8, .fa 1 (.t 3), none⟩, ⟨some 9, .ld 1 false (.t 8), none⟩, ⟨some 10, .call 21 [.t 7, .t 9], none⟩, ⟨some 5, .mv (.t 10), none⟩]) (.seq (.seq (.reg [⟨some 11, .fa 0 (.t 3), none⟩, ⟨some 12, .ld 1 false (.t 11), none⟩, ⟨some 13, .bin .eql (.t 12) (.c (.int .i64 9)), none⟩]) (.cond (.t 13) (.seq (.seq (.reg [⟨some 14, .mv (.t 5), none⟩, ⟨some 15, .bin .geq (.t 14) (.c (.int .i64 0)), none⟩]) (.cond (.t 15) (.seq (.reg [⟨some 4, .mv (.c (.int .i64 9)), none⟩]) .ret) .skip)) (.seq (.reg [⟨some 4, .mv (.c (.int .i64 0)), none⟩]) .ret)) .skip)) (.seq (.seq (.reg [⟨some 16, .mv (.t 5), none⟩, ⟨some 17, .bin .lss (.t 16) (.c (.int .i64 0)), none⟩]) (.cond (.t 17) (.seq (.reg [⟨some 4, .mv (.c (.int .i64 8)), none⟩]) .ret) .skip)) (.seq (.reg [⟨some 18, .fa 1 (.t 2), none⟩, ⟨some 19, .ld 1 false (.t 18), none⟩, ⟨some 20, .mv (.t 5), none⟩, ⟨some 21, .ia 2 (.t 19) (.t 20), none⟩, ⟨some 22, .ld 2 true (.t 21), none⟩, ⟨some 6, .alloc [.int .i64 0, .slice none 0 0], none⟩, ⟨none, .st 2 (.t 6) (.t 22), none⟩]) (.seq (.seq (.reg [⟨some 23, .fa 0 (.t 3), none⟩, ⟨some 24, .ld 1 false (.t 23), none⟩, ⟨some 25, .call 105 [.t 24], none⟩, ⟨some 26, .mv (.t 25), none⟩, ⟨some 27, .ld 2 true (.t 6), some (26, true)⟩, ⟨some 28, .fa 2 (.t 3), some (26, true)⟩, ⟨some 29, .ld 1 false (.t 28), some (26, true)⟩, ⟨some 30, .call 58 [.t 27, .t 29], some (26, true)⟩, ⟨some 31, .bin .lss (.t 30) (.c (.int .i64 0)), some (26, true)⟩, ⟨some 32, .pick (.t 26) (.t 31) (.c (.bool false)), none⟩]) (.cond (.t 32) (.seq (.reg [⟨some 4, .mv (.c (.int .i64 8)), none⟩]) .ret) .skip)) (.seq (.seq (.reg [⟨some 33, .fa 0 (.t 3), none⟩, ⟨some 34, .ld 1 false (.t 33), none⟩, ⟨some 35, .bin .eql (.t 34) (.c (.int .i64 1)), none⟩, ⟨some 36, .mv (.t 35), none⟩, ⟨some 37, .ld 2 true (.t 6), some (36, true)⟩, ⟨some 38, .fa 7 (.t 3), some (36, true)⟩, ⟨some 39, .fa 0 (.t 38), some (36, true)⟩, ⟨some 40, .ld 1 false (.t 39), some (36, true)⟩, ⟨some 41, .call 58 [.t 37, .t 40], some (36, true)⟩, ⟨some 42, .bin .geq (.t 41) (.c (.int .i64 0)), some (36, true)⟩, ⟨some 43, .pick (.t 36) (.t 42) (.c (.bool false)), none⟩, ⟨some 44, .mv (.t 43), none⟩, ⟨some 45, .fa 0 (.t 3), some (44, false)⟩, ⟨some 46, .ld 1 false (.t 45), some (44, false)⟩, ⟨some 47, .bin .eql (.t 46) (.c (.int .i64 6)), some (44, false)⟩, ⟨some 48, .mv (.t 47), some (44, false)⟩, ⟨some 49, .fa 0 (.t 3), some (48, false)⟩, ⟨some 50, .ld 1 false (.t 49), some (48, false)⟩, ⟨some 51, .bin .eql (.t 50) (.c (.int .i64 8)), some (48, false)⟩, ⟨some 52, .pick (.t 48) (.c (.bool true)) (.t 51), some (44, false)⟩, ⟨some 53, .mv (.t 52), some (44, false)⟩, ⟨some 54, .ld 2 true (.t 6), some (53, true)⟩, ⟨some 55, .fa 4 (.t 3), some (53, true)⟩, ⟨some 56, .ld 1 false (.t 55), some (53, true)⟩, ⟨some 57, .call 58 [.t 54, .t 56], some (53, true)⟩, ⟨some 58, .bin .geq (.t 57) (.c (.int .i64 0)), some (53, true)⟩, ⟨some 59, .pick (.t 53) (.t 58) (.c (.bool false)), some (44, false)⟩, ⟨some 60, .pick (.t 44) (.c (.bool true)) (.t 59), none⟩]) (.cond (.t 60) (.seq (.reg [⟨some 4, .mv (.c (.int .i64 9)), none⟩]) .ret) .skip)) (.seq (.seq (.reg [⟨some 61, .fa 0 (.t 3), none⟩, ⟨some 62, .ld 1 false (.t 61), none⟩, ⟨some 63, .bin .eql (.t 62) (.c (.int .i64 1)), none⟩, ⟨some 64, .mv (.t 63), none⟩, ⟨some 65, .fa 3 (.t 3), some (64, true)⟩, ⟨some 66, .ld 1 false (.t 65), some (64, true)⟩, ⟨some 67, .fa 1 (.t 6), some (64, true)⟩, ⟨some 68, .ld 1 false (.t 67), some (64, true)⟩, ⟨some 69, .len (.t 68), some (64, true)⟩, ⟨some 70, .bin .gtr (.t 66) (.t 69), some (64, true)⟩, ⟨some 71, .pick (.t 64) (.t 70) (.c (.bool false)), none⟩, ⟨some 72, .mv (.t 71), none⟩, ⟨some 73, .fa 0 (.t 3), some (72, false)⟩, ⟨some 74, .ld 1 false (.t 73), some (72, false)⟩, ⟨some 75, .bin .eql (.t 74) (.c (.int .i64 7)), some (72, false)⟩, ⟨some 76, .mv (.t 75), some (72, false)⟩, ⟨some 77, .fa 3 (.t 3), some (76, true)⟩, ⟨some 78, .ld 1 false (.t 77), some (76, true)⟩, ⟨some 79, .fa 1 (.t 6), some (76, true)⟩, ⟨some 80, .ld 1 false (.t 79), some (76, true)⟩, ⟨some 81, .len (.t 80), some (76, true)⟩, ⟨some 82, .bin .geq (.t 78) (.t 81), some (76, true)⟩, ⟨some 83, .pick (.t 76) (.t 82) (.c (.bool false)), some (72, false)⟩, ⟨some 84, .pick (.t 72) (.c (.bool true)) (.t 83), none⟩]) (.cond (.t 84) (.seq (.reg [⟨some 4, .mv (.c (.int .i64 3)), none⟩]) .ret) .skip)) (.seq (.reg [⟨some 4, .mv (.c (.int .i64 0)), none⟩]) .ret))))))))
def res : List RItem := [.t 4]
theorem ok : Option.bind Try.f56.body (cCode P Try.f56.ntmps) = some code := by kernel_rfl
theorem rok : cRes P Try.f56.results.toList = some res := by kernel_rfl
theorem intro {args : List AV} {T T2 : Tab} {r : AV} (ha : (Nat.ble args.length nt && Nat.ble T.length 4) = true) (h : Run P nt [.code code] (argEnv 0 args) T (RetQ res T T2 r)) : AC P id args T r T2 :=
  AC.introB Try.func56 ok rfl rok ha h
end R16_names
namespace R16_put
/-- instar/instarref16.put -/
abbrev id : FuncId := 57
abbrev nt : Nat := 20
def code : ACode := .seq (.reg [⟨some 5, .box (.t 2), none⟩, ⟨some 6, .mv (.c (.slice none 0 0)), none⟩]) (.seq (.reg [⟨some 8, .mv (.t 0), none⟩, ⟨some 9, .mv (.t 1), none⟩, ⟨some 10, .sl 5 (.t 8) none (some (.t 9)) none, none⟩, ⟨some 11, .app 5 40 (.c (.slice none 0 0)) (.t 10), none⟩, ⟨some 7, .mv (.t 11), none⟩]) (.seq (.draw [⟨some 12, .mv (.t 7), none⟩, ⟨some 13, .ld 5 true (.t 5), none⟩, ⟨some 14, .bslF 5 [.t 13], none⟩, ⟨some 15, .app 5 40 (.t 12) (.t 14), none⟩, ⟨some 16, .mv (.t 0), none⟩, ⟨some 17, .mv (.t 1), none⟩, ⟨some 18, .sl 5 (.t 16) (some (.t 17)) none none, none⟩, ⟨some 19, .app 5 40 (.t 15) (.t 18), none⟩, ⟨some 6, .mv (.t 19), none⟩] [0, 0, 2, 7, 0, 0, 48, 127, 255]) .ret))
def res : List RItem := [.t 6]
theorem ok : Option.bind Try.f57.body (cCode P Try.f57.ntmps) = some code := by kernel_rfl
theorem rok : cRes P Try.f57.results.toList = some res := by kernel_rfl
theorem intro {args : List AV} {T T2 : Tab} {r : AV} (ha : (Nat.ble args.length nt && Nat.ble T.length 4) = true) (h : Run P nt [.code code] (argEnv 0 args) T (RetQ res T T2 r)) : AC P id args T r T2 :=
  AC.introB Try.func57 ok rfl rok ha h
end R16_put
namespace R13_At
/-- instar/instarref13.At -/
abbrev id : FuncId := 58
abbrev nt : Nat := 22
def code : ACode := .seq (.reg [⟨some 2, .box (.t 0), none⟩, ⟨some 4, .mv (.c (.int .i64 0)), none⟩]) (.seq (.seq (.reg [⟨some 5, .mv (.c (.int .i64 0)), none⟩]) (.block 0 (.loop (.seq (.seq (.reg [⟨some 6, .mv (.t 5), none⟩, ⟨some 7, .fa 1 (.t 2), none⟩, ⟨some 8, .ld 1 false (.t 7), none⟩, ⟨some 9, .len (.t 8), none⟩, ⟨some 10, .bin .lss (.t 6) (.t 9), none⟩]) (.cond (.t 10) .skip (.exit 0))) (.seq (.block 1 (.seq (.reg [⟨some 13, .fa 1 (.t 2), none⟩, ⟨some 14, .ld 1 false (.t 13), none⟩, ⟨some 15, .mv (.t 5), none⟩, ⟨some 16, .ia 5 (.t 14) (.t 15), none⟩, ⟨some 17, .fa 0 (.t 16), none⟩, ⟨some 18, .ld 1 false (.t 17), none⟩, ⟨some 19, .mv (.t 1), none⟩, ⟨some 20, .bin .eql (.t 18) (.t 19), none⟩]) (.cond (.t 20) (.seq (.reg [⟨some 21, .mv (.t 5), none⟩, ⟨some 4, .mv (.t 21), none⟩]) .ret) .skip))) (.reg [⟨some 11, .mv (.t 5), none⟩, ⟨some 12, .bin .add (.t 11) (.c (.int .i64 1)), none⟩, ⟨some 5, .mv (.t 12), none⟩])))))) (.seq (.reg [⟨some 4, .mv (.c (.int .i64 (-1))), none⟩]) .ret))
def res : List RItem := [.t 4]
theorem ok : Option.bind Try.f58.body (cCode P Try.f58.ntmps) = some code := by kernel_rfl
theorem rok : cRes P Try.f58.results.toList = some res := by kernel_rfl
theorem intro {args : List AV} {T T2 : Tab} {r : AV} (ha : (Nat.ble args.length nt && Nat.ble T.length 4) = true) (h : Run P nt [.code code] (argEnv 0 args) T (RetQ res T T2 r)) : AC P id args T r T2 :=
  AC.introB Try.func58 ok rfl rok ha h
end R13_At
namespace R16_Types
/-- instar/instarref16.Types -/
abbrev id : FuncId := 59
abbrev nt : Nat := 122
def code : ACode := .seq (.reg [⟨some 2, .box (.t 0), none⟩, ⟨some 3, .box (.t 1), none⟩, ⟨some 4, .mv (.c (.slice none 0 0)), none⟩, ⟨some 5, .mv (.c (.bool false)), none⟩]) (.seq (.seq (.reg [⟨some 11, .fa 0 (.t 3), none⟩, ⟨some 12, .ld 1 false (.t 11), none⟩]) (.block 0 (.seq (.reg [⟨some 14, .bin .eql (.t 12) (.c (.int .i64 2)), none⟩, ⟨some 13, .mv (.t 14), none⟩]) (.cond (.t 13) (.seq (.reg [⟨some 15, .ld 5 true (.t 2), none⟩, ⟨some 16, .fa 12 (.t 3), none⟩, ⟨some 17, .ld 2 true (.t 16), none⟩, ⟨some 18, .call 79 [.t 15, .t 17], none⟩, ⟨some 4, .mv (.c (.slice none 0 0)), none⟩, ⟨some 5, .mv (.t 18), none⟩]) .ret) (.seq (.reg [⟨some 20, .bin .eql (.t 12) (.c (.int .i64 3)), none⟩, ⟨some 19, .mv (.t 20), none⟩]) (.cond (.t 19) (.seq (.draw [⟨some 21, .fa 7 (.t 3), none⟩, ⟨some 22, .ld 5 true (.t 21), none⟩, ⟨some 23, .bslF 5 [.t 22], none⟩, ⟨some 24, .ld 5 true (.t 2), none⟩, ⟨some 25, .fa 7 (.t 3), none⟩, ⟨some 26, .ld 5 true (.t 25), none⟩, ⟨some 27, .call 106 [.t 24, .t 26], none⟩, ⟨some 4, .mv (.t 23), none⟩, ⟨some 5, .mv (.t 27), none⟩] [0, 1, 3, 0, 0, 16, 56, 127, 255]) .ret) (.seq (.reg [⟨some 29, .bin .eql (.t 12) (.c (.int .i64 4)), none⟩, ⟨some 28, .mv (.t 29), none⟩]) (.cond (.t 28) (.seq (.draw [⟨some 30, .fa 5 (.t 3), none⟩, ⟨some 31, .ld 1 false (.t 30), none⟩, ⟨some 32, .fa 2 (.t 2), none⟩, ⟨some 33, .ld 1 false (.t 32), none⟩, ⟨some 34, .bin .mul (.t 31) (.t 33), none⟩, ⟨some 35, .fa 6 (.t 3), none⟩, ⟨some 36, .ld 1 false (.t 35), none⟩, ⟨some 37, .bin .add (.t 34) (.t 36), none⟩, ⟨some 38, .fa 5 (.t 3), none⟩, ⟨some 39, .ld 1 false (.t 38), none⟩, ⟨some 40, .fa 3 (.t 2), none⟩, ⟨some 41, .ld 1 false (.t 40), none⟩, ⟨some 42, .bin .mul (.t 39) (.t 41), none⟩, ⟨some 43, .fa 6 (.t 3), none⟩, ⟨some 44, .ld 1 false (.t 43), none⟩, ⟨some 45, .bin .add (.t 42) (.t 44), none⟩, ⟨some 6, .mv (.t 37), none⟩, ⟨some 7, .mv (.t 45), none⟩] [0, 1, 0, 4, 15, 0, 32, 127, 0, 256, 0, 1024, 3840, 0, 8192, 32512, 255, 131071]) (.seq (.reg [⟨some 46, .fa 0 (.t 2), none⟩, ⟨some 47, .ld 1 false (.t 46), none⟩, ⟨some 48, .mv (.t 6), none⟩, ⟨some 49, .mv (.t 7), none⟩, ⟨some 50, .mnmx false (.t 48) (.t 49), none⟩, ⟨some 51, .mv (.t 6), none⟩, ⟨some 52, .mv (.t 7), none⟩, ⟨some 53, .mnmx true (.t 51) (.t 52), none⟩, ⟨some 54, .bld [.int .i64 0, .int .i64 0, .int .i64 0, .int .i64 0, .int .i64 0] [(0, 1, .t 47), (1, 1, .c (.int .i64 1)), (2, 1, .t 50), (3, 1, .t 53)], none⟩, ⟨some 8, .alloc [.int .i64 0, .int .i64 0, .int .i64 0, .int .i64 0, .int .i64 0], none⟩, ⟨none, .st 5 (.t 8) (.t 54), none⟩]) (.seq (.draw [⟨some 55, .ld 5 true (.t 8), none⟩, ⟨some 56, .bslF 5 [.t 55], none⟩, ⟨some 57, .fa 1 (.t 2), none⟩, ⟨some 58, .ld 1 false (.t 57), none⟩, ⟨some 59, .bin .eql (.t 58) (.c (.int .i64 1)), none⟩, ⟨some 60, .mv (.t 59), none⟩, ⟨some 61, .ld 5 true (.t 8), some (60, true)⟩, ⟨some 62, .call 78 [.t 61], some (60, true)⟩, ⟨some 63, .pick (.t 60) (.t 62) (.c (.bool false)), none⟩, ⟨some 4, .mv (.t 56), none⟩, ⟨some 5, .mv (.t 63), none⟩] [0, 1, 0, 4, 12, 28, 60, 124, 252, 255, 1023]) .ret))) (.seq (.reg [⟨some 65, .bin .eql (.t 12) (.c (.int .i64 5)), none⟩, ⟨some 64, .mv (.t 65), none⟩]) (.cond (.t 64) (.seq (.draw [⟨some 66, .fa 0 (.t 2), none⟩, ⟨some 67, .ld 1 false (.t 66), none⟩, ⟨some 68, .fa 5 (.t 3), none⟩, ⟨some 69, .ld 1 false (.t 68), none⟩, ⟨some 70, .bld [.int .i64 0, .int .i64 0, .int .i64 0, .int .i64 0, .int .i64 0] [(0, 1, .t 67), (1, 1, .c (.int .i64 3)), (4, 1, .t 69)], none⟩, ⟨some 71, .bslF 5 [.t 70], none⟩, ⟨some 72, .fa 1 (.t 2), none⟩, ⟨some 73, .ld 1 false (.t 72), none⟩, ⟨some 74, .bin .eql (.t 73) (.c (.int .i64 3)), none⟩, ⟨some 75, .mv (.t 74), none⟩, ⟨some 76, .fa 4 (.t 2), some (75, true)⟩, ⟨some 77, .ld 1 false (.t 76), some (75, true)⟩, ⟨some 78, .fa 14 (.t 3), some (75, true)⟩, ⟨some 79, .ld 1 false (.t 78), some (75, true)⟩, ⟨some 80, .len (.t 79), some (75, true)⟩, ⟨some 81, .bin .eql (.t 77) (.t 80), some (75, true)⟩, ⟨some 82, .pick (.t 75) (.t 81) (.c (.bool false)), none⟩, ⟨some 4, .mv (.t 71), none⟩, ⟨some 5, .mv (.t 82), none⟩] [0, 1, 0, 4, 15, 31, 0, 64, 192, 448, 960, 1984, 960, 5056, 13248, 32704, 65472, 1023, 262143]) .ret) (.seq (.reg [⟨some 84, .bin .eql (.t 12) (.c (.int .i64 6)), none⟩, ⟨some 83, .mv (.t 84), none⟩]) (.cond (.t 83) (.seq (.draw [⟨some 85, .fa 0 (.t 2), none⟩, ⟨some 86, .ld 1 false (.t 85), none⟩, ⟨some 87, .fa 3 (.t 2), none⟩, ⟨some 88, .ld 1 false (.t 87), none⟩, ⟨some 89, .fa 5 (.t 3), none⟩, ⟨some 90, .ld 1 false (.t 89), none⟩, ⟨some 91, .bin .quo (.t 88) (.t 90), none⟩, ⟨some 92, .bld [.int .i64 0, .int .i64 0, .int .i64 0, .int .i64 0, .int .i64 0] [(0, 1, .t 86), (1, 1, .c (.int .i64 1)), (3, 1, .t 91)], none⟩, ⟨some 9, .alloc [.int .i64 0, .int .i64 0, .int .i64 0, .int .i64 0, .int .i64 0], none⟩, ⟨none, .st 5 (.t 9) (.t 92), none⟩] [0, 1, 0, 4, 0, 16, 60, 127, 0, 511]) (.seq (.reg [⟨some 93, .fa 4 (.t 3), none⟩, ⟨some 94, .ld 1 false (.t 93), none⟩, ⟨some 95, .fa 3 (.t 2), none⟩, ⟨some 96, .ld 1 false (.t 95), none⟩, ⟨some 97, .fa 5 (.t 3), none⟩, ⟨some 98, .ld 1 false (.t 97), none⟩, ⟨some 99, .bin .sub (.t 98) (.c (.int .i64 1)), none⟩, ⟨some 100, .mnmx false (.t 96) (.t 99), none⟩, ⟨some 101, .bld [.int .i64 0, .int .i64 0, .int .i64 0, .int .i64 0, .int .i64 0] [(0, 1, .t 94), (1, 1, .c (.int .i64 1)), (3, 1, .t 100)], none⟩, ⟨some 10, .alloc [.int .i64 0, .int .i64 0, .int .i64 0, .int .i64 0, .int .i64 0], none⟩, ⟨none, .st 5 (.t 10) (.t 101), none⟩]) (.seq (.draw [⟨some 102, .ld 5 true (.t 9), none⟩, ⟨some 103, .ld 5 true (.t 10), none⟩, ⟨some 104, .bslF 5 [.t 102, .t 103], none⟩, ⟨some 105, .fa 1 (.t 2), none⟩, ⟨some 106, .ld 1 false (.t 105), none⟩, ⟨some 107, .bin .eql (.t 106) (.c (.int .i64 1)), none⟩, ⟨some 108, .mv (.t 107), none⟩, ⟨some 109, .fa 2 (.t 2), some (108, true)⟩, ⟨some 110, .ld 1 false (.t 109), some (108, true)⟩, ⟨some 111, .bin .eql (.t 110) (.c (.int .i64 0)), some (108, true)⟩, ⟨some 112, .pick (.t 108) (.t 111) (.c (.bool false)), none⟩, ⟨some 4, .mv (.t 104), none⟩, ⟨some 5, .mv (.t 112), none⟩] [0, 0, 3, 0, 8, 24, 56, 120, 248, 504, 1016, 127, 4095]) .ret))) (.seq (.reg [⟨some 114, .bin .eql (.t 12) (.c (.int .i64 8)), none⟩, ⟨some 113, .mv (.t 114), none⟩]) (.cond (.t 113) (.seq (.reg [⟨some 115, .fa 4 (.t 3), none⟩, ⟨some 116, .ld 1 false (.t 115), none⟩, ⟨some 117, .fa 0 (.t 2), none⟩, ⟨none, .st 1 (.t 117) (.t 116), none⟩]) (.seq (.reg [⟨some 118, .ld 5 true (.t 2), none⟩, ⟨some 119, .bslF 5 [.t 118], none⟩, ⟨some 4, .mv (.t 119), none⟩, ⟨some 5, .mv (.c (.bool true)), none⟩]) .ret)) .skip)))))))))))))) (.seq (.reg [⟨some 120, .ld 5 true (.t 2), none⟩, ⟨some 121, .bslF 5 [.t 120], none⟩, ⟨some 4, .mv (.t 121), none⟩, ⟨some 5, .mv (.c (.bool true)), none⟩]) .ret))
def res : List RItem := [.t 4, .t 5]
theorem ok : Option.bind Try.f59.body (cCode P Try.f59.ntmps) = some code := by kernel_rfl
theorem rok : cRes P Try.f59.results.toList = some res := by kernel_rfl
theorem intro {args : List AV} {T T2 : Tab} {r : AV} (ha : (Nat.ble args.length nt && Nat.ble T.length 4) = true) (h : Run P nt [.code code] (argEnv 0 args) T (RetQ res T T2 r)) : AC P id args T r T2 :=
  AC.introB Try.func59 ok rfl rok ha h
end R16_Types
namespace R16_cut
/-- instar/instarref16.cut -/
abbrev id : FuncId := 60
abbrev nt : Nat := 14
def code : ACode := .seq (.reg [⟨some 4, .mv (.c (.slice none 0 0)), none⟩]) (.seq (.draw [⟨some 5, .mv (.t 0), none⟩, ⟨some 6, .mv (.t 1), none⟩, ⟨some 7, .sl 5 (.t 5) none (some (.t 6)) none, none⟩, ⟨some 8, .app 5 40 (.c (.slice none 0 0)) (.t 7), none⟩, ⟨some 9, .mv (.t 0), none⟩, ⟨some 10, .mv (.t 1), none⟩, ⟨some 11, .bin .add (.t 10) (.c (.int .i64 1)), none⟩, ⟨some 12, .sl 5 (.t 9) (some (.t 11)) none none, none⟩, ⟨some 13, .app 5 40 (.t 8) (.t 12), none⟩, ⟨some 4, .mv (.t 13), none⟩] [0, 0, 3, 7, 0, 0, 32, 112, 255, 511]) .ret)
def res : List RItem := [.t 4]
theorem ok : Option.bind Try.f60.body (cCode P Try.f60.ntmps) = some code := by kernel_rfl
theorem rok : cRes P Try.f60.results.toList = some res := by kernel_rfl
theorem intro {args : List AV} {T T2 : Tab} {r : AV} (ha : (Nat.ble args.length nt && Nat.ble T.length 4) = true) (h : Run P nt [.code code] (argEnv 0 args) T (RetQ res T T2 r)) : AC P id args T r T2 :=
  AC.introB Try.func60 ok rfl rok ha h
end R16_cut
namespace R16_forms
/-- instar/instarref16.forms -/
abbrev id : FuncId := 61
abbrev nt : Nat := 69
def code : ACode := .seq (.reg [⟨some 2, .box (.t 0), none⟩, ⟨some 3, .box (.t 1), none⟩, ⟨some 4, .alloc [.int .i64 0, .slice none 0 0], none⟩]) (.seq (.reg [⟨some 8, .fa 0 (.t 2), none⟩, ⟨some 9, .ld 1 false (.t 8), none⟩, ⟨some 10, .bld [.int .i64 0, .slice none 0 0] [(0, 1, .t 9)], none⟩, ⟨some 5, .alloc [.int .i64 0, .slice none 0 0], none⟩, ⟨none, .st 2 (.t 5) (.t 10), none⟩]) (.seq (.reg [⟨some 11, .fa 1 (.t 3), none⟩, ⟨some 12, .ld 1 false (.t 11), none⟩, ⟨some 13, .len (.t 12), none⟩, ⟨some 14, .bin .eql (.t 13) (.c (.int .i64 0)), none⟩, ⟨some 6, .mv (.t 14), none⟩]) (.seq (.seq (.reg [⟨some 7, .mv (.c (.int .i64 0)), none⟩]) (.block 0 (.loop (.seq (.seq (.reg [⟨some 15, .mv (.t 7), none⟩, ⟨some 16, .fa 1 (.t 2), none⟩, ⟨some 17, .ld 1 false (.t 16), none⟩, ⟨some 18, .len (.t 17), none⟩, ⟨some 19, .bin .lss (.t 15) (.t 18), none⟩]) (.cond (.t 19) .skip (.exit 0))) (.seq (.block 1 (.seq (.seq (.draw [⟨some 22, .mv (.t 6), none⟩, ⟨some 23, .not (.t 22), none⟩, ⟨some 24, .mv (.t 23), none⟩, ⟨some 25, .fa 1 (.t 2), some (24, true)⟩, ⟨some 26, .ld 1 false (.t 25), some (24, true)⟩, ⟨some 27, .mv (.t 7), some (24, true)⟩, ⟨some 28, .ia 2 (.t 26) (.t 27), some (24, true)⟩, ⟨some 29, .fa 0 (.t 28), some (24, true)⟩, ⟨some 30, .ld 1 false (.t 29), some (24, true)⟩, ⟨some 31, .fa 0 (.t 3), some (24, true)⟩, ⟨some 32, .ld 1 false (.t 31), some (24, true)⟩, ⟨some 33, .bin .geq (.t 30) (.t 32), some (24, true)⟩, ⟨some 34, .pick (.t 24) (.t 33) (.c (.bool false)), none⟩] [0, 1, 3, 7, 15, 7, 63, 127, 255, 7, 519, 2047, 4095]) (.cond (.t 34) (.seq (.reg [⟨some 35, .fa 1 (.t 5), none⟩, ⟨some 36, .ld 1 false (.t 35), none⟩, ⟨some 37, .ld 2 true (.t 3), none⟩, ⟨some 38, .bslF 2 [.t 37], none⟩, ⟨some 39, .app 2 32 (.t 36) (.t 38), none⟩, ⟨some 40, .fa 1 (.t 5), none⟩, ⟨none, .st 1 (.t 40) (.t 39), none⟩]) (.reg [⟨some 6, .mv (.c (.bool true)), none⟩])) .skip)) (.seq (.draw [⟨some 41, .fa 1 (.t 2), none⟩, ⟨some 42, .ld 1 false (.t 41), none⟩, ⟨some 43, .mv (.t 7), none⟩, ⟨some 44, .ia 2 (.t 42) (.t 43), none⟩, ⟨some 45, .fa 0 (.t 44), none⟩, ⟨some 46, .ld 1 false (.t 45), none⟩, ⟨some 47, .fa 0 (.t 3), none⟩, ⟨some 48, .ld 1 false (.t 47), none⟩, ⟨some 49, .bin .neq (.t 46) (.t 48), none⟩] [0, 1, 0, 7, 15, 31, 0, 64, 255]) (.cond (.t 49) (.draw [⟨some 50, .fa 1 (.t 5), none⟩, ⟨some 51, .ld 1 false (.t 50), none⟩, ⟨some 52, .fa 1 (.t 2), none⟩, ⟨some 53, .ld 1 false (.t 52), none⟩, ⟨some 54, .mv (.t 7), none⟩, ⟨some 55, .ia 2 (.t 53) (.t 54), none⟩, ⟨some 56, .ld 2 true (.t 55), none⟩, ⟨some 57, .bslF 2 [.t 56], none⟩, ⟨some 58, .app 2 32 (.t 51) (.t 57), none⟩, ⟨some 59, .fa 1 (.t 5), none⟩, ⟨none, .st 1 (.t 59) (.t 58), none⟩] [0, 1, 0, 4, 0, 28, 60, 124, 255, 511, 1023]) .skip)))) (.reg [⟨some 20, .mv (.t 7), none⟩, ⟨some 21, .bin .add (.t 20) (.c (.int .i64 1)), none⟩, ⟨some 7, .mv (.t 21), none⟩])))))) (.seq (.seq (.reg [⟨some 60, .mv (.t 6), none⟩, ⟨some 61, .not (.t 60), none⟩]) (.cond (.t 61) (.reg [⟨some 62, .fa 1 (.t 5), none⟩, ⟨some 63, .ld 1 false (.t 62), none⟩, ⟨some 64, .ld 2 true (.t 3), none⟩, ⟨some 65, .bslF 2 [.t 64], none⟩, ⟨some 66, .app 2 32 (.t 63) (.t 65), none⟩, ⟨some 67, .fa 1 (.t 5), none⟩, ⟨none, .st 1 (.t 67) (.t 66), none⟩]) .skip)) (.seq (.reg [⟨some 68, .ld 2 true (.t 5), none⟩, ⟨none, .st 2 (.t 4) (.t 68), none⟩]) .ret)))))
def res : List RItem := [.cell 4 2 true]
theorem ok : Option.bind Try.f61.body (cCode P Try.f61.ntmps) = some code := by kernel_rfl
theorem rok : cRes P Try.f61.results.toList = some res := by kernel_rfl
theorem intro {args : List AV} {T T2 : Tab} {r : AV} (ha : (Nat.ble args.length nt && Nat.ble T.length 4) = true) (h : Run P nt [.code code] (argEnv 0 args) T (RetQ res T T2 r)) : AC P id args T r T2 :=
  AC.introB Try.func61 ok rfl rok ha h
end R16_forms
namespace pen_New
/-- instar/pen.New -/
abbrev id : FuncId := 62
abbrev nt : Nat := 3
def code : ACode := .seq (.reg [⟨some 0, .mv (.c (.pointer none)), none⟩]) (.seq (.reg [⟨some 1, .bld [.slice none 0 0, .int .i64 0] [], none⟩, ⟨some 2, .box (.t 1), none⟩, ⟨some 0, .mv (.t 2), none⟩]) .ret)
def res : List RItem := [.t 0]
theorem ok : Option.bind Try.f62.body (cCode P Try.f62.ntmps) = some code := by kernel_rfl
theorem rok : cRes P Try.f62.results.toList = some res := by kernel_rfl
theorem intro {args : List AV} {T T2 : Tab} {r : AV} (ha : (Nat.ble args.length nt && Nat.ble T.length 4) = true) (h : Run P nt [.code code] (argEnv 0 args) T (RetQ res T T2 r)) : AC P id args T r T2 :=
  AC.introB Try.func62 ok rfl rok ha h
end pen_New
namespace pen_Pen_Count
/-- (*instar/pen.Pen).Count -/
abbrev id : FuncId := 63
abbrev nt : Nat := 15
def code : ACode := .seq (.seq (.reg [⟨some 4, .mv (.t 1), none⟩, ⟨some 5, .bin .lss (.t 4) (.c (.int .i64 0)), none⟩]) (.cond (.t 5) (.seq (.seq (.reg [⟨some 6, .mv (.t 0), none⟩, ⟨some 7, .eqNilP true (.t 6), none⟩]) (.cond (.t 7) (.reg [⟨some 8, .mv (.t 0), none⟩, ⟨some 9, .nilc (.t 8), none⟩, ⟨some 10, .fa 1 (.t 9), none⟩, ⟨none, .st 1 (.t 10) (.c (.int .i64 2)), none⟩]) .skip)) .ret) .skip)) (.reg [⟨some 11, .mv (.t 0), none⟩, ⟨some 12, .mv (.t 1), none⟩, ⟨some 13, .cvI .u64 (.t 12), none⟩, ⟨some 14, .call 107 [.t 11, .t 13], none⟩])
def res : List RItem := []
theorem ok : Option.bind Try.f63.body (cCode P Try.f63.ntmps) = some code := by kernel_rfl
theorem rok : cRes P Try.f63.results.toList = some res := by kernel_rfl
theorem intro {args : List AV} {T T2 : Tab} {r : AV} (ha : (Nat.ble args.length nt && Nat.ble T.length 4) = true) (h : Run P nt [.code code] (argEnv 0 args) T (RetQ res T T2 r)) : AC P id args T r T2 :=
  AC.introB Try.func63 ok rfl rok ha h
end pen_Pen_Count
namespace schema_write
/-- instar/schema.write -/
abbrev id : FuncId := 64
abbrev nt : Nat := 31
def code : ACode := .seq (.reg [⟨some 3, .box (.t 1), none⟩]) (.seq (.reg [⟨some 4, .mv (.t 0), none⟩, ⟨some 5, .fa 0 (.t 3), none⟩, ⟨some 6, .ld 1 false (.t 5), none⟩, ⟨some 7, .call 63 [.t 4, .t 6], none⟩]) (.seq (.reg [⟨some 8, .mv (.t 0), none⟩, ⟨some 9, .fa 1 (.t 3), none⟩, ⟨some 10, .ld 1 false (.t 9), none⟩, ⟨some 11, .call 63 [.t 8, .t 10], none⟩]) (.seq (.reg [⟨some 12, .fa 1 (.t 3), none⟩, ⟨some 13, .ld 1 false (.t 12), none⟩]) (.block 0 (.seq (.reg [⟨some 15, .bin .eql (.t 13) (.c (.int .i64 1)), none⟩, ⟨some 14, .mv (.t 15), none⟩]) (.cond (.t 14) (.seq (.reg [⟨some 16, .mv (.t 0), none⟩, ⟨some 17, .fa 2 (.t 3), none⟩, ⟨some 18, .ld 1 false (.t 17), none⟩, ⟨some 19, .call 108 [.t 16, .t 18], none⟩]) (.reg [⟨some 20, .mv (.t 0), none⟩, ⟨some 21, .fa 3 (.t 3), none⟩, ⟨some 22, .ld 1 false (.t 21), none⟩, ⟨some 23, .call 108 [.t 20, .t 22], none⟩])) (.seq (.seq (.reg [⟨some 25, .bin .eql (.t 13) (.c (.int .i64 3)), none⟩, ⟨some 24, .mv (.t 25), none⟩]) (.cond (.t 24) .skip (.reg [⟨some 26, .bin .eql (.t 13) (.c (.int .i64 4)), none⟩, ⟨some 24, .mv (.t 26), none⟩]))) (.cond (.t 24) (.reg [⟨some 27, .mv (.t 0), none⟩, ⟨some 28, .fa 4 (.t 3), none⟩, ⟨some 29, .ld 1 false (.t 28), none⟩, ⟨some 30, .call 63 [.t 27, .t 29], none⟩]) .skip))))))))
def res : List RItem := []
theorem ok : Option.bind Try.f64.body (cCode P Try.f64.ntmps) = some code := by kernel_rfl
theorem rok : cRes P Try.f64.results.toList = some res := by kernel_rfl
theorem intro {args : List AV} {T T2 : Tab} {r : AV} (ha : (Nat.ble args.length nt && Nat.ble T.length 4) = true) (h : Run P nt [.code code] (argEnv 0 args) T (RetQ res T T2 r)) : AC P id args T r T2 :=
  AC.introB Try.func64 ok rfl rok ha h
end schema_write
namespace pen_Pen_Done
/-- (*instar/pen.Pen).Done -/
abbrev id : FuncId := 65
abbrev nt : Nat := 20
def code : ACode := .seq (.reg [⟨some 2, .mv (.c (.slice none 0 0)), none⟩, ⟨some 3, .mv (.c (.int .i64 0)), none⟩]) (.seq (.seq (.reg [⟨some 4, .mv (.t 0), none⟩, ⟨some 5, .eqNilP false (.t 4), none⟩]) (.cond (.t 5) (.seq (.reg [⟨some 2, .mv (.c (.slice none 0 0)), none⟩, ⟨some 3, .mv (.c (.int .i64 1)), none⟩]) .ret) .skip)) (.seq (.seq (.reg [⟨some 6, .mv (.t 0), none⟩, ⟨some 7, .nilc (.t 6), none⟩, ⟨some 8, .fa 1 (.t 7), none⟩, ⟨some 9, .ld 1 false (.t 8), none⟩, ⟨some 10, .bin .neq (.t 9) (.c (.int .i64 0)), none⟩]) (.cond (.t 10) (.seq (.draw [⟨some 11, .mv (.t 0), none⟩, ⟨some 12, .nilc (.t 11), none⟩, ⟨some 13, .fa 1 (.t 12), none⟩, ⟨some 14, .ld 1 false (.t 13), none⟩, ⟨some 2, .mv (.c (.slice none 0 0)), none⟩, ⟨some 3, .mv (.t 14), none⟩] [0, 1, 3, 7, 0, 31]) .ret) .skip)) (.seq (.reg [⟨some 15, .mv (.t 0), none⟩, ⟨some 16, .nilc (.t 15), none⟩, ⟨some 17, .fa 0 (.t 16), none⟩, ⟨some 18, .ld 1 false (.t 17), none⟩, ⟨some 19, .call 109 [.t 18], none⟩, ⟨some 2, .mv (.t 19), none⟩, ⟨some 3, .mv (.c (.int .i64 0)), none⟩]) .ret)))
def res : List RItem := [.t 2, .t 3]
theorem ok : Option.bind Try.f65.body (cCode P Try.f65.ntmps) = some code := by kernel_rfl
theorem rok : cRes P Try.f65.results.toList = some res := by kernel_rfl
theorem intro {args : List AV} {T T2 : Tab} {r : AV} (ha : (Nat.ble args.length nt && Nat.ble T.length 4) = true) (h : Run P nt [.code code] (argEnv 0 args) T (RetQ res T T2 r)) : AC P id args T r T2 :=
  AC.introB Try.func65 ok rfl rok ha h
end pen_Pen_Done
namespace R13_Fine
/-- instar/instarref13.Fine -/
abbrev id : FuncId := 66
abbrev nt : Nat := 53
def code : ACode := .seq (.reg [⟨some 1, .box (.t 0), none⟩, ⟨some 2, .mv (.c (.bool false)), none⟩]) (.seq (.seq (.reg [⟨some 4, .fa 0 (.t 1), none⟩, ⟨some 5, .ld 1 false (.t 4), none⟩, ⟨some 6, .bin .lss (.t 5) (.c (.int .i64 0)), none⟩, ⟨some 7, .mv (.t 6), none⟩, ⟨some 8, .fa 0 (.t 1), some (7, false)⟩, ⟨some 9, .ld 1 false (.t 8), some (7, false)⟩, ⟨some 10, .bin .gtr (.t 9) (.c (.int .i64 200)), some (7, false)⟩, ⟨some 11, .pick (.t 7) (.c (.bool true)) (.t 10), none⟩, ⟨some 12, .mv (.t 11), none⟩, ⟨some 13, .fa 1 (.t 1), some (12, false)⟩, ⟨some 14, .ld 1 false (.t 13), some (12, false)⟩, ⟨some 15, .len (.t 14), some (12, false)⟩, ⟨some 16, .bin .lss (.t 15) (.c (.int .i64 1)), some (12, false)⟩, ⟨some 17, .pick (.t 12) (.c (.bool true)) (.t 16), none⟩, ⟨some 18, .mv (.t 17), none⟩, ⟨some 19, .fa 1 (.t 1), some (18, false)⟩, ⟨some 20, .ld 1 false (.t 19), some (18, false)⟩, ⟨some 21, .len (.t 20), some (18, false)⟩, ⟨some 22, .bin .gtr (.t 21) (.c (.int .i64 8)), some (18, false)⟩, ⟨some 23, .pick (.t 18) (.c (.bool true)) (.t 22), none⟩]) (.cond (.t 23) (.seq (.reg [⟨some 2, .mv (.c (.bool false)), none⟩]) .ret) .skip)) (.seq (.seq (.reg [⟨some 3, .mv (.c (.int .i64 0)), none⟩]) (.block 0 (.loop (.seq (.seq (.reg [⟨some 24, .mv (.t 3), none⟩, ⟨some 25, .fa 1 (.t 1), none⟩, ⟨some 26, .ld 1 false (.t 25), none⟩, ⟨some 27, .len (.t 26), none⟩, ⟨some 28, .bin .lss (.t 24) (.t 27), none⟩]) (.cond (.t 28) .skip (.exit 0))) (.seq (.block 1 (.seq (.draw [⟨some 31, .fa 1 (.t 1), none⟩, ⟨some 32, .ld 1 false (.t 31), none⟩, ⟨some 33, .mv (.t 3), none⟩, ⟨some 34, .ia 5 (.t 32) (.t 33), none⟩, ⟨some 35, .ld 5 true (.t 34), none⟩, ⟨some 36, .call 78 [.t 35], none⟩, ⟨some 37, .not (.t 36), none⟩, ⟨some 38, .mv (.t 37), none⟩, ⟨some 39, .ld 2 true (.t 1), some (38, false)⟩, ⟨some 40, .fa 1 (.t 1), some (38, false)⟩, ⟨some 41, .ld 1 false (.t 40), some (38, false)⟩, ⟨some 42, .mv (.t 3), some (38, false)⟩, ⟨some 43, .ia 5 (.t 41) (.t 42), some (38, false)⟩, ⟨some 44, .fa 0 (.t 43), some (38, false)⟩, ⟨some 45, .ld 1 false (.t 44), some (38, false)⟩, ⟨some 46, .call 58 [.t 39, .t 45], some (38, false)⟩, ⟨some 47, .mv (.t 3), some (38, false)⟩, ⟨some 48, .bin .neq (.t 46) (.t 47), some (38, false)⟩, ⟨some 49, .pick (.t 38) (.c (.bool true)) (.t 48), none⟩] [0, 1, 0, 7, 15, 31, 63, 127, 255, 255, 767, 255, 3839, 7935, 16127, 32767, 255, 131071, 262143]) (.cond (.t 49) (.seq (.reg [⟨some 2, .mv (.c (.bool false)), none⟩]) .ret) .skip))) (.reg [⟨some 29, .mv (.t 3), none⟩, ⟨some 30, .bin .add (.t 29) (.c (.int .i64 1)), none⟩, ⟨some 3, .mv (.t 30), none⟩])))))) (.seq (.reg [⟨some 50, .ld 2 true (.t 1), none⟩, ⟨some 51, .call 110 [.t 50], none⟩, ⟨some 52, .bin .leq (.t 51) (.c (.int .i64 64)), none⟩, ⟨some 2, .mv (.t 52), none⟩]) .ret)))
def res : List RItem := [.t 2]
theorem ok : Option.bind Try.f66.body (cCode P Try.f66.ntmps) = some code := by kernel_rfl
theorem rok : cRes P Try.f66.results.toList = some res := by kernel_rfl
theorem intro {args : List AV} {T T2 : Tab} {r : AV} (ha : (Nat.ble args.length nt && Nat.ble T.length 4) = true) (h : Run P nt [.code code] (argEnv 0 args) T (RetQ res T T2 r)) : AC P id args T r T2 :=
  AC.introB Try.func66 ok rfl rok ha h
end R13_Fine
namespace pair_own
/-- instar/pair.own -/
abbrev id : FuncId := 67
abbrev nt : Nat := 29
def code : ACode := .seq (.reg [⟨some 2, .box (.t 0), none⟩, ⟨some 3, .box (.t 1), none⟩, ⟨some 4, .alloc [.int .i64 0, .int .i64 0, .int .i64 0, .int .i64 0, .int .i64 0], none⟩, ⟨some 5, .mv (.c (.int .i64 0)), none⟩]) (.seq (.reg [⟨some 10, .ld 2 true (.t 2), none⟩, ⟨some 11, .fa 1 (.t 3), none⟩, ⟨some 12, .ld 1 false (.t 11), none⟩, ⟨some 13, .call 69 [.t 10, .t 12], none⟩, ⟨some 9, .mv (.t 13), none⟩, ⟨some 14, .ext 0 (.t 9), none⟩, ⟨some 15, .ext 1 (.t 9), none⟩, ⟨some 6, .alloc [.int .i64 0, .slice none 0 0], none⟩, ⟨none, .st 2 (.t 6) (.t 14), none⟩, ⟨some 7, .mv (.t 15), none⟩]) (.seq (.seq (.reg [⟨some 16, .ld 2 true (.t 6), none⟩, ⟨some 17, .fa 2 (.t 3), none⟩, ⟨some 18, .ld 1 false (.t 17), none⟩, ⟨some 19, .call 96 [.t 16, .t 18], none⟩, ⟨some 8, .mv (.t 19), none⟩]) (.seq (.reg [⟨some 20, .mv (.t 8), none⟩, ⟨some 21, .bin .geq (.t 20) (.c (.int .i64 0)), none⟩]) (.cond (.t 21) (.seq (.reg [⟨some 22, .fa 1 (.t 6), none⟩, ⟨some 23, .ld 1 false (.t 22), none⟩, ⟨some 24, .mv (.t 8), none⟩, ⟨some 25, .ia 5 (.t 23) (.t 24), none⟩, ⟨some 26, .ld 5 true (.t 25), none⟩, ⟨some 27, .mv (.t 8), none⟩, ⟨none, .st 5 (.t 4) (.t 26), none⟩, ⟨some 5, .mv (.t 27), none⟩]) .ret) .skip))) (.seq (.reg [⟨some 28, .bld [.int .i64 0, .int .i64 0, .int .i64 0, .int .i64 0, .int .i64 0] [], none⟩, ⟨none, .st 5 (.t 4) (.t 28), none⟩, ⟨some 5, .mv (.c (.int .i64 0)), none⟩]) .ret)))
def res : List RItem := [.cell 4 5 true, .t 5]
theorem ok : Option.bind Try.f67.body (cCode P Try.f67.ntmps) = some code := by kernel_rfl
theorem rok : cRes P Try.f67.results.toList = some res := by kernel_rfl
theorem intro {args : List AV} {T T2 : Tab} {r : AV} (ha : (Nat.ble args.length nt && Nat.ble T.length 4) = true) (h : Run P nt [.code code] (argEnv 0 args) T (RetQ res T T2 r)) : AC P id args T r T2 :=
  AC.introB Try.func67 ok rfl rok ha h
end pair_own
namespace slices_Clone_int_int
/-- slices.Clone[[]int,int] -/
abbrev id : FuncId := 68
abbrev nt : Nat := 8
def code : ACode := .seq (.reg [⟨some 2, .mv (.c (.slice none 0 0)), none⟩]) (.seq (.seq (.reg [⟨some 3, .mv (.t 0), none⟩, ⟨some 4, .eqNil false (.t 3), none⟩]) (.cond (.t 4) (.seq (.reg [⟨some 2, .mv (.c (.slice none 0 0)), none⟩]) .ret) .skip)) (.seq (.reg [⟨some 5, .bsl 1 [], none⟩, ⟨some 6, .mv (.t 0), none⟩, ⟨some 7, .app 1 8 (.t 5) (.t 6), none⟩, ⟨some 2, .mv (.t 7), none⟩]) .ret))
def res : List RItem := [.t 2]
theorem ok : Option.bind Try.f68.body (cCode P Try.f68.ntmps) = some code := by kernel_rfl
theorem rok : cRes P Try.f68.results.toList = some res := by kernel_rfl
theorem intro {args : List AV} {T T2 : Tab} {r : AV} (ha : (Nat.ble args.length nt && Nat.ble T.length 4) = true) (h : Run P nt [.code code] (argEnv 0 args) T (RetQ res T T2 r)) : AC P id args T r T2 :=
  AC.introB Try.func68 ok rfl rok ha h
end slices_Clone_int_int
namespace schema_Form
/-- instar/schema.Form -/
abbrev id : FuncId := 69
abbrev nt : Nat := 22
def code : ACode := .seq (.reg [⟨some 2, .box (.t 0), none⟩, ⟨some 4, .alloc [.int .i64 0, .slice none 0 0], none⟩, ⟨some 5, .mv (.c (.bool false)), none⟩]) (.seq (.seq (.reg [⟨some 8, .fa 1 (.t 2), none⟩, ⟨some 9, .ld 1 false (.t 8), none⟩, ⟨some 10, .len (.t 9), none⟩, ⟨some 11, .mv (.c (.int .i64 0)), none⟩]) (.block 0 (.loop (.seq (.reg [⟨some 12, .bin .lss (.t 11) (.t 10), none⟩]) (.seq (.cond (.t 12) .skip (.exit 0)) (.seq (.block 1 (.seq (.reg [⟨some 13, .ia 2 (.t 9) (.t 11), none⟩, ⟨some 14, .ld 2 true (.t 13), none⟩, ⟨some 7, .alloc [.int .i64 0, .slice none 0 0], none⟩, ⟨none, .st 2 (.t 7) (.t 14), none⟩]) (.seq (.reg [⟨some 15, .fa 0 (.t 7), none⟩, ⟨some 16, .ld 1 false (.t 15), none⟩, ⟨some 17, .mv (.t 1), none⟩, ⟨some 18, .bin .eql (.t 16) (.t 17), none⟩]) (.cond (.t 18) (.seq (.reg [⟨some 19, .ld 2 true (.t 7), none⟩, ⟨none, .st 2 (.t 4) (.t 19), none⟩, ⟨some 5, .mv (.c (.bool true)), none⟩]) .ret) .skip)))) (.reg [⟨some 20, .bin .add (.t 11) (.c (.int .i64 1)), none⟩, ⟨some 11, .mv (.t 20), none⟩]))))))) (.seq (.reg [⟨some 21, .bld [.int .i64 0, .slice none 0 0] [], none⟩, ⟨none, .st 2 (.t 4) (.t 21), none⟩, ⟨some 5, .mv (.c (.bool false)), none⟩]) .ret))
def res : List RItem := [.cell 4 2 true, .t 5]
theorem ok : Option.bind Try.f69.body (cCode P Try.f69.ntmps) = some code := by kernel_rfl
theorem rok : cRes P Try.f69.results.toList = some res := by kernel_rfl
theorem intro {args : List AV} {T T2 : Tab} {r : AV} (ha : (Nat.ble args.length nt && Nat.ble T.length 4) = true) (h : Run P nt [.code code] (argEnv 0 args) T (RetQ res T T2 r)) : AC P id args T r T2 :=
  AC.introB Try.func69 ok rfl rok ha h
end schema_Form
namespace slices_Reverse_api_Step_api_Step
/-- slices.Reverse[[]instar/api.Step,instar/api.Step] -/
abbrev id : FuncId := 70
abbrev nt : Nat := 28
def code : ACode := .seq (.reg [⟨some 4, .mv (.t 0), none⟩, ⟨some 5, .len (.t 4), none⟩, ⟨some 6, .bin .sub (.t 5) (.c (.int .i64 1)), none⟩, ⟨some 2, .mv (.c (.int .i64 0)), none⟩, ⟨some 3, .mv (.t 6), none⟩]) (.block 0 (.loop (.seq (.seq (.reg [⟨some 7, .mv (.t 2), none⟩, ⟨some 8, .mv (.t 3), none⟩, ⟨some 9, .bin .lss (.t 7) (.t 8), none⟩]) (.cond (.t 9) .skip (.exit 0))) (.seq (.block 1 (.draw [⟨some 14, .mv (.t 0), none⟩, ⟨some 15, .mv (.t 2), none⟩, ⟨some 16, .mv (.t 0), none⟩, ⟨some 17, .mv (.t 3), none⟩, ⟨some 18, .mv (.t 0), none⟩, ⟨some 19, .mv (.t 3), none⟩, ⟨some 20, .ia 16 (.t 18) (.t 19), none⟩, ⟨some 21, .ld 16 true (.t 20), none⟩, ⟨some 22, .mv (.t 0), none⟩, ⟨some 23, .mv (.t 2), none⟩, ⟨some 24, .ia 16 (.t 22) (.t 23), none⟩, ⟨some 25, .ld 16 true (.t 24), none⟩, ⟨some 26, .ia 16 (.t 14) (.t 15), none⟩, ⟨none, .st 16 (.t 26) (.t 21), none⟩, ⟨some 27, .ia 16 (.t 16) (.t 17), none⟩, ⟨none, .st 16 (.t 27) (.t 25), none⟩] [0, 0, 0, 0, 0, 0, 48, 112, 0, 0, 768, 1792, 4083, 8179, 16383, 32767])) (.reg [⟨some 10, .mv (.t 2), none⟩, ⟨some 11, .bin .add (.t 10) (.c (.int .i64 1)), none⟩, ⟨some 12, .mv (.t 3), none⟩, ⟨some 13, .bin .sub (.t 12) (.c (.int .i64 1)), none⟩, ⟨some 2, .mv (.t 11), none⟩, ⟨some 3, .mv (.t 13), none⟩])))))
def res : List RItem := []
theorem ok : Option.bind Try.f70.body (cCode P Try.f70.ntmps) = some code := by kernel_rfl
theorem rok : cRes P Try.f70.results.toList = some res := by kernel_rfl
theorem intro {args : List AV} {T T2 : Tab} {r : AV} (ha : (Nat.ble args.length nt && Nat.ble T.length 4) = true) (h : Run P nt [.code code] (argEnv 0 args) T (RetQ res T T2 r)) : AC P id args T r T2 :=
  AC.introB Try.func70 ok rfl rok ha h
end slices_Reverse_api_Step_api_Step
namespace pair_unlike_api_Step
/-- instar/pair.unlike[instar/api.Step] -/
abbrev id : FuncId := 71
abbrev nt : Nat := 30
def code : ACode := .seq (.reg [⟨some 6, .mv (.c (.int .i64 0)), none⟩]) (.seq (.reg [⟨some 7, .mv (.c (.int .i64 0)), none⟩]) (.seq (.block 0 (.loop (.seq (.seq (.draw [⟨some 8, .mv (.t 7), none⟩, ⟨some 9, .mv (.t 0), none⟩, ⟨some 10, .len (.t 9), none⟩, ⟨some 11, .mv (.t 1), none⟩, ⟨some 12, .len (.t 11), none⟩, ⟨some 13, .mnmx false (.t 10) (.t 12), none⟩, ⟨some 14, .bin .lss (.t 8) (.t 13), none⟩, ⟨some 15, .mv (.t 14), none⟩, ⟨some 16, .mv (.t 2), some (15, true)⟩, ⟨some 17, .mv (.t 0), some (15, true)⟩, ⟨some 18, .mv (.t 7), some (15, true)⟩, ⟨some 19, .ia 16 (.t 17) (.t 18), some (15, true)⟩, ⟨some 20, .ld 16 true (.t 19), some (15, true)⟩, ⟨some 21, .mv (.t 1), some (15, true)⟩, ⟨some 22, .mv (.t 7), some (15, true)⟩, ⟨some 23, .ia 16 (.t 21) (.t 22), some (15, true)⟩, ⟨some 24, .ld 16 true (.t 23), some (15, true)⟩, ⟨some 25, .callv (.t 16) [.t 20, .t 24], some (15, true)⟩, ⟨some 26, .pick (.t 15) (.t 25) (.c (.bool false)), none⟩] [0, 0, 2, 0, 8, 30, 63, 127, 255, 255, 255, 1791, 3839, 255, 255, 24831, 57599, 131071, 262143]) (.cond (.t 26) .skip (.exit 0))) (.block 1 (.reg [⟨some 27, .mv (.t 7), none⟩, ⟨some 28, .bin .add (.t 27) (.c (.int .i64 1)), none⟩, ⟨some 7, .mv (.t 28), none⟩]))))) (.seq (.reg [⟨some 29, .mv (.t 7), none⟩, ⟨some 6, .mv (.t 29), none⟩]) .ret)))
def res : List RItem := [.t 6]
theorem ok : Option.bind Try.f71.body (cCode P Try.f71.ntmps) = some code := by kernel_rfl
theorem rok : cRes P Try.f71.results.toList = some res := by kernel_rfl
theorem intro {args : List AV} {T T2 : Tab} {r : AV} (ha : (Nat.ble args.length nt && Nat.ble T.length 4) = true) (h : Run P nt [.code code] (argEnv 0 args) T (RetQ res T T2 r)) : AC P id args T r T2 :=
  AC.introB Try.func71 ok rfl rok ha h
end pair_unlike_api_Step
namespace step_Same
/-- instar/step.Same -/
abbrev id : FuncId := 72
abbrev nt : Nat := 75
def code : ACode := .seq (.reg [⟨some 2, .box (.t 0), none⟩, ⟨some 3, .box (.t 1), none⟩, ⟨some 4, .mv (.c (.bool false)), none⟩]) (.seq (.reg [⟨some 7, .fa 14 (.t 2), none⟩, ⟨some 8, .ld 1 false (.t 7), none⟩, ⟨some 9, .fa 14 (.t 3), none⟩, ⟨some 10, .ld 1 false (.t 9), none⟩, ⟨some 11, .call 111 [.t 8, .t 10], none⟩, ⟨some 12, .mv (.t 11), none⟩, ⟨some 13, .fa 15 (.t 2), some (12, true)⟩, ⟨some 14, .ld 1 false (.t 13), some (12, true)⟩, ⟨some 15, .fa 15 (.t 3), some (12, true)⟩, ⟨some 16, .ld 1 false (.t 15), some (12, true)⟩, ⟨some 17, .call 90 [.t 14, .t 16], some (12, true)⟩, ⟨some 18, .pick (.t 12) (.t 17) (.c (.bool false)), none⟩, ⟨some 5, .mv (.t 18), none⟩]) (.seq (.reg [⟨some 19, .fa 0 (.t 2), none⟩, ⟨some 20, .ld 1 false (.t 19), none⟩, ⟨some 21, .fa 0 (.t 3), none⟩, ⟨some 22, .ld 1 false (.t 21), none⟩, ⟨some 23, .bin .sub (.t 20) (.t 22), none⟩, ⟨some 24, .fa 1 (.t 2), none⟩, ⟨some 25, .ld 1 false (.t 24), none⟩, ⟨some 26, .fa 1 (.t 3), none⟩, ⟨some 27, .ld 1 false (.t 26), none⟩, ⟨some 28, .bin .sub (.t 25) (.t 27), none⟩, ⟨some 29, .fa 2 (.t 2), none⟩, ⟨some 30, .ld 1 false (.t 29), none⟩, ⟨some 31, .fa 2 (.t 3), none⟩, ⟨some 32, .ld 1 false (.t 31), none⟩, ⟨some 33, .bin .sub (.t 30) (.t 32), none⟩, ⟨some 34, .fa 3 (.t 2), none⟩, ⟨some 35, .ld 1 false (.t 34), none⟩, ⟨some 36, .fa 3 (.t 3), none⟩, ⟨some 37, .ld 1 false (.t 36), none⟩, ⟨some 38, .bin .sub (.t 35) (.t 37), none⟩, ⟨some 39, .fa 4 (.t 2), none⟩, ⟨some 40, .ld 1 false (.t 39), none⟩, ⟨some 41, .fa 4 (.t 3), none⟩, ⟨some 42, .ld 1 false (.t 41), none⟩, ⟨some 43, .bin .sub (.t 40) (.t 42), none⟩, ⟨some 44, .fa 5 (.t 2), none⟩, ⟨some 45, .ld 1 false (.t 44), none⟩, ⟨some 46, .fa 5 (.t 3), none⟩, ⟨some 47, .ld 1 false (.t 46), none⟩, ⟨some 48, .bin .sub (.t 45) (.t 47), none⟩, ⟨some 49, .fa 6 (.t 2), none⟩, ⟨some 50, .ld 1 false (.t 49), none⟩, ⟨some 51, .fa 6 (.t 3), none⟩, ⟨some 52, .ld 1 false (.t 51), none⟩, ⟨some 53, .bin .sub (.t 50) (.t 52), none⟩, ⟨some 54, .bld [.int .i64 0, .int .i64 0, .int .i64 0, .int .i64 0, .int .i64 0, .int .i64 0, .int .i64 0] [(0, 1, .t 23), (1, 1, .t 28), (2, 1, .t 33), (3, 1, .t 38), (4, 1, .t 43), (5, 1, .t 48), (6, 1, .t 53)], none⟩, ⟨some 6, .alloc [.int .i64 0, .int .i64 0, .int .i64 0, .int .i64 0, .int .i64 0, .int .i64 0, .int .i64 0], none⟩, ⟨none, .st 7 (.t 6) (.t 54), none⟩]) (.seq (.reg [⟨some 55, .mv (.t 5), none⟩, ⟨some 56, .mv (.t 55), none⟩, ⟨some 57, .ld 7 true (.t 6), some (56, true)⟩, ⟨some 58, .bld [.int .i64 0, .int .i64 0, .int .i64 0, .int .i64 0, .int .i64 0, .int .i64 0, .int .i64 0] [], some (56, true)⟩, ⟨some 59, .eqA false 7 [(0, 1), (1, 1), (2, 1), (3, 1), (4, 1), (5, 1), (6, 1)] (.t 57) (.t 58), some (56, true)⟩, ⟨some 60, .pick (.t 56) (.t 59) (.c (.bool false)), none⟩, ⟨some 61, .mv (.t 60), none⟩, ⟨some 62, .fa 7 (.t 2), some (61, true)⟩, ⟨some 63, .ld 5 true (.t 62), some (61, true)⟩, ⟨some 64, .fa 7 (.t 3), some (61, true)⟩, ⟨some 65, .ld 5 true (.t 64), some (61, true)⟩, ⟨some 66, .eqA false 5 [(0, 1), (1, 1), (2, 1), (3, 1), (4, 1)] (.t 63) (.t 65), some (61, true)⟩, ⟨some 67, .pick (.t 61) (.t 66) (.c (.bool false)), none⟩, ⟨some 68, .mv (.t 67), none⟩, ⟨some 69, .fa 12 (.t 2), some (68, true)⟩, ⟨some 70, .ld 2 true (.t 69), some (68, true)⟩, ⟨some 71, .fa 12 (.t 3), some (68, true)⟩, ⟨some 72, .ld 2 true (.t 71), some (68, true)⟩, ⟨some 73, .eqA false 2 [(0, 1), (1, 2)] (.t 70) (.t 72), some (68, true)⟩, ⟨some 74, .pick (.t 68) (.t 73) (.c (.bool false)), none⟩, ⟨some 4, .mv (.t 74), none⟩]) .ret)))
def res : List RItem := [.t 4]
theorem ok : Option.bind Try.f72.body (cCode P Try.f72.ntmps) = some code := by kernel_rfl
theorem rok : cRes P Try.f72.results.toList = some res := by kernel_rfl
theorem intro {args : List AV} {T T2 : Tab} {r : AV} (ha : (Nat.ble args.length nt && Nat.ble T.length 4) = true) (h : Run P nt [.code code] (argEnv 0 args) T (RetQ res T T2 r)) : AC P id args T r T2 :=
  AC.introB Try.func72 ok rfl rok ha h
end step_Same
namespace R15_uses
/-- instar/instarref15.uses -/
abbrev id : FuncId := 73
abbrev nt : Nat := 38
def code : ACode := .seq (.reg [⟨some 2, .mv (.c (.string { data := { toList := [] } })), none⟩]) (.seq (.seq (.reg [⟨some 3, .mv (.t 0), none⟩]) (.block 0 (.seq (.seq (.reg [⟨some 5, .bin .eql (.t 3) (.c (.int .i64 1)), none⟩, ⟨some 4, .mv (.t 5), none⟩]) (.cond (.t 4) .skip (.reg [⟨some 6, .bin .eql (.t 3) (.c (.int .i64 22)), none⟩, ⟨some 4, .mv (.t 6), none⟩]))) (.cond (.t 4) (.seq (.reg [⟨some 2, .mv (.c (.string { data := { toList := [(UInt8.ofNat 102), (UInt8.ofNat 112), (UInt8.ofNat 70), (UInt8.ofNat 86)] } })), none⟩]) .ret) (.seq (.reg [⟨some 8, .bin .eql (.t 3) (.c (.int .i64 2)), none⟩, ⟨some 7, .mv (.t 8), none⟩]) (.cond (.t 7) (.seq (.reg [⟨some 2, .mv (.c (.string { data := { toList := [(UInt8.ofNat 102), (UInt8.ofNat 100), (UInt8.ofNat 86)] } })), none⟩]) .ret) (.seq (.seq (.reg [⟨some 10, .bin .eql (.t 3) (.c (.int .i64 3)), none⟩, ⟨some 9, .mv (.t 10), none⟩]) (.cond (.t 9) .skip (.reg [⟨some 11, .bin .eql (.t 3) (.c (.int .i64 23)), none⟩, ⟨some 9, .mv (.t 11), none⟩]))) (.cond (.t 9) (.seq (.reg [⟨some 2, .mv (.c (.string { data := { toList := [(UInt8.ofNat 102), (UInt8.ofNat 100), (UInt8.ofNat 70)] } })), none⟩]) .ret) (.seq (.reg [⟨some 13, .bin .eql (.t 3) (.c (.int .i64 4)), none⟩, ⟨some 12, .mv (.t 13), none⟩]) (.cond (.t 12) (.seq (.reg [⟨some 2, .mv (.c (.string { data := { toList := [(UInt8.ofNat 102), (UInt8.ofNat 100), (UInt8.ofNat 98)] } })), none⟩]) .ret) (.seq (.reg [⟨some 15, .bin .eql (.t 3) (.c (.int .i64 24)), none⟩, ⟨some 14, .mv (.t 15), none⟩]) (.cond (.t 14) (.seq (.reg [⟨some 2, .mv (.c (.string { data := { toList := [(UInt8.ofNat 102), (UInt8.ofNat 100), (UInt8.ofNat 98), (UInt8.ofNat 70)] } })), none⟩]) .ret) (.seq (.reg [⟨some 17, .bin .eql (.t 3) (.c (.int .i64 5)), none⟩, ⟨some 16, .mv (.t 17), none⟩]) (.cond (.t 16) (.seq (.reg [⟨some 2, .mv (.c (.string { data := { toList := [(UInt8.ofNat 102), (UInt8.ofNat 100), (UInt8.ofNat 97), (UInt8.ofNat 84)] } })), none⟩]) .ret) (.seq (.reg [⟨some 19, .bin .eql (.t 3) (.c (.int .i64 25)), none⟩, ⟨some 18, .mv (.t 19), none⟩]) (.cond (.t 18) (.seq (.reg [⟨some 2, .mv (.c (.string { data := { toList := [(UInt8.ofNat 102), (UInt8.ofNat 100), (UInt8.ofNat 84)] } })), none⟩]) .ret) (.seq (.reg [⟨some 21, .bin .eql (.t 3) (.c (.int .i64 6)), none⟩, ⟨some 20, .mv (.t 21), none⟩]) (.cond (.t 20) (.seq (.reg [⟨some 2, .mv (.c (.string { data := { toList := [(UInt8.ofNat 102), (UInt8.ofNat 100), (UInt8.ofNat 97), (UInt8.ofNat 116)] } })), none⟩]) .ret) (.seq (.reg [⟨some 23, .bin .eql (.t 3) (.c (.int .i64 26)), none⟩, ⟨some 22, .mv (.t 23), none⟩]) (.cond (.t 22) (.seq (.reg [⟨some 2, .mv (.c (.string { data := { toList := [(UInt8.ofNat 102), (UInt8.ofNat 100), (UInt8.ofNat 97), (UInt8.ofNat 116), (UInt8.ofNat 70)] } })), none⟩]) .ret) (.seq (.seq (.reg [⟨some 25, .bin .eql (.t 3) (.c (.int .i64 7)), none⟩, ⟨some 24, .mv (.t 25), none⟩]) (.cond (.t 24) .skip (.reg [⟨some 26, .bin .eql (.t 3) (.c (.int .i64 27)), none⟩, ⟨some 24, .mv (.t 26), none⟩]))) (.cond (.t 24) (.seq (.reg [⟨some 2, .mv (.c (.string { data := { toList := [(UInt8.ofNat 102), (UInt8.ofNat 100), (UInt8.ofNat 112)] } })), none⟩]) .ret) (.seq (.seq (.reg [⟨some 28, .bin .eql (.t 3) (.c (.int .i64 8)), none⟩, ⟨some 27, .mv (.t 28), none⟩]) (.cond (.t 27) .skip (.reg [⟨some 29, .bin .eql (.t 3) (.c (.int .i64 28)), none⟩, ⟨some 27, .mv (.t 29), none⟩]))) (.cond (.t 27) (.seq (.reg [⟨some 2, .mv (.c (.string { data := { toList := [(UInt8.ofNat 102), (UInt8.ofNat 100), (UInt8.ofNat 116)] } })), none⟩]) .ret) (.seq (.seq (.reg [⟨some 31, .bin .eql (.t 3) (.c (.int .i64 9)), none⟩, ⟨some 30, .mv (.t 31), none⟩]) (.cond (.t 30) .skip (.reg [⟨some 32, .bin .eql (.t 3) (.c (.int .i64 30)), none⟩, ⟨some 30, .mv (.t 32), none⟩]))) (.cond (.t 30) (.seq (.reg [⟨some 2, .mv (.c (.string { data := { toList := [(UInt8.ofNat 102), (UInt8.ofNat 76)] } })), none⟩]) .ret) (.seq (.seq (.reg [⟨some 34, .bin .eql (.t 3) (.c (.int .i64 10)), none⟩, ⟨some 33, .mv (.t 34), none⟩]) (.cond (.t 33) .skip (.reg [⟨some 35, .bin .eql (.t 3) (.c (.int .i64 29)), none⟩, ⟨some 33, .mv (.t 35), none⟩]))) (.cond (.t 33) (.seq (.reg [⟨some 2, .mv (.c (.string { data := { toList := [(UInt8.ofNat 102)] } })), none⟩]) .ret) (.seq (.reg [⟨some 37, .bin .eql (.t 3) (.c (.int .i64 21)), none⟩, ⟨some 36, .mv (.t 37), none⟩]) (.cond (.t 36) (.seq (.reg [⟨some 2, .mv (.c (.string { data := { toList := [(UInt8.ofNat 102), (UInt8.ofNat 100)] } })), none⟩]) .ret) .skip)))))))))))))))))))))))))))))) (.seq (.reg [⟨some 2, .mv (.c (.string { data := { toList := [] } })), none⟩]) .ret))
def res : List RItem := [.t 2]
theorem ok : Option.bind Try.f73.body (cCode P Try.f73.ntmps) = some code := by kernel_rfl
theorem rok : cRes P Try.f73.results.toList = some res := by kernel_rfl
theorem intro {args : List AV} {T T2 : Tab} {r : AV} (ha : (Nat.ble args.length nt && Nat.ble T.length 4) = true) (h : Run P nt [.code code] (argEnv 0 args) T (RetQ res T T2 r)) : AC P id args T r T2 :=
  AC.introB Try.func73 ok rfl rok ha h
end R15_uses
namespace R15_zero
/-- instar/instarref15.zero -/
abbrev id : FuncId := 74
abbrev nt : Nat := 104
def code : ACode := .seq (.reg [⟨some 1, .box (.t 0), none⟩, ⟨some 2, .mv (.c (.bool false)), none⟩]) (.seq (.reg [⟨some 4, .fa 0 (.t 1), none⟩, ⟨some 5, .ld 1 false (.t 4), none⟩, ⟨some 6, .call 77 [.t 5, .c (.int .u8 100)], none⟩, ⟨some 7, .mv (.t 6), none⟩, ⟨some 8, .fa 2 (.t 1), some (7, false)⟩, ⟨some 9, .ld 1 false (.t 8), some (7, false)⟩, ⟨some 10, .bin .eql (.t 9) (.c (.int .i64 0)), some (7, false)⟩, ⟨some 11, .pick (.t 7) (.c (.bool true)) (.t 10), none⟩, ⟨some 12, .mv (.t 11), none⟩, ⟨some 13, .fa 0 (.t 1), some (12, true)⟩, ⟨some 14, .ld 1 false (.t 13), some (12, true)⟩, ⟨some 15, .call 77 [.t 14, .c (.int .u8 112)], some (12, true)⟩, ⟨some 16, .mv (.t 15), some (12, true)⟩, ⟨some 17, .fa 3 (.t 1), some (16, false)⟩, ⟨some 18, .ld 1 false (.t 17), some (16, false)⟩, ⟨some 19, .bin .eql (.t 18) (.c (.int .i64 0)), some (16, false)⟩, ⟨some 20, .pick (.t 16) (.c (.bool true)) (.t 19), some (12, true)⟩, ⟨some 21, .pick (.t 12) (.t 20) (.c (.bool false)), none⟩, ⟨some 22, .mv (.t 21), none⟩, ⟨some 23, .fa 0 (.t 1), some (22, true)⟩, ⟨some 24, .ld 1 false (.t 23), some (22, true)⟩, ⟨some 25, .call 77 [.t 24, .c (.int .u8 116)], some (22, true)⟩, ⟨some 26, .mv (.t 25), some (22, true)⟩, ⟨some 27, .fa 4 (.t 1), some (26, false)⟩, ⟨some 28, .ld 1 false (.t 27), some (26, false)⟩, ⟨some 29, .bin .eql (.t 28) (.c (.int .i64 0)), some (26, false)⟩, ⟨some 30, .pick (.t 26) (.c (.bool true)) (.t 29), some (22, true)⟩, ⟨some 31, .pick (.t 22) (.t 30) (.c (.bool false)), none⟩, ⟨some 3, .mv (.t 31), none⟩]) (.seq (.reg [⟨some 32, .mv (.t 3), none⟩, ⟨some 33, .mv (.t 32), none⟩, ⟨some 34, .fa 0 (.t 1), some (33, true)⟩, ⟨some 35, .ld 1 false (.t 34), some (33, true)⟩, ⟨some 36, .call 77 [.t 35, .c (.int .u8 97)], some (33, true)⟩, ⟨some 37, .mv (.t 36), some (33, true)⟩, ⟨some 38, .fa 0 (.t 1), some (37, false)⟩, ⟨some 39, .ld 1 false (.t 38), some (37, false)⟩, ⟨some 40, .call 77 [.t 39, .c (.int .u8 98)], some (37, false)⟩, ⟨some 41, .pick (.t 37) (.c (.bool true)) (.t 40), some (33, true)⟩, ⟨some 42, .mv (.t 41), some (33, true)⟩, ⟨some 43, .fa 5 (.t 1), some (42, false)⟩, ⟨some 44, .ld 1 false (.t 43), some (42, false)⟩, ⟨some 45, .bin .eql (.t 44) (.c (.int .i64 0)), some (42, false)⟩, ⟨some 46, .pick (.t 42) (.c (.bool true)) (.t 45), some (33, true)⟩, ⟨some 47, .pick (.t 33) (.t 46) (.c (.bool false)), none⟩, ⟨some 48, .mv (.t 47), none⟩, ⟨some 49, .fa 0 (.t 1), some (48, true)⟩, ⟨some 50, .ld 1 false (.t 49), some (48, true)⟩, ⟨some 51, .call 77 [.t 50, .c (.int .u8 98)], some (48, true)⟩, ⟨some 52, .mv (.t 51), some (48, true)⟩, ⟨some 53, .fa 6 (.t 1), some (52, false)⟩, ⟨some 54, .ld 1 false (.t 53), some (52, false)⟩, ⟨some 55, .bin .eql (.t 54) (.c (.int .i64 0)), some (52, false)⟩, ⟨some 56, .pick (.t 52) (.c (.bool true)) (.t 55), some (48, true)⟩, ⟨some 57, .pick (.t 48) (.t 56) (.c (.bool false)), none⟩, ⟨some 3, .mv (.t 57), none⟩]) (.seq (.reg [⟨some 58, .mv (.t 3), none⟩, ⟨some 59, .mv (.t 58), none⟩, ⟨some 60, .fa 0 (.t 1), some (59, true)⟩, ⟨some 61, .ld 1 false (.t 60), some (59, true)⟩, ⟨some 62, .call 77 [.t 61, .c (.int .u8 70)], some (59, true)⟩, ⟨some 63, .mv (.t 62), some (59, true)⟩, ⟨some 64, .fa 7 (.t 1), some (63, false)⟩, ⟨some 65, .ld 5 true (.t 64), some (63, false)⟩, ⟨some 66, .bld [.int .i64 0, .int .i64 0, .int .i64 0, .int .i64 0, .int .i64 0] [], some (63, false)⟩, ⟨some 67, .eqA false 5 [(0, 1), (1, 1), (2, 1), (3, 1), (4, 1)] (.t 65) (.t 66), some (63, false)⟩, ⟨some 68, .pick (.t 63) (.c (.bool true)) (.t 67), some (59, true)⟩, ⟨some 69, .pick (.t 59) (.t 68) (.c (.bool false)), none⟩, ⟨some 70, .mv (.t 69), none⟩, ⟨some 71, .fa 0 (.t 1), some (70, true)⟩, ⟨some 72, .ld 1 false (.t 71), some (70, true)⟩, ⟨some 73, .call 77 [.t 72, .c (.int .u8 86)], some (70, true)⟩, ⟨some 74, .mv (.t 73), some (70, true)⟩, ⟨some 75, .fa 12 (.t 1), some (74, false)⟩, ⟨some 76, .ld 2 true (.t 75), some (74, false)⟩, ⟨some 77, .bld [.int .i64 0, .string { data := { toList := [] } }] [], some (74, false)⟩, ⟨some 78, .eqA false 2 [(0, 1), (1, 2)] (.t 76) (.t 77), some (74, false)⟩, ⟨some 79, .pick (.t 74) (.c (.bool true)) (.t 78), some (70, true)⟩, ⟨some 80, .pick (.t 70) (.t 79) (.c (.bool false)), none⟩, ⟨some 3, .mv (.t 80), none⟩]) (.seq (.reg [⟨some 81, .mv (.t 3), none⟩, ⟨some 82, .mv (.t 81), none⟩, ⟨some 83, .fa 0 (.t 1), some (82, true)⟩, ⟨some 84, .ld 1 false (.t 83), some (82, true)⟩, ⟨some 85, .call 77 [.t 84, .c (.int .u8 84)], some (82, true)⟩, ⟨some 86, .mv (.t 85), some (82, true)⟩, ⟨some 87, .fa 14 (.t 1), some (86, false)⟩, ⟨some 88, .ld 1 false (.t 87), some (86, false)⟩, ⟨some 89, .len (.t 88), some (86, false)⟩, ⟨some 90, .bin .eql (.t 89) (.c (.int .i64 0)), some (86, false)⟩, ⟨some 91, .pick (.t 86) (.c (.bool true)) (.t 90), some (82, true)⟩, ⟨some 92, .pick (.t 82) (.t 91) (.c (.bool false)), none⟩, ⟨some 93, .mv (.t 92), none⟩, ⟨some 94, .fa 0 (.t 1), some (93, true)⟩, ⟨some 95, .ld 1 false (.t 94), some (93, true)⟩, ⟨some 96, .call 77 [.t 95, .c (.int .u8 76)], some (93, true)⟩, ⟨some 97, .mv (.t 96), some (93, true)⟩, ⟨some 98, .fa 15 (.t 1), some (97, false)⟩, ⟨some 99, .ld 1 false (.t 98), some (97, false)⟩, ⟨some 100, .len (.t 99), some (97, false)⟩, ⟨some 101, .bin .eql (.t 100) (.c (.int .i64 0)), some (97, false)⟩, ⟨some 102, .pick (.t 97) (.c (.bool true)) (.t 101), some (93, true)⟩, ⟨some 103, .pick (.t 93) (.t 102) (.c (.bool false)), none⟩, ⟨some 2, .mv (.t 103), none⟩]) .ret))))
def res : List RItem := [.t 2]
theorem ok : Option.bind Try.f74.body (cCode P Try.f74.ntmps) = some code := by kernel_rfl
theorem rok : cRes P Try.f74.results.toList = some res := by kernel_rfl
theorem intro {args : List AV} {T T2 : Tab} {r : AV} (ha : (Nat.ble args.length nt && Nat.ble T.length 4) = true) (h : Run P nt [.code code] (argEnv 0 args) T (RetQ res T T2 r)) : AC P id args T r T2 :=
  AC.introB Try.func74 ok rfl rok ha h
end R15_zero
namespace R15_between
/-- instar/instarref15.between -/
abbrev id : FuncId := 75
abbrev nt : Nat := 15
def code : ACode := .seq (.reg [⟨some 6, .mv (.c (.bool false)), none⟩]) (.seq (.reg [⟨some 7, .mv (.t 0), none⟩, ⟨some 8, .mv (.t 1), none⟩, ⟨some 9, .bin .geq (.t 7) (.t 8), none⟩, ⟨some 10, .mv (.t 9), none⟩, ⟨some 11, .mv (.t 0), some (10, true)⟩, ⟨some 12, .mv (.t 2), some (10, true)⟩, ⟨some 13, .bin .leq (.t 11) (.t 12), some (10, true)⟩, ⟨some 14, .pick (.t 10) (.t 13) (.c (.bool false)), none⟩, ⟨some 6, .mv (.t 14), none⟩]) .ret)
def res : List RItem := [.t 6]
theorem ok : Option.bind Try.f75.body (cCode P Try.f75.ntmps) = some code := by kernel_rfl
theorem rok : cRes P Try.f75.results.toList = some res := by kernel_rfl
theorem intro {args : List AV} {T T2 : Tab} {r : AV} (ha : (Nat.ble args.length nt && Nat.ble T.length 4) = true) (h : Run P nt [.code code] (argEnv 0 args) T (RetQ res T T2 r)) : AC P id args T r T2 :=
  AC.introB Try.func75 ok rfl rok ha h
end R15_between
namespace R15_numbers
/-- instar/instarref15.numbers -/
abbrev id : FuncId := 76
abbrev nt : Nat := 54
def code : ACode := .seq (.reg [⟨some 1, .box (.t 0), none⟩, ⟨some 2, .mv (.c (.bool false)), none⟩]) (.seq (.seq (.reg [⟨some 3, .fa 0 (.t 1), none⟩, ⟨some 4, .ld 1 false (.t 3), none⟩, ⟨some 5, .bin .eql (.t 4) (.c (.int .i64 4)), none⟩, ⟨some 6, .mv (.t 5), none⟩, ⟨some 7, .fa 0 (.t 1), some (6, false)⟩, ⟨some 8, .ld 1 false (.t 7), some (6, false)⟩, ⟨some 9, .bin .eql (.t 8) (.c (.int .i64 24)), some (6, false)⟩, ⟨some 10, .pick (.t 6) (.c (.bool true)) (.t 9), none⟩]) (.cond (.t 10) (.seq (.reg [⟨some 11, .fa 5 (.t 1), none⟩, ⟨some 12, .ld 1 false (.t 11), none⟩, ⟨some 13, .call 75 [.t 12, .c (.int .i64 (-1048576)), .c (.int .i64 1048576)], none⟩, ⟨some 14, .mv (.t 13), none⟩, ⟨some 15, .fa 5 (.t 1), some (14, true)⟩, ⟨some 16, .ld 1 false (.t 15), some (14, true)⟩, ⟨some 17, .bin .neq (.t 16) (.c (.int .i64 0)), some (14, true)⟩, ⟨some 18, .pick (.t 14) (.t 17) (.c (.bool false)), none⟩, ⟨some 19, .mv (.t 18), none⟩, ⟨some 20, .fa 6 (.t 1), some (19, true)⟩, ⟨some 21, .ld 1 false (.t 20), some (19, true)⟩, ⟨some 22, .call 75 [.t 21, .c (.int .i64 (-1099511627776)), .c (.int .i64 1099511627776)], some (19, true)⟩, ⟨some 23, .pick (.t 19) (.t 22) (.c (.bool false)), none⟩, ⟨some 2, .mv (.t 23), none⟩]) .ret) .skip)) (.seq (.seq (.reg [⟨some 24, .fa 0 (.t 1), none⟩, ⟨some 25, .ld 1 false (.t 24), none⟩, ⟨some 26, .bin .eql (.t 25) (.c (.int .i64 6)), none⟩, ⟨some 27, .mv (.t 26), none⟩, ⟨some 28, .fa 0 (.t 1), some (27, false)⟩, ⟨some 29, .ld 1 false (.t 28), some (27, false)⟩, ⟨some 30, .bin .eql (.t 29) (.c (.int .i64 26)), some (27, false)⟩, ⟨some 31, .pick (.t 27) (.c (.bool true)) (.t 30), none⟩]) (.cond (.t 31) (.seq (.reg [⟨some 32, .fa 5 (.t 1), none⟩, ⟨some 33, .ld 1 false (.t 32), none⟩, ⟨some 34, .call 75 [.t 33, .c (.int .i64 2), .c (.int .i64 1048576)], none⟩, ⟨some 2, .mv (.t 34), none⟩]) .ret) .skip)) (.seq (.seq (.reg [⟨some 35, .fa 0 (.t 1), none⟩, ⟨some 36, .ld 1 false (.t 35), none⟩, ⟨some 37, .bin .eql (.t 36) (.c (.int .i64 5)), none⟩]) (.cond (.t 37) (.seq (.reg [⟨some 38, .fa 5 (.t 1), none⟩, ⟨some 39, .ld 1 false (.t 38), none⟩, ⟨some 40, .call 75 [.t 39, .c (.int .i64 1), .c (.int .i64 1000)], none⟩, ⟨some 41, .mv (.t 40), none⟩, ⟨some 42, .fa 14 (.t 1), some (41, true)⟩, ⟨some 43, .ld 1 false (.t 42), some (41, true)⟩, ⟨some 44, .fa 5 (.t 1), some (41, true)⟩, ⟨some 45, .ld 1 false (.t 44), some (41, true)⟩, ⟨some 46, .call 112 [.t 43, .t 45], some (41, true)⟩, ⟨some 47, .pick (.t 41) (.t 46) (.c (.bool false)), none⟩, ⟨some 2, .mv (.t 47), none⟩]) .ret) .skip)) (.seq (.seq (.reg [⟨some 48, .fa 0 (.t 1), none⟩, ⟨some 49, .ld 1 false (.t 48), none⟩, ⟨some 50, .bin .eql (.t 49) (.c (.int .i64 25)), none⟩]) (.cond (.t 50) (.seq (.reg [⟨some 51, .fa 14 (.t 1), none⟩, ⟨some 52, .ld 1 false (.t 51), none⟩, ⟨some 53, .call 112 [.t 52, .c (.int .i64 1000)], none⟩, ⟨some 2, .mv (.t 53), none⟩]) .ret) .skip)) (.seq (.reg [⟨some 2, .mv (.c (.bool true)), none⟩]) .ret)))))
def res : List RItem := [.t 2]
theorem ok : Option.bind Try.f76.body (cCode P Try.f76.ntmps) = some code := by kernel_rfl
theorem rok : cRes P Try.f76.results.toList = some res := by kernel_rfl
theorem intro {args : List AV} {T T2 : Tab} {r : AV} (ha : (Nat.ble args.length nt && Nat.ble T.length 4) = true) (h : Run P nt [.code code] (argEnv 0 args) T (RetQ res T T2 r)) : AC P id args T r T2 :=
  AC.introB Try.func76 ok rfl rok ha h
end R15_numbers
namespace R15_has
/-- instar/instarref15.has -/
abbrev id : FuncId := 77
abbrev nt : Nat := 20
def code : ACode := .seq (.reg [⟨some 4, .mv (.c (.bool false)), none⟩]) (.seq (.reg [⟨some 7, .mv (.t 0), none⟩, ⟨some 8, .call 73 [.t 7], none⟩, ⟨some 5, .mv (.t 8), none⟩]) (.seq (.seq (.reg [⟨some 6, .mv (.c (.int .i64 0)), none⟩]) (.block 0 (.loop (.seq (.seq (.reg [⟨some 9, .mv (.t 6), none⟩, ⟨some 10, .mv (.t 5), none⟩, ⟨some 11, .lenS (.t 10), none⟩, ⟨some 12, .bin .lss (.t 9) (.t 11), none⟩]) (.cond (.t 12) .skip (.exit 0))) (.seq (.block 1 (.seq (.reg [⟨some 15, .mv (.t 5), none⟩, ⟨some 16, .mv (.t 6), none⟩, ⟨some 17, .ixS (.t 15) (.t 16), none⟩, ⟨some 18, .mv (.t 1), none⟩, ⟨some 19, .bin .eql (.t 17) (.t 18), none⟩]) (.cond (.t 19) (.seq (.reg [⟨some 4, .mv (.c (.bool true)), none⟩]) .ret) .skip))) (.reg [⟨some 13, .mv (.t 6), none⟩, ⟨some 14, .bin .add (.t 13) (.c (.int .i64 1)), none⟩, ⟨some 6, .mv (.t 14), none⟩])))))) (.seq (.reg [⟨some 4, .mv (.c (.bool false)), none⟩]) .ret)))
def res : List RItem := [.t 4]
theorem ok : Option.bind Try.f77.body (cCode P Try.f77.ntmps) = some code := by kernel_rfl
theorem rok : cRes P Try.f77.results.toList = some res := by kernel_rfl
theorem intro {args : List AV} {T T2 : Tab} {r : AV} (ha : (Nat.ble args.length nt && Nat.ble T.length 4) = true) (h : Run P nt [.code code] (argEnv 0 args) T (RetQ res T T2 r)) : AC P id args T r T2 :=
  AC.introB Try.func77 ok rfl rok ha h
end R15_has
namespace R12_Right
/-- instar/instarref12.Right -/
abbrev id : FuncId := 78
abbrev nt : Nat := 15
def code : ACode := .seq (.reg [⟨some 1, .box (.t 0), none⟩, ⟨some 2, .mv (.c (.bool false)), none⟩]) (.seq (.reg [⟨some 8, .ld 5 true (.t 1), none⟩, ⟨some 9, .call 113 [.t 8], none⟩, ⟨some 7, .mv (.t 9), none⟩, ⟨some 10, .ext 0 (.t 7), none⟩, ⟨some 11, .ext 1 (.t 7), none⟩, ⟨some 12, .ext 2 (.t 7), none⟩, ⟨some 13, .ext 3 (.t 7), none⟩, ⟨some 3, .mv (.t 10), none⟩, ⟨some 4, .mv (.t 11), none⟩, ⟨some 5, .mv (.t 12), none⟩, ⟨some 6, .mv (.t 13), none⟩]) (.seq (.reg [⟨some 14, .mv (.t 6), none⟩, ⟨some 2, .mv (.t 14), none⟩]) .ret))
def res : List RItem := [.t 2]
theorem ok : Option.bind Try.f78.body (cCode P Try.f78.ntmps) = some code := by kernel_rfl
theorem rok : cRes P Try.f78.results.toList = some res := by kernel_rfl
theorem intro {args : List AV} {T T2 : Tab} {r : AV} (ha : (Nat.ble args.length nt && Nat.ble T.length 4) = true) (h : Run P nt [.code code] (argEnv 0 args) T (RetQ res T T2 r)) : AC P id args T r T2 :=
  AC.introB Try.func78 ok rfl rok ha h
end R12_Right
namespace R12_Has
/-- instar/instarref12.Has -/
abbrev id : FuncId := 79
abbrev nt : Nat := 36
def code : ACode := .seq (.reg [⟨some 2, .box (.t 0), none⟩, ⟨some 3, .box (.t 1), none⟩, ⟨some 4, .mv (.c (.bool false)), none⟩]) (.seq (.reg [⟨some 10, .ld 5 true (.t 2), none⟩, ⟨some 11, .call 113 [.t 10], none⟩, ⟨some 9, .mv (.t 11), none⟩, ⟨some 12, .ext 0 (.t 9), none⟩, ⟨some 13, .ext 1 (.t 9), none⟩, ⟨some 14, .ext 2 (.t 9), none⟩, ⟨some 15, .ext 3 (.t 9), none⟩, ⟨some 5, .mv (.t 12), none⟩, ⟨some 6, .mv (.t 13), none⟩, ⟨some 7, .mv (.t 14), none⟩, ⟨some 8, .mv (.t 15), none⟩]) (.seq (.reg [⟨some 16, .mv (.t 8), none⟩, ⟨some 17, .mv (.t 16), none⟩, ⟨some 18, .fa 0 (.t 3), some (17, true)⟩, ⟨some 19, .ld 1 false (.t 18), some (17, true)⟩, ⟨some 20, .mv (.t 5), some (17, true)⟩, ⟨some 21, .bin .geq (.t 19) (.t 20), some (17, true)⟩, ⟨some 22, .pick (.t 17) (.t 21) (.c (.bool false)), none⟩, ⟨some 23, .mv (.t 22), none⟩, ⟨some 24, .fa 0 (.t 3), some (23, true)⟩, ⟨some 25, .ld 1 false (.t 24), some (23, true)⟩, ⟨some 26, .mv (.t 6), some (23, true)⟩, ⟨some 27, .bin .leq (.t 25) (.t 26), some (23, true)⟩, ⟨some 28, .pick (.t 23) (.t 27) (.c (.bool false)), none⟩, ⟨some 29, .mv (.t 28), none⟩, ⟨some 30, .fa 1 (.t 3), some (29, true)⟩, ⟨some 31, .ld 1 false (.t 30), some (29, true)⟩, ⟨some 32, .lenS (.t 31), some (29, true)⟩, ⟨some 33, .mv (.t 7), some (29, true)⟩, ⟨some 34, .bin .leq (.t 32) (.t 33), some (29, true)⟩, ⟨some 35, .pick (.t 29) (.t 34) (.c (.bool false)), none⟩, ⟨some 4, .mv (.t 35), none⟩]) .ret))
def res : List RItem := [.t 4]
theorem ok : Option.bind Try.f79.body (cCode P Try.f79.ntmps) = some code := by kernel_rfl
theorem rok : cRes P Try.f79.results.toList = some res := by kernel_rfl
theorem intro {args : List AV} {T T2 : Tab} {r : AV} (ha : (Nat.ble args.length nt && Nat.ble T.length 4) = true) (h : Run P nt [.code code] (argEnv 0 args) T (RetQ res T T2 r)) : AC P id args T r T2 :=
  AC.introB Try.func79 ok rfl rok ha h
end R12_Has
namespace slices_Equal_api_Field_api_Field
/-- slices.Equal[[]instar/api.Field,instar/api.Field] -/
abbrev id : FuncId := 90
abbrev nt : Nat := 26
def code : ACode := .seq (.reg [⟨some 4, .mv (.c (.bool false)), none⟩]) (.seq (.seq (.reg [⟨some 6, .mv (.t 0), none⟩, ⟨some 7, .len (.t 6), none⟩, ⟨some 8, .mv (.t 1), none⟩, ⟨some 9, .len (.t 8), none⟩, ⟨some 10, .bin .neq (.t 7) (.t 9), none⟩]) (.cond (.t 10) (.seq (.reg [⟨some 4, .mv (.c (.bool false)), none⟩]) .ret) .skip)) (.seq (.seq (.reg [⟨some 11, .mv (.t 0), none⟩, ⟨some 12, .len (.t 11), none⟩, ⟨some 13, .mv (.c (.int .i64 0)), none⟩]) (.block 0 (.loop (.seq (.reg [⟨some 14, .bin .lss (.t 13) (.t 12), none⟩]) (.seq (.cond (.t 14) .skip (.exit 0)) (.seq (.block 1 (.seq (.reg [⟨some 15, .mv (.t 13), none⟩, ⟨some 5, .mv (.t 15), none⟩]) (.seq (.draw [⟨some 16, .mv (.t 0), none⟩, ⟨some 17, .mv (.t 5), none⟩, ⟨some 18, .ia 5 (.t 16) (.t 17), none⟩, ⟨some 19, .ld 5 true (.t 18), none⟩, ⟨some 20, .mv (.t 1), none⟩, ⟨some 21, .mv (.t 5), none⟩, ⟨some 22, .ia 5 (.t 20) (.t 21), none⟩, ⟨some 23, .ld 5 true (.t 22), none⟩, ⟨some 24, .eqA true 5 [(0, 1), (1, 1), (2, 1), (3, 1), (4, 1)] (.t 19) (.t 23), none⟩] [0, 0, 3, 7, 0, 0, 48, 112, 255]) (.cond (.t 24) (.seq (.reg [⟨some 4, .mv (.c (.bool false)), none⟩]) .ret) .skip)))) (.reg [⟨some 25, .bin .add (.t 13) (.c (.int .i64 1)), none⟩, ⟨some 13, .mv (.t 25), none⟩]))))))) (.seq (.reg [⟨some 4, .mv (.c (.bool true)), none⟩]) .ret)))
def res : List RItem := [.t 4]
theorem ok : Option.bind Try.f90.body (cCode P Try.f90.ntmps) = some code := by kernel_rfl
theorem rok : cRes P Try.f90.results.toList = some res := by kernel_rfl
theorem intro {args : List AV} {T T2 : Tab} {r : AV} (ha : (Nat.ble args.length nt && Nat.ble T.length 4) = true) (h : Run P nt [.code code] (argEnv 0 args) T (RetQ res T T2 r)) : AC P id args T r T2 :=
  AC.introB Try.func90 ok rfl rok ha h
end slices_Equal_api_Field_api_Field
namespace schema_Fine
/-- instar/schema.Fine -/
abbrev id : FuncId := 91
abbrev nt : Nat := 51
def code : ACode := .seq (.reg [⟨some 1, .box (.t 0), none⟩, ⟨some 2, .mv (.c (.bool false)), none⟩]) (.seq (.seq (.reg [⟨some 6, .fa 0 (.t 1), none⟩, ⟨some 7, .ld 1 false (.t 6), none⟩, ⟨some 8, .bin .lss (.t 7) (.c (.int .i64 0)), none⟩, ⟨some 9, .mv (.t 8), none⟩, ⟨some 10, .fa 0 (.t 1), some (9, false)⟩, ⟨some 11, .ld 1 false (.t 10), some (9, false)⟩, ⟨some 12, .bin .gtr (.t 11) (.c (.int .i64 200)), some (9, false)⟩, ⟨some 13, .pick (.t 9) (.c (.bool true)) (.t 12), none⟩, ⟨some 14, .mv (.t 13), none⟩, ⟨some 15, .fa 1 (.t 1), some (14, false)⟩, ⟨some 16, .ld 1 false (.t 15), some (14, false)⟩, ⟨some 17, .len (.t 16), some (14, false)⟩, ⟨some 18, .bin .lss (.t 17) (.c (.int .i64 1)), some (14, false)⟩, ⟨some 19, .pick (.t 14) (.c (.bool true)) (.t 18), none⟩, ⟨some 20, .mv (.t 19), none⟩, ⟨some 21, .fa 1 (.t 1), some (20, false)⟩, ⟨some 22, .ld 1 false (.t 21), some (20, false)⟩, ⟨some 23, .len (.t 22), some (20, false)⟩, ⟨some 24, .bin .gtr (.t 23) (.c (.int .i64 8)), some (20, false)⟩, ⟨some 25, .pick (.t 20) (.c (.bool true)) (.t 24), none⟩, ⟨some 26, .mv (.t 25), none⟩, ⟨some 27, .ld 2 true (.t 1), some (26, false)⟩, ⟨some 28, .call 124 [.t 27], some (26, false)⟩, ⟨some 29, .bin .gtr (.t 28) (.c (.int .i64 64)), some (26, false)⟩, ⟨some 30, .pick (.t 26) (.c (.bool true)) (.t 29), none⟩]) (.cond (.t 30) (.seq (.reg [⟨some 2, .mv (.c (.bool false)), none⟩]) .ret) .skip)) (.seq (.reg [⟨some 3, .allocA 256 (.bool false), none⟩]) (.seq (.seq (.reg [⟨some 31, .fa 1 (.t 1), none⟩, ⟨some 32, .ld 1 false (.t 31), none⟩, ⟨some 33, .len (.t 32), none⟩, ⟨some 34, .mv (.c (.int .i64 0)), none⟩]) (.block 0 (.loop (.seq (.reg [⟨some 35, .bin .lss (.t 34) (.t 33), none⟩]) (.seq (.cond (.t 35) .skip (.exit 0)) (.seq (.block 1 (.seq (.reg [⟨some 36, .ia 5 (.t 32) (.t 34), none⟩, ⟨some 37, .ld 5 true (.t 36), none⟩, ⟨some 5, .alloc [.int .i64 0, .int .i64 0, .int .i64 0, .int .i64 0, .int .i64 0], none⟩, ⟨none, .st 5 (.t 5) (.t 37), none⟩]) (.seq (.seq (.reg [⟨some 38, .ld 5 true (.t 5), none⟩, ⟨some 39, .call 127 [.t 38], none⟩, ⟨some 40, .not (.t 39), none⟩, ⟨some 41, .mv (.t 40), none⟩, ⟨some 42, .fa 0 (.t 5), some (41, false)⟩, ⟨some 43, .ld 1 false (.t 42), some (41, false)⟩, ⟨some 44, .iaA 256 1 (.t 3) (.t 43), some (41, false)⟩, ⟨some 45, .ld 1 false (.t 44), some (41, false)⟩, ⟨some 46, .pick (.t 41) (.c (.bool true)) (.t 45), none⟩]) (.cond (.t 46) (.seq (.reg [⟨some 2, .mv (.c (.bool false)), none⟩]) .ret) .skip)) (.reg [⟨some 47, .fa 0 (.t 5), none⟩, ⟨some 48, .ld 1 false (.t 47), none⟩, ⟨some 49, .iaA 256 1 (.t 3) (.t 48), none⟩, ⟨none, .st 1 (.t 49) (.c (.bool true)), none⟩])))) (.reg [⟨some 50, .bin .add (.t 34) (.c (.int .i64 1)), none⟩, ⟨some 34, .mv (.t 50), none⟩]))))))) (.seq (.reg [⟨some 2, .mv (.c (.bool true)), none⟩]) .ret))))
def res : List RItem := [.t 2]
theorem ok : Option.bind Try.f91.body (cCode P Try.f91.ntmps) = some code := by kernel_rfl
theorem rok : cRes P Try.f91.results.toList = some res := by kernel_rfl
theorem intro {args : List AV} {T T2 : Tab} {r : AV} (ha : (Nat.ble args.length nt && Nat.ble T.length 4) = true) (h : Run P nt [.code code] (argEnv 0 args) T (RetQ res T T2 r)) : AC P id args T r T2 :=
  AC.introB Try.func91 ok rfl rok ha h
end schema_Fine
namespace step_uses
/-- instar/step.uses -/
abbrev id : FuncId := 92
abbrev nt : Nat := 52
def code : ACode := .seq (.reg [⟨some 2, .mv (.c (.slice none 0 0)), none⟩]) (.seq (.seq (.reg [⟨some 3, .mv (.t 0), none⟩]) (.block 0 (.seq (.seq (.reg [⟨some 5, .bin .eql (.t 3) (.c (.int .i64 1)), none⟩, ⟨some 4, .mv (.t 5), none⟩]) (.cond (.t 4) .skip (.reg [⟨some 6, .bin .eql (.t 3) (.c (.int .i64 22)), none⟩, ⟨some 4, .mv (.t 6), none⟩]))) (.cond (.t 4) (.seq (.reg [⟨some 7, .bsl 1 [.c (.int .i64 0), .c (.int .i64 2), .c (.int .i64 6), .c (.int .i64 7)], none⟩, ⟨some 2, .mv (.t 7), none⟩]) .ret) (.seq (.reg [⟨some 9, .bin .eql (.t 3) (.c (.int .i64 2)), none⟩, ⟨some 8, .mv (.t 9), none⟩]) (.cond (.t 8) (.seq (.reg [⟨some 10, .bsl 1 [.c (.int .i64 0), .c (.int .i64 1), .c (.int .i64 7)], none⟩, ⟨some 2, .mv (.t 10), none⟩]) .ret) (.seq (.seq (.reg [⟨some 12, .bin .eql (.t 3) (.c (.int .i64 3)), none⟩, ⟨some 11, .mv (.t 12), none⟩]) (.cond (.t 11) .skip (.reg [⟨some 13, .bin .eql (.t 3) (.c (.int .i64 23)), none⟩, ⟨some 11, .mv (.t 13), none⟩]))) (.cond (.t 11) (.seq (.reg [⟨some 14, .bsl 1 [.c (.int .i64 0), .c (.int .i64 1), .c (.int .i64 6)], none⟩, ⟨some 2, .mv (.t 14), none⟩]) .ret) (.seq (.reg [⟨some 16, .bin .eql (.t 3) (.c (.int .i64 4)), none⟩, ⟨some 15, .mv (.t 16), none⟩]) (.cond (.t 15) (.seq (.reg [⟨some 17, .bsl 1 [.c (.int .i64 0), .c (.int .i64 1), .c (.int .i64 5)], none⟩, ⟨some 2, .mv (.t 17), none⟩]) .ret) (.seq (.reg [⟨some 19, .bin .eql (.t 3) (.c (.int .i64 24)), none⟩, ⟨some 18, .mv (.t 19), none⟩]) (.cond (.t 18) (.seq (.reg [⟨some 20, .bsl 1 [.c (.int .i64 0), .c (.int .i64 1), .c (.int .i64 5), .c (.int .i64 6)], none⟩, ⟨some 2, .mv (.t 20), none⟩]) .ret) (.seq (.reg [⟨some 22, .bin .eql (.t 3) (.c (.int .i64 5)), none⟩, ⟨some 21, .mv (.t 22), none⟩]) (.cond (.t 21) (.seq (.reg [⟨some 23, .bsl 1 [.c (.int .i64 0), .c (.int .i64 1), .c (.int .i64 4), .c (.int .i64 8)], none⟩, ⟨some 2, .mv (.t 23), none⟩]) .ret) (.seq (.reg [⟨some 25, .bin .eql (.t 3) (.c (.int .i64 25)), none⟩, ⟨some 24, .mv (.t 25), none⟩]) (.cond (.t 24) (.seq (.reg [⟨some 26, .bsl 1 [.c (.int .i64 0), .c (.int .i64 1), .c (.int .i64 8)], none⟩, ⟨some 2, .mv (.t 26), none⟩]) .ret) (.seq (.reg [⟨some 28, .bin .eql (.t 3) (.c (.int .i64 6)), none⟩, ⟨some 27, .mv (.t 28), none⟩]) (.cond (.t 27) (.seq (.reg [⟨some 29, .bsl 1 [.c (.int .i64 0), .c (.int .i64 1), .c (.int .i64 4), .c (.int .i64 3)], none⟩, ⟨some 2, .mv (.t 29), none⟩]) .ret) (.seq (.reg [⟨some 31, .bin .eql (.t 3) (.c (.int .i64 26)), none⟩, ⟨some 30, .mv (.t 31), none⟩]) (.cond (.t 30) (.seq (.reg [⟨some 32, .bsl 1 [.c (.int .i64 0), .c (.int .i64 1), .c (.int .i64 4), .c (.int .i64 3), .c (.int .i64 6)], none⟩, ⟨some 2, .mv (.t 32), none⟩]) .ret) (.seq (.seq (.reg [⟨some 34, .bin .eql (.t 3) (.c (.int .i64 7)), none⟩, ⟨some 33, .mv (.t 34), none⟩]) (.cond (.t 33) .skip (.reg [⟨some 35, .bin .eql (.t 3) (.c (.int .i64 27)), none⟩, ⟨some 33, .mv (.t 35), none⟩]))) (.cond (.t 33) (.seq (.reg [⟨some 36, .bsl 1 [.c (.int .i64 0), .c (.int .i64 1), .c (.int .i64 2)], none⟩, ⟨some 2, .mv (.t 36), none⟩]) .ret) (.seq (.seq (.reg [⟨some 38, .bin .eql (.t 3) (.c (.int .i64 8)), none⟩, ⟨some 37, .mv (.t 38), none⟩]) (.cond (.t 37) .skip (.reg [⟨some 39, .bin .eql (.t 3) (.c (.int .i64 28)), none⟩, ⟨some 37, .mv (.t 39), none⟩]))) (.cond (.t 37) (.seq (.reg [⟨some 40, .bsl 1 [.c (.int .i64 0), .c (.int .i64 1), .c (.int .i64 3)], none⟩, ⟨some 2, .mv (.t 40), none⟩]) .ret) (.seq (.seq (.reg [⟨some 42, .bin .eql (.t 3) (.c (.int .i64 9)), none⟩, ⟨some 41, .mv (.t 42), none⟩]) (.cond (.t 41) .skip (.reg [⟨some 43, .bin .eql (.t 3) (.c (.int .i64 30)), none⟩, ⟨some 41, .mv (.t 43), none⟩]))) (.cond (.t 41) (.seq (.reg [⟨some 44, .bsl 1 [.c (.int .i64 0), .c (.int .i64 9)], none⟩, ⟨some 2, .mv (.t 44), none⟩]) .ret) (.seq (.seq (.reg [⟨some 46, .bin .eql (.t 3) (.c (.int .i64 10)), none⟩, ⟨some 45, .mv (.t 46), none⟩]) (.cond (.t 45) .skip (.reg [⟨some 47, .bin .eql (.t 3) (.c (.int .i64 29)), none⟩, ⟨some 45, .mv (.t 47), none⟩]))) (.cond (.t 45) (.seq (.reg [⟨some 48, .bsl 1 [.c (.int .i64 0)], none⟩, ⟨some 2, .mv (.t 48), none⟩]) .ret) (.seq (.reg [⟨some 50, .bin .eql (.t 3) (.c (.int .i64 21)), none⟩, ⟨some 49, .mv (.t 50), none⟩]) (.cond (.t 49) (.seq (.reg [⟨some 51, .bsl 1 [.c (.int .i64 0), .c (.int .i64 1)], none⟩, ⟨some 2, .mv (.t 51), none⟩]) .ret) .skip)))))))))))))))))))))))))))))) (.seq (.reg [⟨some 2, .mv (.c (.slice none 0 0)), none⟩]) .ret))
def res : List RItem := [.t 2]
theorem ok : Option.bind Try.f92.body (cCode P Try.f92.ntmps) = some code := by kernel_rfl
theorem rok : cRes P Try.f92.results.toList = some res := by kernel_rfl
theorem intro {args : List AV} {T T2 : Tab} {r : AV} (ha : (Nat.ble args.length nt && Nat.ble T.length 4) = true) (h : Run P nt [.code code] (argEnv 0 args) T (RetQ res T T2 r)) : AC P id args T r T2 :=
  AC.introB Try.func92 ok rfl rok ha h
end step_uses
namespace step_fits
/-- instar/step.fits -/
abbrev id : FuncId := 93
abbrev nt : Nat := 133
def code : ACode := .seq (.reg [⟨some 2, .box (.t 0), none⟩, ⟨some 4, .mv (.c (.bool false)), none⟩]) (.seq (.seq (.reg [⟨some 6, .mv (.t 1), none⟩]) (.block 0 (.seq (.reg [⟨some 8, .bin .eql (.t 6) (.c (.int .i64 0)), none⟩, ⟨some 7, .mv (.t 8), none⟩]) (.cond (.t 7) (.seq (.reg [⟨some 9, .fa 1 (.t 2), none⟩, ⟨some 10, .ld 1 false (.t 9), none⟩, ⟨some 11, .call 128 [.t 10, .c (.int .i64 0), .c (.int .i64 200)], none⟩, ⟨some 4, .mv (.t 11), none⟩]) .ret) (.seq (.reg [⟨some 13, .bin .eql (.t 6) (.c (.int .i64 1)), none⟩, ⟨some 12, .mv (.t 13), none⟩]) (.cond (.t 12) (.seq (.reg [⟨some 14, .fa 2 (.t 2), none⟩, ⟨some 15, .ld 1 false (.t 14), none⟩, ⟨some 16, .call 128 [.t 15, .c (.int .i64 0), .c (.int .i64 255)], none⟩, ⟨some 4, .mv (.t 16), none⟩]) .ret) (.seq (.reg [⟨some 18, .bin .eql (.t 6) (.c (.int .i64 2)), none⟩, ⟨some 17, .mv (.t 18), none⟩]) (.cond (.t 17) (.seq (.reg [⟨some 19, .fa 3 (.t 2), none⟩, ⟨some 20, .ld 1 false (.t 19), none⟩, ⟨some 21, .call 128 [.t 20, .c (.int .i64 0), .c (.int .i64 8)], none⟩, ⟨some 4, .mv (.t 21), none⟩]) .ret) (.seq (.reg [⟨some 23, .bin .eql (.t 6) (.c (.int .i64 3)), none⟩, ⟨some 22, .mv (.t 23), none⟩]) (.cond (.t 22) (.seq (.reg [⟨some 24, .fa 4 (.t 2), none⟩, ⟨some 25, .ld 1 false (.t 24), none⟩, ⟨some 26, .call 128 [.t 25, .c (.int .i64 0), .c (.int .i64 255)], none⟩, ⟨some 27, .mv (.t 26), none⟩, ⟨some 28, .fa 4 (.t 2), some (27, true)⟩, ⟨some 29, .ld 1 false (.t 28), some (27, true)⟩, ⟨some 30, .fa 2 (.t 2), some (27, true)⟩, ⟨some 31, .ld 1 false (.t 30), some (27, true)⟩, ⟨some 32, .bin .neq (.t 29) (.t 31), some (27, true)⟩, ⟨some 33, .pick (.t 27) (.t 32) (.c (.bool false)), none⟩, ⟨some 4, .mv (.t 33), none⟩]) .ret) (.seq (.reg [⟨some 35, .bin .eql (.t 6) (.c (.int .i64 4)), none⟩, ⟨some 34, .mv (.t 35), none⟩]) (.cond (.t 34) (.seq (.reg [⟨some 36, .fa 0 (.t 2), none⟩, ⟨some 37, .ld 1 false (.t 36), none⟩, ⟨some 38, .bin .eql (.t 37) (.c (.int .i64 5)), none⟩, ⟨some 39, .mv (.t 38), none⟩, ⟨some 40, .fa 5 (.t 2), some (39, true)⟩, ⟨some 41, .ld 1 false (.t 40), some (39, true)⟩, ⟨some 42, .call 128 [.t 41, .c (.int .i64 1), .c (.int .i64 1000)], some (39, true)⟩, ⟨some 43, .pick (.t 39) (.t 42) (.c (.bool false)), none⟩, ⟨some 44, .mv (.t 43), none⟩, ⟨some 45, .fa 0 (.t 2), some (44, false)⟩, ⟨some 46, .ld 1 false (.t 45), some (44, false)⟩, ⟨some 47, .bin .neq (.t 46) (.c (.int .i64 5)), some (44, false)⟩, ⟨some 48, .mv (.t 47), some (44, false)⟩, ⟨some 49, .fa 5 (.t 2), some (48, true)⟩, ⟨some 50, .ld 1 false (.t 49), some (48, true)⟩, ⟨some 51, .call 128 [.t 50, .c (.int .i64 2), .c (.int .i64 1048576)], some (48, true)⟩, ⟨some 52, .pick (.t 48) (.t 51) (.c (.bool false)), some (44, false)⟩, ⟨some 53, .pick (.t 44) (.c (.bool true)) (.t 52), none⟩, ⟨some 4, .mv (.t 53), none⟩]) .ret) (.seq (.reg [⟨some 55, .bin .eql (.t 6) (.c (.int .i64 5)), none⟩, ⟨some 54, .mv (.t 55), none⟩]) (.cond (.t 54) (.seq (.reg [⟨some 56, .fa 5 (.t 2), none⟩, ⟨some 57, .ld 1 false (.t 56), none⟩, ⟨some 58, .call 128 [.t 57, .c (.int .i64 (-1048576)), .c (.int .i64 1048576)], none⟩, ⟨some 59, .mv (.t 58), none⟩, ⟨some 60, .fa 5 (.t 2), some (59, true)⟩, ⟨some 61, .ld 1 false (.t 60), some (59, true)⟩, ⟨some 62, .bin .neq (.t 61) (.c (.int .i64 0)), some (59, true)⟩, ⟨some 63, .pick (.t 59) (.t 62) (.c (.bool false)), none⟩, ⟨some 64, .mv (.t 63), none⟩, ⟨some 65, .fa 6 (.t 2), some (64, true)⟩, ⟨some 66, .ld 1 false (.t 65), some (64, true)⟩, ⟨some 67, .call 128 [.t 66, .c (.int .i64 (-1099511627776)), .c (.int .i64 1099511627776)], some (64, true)⟩, ⟨some 68, .pick (.t 64) (.t 67) (.c (.bool false)), none⟩, ⟨some 4, .mv (.t 68), none⟩]) .ret) (.seq (.reg [⟨some 70, .bin .eql (.t 6) (.c (.int .i64 6)), none⟩, ⟨some 69, .mv (.t 70), none⟩]) (.cond (.t 69) (.seq (.reg [⟨some 71, .fa 0 (.t 2), none⟩, ⟨some 72, .ld 1 false (.t 71), none⟩, ⟨some 73, .bin .eql (.t 72) (.c (.int .i64 1)), none⟩, ⟨some 74, .mv (.t 73), none⟩, ⟨some 75, .fa 0 (.t 2), some (74, false)⟩, ⟨some 76, .ld 1 false (.t 75), some (74, false)⟩, ⟨some 77, .bin .eql (.t 76) (.c (.int .i64 22)), some (74, false)⟩, ⟨some 78, .pick (.t 74) (.c (.bool true)) (.t 77), none⟩, ⟨some 79, .mv (.t 78), none⟩, ⟨some 80, .fa 7 (.t 2), some (79, false)⟩, ⟨some 81, .fa 0 (.t 80), some (79, false)⟩, ⟨some 82, .ld 1 false (.t 81), some (79, false)⟩, ⟨some 83, .fa 2 (.t 2), some (79, false)⟩, ⟨some 84, .ld 1 false (.t 83), some (79, false)⟩, ⟨some 85, .bin .eql (.t 82) (.t 84), some (79, false)⟩, ⟨some 86, .pick (.t 79) (.c (.bool true)) (.t 85), none⟩, ⟨some 5, .mv (.t 86), none⟩]) (.seq (.reg [⟨some 87, .fa 7 (.t 2), none⟩, ⟨some 88, .ld 5 true (.t 87), none⟩, ⟨some 89, .call 127 [.t 88], none⟩, ⟨some 90, .mv (.t 89), none⟩, ⟨some 91, .mv (.t 5), some (90, true)⟩, ⟨some 92, .pick (.t 90) (.t 91) (.c (.bool false)), none⟩, ⟨some 4, .mv (.t 92), none⟩]) .ret)) (.seq (.reg [⟨some 94, .bin .eql (.t 6) (.c (.int .i64 7)), none⟩, ⟨some 93, .mv (.t 94), none⟩]) (.cond (.t 93) (.seq (.seq (.reg [⟨some 95, .fa 0 (.t 2), none⟩, ⟨some 96, .ld 1 false (.t 95), none⟩, ⟨some 97, .bin .eql (.t 96) (.c (.int .i64 2)), none⟩]) (.cond (.t 97) (.seq (.reg [⟨some 98, .fa 12 (.t 2), none⟩, ⟨some 99, .fa 0 (.t 98), none⟩, ⟨some 100, .ld 1 false (.t 99), none⟩, ⟨some 101, .call 128 [.t 100, .c (.int .i64 (-1099511627776)), .c (.int .i64 1099511627776)], none⟩, ⟨some 102, .mv (.t 101), none⟩, ⟨some 103, .fa 12 (.t 2), some (102, true)⟩, ⟨some 104, .fa 1 (.t 103), some (102, true)⟩, ⟨some 105, .ld 1 false (.t 104), some (102, true)⟩, ⟨some 106, .lenS (.t 105), some (102, true)⟩, ⟨some 107, .bin .leq (.t 106) (.c (.int .i64 32)), some (102, true)⟩, ⟨some 108, .pick (.t 102) (.t 107) (.c (.bool false)), none⟩, ⟨some 4, .mv (.t 108), none⟩]) .ret) .skip)) (.seq (.reg [⟨some 109, .fa 7 (.t 2), none⟩, ⟨some 110, .ld 5 true (.t 109), none⟩, ⟨some 111, .fa 12 (.t 2), none⟩, ⟨some 112, .ld 2 true (.t 111), none⟩, ⟨some 113, .call 120 [.t 110, .t 112], none⟩, ⟨some 4, .mv (.t 113), none⟩]) .ret)) (.seq (.reg [⟨some 115, .bin .eql (.t 6) (.c (.int .i64 8)), none⟩, ⟨some 114, .mv (.t 115), none⟩]) (.cond (.t 114) (.seq (.seq (.reg [⟨some 116, .fa 0 (.t 2), none⟩, ⟨some 117, .ld 1 false (.t 116), none⟩, ⟨some 118, .bin .eql (.t 117) (.c (.int .i64 5)), none⟩]) (.cond (.t 118) (.seq (.reg [⟨some 119, .fa 14 (.t 2), none⟩, ⟨some 120, .ld 1 false (.t 119), none⟩, ⟨some 121, .fa 5 (.t 2), none⟩, ⟨some 122, .ld 1 false (.t 121), none⟩, ⟨some 123, .call 129 [.t 120, .t 122], none⟩, ⟨some 4, .mv (.t 123), none⟩]) .ret) .skip)) (.seq (.reg [⟨some 124, .fa 14 (.t 2), none⟩, ⟨some 125, .ld 1 false (.t 124), none⟩, ⟨some 126, .call 129 [.t 125, .c (.int .i64 1000)], none⟩, ⟨some 4, .mv (.t 126), none⟩]) .ret)) .skip)))))))))))))))))))) (.seq (.reg [⟨some 127, .fa 1 (.t 2), none⟩, ⟨some 128, .ld 1 false (.t 127), none⟩, ⟨some 129, .fa 15 (.t 2), none⟩, ⟨some 130, .ld 1 false (.t 129), none⟩, ⟨some 131, .bld [.int .i64 0, .slice none 0 0] [(0, 1, .t 128), (1, 1, .t 130)], none⟩, ⟨some 132, .call 91 [.t 131], none⟩, ⟨some 4, .mv (.t 132), none⟩]) .ret))
def res : List RItem := [.t 4]
theorem ok : Option.bind Try.f93.body (cCode P Try.f93.ntmps) = some code := by kernel_rfl
theorem rok : cRes P Try.f93.results.toList = some res := by kernel_rfl
theorem intro {args : List AV} {T T2 : Tab} {r : AV} (ha : (Nat.ble args.length nt && Nat.ble T.length 4) = true) (h : Run P nt [.code code] (argEnv 0 args) T (RetQ res T T2 r)) : AC P id args T r T2 :=
  AC.introB Try.func93 ok rfl rok ha h
end step_fits
namespace step_only
/-- instar/step.only -/
abbrev id : FuncId := 94
abbrev nt : Nat := 70
def code : ACode := .seq (.reg [⟨some 1, .box (.t 0), none⟩, ⟨some 2, .alloc [.int .i64 0, .int .i64 0, .int .i64 0, .int .i64 0, .int .i64 0, .int .i64 0, .int .i64 0, .int .i64 0, .int .i64 0, .int .i64 0, .int .i64 0, .int .i64 0, .int .i64 0, .string { data := { toList := [] } }, .slice none 0 0, .slice none 0 0], none⟩]) (.seq (.reg [⟨some 6, .fa 0 (.t 1), none⟩, ⟨some 7, .ld 1 false (.t 6), none⟩, ⟨some 8, .bld [.int .i64 0, .int .i64 0, .int .i64 0, .int .i64 0, .int .i64 0, .int .i64 0, .int .i64 0, .int .i64 0, .int .i64 0, .int .i64 0, .int .i64 0, .int .i64 0, .int .i64 0, .string { data := { toList := [] } }, .slice none 0 0, .slice none 0 0] [(0, 1, .t 7)], none⟩, ⟨some 3, .alloc [.int .i64 0, .int .i64 0, .int .i64 0, .int .i64 0, .int .i64 0, .int .i64 0, .int .i64 0, .int .i64 0, .int .i64 0, .int .i64 0, .int .i64 0, .int .i64 0, .int .i64 0, .string { data := { toList := [] } }, .slice none 0 0, .slice none 0 0], none⟩, ⟨none, .st 16 (.t 3) (.t 8), none⟩]) (.seq (.seq (.reg [⟨some 9, .fa 0 (.t 1), none⟩, ⟨some 10, .ld 1 false (.t 9), none⟩, ⟨some 11, .call 92 [.t 10], none⟩, ⟨some 12, .len (.t 11), none⟩, ⟨some 13, .mv (.c (.int .i64 0)), none⟩]) (.block 0 (.loop (.seq (.reg [⟨some 14, .bin .lss (.t 13) (.t 12), none⟩]) (.seq (.cond (.t 14) .skip (.exit 0)) (.seq (.block 1 (.seq (.reg [⟨some 15, .ia 1 (.t 11) (.t 13), none⟩, ⟨some 16, .ld 1 false (.t 15), none⟩, ⟨some 5, .mv (.t 16), none⟩]) (.seq (.reg [⟨some 17, .mv (.t 5), none⟩]) (.block 2 (.seq (.block 12 (.seq (.block 11 (.seq (.block 10 (.seq (.block 9 (.seq (.block 8 (.seq (.block 7 (.seq (.block 6 (.seq (.block 5 (.seq (.block 4 (.seq (.block 3 (.seq (.seq (.seq (.reg [⟨some 19, .bin .eql (.t 17) (.c (.int .i64 0)), none⟩, ⟨some 18, .mv (.t 19), none⟩]) (.cond (.t 18) (.exit 3) .skip)) (.seq (.seq (.reg [⟨some 21, .bin .eql (.t 17) (.c (.int .i64 1)), none⟩, ⟨some 20, .mv (.t 21), none⟩]) (.cond (.t 20) (.exit 4) .skip)) (.seq (.seq (.reg [⟨some 23, .bin .eql (.t 17) (.c (.int .i64 2)), none⟩, ⟨some 22, .mv (.t 23), none⟩]) (.cond (.t 22) (.exit 5) .skip)) (.seq (.seq (.reg [⟨some 25, .bin .eql (.t 17) (.c (.int .i64 3)), none⟩, ⟨some 24, .mv (.t 25), none⟩]) (.cond (.t 24) (.exit 6) .skip)) (.seq (.seq (.reg [⟨some 27, .bin .eql (.t 17) (.c (.int .i64 5)), none⟩, ⟨some 26, .mv (.t 27), none⟩]) (.cond (.t 26) (.exit 7) .skip)) (.seq (.seq (.reg [⟨some 29, .bin .eql (.t 17) (.c (.int .i64 4)), none⟩, ⟨some 28, .mv (.t 29), none⟩]) (.cond (.t 28) (.exit 8) .skip)) (.seq (.seq (.reg [⟨some 31, .bin .eql (.t 17) (.c (.int .i64 6)), none⟩, ⟨some 30, .mv (.t 31), none⟩]) (.cond (.t 30) (.exit 9) .skip)) (.seq (.seq (.reg [⟨some 33, .bin .eql (.t 17) (.c (.int .i64 7)), none⟩, ⟨some 32, .mv (.t 33), none⟩]) (.cond (.t 32) (.exit 10) .skip)) (.seq (.seq (.reg [⟨some 35, .bin .eql (.t 17) (.c (.int .i64 8)), none⟩, ⟨some 34, .mv (.t 35), none⟩]) (.cond (.t 34) (.exit 11) .skip)) (.seq (.reg [⟨some 37, .bin .eql (.t 17) (.c (.int .i64 9)), none⟩, ⟨some 36, .mv (.t 37), none⟩]) (.cond (.t 36) (.exit 12) .skip))))))))))) (.exit 2))) (.seq (.reg [⟨some 38, .fa 1 (.t 1), none⟩, ⟨some 39, .ld 1 false (.t 38), none⟩, ⟨some 40, .fa 1 (.t 3), none⟩, ⟨none, .st 1 (.t 40) (.t 39), none⟩]) (.exit 2)))) (.seq (.reg [⟨some 41, .fa 2 (.t 1), none⟩, ⟨some 42, .ld 1 false (.t 41), none⟩, ⟨some 43, .fa 2 (.t 3), none⟩, ⟨none, .st 1 (.t 43) (.t 42), none⟩]) (.exit 2)))) (.seq (.reg [⟨some 44, .fa 3 (.t 1), none⟩, ⟨some 45, .ld 1 false (.t 44), none⟩, ⟨some 46, .fa 3 (.t 3), none⟩, ⟨none, .st 1 (.t 46) (.t 45), none⟩]) (.exit 2)))) (.seq (.reg [⟨some 47, .fa 4 (.t 1), none⟩, ⟨some 48, .ld 1 false (.t 47), none⟩, ⟨some 49, .fa 4 (.t 3), none⟩, ⟨none, .st 1 (.t 49) (.t 48), none⟩]) (.exit 2)))) (.reg [⟨some 50, .fa 6 (.t 1), none⟩, ⟨some 51, .ld 1 false (.t 50), none⟩, ⟨some 52, .fa 6 (.t 3), none⟩, ⟨none, .st 1 (.t 52) (.t 51), none⟩]))) (.seq (.reg [⟨some 53, .fa 5 (.t 1), none⟩, ⟨some 54, .ld 1 false (.t 53), none⟩, ⟨some 55, .fa 5 (.t 3), none⟩, ⟨none, .st 1 (.t 55) (.t 54), none⟩]) (.exit 2)))) (.seq (.reg [⟨some 56, .fa 7 (.t 1), none⟩, ⟨some 57, .ld 5 true (.t 56), none⟩, ⟨some 58, .fa 7 (.t 3), none⟩, ⟨none, .st 5 (.t 58) (.t 57), none⟩]) (.exit 2)))) (.seq (.reg [⟨some 59, .fa 12 (.t 1), none⟩, ⟨some 60, .ld 2 true (.t 59), none⟩, ⟨some 61, .fa 12 (.t 3), none⟩, ⟨none, .st 2 (.t 61) (.t 60), none⟩]) (.exit 2)))) (.seq (.reg [⟨some 62, .fa 14 (.t 1), none⟩, ⟨some 63, .ld 1 false (.t 62), none⟩, ⟨some 64, .fa 14 (.t 3), none⟩, ⟨none, .st 1 (.t 64) (.t 63), none⟩]) (.exit 2)))) (.seq (.reg [⟨some 65, .fa 15 (.t 1), none⟩, ⟨some 66, .ld 1 false (.t 65), none⟩, ⟨some 67, .fa 15 (.t 3), none⟩, ⟨none, .st 1 (.t 67) (.t 66), none⟩]) (.exit 2))))))) (.reg [⟨some 68, .bin .add (.t 13) (.c (.int .i64 1)), none⟩, ⟨some 13, .mv (.t 68), none⟩]))))))) (.seq (.reg [⟨some 69, .ld 16 true (.t 3), none⟩, ⟨none, .st 16 (.t 2) (.t 69), none⟩]) .ret)))
def res : List RItem := [.cell 2 16 true]
theorem ok : Option.bind Try.f94.body (cCode P Try.f94.ntmps) = some code := by kernel_rfl
theorem rok : cRes P Try.f94.results.toList = some res := by kernel_rfl
theorem intro {args : List AV} {T T2 : Tab} {r : AV} (ha : (Nat.ble args.length nt && Nat.ble T.length 4) = true) (h : Run P nt [.code code] (argEnv 0 args) T (RetQ res T T2 r)) : AC P id args T r T2 :=
  AC.introB Try.func94 ok rfl rok ha h
end step_only
namespace typing_made_find
/-- (*instar/typing.made).find -/
abbrev id : FuncId := 95
abbrev nt : Nat := 75
def code : ACode := .seq (.reg [⟨some 2, .mv (.c (.bool false)), none⟩]) (.seq (.reg [⟨some 3, .mv (.t 0), none⟩, ⟨some 4, .nilc (.t 3), none⟩, ⟨some 5, .fa 18 (.t 4), none⟩, ⟨none, .st 1 (.t 5) (.c (.int .i64 0)), none⟩]) (.seq (.block 0 (.loop (.seq (.seq (.draw [⟨some 6, .mv (.t 0), none⟩, ⟨some 7, .nilc (.t 6), none⟩, ⟨some 8, .fa 18 (.t 7), none⟩, ⟨some 9, .ld 1 false (.t 8), none⟩, ⟨some 10, .mv (.t 0), none⟩, ⟨some 11, .nilc (.t 10), none⟩, ⟨some 12, .fa 16 (.t 11), none⟩, ⟨some 13, .fa 1 (.t 12), none⟩, ⟨some 14, .ld 1 false (.t 13), none⟩, ⟨some 15, .len (.t 14), none⟩, ⟨some 16, .bin .lss (.t 9) (.t 15), none⟩, ⟨some 17, .mv (.t 16), none⟩, ⟨some 18, .mv (.t 0), some (17, true)⟩, ⟨some 19, .nilc (.t 18), some (17, true)⟩, ⟨some 20, .fa 16 (.t 19), some (17, true)⟩, ⟨some 21, .fa 1 (.t 20), some (17, true)⟩, ⟨some 22, .ld 1 false (.t 21), some (17, true)⟩, ⟨some 23, .mv (.t 0), some (17, true)⟩, ⟨some 24, .nilc (.t 23), some (17, true)⟩, ⟨some 25, .fa 18 (.t 24), some (17, true)⟩, ⟨some 26, .ld 1 false (.t 25), some (17, true)⟩, ⟨some 27, .ia 2 (.t 22) (.t 26), some (17, true)⟩, ⟨some 28, .fa 0 (.t 27), some (17, true)⟩, ⟨some 29, .ld 1 false (.t 28), some (17, true)⟩, ⟨some 30, .mv (.t 0), some (17, true)⟩, ⟨some 31, .nilc (.t 30), some (17, true)⟩, ⟨some 32, .fa 0 (.t 31), some (17, true)⟩, ⟨some 33, .fa 1 (.t 32), some (17, true)⟩, ⟨some 34, .ld 1 false (.t 33), some (17, true)⟩, ⟨some 35, .bin .lss (.t 29) (.t 34), some (17, true)⟩, ⟨some 36, .pick (.t 17) (.t 35) (.c (.bool false)), none⟩] [0, 1, 3, 7, 0, 16, 48, 112, 240, 496, 1023, 2047, 4095, 8191, 16383, 32767, 65535, 4095, 135167, 397311, 921599, 2097151, 4194303, 8388607, 4095, 16781311, 50335743, 117444607, 251662335, 536870911, 1073741823]) (.cond (.t 36) .skip (.exit 0))) (.block 1 (.reg [⟨some 37, .mv (.t 0), none⟩, ⟨some 38, .nilc (.t 37), none⟩, ⟨some 39, .fa 18 (.t 38), none⟩, ⟨some 40, .ld 1 false (.t 39), none⟩, ⟨some 41, .bin .add (.t 40) (.c (.int .i64 1)), none⟩, ⟨some 42, .nilc (.t 37), none⟩, ⟨some 43, .fa 18 (.t 42), none⟩, ⟨none, .st 1 (.t 43) (.t 41), none⟩]))))) (.seq (.draw [⟨some 44, .mv (.t 0), none⟩, ⟨some 45, .nilc (.t 44), none⟩, ⟨some 46, .fa 18 (.t 45), none⟩, ⟨some 47, .ld 1 false (.t 46), none⟩, ⟨some 48, .mv (.t 0), none⟩, ⟨some 49, .nilc (.t 48), none⟩, ⟨some 50, .fa 16 (.t 49), none⟩, ⟨some 51, .fa 1 (.t 50), none⟩, ⟨some 52, .ld 1 false (.t 51), none⟩, ⟨some 53, .len (.t 52), none⟩, ⟨some 54, .bin .lss (.t 47) (.t 53), none⟩, ⟨some 55, .mv (.t 54), none⟩, ⟨some 56, .mv (.t 0), some (55, true)⟩, ⟨some 57, .nilc (.t 56), some (55, true)⟩, ⟨some 58, .fa 16 (.t 57), some (55, true)⟩, ⟨some 59, .fa 1 (.t 58), some (55, true)⟩, ⟨some 60, .ld 1 false (.t 59), some (55, true)⟩, ⟨some 61, .mv (.t 0), some (55, true)⟩, ⟨some 62, .nilc (.t 61), some (55, true)⟩, ⟨some 63, .fa 18 (.t 62), some (55, true)⟩, ⟨some 64, .ld 1 false (.t 63), some (55, true)⟩, ⟨some 65, .ia 2 (.t 60) (.t 64), some (55, true)⟩, ⟨some 66, .fa 0 (.t 65), some (55, true)⟩, ⟨some 67, .ld 1 false (.t 66), some (55, true)⟩, ⟨some 68, .mv (.t 0), some (55, true)⟩, ⟨some 69, .nilc (.t 68), some (55, true)⟩, ⟨some 70, .fa 0 (.t 69), some (55, true)⟩, ⟨some 71, .fa 1 (.t 70), some (55, true)⟩, ⟨some 72, .ld 1 false (.t 71), some (55, true)⟩, ⟨some 73, .bin .eql (.t 67) (.t 72), some (55, true)⟩, ⟨some 74, .pick (.t 55) (.t 73) (.c (.bool false)), none⟩, ⟨some 2, .mv (.t 74), none⟩] [0, 1, 3, 7, 0, 16, 48, 112, 240, 496, 1023, 2047, 4095, 8191, 16383, 32767, 65535, 4095, 135167, 397311, 921599, 2097151, 4194303, 8388607, 4095, 16781311, 50335743, 117444607, 251662335, 536870911, 1073741823, 2147483647]) .ret)))
def res : List RItem := [.t 2]
theorem ok : Option.bind Try.f95.body (cCode P Try.f95.ntmps) = some code := by kernel_rfl
theorem rok : cRes P Try.f95.results.toList = some res := by kernel_rfl
theorem intro {args : List AV} {T T2 : Tab} {r : AV} (ha : (Nat.ble args.length nt && Nat.ble T.length 4) = true) (h : Run P nt [.code code] (argEnv 0 args) T (RetQ res T T2 r)) : AC P id args T r T2 :=
  AC.introB Try.func95 ok rfl rok ha h
end typing_made_find
namespace schema_At
/-- instar/schema.At -/
abbrev id : FuncId := 96
abbrev nt : Nat := 9
def code : ACode := .seq (.reg [⟨some 2, .box (.t 0), none⟩, ⟨some 3, .box (.t 1), none⟩, ⟨some 4, .mv (.c (.int .i64 0)), none⟩]) (.seq (.reg [⟨some 5, .fa 1 (.t 2), none⟩, ⟨some 6, .ld 1 false (.t 5), none⟩, ⟨some 7, .fn 131 [.t 3], none⟩, ⟨some 8, .call 130 [.t 6, .t 7], none⟩, ⟨some 4, .mv (.t 8), none⟩]) .ret)
def res : List RItem := [.t 4]
theorem ok : Option.bind Try.f96.body (cCode P Try.f96.ntmps) = some code := by kernel_rfl
theorem rok : cRes P Try.f96.results.toList = some res := by kernel_rfl
theorem intro {args : List AV} {T T2 : Tab} {r : AV} (ha : (Nat.ble args.length nt && Nat.ble T.length 4) = true) (h : Run P nt [.code code] (argEnv 0 args) T (RetQ res T T2 r)) : AC P id args T r T2 :=
  AC.introB Try.func96 ok rfl rok ha h
end schema_At
namespace typing_made_fields
/-- (*instar/typing.made).fields -/
abbrev id : FuncId := 99
abbrev nt : Nat := 15
def code : ACode := .seq (.reg [⟨some 2, .mv (.c (.slice none 0 0)), none⟩]) (.seq (.draw [⟨some 3, .mv (.t 0), none⟩, ⟨some 4, .nilc (.t 3), none⟩, ⟨some 5, .fa 16 (.t 4), none⟩, ⟨some 6, .fa 1 (.t 5), none⟩, ⟨some 7, .ld 1 false (.t 6), none⟩, ⟨some 8, .mv (.t 0), none⟩, ⟨some 9, .nilc (.t 8), none⟩, ⟨some 10, .fa 18 (.t 9), none⟩, ⟨some 11, .ld 1 false (.t 10), none⟩, ⟨some 12, .ia 2 (.t 7) (.t 11), none⟩, ⟨some 13, .fa 1 (.t 12), none⟩, ⟨some 14, .ld 1 false (.t 13), none⟩, ⟨some 2, .mv (.t 14), none⟩] [0, 1, 3, 7, 15, 0, 32, 96, 224, 511, 1023, 2047, 4095]) .ret)
def res : List RItem := [.t 2]
theorem ok : Option.bind Try.f99.body (cCode P Try.f99.ntmps) = some code := by kernel_rfl
theorem rok : cRes P Try.f99.results.toList = some res := by kernel_rfl
theorem intro {args : List AV} {T T2 : Tab} {r : AV} (ha : (Nat.ble args.length nt && Nat.ble T.length 4) = true) (h : Run P nt [.code code] (argEnv 0 args) T (RetQ res T T2 r)) : AC P id args T r T2 :=
  AC.introB Try.func99 ok rfl rok ha h
end typing_made_fields
namespace typing_made_own
/-- (*instar/typing.made).own -/
abbrev id : FuncId := 100
abbrev nt : Nat := 11
def code : ACode := .seq (.reg [⟨some 2, .alloc [.int .i64 0, .int .i64 0, .int .i64 0, .int .i64 0, .int .i64 0], none⟩]) (.seq (.draw [⟨some 3, .mv (.t 0), none⟩, ⟨some 4, .call 99 [.t 3], none⟩, ⟨some 5, .mv (.t 0), none⟩, ⟨some 6, .nilc (.t 5), none⟩, ⟨some 7, .fa 19 (.t 6), none⟩, ⟨some 8, .ld 1 false (.t 7), none⟩, ⟨some 9, .ia 5 (.t 4) (.t 8), none⟩, ⟨some 10, .ld 5 true (.t 9), none⟩, ⟨none, .st 5 (.t 2) (.t 10), none⟩] [0, 1, 0, 4, 12, 28, 63, 127, 255]) .ret)
def res : List RItem := [.cell 2 5 true]
theorem ok : Option.bind Try.f100.body (cCode P Try.f100.ntmps) = some code := by kernel_rfl
theorem rok : cRes P Try.f100.results.toList = some res := by kernel_rfl
theorem intro {args : List AV} {T T2 : Tab} {r : AV} (ha : (Nat.ble args.length nt && Nat.ble T.length 4) = true) (h : Run P nt [.code code] (argEnv 0 args) T (RetQ res T T2 r)) : AC P id args T r T2 :=
  AC.introB Try.func100 ok rfl rok ha h
end typing_made_own
namespace slices_Insert_api_Field_api_Field
/-- slices.Insert[[]instar/api.Field,instar/api.Field] -/
abbrev id : FuncId := 101
abbrev nt : Nat := 95
def code : ACode := .seq (.reg [⟨some 6, .mv (.c (.slice none 0 0)), none⟩]) (.seq (.reg [⟨some 10, .mv (.t 0), none⟩, ⟨some 11, .mv (.t 1), none⟩, ⟨some 12, .sl 5 (.t 10) (some (.t 11)) none none, none⟩]) (.seq (.reg [⟨some 13, .mv (.t 2), none⟩, ⟨some 14, .len (.t 13), none⟩, ⟨some 7, .mv (.t 14), none⟩]) (.seq (.seq (.reg [⟨some 15, .mv (.t 7), none⟩, ⟨some 16, .bin .eql (.t 15) (.c (.int .i64 0)), none⟩]) (.cond (.t 16) (.seq (.reg [⟨some 17, .mv (.t 0), none⟩, ⟨some 6, .mv (.t 17), none⟩]) .ret) .skip)) (.seq (.reg [⟨some 18, .mv (.t 0), none⟩, ⟨some 19, .len (.t 18), none⟩, ⟨some 8, .mv (.t 19), none⟩]) (.seq (.seq (.reg [⟨some 20, .mv (.t 1), none⟩, ⟨some 21, .mv (.t 8), none⟩, ⟨some 22, .bin .eql (.t 20) (.t 21), none⟩]) (.cond (.t 22) (.seq (.reg [⟨some 23, .mv (.t 0), none⟩, ⟨some 24, .mv (.t 2), none⟩, ⟨some 25, .app 5 40 (.t 23) (.t 24), none⟩, ⟨some 6, .mv (.t 25), none⟩]) .ret) .skip)) (.seq (.seq (.reg [⟨some 26, .mv (.t 8), none⟩, ⟨some 27, .mv (.t 7), none⟩, ⟨some 28, .bin .add (.t 26) (.t 27), none⟩, ⟨some 29, .mv (.t 0), none⟩, ⟨some 30, .cap (.t 29), none⟩, ⟨some 31, .bin .gtr (.t 28) (.t 30), none⟩]) (.cond (.t 31) (.seq (.reg [⟨some 32, .mv (.t 0), none⟩, ⟨some 33, .mv (.t 1), none⟩, ⟨some 34, .sl 5 (.t 32) none (some (.t 33)) none, none⟩, ⟨some 35, .mv (.t 8), none⟩, ⟨some 36, .mv (.t 7), none⟩, ⟨some 37, .bin .add (.t 35) (.t 36), none⟩, ⟨some 38, .mv (.t 1), none⟩, ⟨some 39, .bin .sub (.t 37) (.t 38), none⟩, ⟨some 40, .appz 5 40 [.int .i64 0, .int .i64 0, .int .i64 0, .int .i64 0, .int .i64 0] (.t 34) (.t 39), none⟩, ⟨some 9, .mv (.t 40), none⟩]) (.seq (.reg [⟨some 41, .mv (.t 9), none⟩, ⟨some 42, .mv (.t 1), none⟩, ⟨some 43, .sl 5 (.t 41) (some (.t 42)) none none, none⟩, ⟨some 44, .mv (.t 2), none⟩, ⟨some 45, .copy 5 (.t 43) (.t 44), none⟩]) (.seq (.draw [⟨some 46, .mv (.t 9), none⟩, ⟨some 47, .mv (.t 1), none⟩, ⟨some 48, .mv (.t 7), none⟩, ⟨some 49, .bin .add (.t 47) (.t 48), none⟩, ⟨some 50, .sl 5 (.t 46) (some (.t 49)) none none, none⟩, ⟨some 51, .mv (.t 0), none⟩, ⟨some 52, .mv (.t 1), none⟩, ⟨some 53, .sl 5 (.t 51) (some (.t 52)) none none, none⟩, ⟨some 54, .copy 5 (.t 50) (.t 53), none⟩] [0, 0, 0, 6, 15, 0, 0, 96, 255]) (.seq (.reg [⟨some 55, .mv (.t 9), none⟩, ⟨some 6, .mv (.t 55), none⟩]) .ret)))) .skip)) (.seq (.reg [⟨some 56, .mv (.t 0), none⟩, ⟨some 57, .mv (.t 8), none⟩, ⟨some 58, .mv (.t 7), none⟩, ⟨some 59, .bin .add (.t 57) (.t 58), none⟩, ⟨some 60, .sl 5 (.t 56) none (some (.t 59)) none, none⟩, ⟨some 0, .mv (.t 60), none⟩]) (.seq (.seq (.reg [⟨some 61, .mv (.t 2), none⟩, ⟨some 62, .mv (.t 0), none⟩, ⟨some 63, .mv (.t 1), none⟩, ⟨some 64, .mv (.t 7), none⟩, ⟨some 65, .bin .add (.t 63) (.t 64), none⟩, ⟨some 66, .sl 5 (.t 62) (some (.t 65)) none none, none⟩, ⟨some 67, .ovl 133 (.t 61) (.t 66), none⟩, ⟨some 68, .not (.t 67), none⟩]) (.cond (.t 68) (.seq (.draw [⟨some 69, .mv (.t 0), none⟩, ⟨some 70, .mv (.t 1), none⟩, ⟨some 71, .mv (.t 7), none⟩, ⟨some 72, .bin .add (.t 70) (.t 71), none⟩, ⟨some 73, .sl 5 (.t 69) (some (.t 72)) none none, none⟩, ⟨some 74, .mv (.t 0), none⟩, ⟨some 75, .mv (.t 1), none⟩, ⟨some 76, .sl 5 (.t 74) (some (.t 75)) none none, none⟩, ⟨some 77, .copy 5 (.t 73) (.t 76), none⟩] [0, 0, 0, 6, 15, 0, 0, 96, 255]) (.seq (.reg [⟨some 78, .mv (.t 0), none⟩, ⟨some 79, .mv (.t 1), none⟩, ⟨some 80, .sl 5 (.t 78) (some (.t 79)) none none, none⟩, ⟨some 81, .mv (.t 2), none⟩, ⟨some 82, .copy 5 (.t 80) (.t 81), none⟩]) (.seq (.reg [⟨some 83, .mv (.t 0), none⟩, ⟨some 6, .mv (.t 83), none⟩]) .ret))) .skip)) (.seq (.reg [⟨some 84, .mv (.t 0), none⟩, ⟨some 85, .mv (.t 8), none⟩, ⟨some 86, .sl 5 (.t 84) (some (.t 85)) none none, none⟩, ⟨some 87, .mv (.t 2), none⟩, ⟨some 88, .copy 5 (.t 86) (.t 87), none⟩]) (.seq (.reg [⟨some 89, .mv (.t 0), none⟩, ⟨some 90, .mv (.t 1), none⟩, ⟨some 91, .sl 5 (.t 89) (some (.t 90)) none none, none⟩, ⟨some 92, .mv (.t 7), none⟩, ⟨some 93, .call 134 [.t 91, .t 92], none⟩]) (.seq (.reg [⟨some 94, .mv (.t 0), none⟩, ⟨some 6, .mv (.t 94), none⟩]) .ret)))))))))))
def res : List RItem := [.t 6]
theorem ok : Option.bind Try.f101.body (cCode P Try.f101.ntmps) = some code := by kernel_rfl
theorem rok : cRes P Try.f101.results.toList = some res := by kernel_rfl
theorem intro {args : List AV} {T T2 : Tab} {r : AV} (ha : (Nat.ble args.length nt && Nat.ble T.length 4) = true) (h : Run P nt [.code code] (argEnv 0 args) T (RetQ res T T2 r)) : AC P id args T r T2 :=
  AC.introB Try.func101 ok rfl rok ha h
end slices_Insert_api_Field_api_Field
namespace slices_Delete_api_Field_api_Field
/-- slices.Delete[[]instar/api.Field,instar/api.Field] -/
abbrev id : FuncId := 102
abbrev nt : Nat := 33
def code : ACode := .seq (.reg [⟨some 6, .mv (.c (.slice none 0 0)), none⟩]) (.seq (.reg [⟨some 8, .mv (.t 0), none⟩, ⟨some 9, .mv (.t 1), none⟩, ⟨some 10, .mv (.t 2), none⟩, ⟨some 11, .mv (.t 0), none⟩, ⟨some 12, .len (.t 11), none⟩, ⟨some 13, .sl 5 (.t 8) (some (.t 9)) (some (.t 10)) (some (.t 12)), none⟩]) (.seq (.seq (.reg [⟨some 14, .mv (.t 1), none⟩, ⟨some 15, .mv (.t 2), none⟩, ⟨some 16, .bin .eql (.t 14) (.t 15), none⟩]) (.cond (.t 16) (.seq (.reg [⟨some 17, .mv (.t 0), none⟩, ⟨some 6, .mv (.t 17), none⟩]) .ret) .skip)) (.seq (.reg [⟨some 18, .mv (.t 0), none⟩, ⟨some 19, .len (.t 18), none⟩, ⟨some 7, .mv (.t 19), none⟩]) (.seq (.draw [⟨some 20, .mv (.t 0), none⟩, ⟨some 21, .mv (.t 1), none⟩, ⟨some 22, .sl 5 (.t 20) none (some (.t 21)) none, none⟩, ⟨some 23, .mv (.t 0), none⟩, ⟨some 24, .mv (.t 2), none⟩, ⟨some 25, .sl 5 (.t 23) (some (.t 24)) none none, none⟩, ⟨some 26, .app 5 40 (.t 22) (.t 25), none⟩, ⟨some 0, .mv (.t 26), none⟩] [0, 0, 3, 0, 0, 24, 63, 127]) (.seq (.reg [⟨some 27, .mv (.t 0), none⟩, ⟨some 28, .mv (.t 0), none⟩, ⟨some 29, .len (.t 28), none⟩, ⟨some 30, .mv (.t 7), none⟩, ⟨some 31, .sl 5 (.t 27) (some (.t 29)) (some (.t 30)) none, none⟩, ⟨none, .clr 5 [.int .i64 0, .int .i64 0, .int .i64 0, .int .i64 0, .int .i64 0] (.t 31), none⟩]) (.seq (.reg [⟨some 32, .mv (.t 0), none⟩, ⟨some 6, .mv (.t 32), none⟩]) .ret))))))
def res : List RItem := [.t 6]
theorem ok : Option.bind Try.f102.body (cCode P Try.f102.ntmps) = some code := by kernel_rfl
theorem rok : cRes P Try.f102.results.toList = some res := by kernel_rfl
theorem intro {args : List AV} {T T2 : Tab} {r : AV} (ha : (Nat.ble args.length nt && Nat.ble T.length 4) = true) (h : Run P nt [.code code] (argEnv 0 args) T (RetQ res T T2 r)) : AC P id args T r T2 :=
  AC.introB Try.func102 ok rfl rok ha h
end slices_Delete_api_Field_api_Field
end Go.Proofs.Ytbpcjahjbkiofaa.Fn

set_option maxRecDepth 100000
namespace Go.Proofs.Ytbpcjahjbkiofaa.Fn
open Go Go.Proofs Go.Proofs.Ytbpcjahjbkiofaa.AV
namespace typing_made_turned
/-- (*instar/typing.made).turned -/
abbrev id : FuncId := 103
abbrev nt : Nat := 112
def code : ACode := .seq (.reg [⟨some 2, .mv (.c (.slice none 0 0)), none⟩, ⟨some 3, .mv (.c (.int .i64 0)), none⟩, ⟨some 4, .mv (.c (.bool false)), none⟩]) (.seq (.reg [⟨some 12, .mv (.t 0), none⟩, ⟨some 13, .nilc (.t 12), none⟩, ⟨some 14, .fa 0 (.t 13), none⟩, ⟨some 15, .ld 16 true (.t 14), none⟩, ⟨some 5, .alloc [.int .i64 0, .int .i64 0, .int .i64 0, .int .i64 0, .int .i64 0, .int .i64 0, .int .i64 0, .int .i64 0, .int .i64 0, .int .i64 0, .int .i64 0, .int .i64 0, .int .i64 0, .string { data := { toList := [] } }, .slice none 0 0, .slice none 0 0], none⟩, ⟨none, .st 16 (.t 5) (.t 15), none⟩]) (.seq (.seq (.reg [⟨some 16, .fa 0 (.t 5), none⟩, ⟨some 17, .ld 1 false (.t 16), none⟩, ⟨some 18, .bin .eql (.t 17) (.c (.int .i64 1)), none⟩]) (.cond (.t 18) (.seq (.reg [⟨some 19, .fa 7 (.t 5), none⟩, ⟨some 20, .ld 5 true (.t 19), none⟩, ⟨some 21, .bslF 5 [.t 20], none⟩, ⟨some 2, .mv (.t 21), none⟩, ⟨some 3, .mv (.c (.int .i64 0)), none⟩, ⟨some 4, .mv (.c (.bool true)), none⟩]) .ret) .skip)) (.seq (.reg [⟨some 22, .mv (.t 0), none⟩, ⟨some 23, .call 100 [.t 22], none⟩, ⟨some 6, .alloc [.int .i64 0, .int .i64 0, .int .i64 0, .int .i64 0, .int .i64 0], none⟩, ⟨none, .st 5 (.t 6) (.t 23), none⟩]) (.seq (.seq (.reg [⟨some 24, .fa 0 (.t 5), none⟩, ⟨some 25, .ld 1 false (.t 24), none⟩]) (.block 0 (.seq (.reg [⟨some 27, .bin .eql (.t 25) (.c (.int .i64 2)), none⟩, ⟨some 26, .mv (.t 27), none⟩]) (.cond (.t 26) (.seq (.reg [⟨some 28, .ld 5 true (.t 6), none⟩, ⟨some 29, .fa 12 (.t 5), none⟩, ⟨some 30, .ld 2 true (.t 29), none⟩, ⟨some 31, .call 120 [.t 28, .t 30], none⟩, ⟨some 2, .mv (.c (.slice none 0 0)), none⟩, ⟨some 3, .mv (.c (.int .i64 1)), none⟩, ⟨some 4, .mv (.t 31), none⟩]) .ret) (.seq (.reg [⟨some 33, .bin .eql (.t 25) (.c (.int .i64 3)), none⟩, ⟨some 32, .mv (.t 33), none⟩]) (.cond (.t 32) (.seq (.draw [⟨some 34, .fa 7 (.t 5), none⟩, ⟨some 35, .ld 5 true (.t 34), none⟩, ⟨some 36, .bslF 5 [.t 35], none⟩, ⟨some 37, .ld 5 true (.t 6), none⟩, ⟨some 38, .fa 7 (.t 5), none⟩, ⟨some 39, .ld 5 true (.t 38), none⟩, ⟨some 40, .call 135 [.t 37, .t 39], none⟩, ⟨some 2, .mv (.t 36), none⟩, ⟨some 3, .mv (.c (.int .i64 1)), none⟩, ⟨some 4, .mv (.t 40), none⟩] [0, 1, 3, 0, 0, 16, 56, 127, 255, 511]) .ret) (.seq (.reg [⟨some 42, .bin .eql (.t 25) (.c (.int .i64 4)), none⟩, ⟨some 41, .mv (.t 42), none⟩]) (.cond (.t 41) (.seq (.reg [⟨some 43, .ld 5 true (.t 6), none⟩, ⟨some 7, .alloc [.int .i64 0, .int .i64 0, .int .i64 0, .int .i64 0, .int .i64 0], none⟩, ⟨none, .st 5 (.t 7) (.t 43), none⟩, ⟨some 8, .mv (.c (.bool false)), none⟩]) (.seq (.seq (.reg [⟨some 44, .fa 1 (.t 6), none⟩, ⟨some 45, .ld 1 false (.t 44), none⟩, ⟨some 46, .bin .eql (.t 45) (.c (.int .i64 1)), none⟩]) (.cond (.t 46) (.reg [⟨some 48, .ld 5 true (.t 6), none⟩, ⟨some 49, .fa 5 (.t 5), none⟩, ⟨some 50, .ld 1 false (.t 49), none⟩, ⟨some 51, .fa 6 (.t 5), none⟩, ⟨some 52, .ld 1 false (.t 51), none⟩, ⟨some 53, .call 136 [.t 48, .t 50, .t 52], none⟩, ⟨some 47, .mv (.t 53), none⟩, ⟨some 54, .ext 0 (.t 47), none⟩, ⟨some 55, .ext 1 (.t 47), none⟩, ⟨none, .st 5 (.t 7) (.t 54), none⟩, ⟨some 8, .mv (.t 55), none⟩]) .skip)) (.seq (.reg [⟨some 56, .ld 5 true (.t 7), none⟩, ⟨some 57, .bslF 5 [.t 56], none⟩, ⟨some 58, .mv (.t 8), none⟩, ⟨some 2, .mv (.t 57), none⟩, ⟨some 3, .mv (.c (.int .i64 1)), none⟩, ⟨some 4, .mv (.t 58), none⟩]) .ret))) (.seq (.reg [⟨some 60, .bin .eql (.t 25) (.c (.int .i64 5)), none⟩, ⟨some 59, .mv (.t 60), none⟩]) (.cond (.t 59) (.seq (.reg [⟨some 61, .fa 1 (.t 6), none⟩, ⟨some 62, .ld 1 false (.t 61), none⟩, ⟨some 63, .bin .eql (.t 62) (.c (.int .i64 3)), none⟩, ⟨some 64, .mv (.t 63), none⟩, ⟨some 65, .fa 4 (.t 6), some (64, true)⟩, ⟨some 66, .ld 1 false (.t 65), some (64, true)⟩, ⟨some 67, .fa 14 (.t 5), some (64, true)⟩, ⟨some 68, .ld 1 false (.t 67), some (64, true)⟩, ⟨some 69, .len (.t 68), some (64, true)⟩, ⟨some 70, .bin .eql (.t 66) (.t 69), some (64, true)⟩, ⟨some 71, .pick (.t 64) (.t 70) (.c (.bool false)), none⟩, ⟨some 9, .mv (.t 71), none⟩]) (.seq (.reg [⟨some 72, .fa 5 (.t 5), none⟩, ⟨some 73, .ld 1 false (.t 72), none⟩, ⟨some 74, .fa 4 (.t 6), none⟩, ⟨none, .st 1 (.t 74) (.t 73), none⟩]) (.seq (.reg [⟨some 75, .ld 5 true (.t 6), none⟩, ⟨some 76, .bslF 5 [.t 75], none⟩, ⟨some 77, .mv (.t 9), none⟩, ⟨some 2, .mv (.t 76), none⟩, ⟨some 3, .mv (.c (.int .i64 1)), none⟩, ⟨some 4, .mv (.t 77), none⟩]) .ret))) (.seq (.reg [⟨some 79, .bin .eql (.t 25) (.c (.int .i64 6)), none⟩, ⟨some 78, .mv (.t 79), none⟩]) (.cond (.t 78) (.seq (.reg [⟨some 80, .fa 4 (.t 5), none⟩, ⟨some 81, .ld 1 false (.t 80), none⟩, ⟨some 82, .fa 5 (.t 5), none⟩, ⟨some 83, .ld 1 false (.t 82), none⟩, ⟨some 84, .bin .sub (.t 83) (.c (.int .i64 1)), none⟩, ⟨some 85, .fa 3 (.t 6), none⟩, ⟨some 86, .ld 1 false (.t 85), none⟩, ⟨some 87, .mnmx false (.t 84) (.t 86), none⟩, ⟨some 88, .bld [.int .i64 0, .int .i64 0, .int .i64 0, .int .i64 0, .int .i64 0] [(0, 1, .t 81), (1, 1, .c (.int .i64 1)), (3, 1, .t 87)], none⟩, ⟨some 10, .alloc [.int .i64 0, .int .i64 0, .int .i64 0, .int .i64 0, .int .i64 0], none⟩, ⟨none, .st 5 (.t 10) (.t 88), none⟩]) (.seq (.reg [⟨some 89, .fa 1 (.t 6), none⟩, ⟨some 90, .ld 1 false (.t 89), none⟩, ⟨some 91, .bin .eql (.t 90) (.c (.int .i64 1)), none⟩, ⟨some 92, .mv (.t 91), none⟩, ⟨some 93, .fa 2 (.t 6), some (92, true)⟩, ⟨some 94, .ld 1 false (.t 93), some (92, true)⟩, ⟨some 95, .bin .eql (.t 94) (.c (.int .i64 0)), some (92, true)⟩, ⟨some 96, .pick (.t 92) (.t 95) (.c (.bool false)), none⟩, ⟨some 11, .mv (.t 96), none⟩]) (.seq (.reg [⟨some 97, .fa 3 (.t 6), none⟩, ⟨some 98, .ld 1 false (.t 97), none⟩, ⟨some 99, .fa 5 (.t 5), none⟩, ⟨some 100, .ld 1 false (.t 99), none⟩, ⟨some 101, .bin .quo (.t 98) (.t 100), none⟩, ⟨some 102, .fa 3 (.t 6), none⟩, ⟨none, .st 1 (.t 102) (.t 101), none⟩]) (.seq (.reg [⟨some 103, .ld 5 true (.t 6), none⟩, ⟨some 104, .ld 5 true (.t 10), none⟩, ⟨some 105, .bslF 5 [.t 103, .t 104], none⟩, ⟨some 106, .mv (.t 11), none⟩, ⟨some 2, .mv (.t 105), none⟩, ⟨some 3, .mv (.c (.int .i64 1)), none⟩, ⟨some 4, .mv (.t 106), none⟩]) .ret)))) .skip)))))))))))) (.seq (.reg [⟨some 107, .fa 4 (.t 5), none⟩, ⟨some 108, .ld 1 false (.t 107), none⟩, ⟨some 109, .fa 0 (.t 6), none⟩, ⟨none, .st 1 (.t 109) (.t 108), none⟩]) (.seq (.reg [⟨some 110, .ld 5 true (.t 6), none⟩, ⟨some 111, .bslF 5 [.t 110], none⟩, ⟨some 2, .mv (.t 111), none⟩, ⟨some 3, .mv (.c (.int .i64 1)), none⟩, ⟨some 4, .mv (.c (.bool true)), none⟩]) .ret))))))
def res : List RItem := [.t 2, .t 3, .t 4]
theorem ok : Option.bind Try.f103.body (cCode P Try.f103.ntmps) = some code := by kernel_rfl
theorem rok : cRes P Try.f103.results.toList = some res := by kernel_rfl
theorem intro {args : List AV} {T T2 : Tab} {r : AV} (ha : (Nat.ble args.length nt && Nat.ble T.length 4) = true) (h : Run P nt [.code code] (argEnv 0 args) T (RetQ res T T2 r)) : AC P id args T r T2 :=
  AC.introB Try.func103 ok rfl rok ha h
end typing_made_turned
namespace slices_Replace_api_Field_api_Field
/-- slices.Replace[[]instar/api.Field,instar/api.Field] -/
abbrev id : FuncId := 104
abbrev nt : Nat := 224
def code : ACode := .seq (.reg [⟨some 8, .mv (.c (.slice none 0 0)), none⟩]) (.seq (.reg [⟨some 15, .mv (.t 0), none⟩, ⟨some 16, .mv (.t 1), none⟩, ⟨some 17, .mv (.t 2), none⟩, ⟨some 18, .sl 5 (.t 15) (some (.t 16)) (some (.t 17)) none, none⟩]) (.seq (.seq (.reg [⟨some 19, .mv (.t 1), none⟩, ⟨some 20, .mv (.t 2), none⟩, ⟨some 21, .bin .eql (.t 19) (.t 20), none⟩]) (.cond (.t 21) (.seq (.reg [⟨some 22, .mv (.t 0), none⟩, ⟨some 23, .mv (.t 1), none⟩, ⟨some 24, .mv (.t 3), none⟩, ⟨some 25, .call 101 [.t 22, .t 23, .t 24], none⟩, ⟨some 8, .mv (.t 25), none⟩]) .ret) .skip)) (.seq (.seq (.reg [⟨some 26, .mv (.t 2), none⟩, ⟨some 27, .mv (.t 0), none⟩, ⟨some 28, .len (.t 27), none⟩, ⟨some 29, .bin .eql (.t 26) (.t 28), none⟩]) (.cond (.t 29) (.seq (.reg [⟨some 30, .mv (.t 0), none⟩, ⟨some 31, .mv (.t 1), none⟩, ⟨some 32, .sl 5 (.t 30) none (some (.t 31)) none, none⟩, ⟨some 33, .mv (.t 3), none⟩, ⟨some 34, .app 5 40 (.t 32) (.t 33), none⟩, ⟨some 9, .mv (.t 34), none⟩]) (.seq (.seq (.reg [⟨some 35, .mv (.t 9), none⟩, ⟨some 36, .len (.t 35), none⟩, ⟨some 37, .mv (.t 0), none⟩, ⟨some 38, .len (.t 37), none⟩, ⟨some 39, .bin .lss (.t 36) (.t 38), none⟩]) (.cond (.t 39) (.reg [⟨some 40, .mv (.t 0), none⟩, ⟨some 41, .mv (.t 9), none⟩, ⟨some 42, .len (.t 41), none⟩, ⟨some 43, .sl 5 (.t 40) (some (.t 42)) none none, none⟩, ⟨none, .clr 5 [.int .i64 0, .int .i64 0, .int .i64 0, .int .i64 0, .int .i64 0] (.t 43), none⟩]) .skip)) (.seq (.reg [⟨some 44, .mv (.t 9), none⟩, ⟨some 8, .mv (.t 44), none⟩]) .ret))) .skip)) (.seq (.draw [⟨some 45, .mv (.t 0), none⟩, ⟨some 46, .mv (.t 1), none⟩, ⟨some 47, .sl 5 (.t 45) none (some (.t 46)) none, none⟩, ⟨some 48, .len (.t 47), none⟩, ⟨some 49, .mv (.t 3), none⟩, ⟨some 50, .len (.t 49), none⟩, ⟨some 51, .bin .add (.t 48) (.t 50), none⟩, ⟨some 52, .mv (.t 0), none⟩, ⟨some 53, .mv (.t 2), none⟩, ⟨some 54, .sl 5 (.t 52) (some (.t 53)) none none, none⟩, ⟨some 55, .len (.t 54), none⟩, ⟨some 56, .bin .add (.t 51) (.t 55), none⟩, ⟨some 10, .mv (.t 56), none⟩] [0, 0, 3, 7, 0, 16, 63, 0, 0, 384, 896, 2047, 4095]) (.seq (.seq (.reg [⟨some 57, .mv (.t 10), none⟩, ⟨some 58, .mv (.t 0), none⟩, ⟨some 59, .cap (.t 58), none⟩, ⟨some 60, .bin .gtr (.t 57) (.t 59), none⟩]) (.cond (.t 60) (.seq (.reg [⟨some 61, .mv (.t 0), none⟩, ⟨some 62, .mv (.t 1), none⟩, ⟨some 63, .sl 5 (.t 61) none (some (.t 62)) none, none⟩, ⟨some 64, .mv (.t 10), none⟩, ⟨some 65, .mv (.t 1), none⟩, ⟨some 66, .bin .sub (.t 64) (.t 65), none⟩, ⟨some 67, .appz 5 40 [.int .i64 0, .int .i64 0, .int .i64 0, .int .i64 0, .int .i64 0] (.t 63) (.t 66), none⟩, ⟨some 11, .mv (.t 67), none⟩]) (.seq (.reg [⟨some 68, .mv (.t 11), none⟩, ⟨some 69, .mv (.t 1), none⟩, ⟨some 70, .sl 5 (.t 68) (some (.t 69)) none none, none⟩, ⟨some 71, .mv (.t 3), none⟩, ⟨some 72, .copy 5 (.t 70) (.t 71), none⟩]) (.seq (.draw [⟨some 73, .mv (.t 11), none⟩, ⟨some 74, .mv (.t 1), none⟩, ⟨some 75, .mv (.t 3), none⟩, ⟨some 76, .len (.t 75), none⟩, ⟨some 77, .bin .add (.t 74) (.t 76), none⟩, ⟨some 78, .sl 5 (.t 73) (some (.t 77)) none none, none⟩, ⟨some 79, .mv (.t 0), none⟩, ⟨some 80, .mv (.t 2), none⟩, ⟨some 81, .sl 5 (.t 79) (some (.t 80)) none none, none⟩, ⟨some 82, .copy 5 (.t 78) (.t 81), none⟩] [0, 0, 0, 4, 14, 31, 0, 0, 192, 511]) (.seq (.reg [⟨some 83, .mv (.t 11), none⟩, ⟨some 8, .mv (.t 83), none⟩]) .ret)))) .skip)) (.seq (.reg [⟨some 84, .mv (.t 0), none⟩, ⟨some 85, .mv (.t 10), none⟩, ⟨some 86, .sl 5 (.t 84) none (some (.t 85)) none, none⟩, ⟨some 12, .mv (.t 86), none⟩]) (.seq (.seq (.reg [⟨some 87, .mv (.t 1), none⟩, ⟨some 88, .mv (.t 3), none⟩, ⟨some 89, .len (.t 88), none⟩, ⟨some 90, .bin .add (.t 87) (.t 89), none⟩, ⟨some 91, .mv (.t 2), none⟩, ⟨some 92, .bin .leq (.t 90) (.t 91), none⟩]) (.cond (.t 92) (.seq (.reg [⟨some 93, .mv (.t 12), none⟩, ⟨some 94, .mv (.t 1), none⟩, ⟨some 95, .sl 5 (.t 93) (some (.t 94)) none none, none⟩, ⟨some 96, .mv (.t 3), none⟩, ⟨some 97, .copy 5 (.t 95) (.t 96), none⟩]) (.seq (.draw [⟨some 98, .mv (.t 12), none⟩, ⟨some 99, .mv (.t 1), none⟩, ⟨some 100, .mv (.t 3), none⟩, ⟨some 101, .len (.t 100), none⟩, ⟨some 102, .bin .add (.t 99) (.t 101), none⟩, ⟨some 103, .sl 5 (.t 98) (some (.t 102)) none none, none⟩, ⟨some 104, .mv (.t 0), none⟩, ⟨some 105, .mv (.t 2), none⟩, ⟨some 106, .sl 5 (.t 104) (some (.t 105)) none none, none⟩, ⟨some 107, .copy 5 (.t 103) (.t 106), none⟩] [0, 0, 0, 4, 14, 31, 0, 0, 192, 511]) (.seq (.reg [⟨some 108, .mv (.t 0), none⟩, ⟨some 109, .mv (.t 10), none⟩, ⟨some 110, .sl 5 (.t 108) (some (.t 109)) none none, none⟩, ⟨none, .clr 5 [.int .i64 0, .int .i64 0, .int .i64 0, .int .i64 0, .int .i64 0] (.t 110), none⟩]) (.seq (.reg [⟨some 111, .mv (.t 12), none⟩, ⟨some 8, .mv (.t 111), none⟩]) .ret)))) .skip)) (.seq (.seq (.reg [⟨some 112, .mv (.t 12), none⟩, ⟨some 113, .mv (.t 1), none⟩, ⟨some 114, .mv (.t 3), none⟩, ⟨some 115, .len (.t 114), none⟩, ⟨some 116, .bin .add (.t 113) (.t 115), none⟩, ⟨some 117, .sl 5 (.t 112) (some (.t 116)) none none, none⟩, ⟨some 118, .mv (.t 3), none⟩, ⟨some 119, .ovl 133 (.t 117) (.t 118), none⟩, ⟨some 120, .not (.t 119), none⟩]) (.cond (.t 120) (.seq (.draw [⟨some 121, .mv (.t 12), none⟩, ⟨some 122, .mv (.t 1), none⟩, ⟨some 123, .mv (.t 3), none⟩, ⟨some 124, .len (.t 123), none⟩, ⟨some 125, .bin .add (.t 122) (.t 124), none⟩, ⟨some 126, .sl 5 (.t 121) (some (.t 125)) none none, none⟩, ⟨some 127, .mv (.t 0), none⟩, ⟨some 128, .mv (.t 2), none⟩, ⟨some 129, .sl 5 (.t 127) (some (.t 128)) none none, none⟩, ⟨some 130, .copy 5 (.t 126) (.t 129), none⟩] [0, 0, 0, 4, 14, 31, 0, 0, 192, 511]) (.seq (.reg [⟨some 131, .mv (.t 12), none⟩, ⟨some 132, .mv (.t 1), none⟩, ⟨some 133, .sl 5 (.t 131) (some (.t 132)) none none, none⟩, ⟨some 134, .mv (.t 3), none⟩, ⟨some 135, .copy 5 (.t 133) (.t 134), none⟩]) (.seq (.reg [⟨some 136, .mv (.t 12), none⟩, ⟨some 8, .mv (.t 136), none⟩]) .ret))) .skip)) (.seq (.reg [⟨some 137, .mv (.t 3), none⟩, ⟨some 138, .len (.t 137), none⟩, ⟨some 139, .mv (.t 2), none⟩, ⟨some 140, .mv (.t 1), none⟩, ⟨some 141, .bin .sub (.t 139) (.t 140), none⟩, ⟨some 142, .bin .sub (.t 138) (.t 141), none⟩, ⟨some 13, .mv (.t 142), none⟩]) (.seq (.seq (.reg [⟨some 143, .mv (.t 12), none⟩, ⟨some 144, .mv (.t 1), none⟩, ⟨some 145, .mv (.t 2), none⟩, ⟨some 146, .sl 5 (.t 143) (some (.t 144)) (some (.t 145)) none, none⟩, ⟨some 147, .mv (.t 3), none⟩, ⟨some 148, .ovl 133 (.t 146) (.t 147), none⟩, ⟨some 149, .not (.t 148), none⟩]) (.cond (.t 149) (.seq (.draw [⟨some 150, .mv (.t 12), none⟩, ⟨some 151, .mv (.t 1), none⟩, ⟨some 152, .mv (.t 2), none⟩, ⟨some 153, .sl 5 (.t 150) (some (.t 151)) (some (.t 152)) none, none⟩, ⟨some 154, .mv (.t 3), none⟩, ⟨some 155, .mv (.t 13), none⟩, ⟨some 156, .sl 5 (.t 154) (some (.t 155)) none none, none⟩, ⟨some 157, .copy 5 (.t 153) (.t 156), none⟩] [0, 0, 0, 7, 0, 0, 48, 127]) (.seq (.draw [⟨some 158, .mv (.t 12), none⟩, ⟨some 159, .mv (.t 0), none⟩, ⟨some 160, .len (.t 159), none⟩, ⟨some 161, .sl 5 (.t 158) (some (.t 160)) none none, none⟩, ⟨some 162, .mv (.t 3), none⟩, ⟨some 163, .mv (.t 13), none⟩, ⟨some 164, .sl 5 (.t 162) none (some (.t 163)) none, none⟩, ⟨some 165, .copy 5 (.t 161) (.t 164), none⟩] [0, 0, 2, 7, 0, 0, 48, 127]) (.seq (.reg [⟨some 166, .mv (.t 12), none⟩, ⟨some 167, .mv (.t 1), none⟩, ⟨some 168, .sl 5 (.t 166) (some (.t 167)) none none, none⟩, ⟨some 169, .mv (.t 13), none⟩, ⟨some 170, .call 134 [.t 168, .t 169], none⟩]) (.seq (.reg [⟨some 171, .mv (.t 12), none⟩, ⟨some 8, .mv (.t 171), none⟩]) .ret)))) .skip)) (.seq (.seq (.reg [⟨some 172, .mv (.t 12), none⟩, ⟨some 173, .mv (.t 0), none⟩, ⟨some 174, .len (.t 173), none⟩, ⟨some 175, .sl 5 (.t 172) (some (.t 174)) none none, none⟩, ⟨some 176, .mv (.t 3), none⟩, ⟨some 177, .ovl 133 (.t 175) (.t 176), none⟩, ⟨some 178, .not (.t 177), none⟩]) (.cond (.t 178) (.seq (.draw [⟨some 179, .mv (.t 12), none⟩, ⟨some 180, .mv (.t 0), none⟩, ⟨some 181, .len (.t 180), none⟩, ⟨some 182, .sl 5 (.t 179) (some (.t 181)) none none, none⟩, ⟨some 183, .mv (.t 3), none⟩, ⟨some 184, .mv (.t 13), none⟩, ⟨some 185, .sl 5 (.t 183) none (some (.t 184)) none, none⟩, ⟨some 186, .copy 5 (.t 182) (.t 185), none⟩] [0, 0, 2, 7, 0, 0, 48, 127]) (.seq (.draw [⟨some 187, .mv (.t 12), none⟩, ⟨some 188, .mv (.t 1), none⟩, ⟨some 189, .mv (.t 2), none⟩, ⟨some 190, .sl 5 (.t 187) (some (.t 188)) (some (.t 189)) none, none⟩, ⟨some 191, .mv (.t 3), none⟩, ⟨some 192, .mv (.t 13), none⟩, ⟨some 193, .sl 5 (.t 191) (some (.t 192)) none none, none⟩, ⟨some 194, .copy 5 (.t 190) (.t 193), none⟩] [0, 0, 0, 7, 0, 0, 48, 127]) (.seq (.reg [⟨some 195, .mv (.t 12), none⟩, ⟨some 196, .mv (.t 1), none⟩, ⟨some 197, .sl 5 (.t 195) (some (.t 196)) none none, none⟩, ⟨some 198, .mv (.t 13), none⟩, ⟨some 199, .call 134 [.t 197, .t 198], none⟩]) (.seq (.reg [⟨some 200, .mv (.t 12), none⟩, ⟨some 8, .mv (.t 200), none⟩]) .ret)))) .skip)) (.seq (.reg [⟨some 201, .mv (.t 3), none⟩, ⟨some 202, .mv (.t 0), none⟩, ⟨some 203, .mv (.t 2), none⟩, ⟨some 204, .sl 5 (.t 202) (some (.t 203)) none none, none⟩, ⟨some 205, .call 137 [.t 201, .t 204], none⟩, ⟨some 14, .mv (.t 205), none⟩]) (.seq (.reg [⟨some 206, .mv (.t 12), none⟩, ⟨some 207, .mv (.t 1), none⟩, ⟨some 208, .sl 5 (.t 206) (some (.t 207)) none none, none⟩, ⟨some 209, .mv (.t 3), none⟩, ⟨some 210, .copy 5 (.t 208) (.t 209), none⟩]) (.seq (.draw [⟨some 211, .mv (.t 12), none⟩, ⟨some 212, .mv (.t 1), none⟩, ⟨some 213, .mv (.t 3), none⟩, ⟨some 214, .len (.t 213), none⟩, ⟨some 215, .bin .add (.t 212) (.t 214), none⟩, ⟨some 216, .sl 5 (.t 211) (some (.t 215)) none none, none⟩, ⟨some 217, .mv (.t 12), none⟩, ⟨some 218, .mv (.t 1), none⟩, ⟨some 219, .mv (.t 14), none⟩, ⟨some 220, .bin .add (.t 218) (.t 219), none⟩, ⟨some 221, .sl 5 (.t 217) (some (.t 220)) none none, none⟩, ⟨some 222, .copy 5 (.t 216) (.t 221), none⟩] [0, 0, 0, 4, 14, 31, 0, 0, 0, 384, 960, 2047]) (.seq (.reg [⟨some 223, .mv (.t 12), none⟩, ⟨some 8, .mv (.t 223), none⟩]) .ret)))))))))))))))
def res : List RItem := [.t 8]
theorem ok : Option.bind Try.f104.body (cCode P Try.f104.ntmps) = some code := by kernel_rfl
theorem rok : cRes P Try.f104.results.toList = some res := by kernel_rfl
theorem intro {args : List AV} {T T2 : Tab} {r : AV} (ha : (Nat.ble args.length nt && Nat.ble T.length 4) = true) (h : Run P nt [.code code] (argEnv 0 args) T (RetQ res T T2 r)) : AC P id args T r T2 :=
  AC.introB Try.func104 ok rfl rok ha h
end slices_Replace_api_Field_api_Field
namespace R16_field
/-- instar/instarref16.field -/
abbrev id : FuncId := 105
abbrev nt : Nat := 13
def code : ACode := .seq (.reg [⟨some 2, .mv (.c (.bool false)), none⟩]) (.seq (.reg [⟨some 3, .mv (.t 0), none⟩, ⟨some 4, .bin .neq (.t 3) (.c (.int .i64 1)), none⟩, ⟨some 5, .mv (.t 4), none⟩, ⟨some 6, .mv (.t 0), some (5, true)⟩, ⟨some 7, .bin .neq (.t 6) (.c (.int .i64 9)), some (5, true)⟩, ⟨some 8, .pick (.t 5) (.t 7) (.c (.bool false)), none⟩, ⟨some 9, .mv (.t 8), none⟩, ⟨some 10, .mv (.t 0), some (9, true)⟩, ⟨some 11, .bin .neq (.t 10) (.c (.int .i64 10)), some (9, true)⟩, ⟨some 12, .pick (.t 9) (.t 11) (.c (.bool false)), none⟩, ⟨some 2, .mv (.t 12), none⟩]) .ret)
def res : List RItem := [.t 2]
theorem ok : Option.bind Try.f105.body (cCode P Try.f105.ntmps) = some code := by kernel_rfl
theorem rok : cRes P Try.f105.results.toList = some res := by kernel_rfl
theorem intro {args : List AV} {T T2 : Tab} {r : AV} (ha : (Nat.ble args.length nt && Nat.ble T.length 4) = true) (h : Run P nt [.code code] (argEnv 0 args) T (RetQ res T T2 r)) : AC P id args T r T2 :=
  AC.introB Try.func105 ok rfl rok ha h
end R16_field
namespace R12_Wider
/-- instar/instarref12.Wider -/
abbrev id : FuncId := 106
abbrev nt : Nat := 53
def code : ACode := .seq (.reg [⟨some 2, .box (.t 0), none⟩, ⟨some 3, .box (.t 1), none⟩, ⟨some 4, .mv (.c (.bool false)), none⟩]) (.seq (.reg [⟨some 14, .ld 5 true (.t 2), none⟩, ⟨some 15, .call 113 [.t 14], none⟩, ⟨some 13, .mv (.t 15), none⟩, ⟨some 16, .ext 0 (.t 13), none⟩, ⟨some 17, .ext 1 (.t 13), none⟩, ⟨some 18, .ext 2 (.t 13), none⟩, ⟨some 19, .ext 3 (.t 13), none⟩, ⟨some 5, .mv (.t 16), none⟩, ⟨some 6, .mv (.t 17), none⟩, ⟨some 7, .mv (.t 18), none⟩, ⟨some 8, .mv (.t 19), none⟩]) (.seq (.reg [⟨some 21, .ld 5 true (.t 3), none⟩, ⟨some 22, .call 113 [.t 21], none⟩, ⟨some 20, .mv (.t 22), none⟩, ⟨some 23, .ext 0 (.t 20), none⟩, ⟨some 24, .ext 1 (.t 20), none⟩, ⟨some 25, .ext 2 (.t 20), none⟩, ⟨some 26, .ext 3 (.t 20), none⟩, ⟨some 9, .mv (.t 23), none⟩, ⟨some 10, .mv (.t 24), none⟩, ⟨some 11, .mv (.t 25), none⟩, ⟨some 12, .mv (.t 26), none⟩]) (.seq (.reg [⟨some 27, .mv (.t 8), none⟩, ⟨some 28, .mv (.t 27), none⟩, ⟨some 29, .mv (.t 12), some (28, true)⟩, ⟨some 30, .pick (.t 28) (.t 29) (.c (.bool false)), none⟩, ⟨some 31, .mv (.t 30), none⟩, ⟨some 32, .fa 1 (.t 2), some (31, true)⟩, ⟨some 33, .ld 1 false (.t 32), some (31, true)⟩, ⟨some 34, .fa 1 (.t 3), some (31, true)⟩, ⟨some 35, .ld 1 false (.t 34), some (31, true)⟩, ⟨some 36, .bin .eql (.t 33) (.t 35), some (31, true)⟩, ⟨some 37, .pick (.t 31) (.t 36) (.c (.bool false)), none⟩, ⟨some 38, .mv (.t 37), none⟩, ⟨some 39, .mv (.t 9), some (38, true)⟩, ⟨some 40, .mv (.t 5), some (38, true)⟩, ⟨some 41, .bin .leq (.t 39) (.t 40), some (38, true)⟩, ⟨some 42, .pick (.t 38) (.t 41) (.c (.bool false)), none⟩, ⟨some 43, .mv (.t 42), none⟩, ⟨some 44, .mv (.t 6), some (43, true)⟩, ⟨some 45, .mv (.t 10), some (43, true)⟩, ⟨some 46, .bin .leq (.t 44) (.t 45), some (43, true)⟩, ⟨some 47, .pick (.t 43) (.t 46) (.c (.bool false)), none⟩, ⟨some 48, .mv (.t 47), none⟩, ⟨some 49, .mv (.t 7), some (48, true)⟩, ⟨some 50, .mv (.t 11), some (48, true)⟩, ⟨some 51, .bin .leq (.t 49) (.t 50), some (48, true)⟩, ⟨some 52, .pick (.t 48) (.t 51) (.c (.bool false)), none⟩, ⟨some 4, .mv (.t 52), none⟩]) .ret)))
def res : List RItem := [.t 4]
theorem ok : Option.bind Try.f106.body (cCode P Try.f106.ntmps) = some code := by kernel_rfl
theorem rok : cRes P Try.f106.results.toList = some res := by kernel_rfl
theorem intro {args : List AV} {T T2 : Tab} {r : AV} (ha : (Nat.ble args.length nt && Nat.ble T.length 4) = true) (h : Run P nt [.code code] (argEnv 0 args) T (RetQ res T T2 r)) : AC P id args T r T2 :=
  AC.introB Try.func106 ok rfl rok ha h
end R12_Wider
namespace pen_Pen_groups
/-- (*instar/pen.Pen).groups -/
abbrev id : FuncId := 107
abbrev nt : Nat := 19
def code : ACode := .seq (.block 0 (.loop (.seq (.seq (.reg [⟨some 4, .mv (.t 1), none⟩, ⟨some 5, .bin .geq (.t 4) (.c (.int .u64 128)), none⟩]) (.cond (.t 5) .skip (.exit 0))) (.seq (.block 1 (.reg [⟨some 8, .mv (.t 0), none⟩, ⟨some 9, .mv (.t 1), none⟩, ⟨some 10, .cvI .u8 (.t 9), none⟩, ⟨some 11, .bin .or (.t 10) (.c (.int .u8 128)), none⟩, ⟨some 12, .bsl 1 [.t 11], none⟩, ⟨some 13, .call 138 [.t 8, .t 12], none⟩])) (.reg [⟨some 6, .mv (.t 1), none⟩, ⟨some 7, .bin .shr (.t 6) (.c (.int .u64 7)), none⟩, ⟨some 1, .mv (.t 7), none⟩]))))) (.reg [⟨some 14, .mv (.t 0), none⟩, ⟨some 15, .mv (.t 1), none⟩, ⟨some 16, .cvI .u8 (.t 15), none⟩, ⟨some 17, .bsl 1 [.t 16], none⟩, ⟨some 18, .call 138 [.t 14, .t 17], none⟩])
def res : List RItem := []
theorem ok : Option.bind Try.f107.body (cCode P Try.f107.ntmps) = some code := by kernel_rfl
theorem rok : cRes P Try.f107.results.toList = some res := by kernel_rfl
theorem intro {args : List AV} {T T2 : Tab} {r : AV} (ha : (Nat.ble args.length nt && Nat.ble T.length 4) = true) (h : Run P nt [.code code] (argEnv 0 args) T (RetQ res T T2 r)) : AC P id args T r T2 :=
  AC.introB Try.func107 ok rfl rok ha h
end pen_Pen_groups
namespace pen_Pen_Num
/-- (*instar/pen.Pen).Num -/
abbrev id : FuncId := 108
abbrev nt : Nat := 13
def code : ACode := .reg [⟨some 4, .mv (.t 0), none⟩, ⟨some 5, .mv (.t 1), none⟩, ⟨some 6, .cvI .u64 (.t 5), none⟩, ⟨some 7, .bin .shl (.t 6) (.c (.int .u64 1)), none⟩, ⟨some 8, .mv (.t 1), none⟩, ⟨some 9, .bin .shr (.t 8) (.c (.int .u64 63)), none⟩, ⟨some 10, .cvI .u64 (.t 9), none⟩, ⟨some 11, .bin .xor (.t 7) (.t 10), none⟩, ⟨some 12, .call 107 [.t 4, .t 11], none⟩]
def res : List RItem := []
theorem ok : Option.bind Try.f108.body (cCode P Try.f108.ntmps) = some code := by kernel_rfl
theorem rok : cRes P Try.f108.results.toList = some res := by kernel_rfl
theorem intro {args : List AV} {T T2 : Tab} {r : AV} (ha : (Nat.ble args.length nt && Nat.ble T.length 4) = true) (h : Run P nt [.code code] (argEnv 0 args) T (RetQ res T T2 r)) : AC P id args T r T2 :=
  AC.introB Try.func108 ok rfl rok ha h
end pen_Pen_Num
namespace slices_Clone_byte_byte
/-- slices.Clone[[]byte,byte] -/
abbrev id : FuncId := 109
abbrev nt : Nat := 8
def code : ACode := .seq (.reg [⟨some 2, .mv (.c (.slice none 0 0)), none⟩]) (.seq (.seq (.reg [⟨some 3, .mv (.t 0), none⟩, ⟨some 4, .eqNil false (.t 3), none⟩]) (.cond (.t 4) (.seq (.reg [⟨some 2, .mv (.c (.slice none 0 0)), none⟩]) .ret) .skip)) (.seq (.reg [⟨some 5, .bsl 1 [], none⟩, ⟨some 6, .mv (.t 0), none⟩, ⟨some 7, .app 1 1 (.t 5) (.t 6), none⟩, ⟨some 2, .mv (.t 7), none⟩]) .ret))
def res : List RItem := [.t 2]
theorem ok : Option.bind Try.f109.body (cCode P Try.f109.ntmps) = some code := by kernel_rfl
theorem rok : cRes P Try.f109.results.toList = some res := by kernel_rfl
theorem intro {args : List AV} {T T2 : Tab} {r : AV} (ha : (Nat.ble args.length nt && Nat.ble T.length 4) = true) (h : Run P nt [.code code] (argEnv 0 args) T (RetQ res T T2 r)) : AC P id args T r T2 :=
  AC.introB Try.func109 ok rfl rok ha h
end slices_Clone_byte_byte
namespace R13_Long
/-- instar/instarref13.Long -/
abbrev id : FuncId := 110
abbrev nt : Nat := 21
def code : ACode := .seq (.reg [⟨some 1, .box (.t 0), none⟩, ⟨some 2, .mv (.c (.int .i64 0)), none⟩]) (.seq (.reg [⟨some 3, .mv (.c (.int .i64 0)), none⟩]) (.seq (.seq (.reg [⟨some 4, .mv (.c (.int .i64 0)), none⟩]) (.block 0 (.loop (.seq (.seq (.reg [⟨some 5, .mv (.t 4), none⟩, ⟨some 6, .fa 1 (.t 1), none⟩, ⟨some 7, .ld 1 false (.t 6), none⟩, ⟨some 8, .len (.t 7), none⟩, ⟨some 9, .bin .lss (.t 5) (.t 8), none⟩]) (.cond (.t 9) .skip (.exit 0))) (.seq (.block 1 (.reg [⟨some 12, .mv (.t 3), none⟩, ⟨some 13, .fa 1 (.t 1), none⟩, ⟨some 14, .ld 1 false (.t 13), none⟩, ⟨some 15, .mv (.t 4), none⟩, ⟨some 16, .ia 5 (.t 14) (.t 15), none⟩, ⟨some 17, .ld 5 true (.t 16), none⟩, ⟨some 18, .call 139 [.t 17], none⟩, ⟨some 19, .bin .add (.t 12) (.t 18), none⟩, ⟨some 3, .mv (.t 19), none⟩])) (.reg [⟨some 10, .mv (.t 4), none⟩, ⟨some 11, .bin .add (.t 10) (.c (.int .i64 1)), none⟩, ⟨some 4, .mv (.t 11), none⟩])))))) (.seq (.reg [⟨some 20, .mv (.t 3), none⟩, ⟨some 2, .mv (.t 20), none⟩]) .ret)))
def res : List RItem := [.t 2]
theorem ok : Option.bind Try.f110.body (cCode P Try.f110.ntmps) = some code := by kernel_rfl
theorem rok : cRes P Try.f110.results.toList = some res := by kernel_rfl
theorem intro {args : List AV} {T T2 : Tab} {r : AV} (ha : (Nat.ble args.length nt && Nat.ble T.length 4) = true) (h : Run P nt [.code code] (argEnv 0 args) T (RetQ res T T2 r)) : AC P id args T r T2 :=
  AC.introB Try.func110 ok rfl rok ha h
end R13_Long
namespace slices_Equal_int_int
/-- slices.Equal[[]int,int] -/
abbrev id : FuncId := 111
abbrev nt : Nat := 26
def code : ACode := .seq (.reg [⟨some 4, .mv (.c (.bool false)), none⟩]) (.seq (.seq (.reg [⟨some 6, .mv (.t 0), none⟩, ⟨some 7, .len (.t 6), none⟩, ⟨some 8, .mv (.t 1), none⟩, ⟨some 9, .len (.t 8), none⟩, ⟨some 10, .bin .neq (.t 7) (.t 9), none⟩]) (.cond (.t 10) (.seq (.reg [⟨some 4, .mv (.c (.bool false)), none⟩]) .ret) .skip)) (.seq (.seq (.reg [⟨some 11, .mv (.t 0), none⟩, ⟨some 12, .len (.t 11), none⟩, ⟨some 13, .mv (.c (.int .i64 0)), none⟩]) (.block 0 (.loop (.seq (.reg [⟨some 14, .bin .lss (.t 13) (.t 12), none⟩]) (.seq (.cond (.t 14) .skip (.exit 0)) (.seq (.block 1 (.seq (.reg [⟨some 15, .mv (.t 13), none⟩, ⟨some 5, .mv (.t 15), none⟩]) (.seq (.draw [⟨some 16, .mv (.t 0), none⟩, ⟨some 17, .mv (.t 5), none⟩, ⟨some 18, .ia 1 (.t 16) (.t 17), none⟩, ⟨some 19, .ld 1 false (.t 18), none⟩, ⟨some 20, .mv (.t 1), none⟩, ⟨some 21, .mv (.t 5), none⟩, ⟨some 22, .ia 1 (.t 20) (.t 21), none⟩, ⟨some 23, .ld 1 false (.t 22), none⟩, ⟨some 24, .bin .neq (.t 19) (.t 23), none⟩] [0, 0, 3, 7, 0, 0, 48, 112, 255]) (.cond (.t 24) (.seq (.reg [⟨some 4, .mv (.c (.bool false)), none⟩]) .ret) .skip)))) (.reg [⟨some 25, .bin .add (.t 13) (.c (.int .i64 1)), none⟩, ⟨some 13, .mv (.t 25), none⟩]))))))) (.seq (.reg [⟨some 4, .mv (.c (.bool true)), none⟩]) .ret)))
def res : List RItem := [.t 4]
theorem ok : Option.bind Try.f111.body (cCode P Try.f111.ntmps) = some code := by kernel_rfl
theorem rok : cRes P Try.f111.results.toList = some res := by kernel_rfl
theorem intro {args : List AV} {T T2 : Tab} {r : AV} (ha : (Nat.ble args.length nt && Nat.ble T.length 4) = true) (h : Run P nt [.code code] (argEnv 0 args) T (RetQ res T T2 r)) : AC P id args T r T2 :=
  AC.introB Try.func111 ok rfl rok ha h
end slices_Equal_int_int
namespace R15_table
/-- instar/instarref15.table -/
abbrev id : FuncId := 112
abbrev nt : Nat := 43
def code : ACode := .seq (.reg [⟨some 4, .mv (.c (.bool false)), none⟩]) (.seq (.seq (.reg [⟨some 5, .mv (.c (.int .i64 0)), none⟩]) (.block 0 (.loop (.seq (.seq (.reg [⟨some 7, .mv (.t 5), none⟩, ⟨some 8, .mv (.t 0), none⟩, ⟨some 9, .len (.t 8), none⟩, ⟨some 10, .bin .lss (.t 7) (.t 9), none⟩]) (.cond (.t 10) .skip (.exit 0))) (.seq (.block 1 (.seq (.seq (.reg [⟨some 13, .mv (.t 0), none⟩, ⟨some 14, .mv (.t 5), none⟩, ⟨some 15, .ia 1 (.t 13) (.t 14), none⟩, ⟨some 16, .ld 1 false (.t 15), none⟩, ⟨some 17, .mv (.t 1), none⟩, ⟨some 18, .bin .sub (.t 17) (.c (.int .i64 1)), none⟩, ⟨some 19, .call 75 [.t 16, .c (.int .i64 0), .t 18], none⟩, ⟨some 20, .not (.t 19), none⟩]) (.cond (.t 20) (.seq (.reg [⟨some 4, .mv (.c (.bool false)), none⟩]) .ret) .skip)) (.seq (.reg [⟨some 6, .mv (.c (.int .i64 0)), none⟩]) (.block 2 (.loop (.seq (.seq (.reg [⟨some 21, .mv (.t 6), none⟩, ⟨some 22, .mv (.t 5), none⟩, ⟨some 23, .bin .lss (.t 21) (.t 22), none⟩]) (.cond (.t 23) .skip (.exit 2))) (.seq (.block 3 (.seq (.draw [⟨some 26, .mv (.t 0), none⟩, ⟨some 27, .mv (.t 6), none⟩, ⟨some 28, .ia 1 (.t 26) (.t 27), none⟩, ⟨some 29, .ld 1 false (.t 28), none⟩, ⟨some 30, .mv (.t 0), none⟩, ⟨some 31, .mv (.t 5), none⟩, ⟨some 32, .ia 1 (.t 30) (.t 31), none⟩, ⟨some 33, .ld 1 false (.t 32), none⟩, ⟨some 34, .bin .eql (.t 29) (.t 33), none⟩] [0, 0, 3, 7, 0, 0, 48, 112, 255]) (.cond (.t 34) (.seq (.reg [⟨some 4, .mv (.c (.bool false)), none⟩]) .ret) .skip))) (.reg [⟨some 24, .mv (.t 6), none⟩, ⟨some 25, .bin .add (.t 24) (.c (.int .i64 1)), none⟩, ⟨some 6, .mv (.t 25), none⟩])))))))) (.reg [⟨some 11, .mv (.t 5), none⟩, ⟨some 12, .bin .add (.t 11) (.c (.int .i64 1)), none⟩, ⟨some 5, .mv (.t 12), none⟩])))))) (.seq (.reg [⟨some 35, .mv (.t 0), none⟩, ⟨some 36, .len (.t 35), none⟩, ⟨some 37, .bin .geq (.t 36) (.c (.int .i64 1)), none⟩, ⟨some 38, .mv (.t 37), none⟩, ⟨some 39, .mv (.t 0), some (38, true)⟩, ⟨some 40, .len (.t 39), some (38, true)⟩, ⟨some 41, .bin .leq (.t 40) (.c (.int .i64 64)), some (38, true)⟩, ⟨some 42, .pick (.t 38) (.t 41) (.c (.bool false)), none⟩, ⟨some 4, .mv (.t 42), none⟩]) .ret))
def res : List RItem := [.t 4]
theorem ok : Option.bind Try.f112.body (cCode P Try.f112.ntmps) = some code := by kernel_rfl
theorem rok : cRes P Try.f112.results.toList = some res := by kernel_rfl
theorem intro {args : List AV} {T T2 : Tab} {r : AV} (ha : (Nat.ble args.length nt && Nat.ble T.length 4) = true) (h : Run P nt [.code code] (argEnv 0 args) T (RetQ res T T2 r)) : AC P id args T r T2 :=
  AC.introB Try.func112 ok rfl rok ha h
end R15_table
namespace R12_Span
/-- instar/instarref12.Span -/
abbrev id : FuncId := 113
abbrev nt : Nat := 115
def code : ACode := .seq (.reg [⟨some 1, .box (.t 0), none⟩, ⟨some 2, .mv (.c (.int .i64 0)), none⟩, ⟨some 3, .mv (.c (.int .i64 0)), none⟩, ⟨some 4, .mv (.c (.int .i64 0)), none⟩, ⟨some 5, .mv (.c (.bool false)), none⟩]) (.seq (.reg [⟨some 7, .fa 0 (.t 1), none⟩, ⟨some 8, .ld 1 false (.t 7), none⟩, ⟨some 9, .bin .geq (.t 8) (.c (.int .i64 0)), none⟩, ⟨some 10, .mv (.t 9), none⟩, ⟨some 11, .fa 0 (.t 1), some (10, true)⟩, ⟨some 12, .ld 1 false (.t 11), some (10, true)⟩, ⟨some 13, .bin .leq (.t 12) (.c (.int .i64 255)), some (10, true)⟩, ⟨some 14, .pick (.t 10) (.t 13) (.c (.bool false)), none⟩, ⟨some 6, .mv (.t 14), none⟩]) (.seq (.seq (.reg [⟨some 15, .fa 1 (.t 1), none⟩, ⟨some 16, .ld 1 false (.t 15), none⟩]) (.block 0 (.seq (.reg [⟨some 18, .bin .eql (.t 16) (.c (.int .i64 1)), none⟩, ⟨some 17, .mv (.t 18), none⟩]) (.cond (.t 17) (.seq (.draw [⟨some 19, .fa 2 (.t 1), none⟩, ⟨some 20, .ld 1 false (.t 19), none⟩, ⟨some 21, .fa 3 (.t 1), none⟩, ⟨some 22, .ld 1 false (.t 21), none⟩, ⟨some 23, .mv (.t 6), none⟩, ⟨some 24, .mv (.t 23), none⟩, ⟨some 25, .fa 2 (.t 1), some (24, true)⟩, ⟨some 26, .ld 1 false (.t 25), some (24, true)⟩, ⟨some 27, .bin .geq (.t 26) (.c (.int .i64 (-1099511627776))), some (24, true)⟩, ⟨some 28, .pick (.t 24) (.t 27) (.c (.bool false)), none⟩, ⟨some 29, .mv (.t 28), none⟩, ⟨some 30, .fa 3 (.t 1), some (29, true)⟩, ⟨some 31, .ld 1 false (.t 30), some (29, true)⟩, ⟨some 32, .bin .leq (.t 31) (.c (.int .i64 1099511627776)), some (29, true)⟩, ⟨some 33, .pick (.t 29) (.t 32) (.c (.bool false)), none⟩, ⟨some 34, .mv (.t 33), none⟩, ⟨some 35, .fa 2 (.t 1), some (34, true)⟩, ⟨some 36, .ld 1 false (.t 35), some (34, true)⟩, ⟨some 37, .fa 3 (.t 1), some (34, true)⟩, ⟨some 38, .ld 1 false (.t 37), some (34, true)⟩, ⟨some 39, .bin .leq (.t 36) (.t 38), some (34, true)⟩, ⟨some 40, .pick (.t 34) (.t 39) (.c (.bool false)), none⟩, ⟨some 41, .mv (.t 40), none⟩, ⟨some 42, .fa 4 (.t 1), some (41, true)⟩, ⟨some 43, .ld 1 false (.t 42), some (41, true)⟩, ⟨some 44, .bin .eql (.t 43) (.c (.int .i64 0)), some (41, true)⟩, ⟨some 45, .pick (.t 41) (.t 44) (.c (.bool false)), none⟩, ⟨some 2, .mv (.t 20), none⟩, ⟨some 3, .mv (.t 22), none⟩, ⟨some 4, .mv (.c (.int .i64 0)), none⟩, ⟨some 5, .mv (.t 45), none⟩] [0, 1, 0, 4, 0, 16, 48, 112, 240, 496, 1008, 2032, 4080, 8176, 16368, 32752, 65520, 131056, 65520, 327664, 1048560, 2097136, 4194288, 8388592, 16777200, 33554416, 67108848, 8388595, 142606335, 411041791, 1073741823]) .ret) (.seq (.reg [⟨some 47, .bin .eql (.t 16) (.c (.int .i64 2)), none⟩, ⟨some 46, .mv (.t 47), none⟩]) (.cond (.t 46) (.seq (.draw [⟨some 48, .mv (.t 6), none⟩, ⟨some 49, .mv (.t 48), none⟩, ⟨some 50, .fa 2 (.t 1), some (49, true)⟩, ⟨some 51, .ld 1 false (.t 50), some (49, true)⟩, ⟨some 52, .bin .eql (.t 51) (.c (.int .i64 0)), some (49, true)⟩, ⟨some 53, .pick (.t 49) (.t 52) (.c (.bool false)), none⟩, ⟨some 54, .mv (.t 53), none⟩, ⟨some 55, .fa 3 (.t 1), some (54, true)⟩, ⟨some 56, .ld 1 false (.t 55), some (54, true)⟩, ⟨some 57, .bin .eql (.t 56) (.c (.int .i64 0)), some (54, true)⟩, ⟨some 58, .pick (.t 54) (.t 57) (.c (.bool false)), none⟩, ⟨some 59, .mv (.t 58), none⟩, ⟨some 60, .fa 4 (.t 1), some (59, true)⟩, ⟨some 61, .ld 1 false (.t 60), some (59, true)⟩, ⟨some 62, .bin .eql (.t 61) (.c (.int .i64 0)), some (59, true)⟩, ⟨some 63, .pick (.t 59) (.t 62) (.c (.bool false)), none⟩, ⟨some 2, .mv (.c (.int .i64 0)), none⟩, ⟨some 3, .mv (.c (.int .i64 1)), none⟩, ⟨some 4, .mv (.c (.int .i64 0)), none⟩, ⟨some 5, .mv (.t 63), none⟩] [0, 1, 3, 7, 15, 31, 63, 127, 255, 511, 1023, 2047, 4095, 8191, 16383, 32767, 4095, 69631, 200703, 524287]) .ret) (.seq (.reg [⟨some 65, .bin .eql (.t 16) (.c (.int .i64 3)), none⟩, ⟨some 64, .mv (.t 65), none⟩]) (.cond (.t 64) (.seq (.draw [⟨some 66, .fa 4 (.t 1), none⟩, ⟨some 67, .ld 1 false (.t 66), none⟩, ⟨some 68, .bin .sub (.t 67) (.c (.int .i64 1)), none⟩, ⟨some 69, .mv (.t 6), none⟩, ⟨some 70, .mv (.t 69), none⟩, ⟨some 71, .fa 2 (.t 1), some (70, true)⟩, ⟨some 72, .ld 1 false (.t 71), some (70, true)⟩, ⟨some 73, .bin .eql (.t 72) (.c (.int .i64 0)), some (70, true)⟩, ⟨some 74, .pick (.t 70) (.t 73) (.c (.bool false)), none⟩, ⟨some 75, .mv (.t 74), none⟩, ⟨some 76, .fa 3 (.t 1), some (75, true)⟩, ⟨some 77, .ld 1 false (.t 76), some (75, true)⟩, ⟨some 78, .bin .eql (.t 77) (.c (.int .i64 0)), some (75, true)⟩, ⟨some 79, .pick (.t 75) (.t 78) (.c (.bool false)), none⟩, ⟨some 80, .mv (.t 79), none⟩, ⟨some 81, .fa 4 (.t 1), some (80, true)⟩, ⟨some 82, .ld 1 false (.t 81), some (80, true)⟩, ⟨some 83, .bin .geq (.t 82) (.c (.int .i64 1)), some (80, true)⟩, ⟨some 84, .pick (.t 80) (.t 83) (.c (.bool false)), none⟩, ⟨some 85, .mv (.t 84), none⟩, ⟨some 86, .fa 4 (.t 1), some (85, true)⟩, ⟨some 87, .ld 1 false (.t 86), some (85, true)⟩, ⟨some 88, .bin .leq (.t 87) (.c (.int .i64 1000)), some (85, true)⟩, ⟨some 89, .pick (.t 85) (.t 88) (.c (.bool false)), none⟩, ⟨some 2, .mv (.c (.int .i64 0)), none⟩, ⟨some 3, .mv (.t 68), none⟩, ⟨some 4, .mv (.c (.int .i64 0)), none⟩, ⟨some 5, .mv (.t 89), none⟩] [0, 1, 3, 0, 8, 24, 56, 120, 248, 504, 1016, 2040, 4088, 8184, 16376, 32760, 65528, 131064, 262136, 524280, 1048568, 2097144, 4194296, 8388600, 1048568, 17825791, 51380223, 134217727]) .ret) (.seq (.reg [⟨some 91, .bin .eql (.t 16) (.c (.int .i64 4)), none⟩, ⟨some 90, .mv (.t 91), none⟩]) (.cond (.t 90) (.seq (.draw [⟨some 92, .fa 4 (.t 1), none⟩, ⟨some 93, .ld 1 false (.t 92), none⟩, ⟨some 94, .mv (.t 6), none⟩, ⟨some 95, .mv (.t 94), none⟩, ⟨some 96, .fa 2 (.t 1), some (95, true)⟩, ⟨some 97, .ld 1 false (.t 96), some (95, true)⟩, ⟨some 98, .bin .eql (.t 97) (.c (.int .i64 0)), some (95, true)⟩, ⟨some 99, .pick (.t 95) (.t 98) (.c (.bool false)), none⟩, ⟨some 100, .mv (.t 99), none⟩, ⟨some 101, .fa 3 (.t 1), some (100, true)⟩, ⟨some 102, .ld 1 false (.t 101), some (100, true)⟩, ⟨some 103, .bin .eql (.t 102) (.c (.int .i64 0)), some (100, true)⟩, ⟨some 104, .pick (.t 100) (.t 103) (.c (.bool false)), none⟩, ⟨some 105, .mv (.t 104), none⟩, ⟨some 106, .fa 4 (.t 1), some (105, true)⟩, ⟨some 107, .ld 1 false (.t 106), some (105, true)⟩, ⟨some 108, .bin .geq (.t 107) (.c (.int .i64 0)), some (105, true)⟩, ⟨some 109, .pick (.t 105) (.t 108) (.c (.bool false)), none⟩, ⟨some 110, .mv (.t 109), none⟩, ⟨some 111, .fa 4 (.t 1), some (110, true)⟩, ⟨some 112, .ld 1 false (.t 111), some (110, true)⟩, ⟨some 113, .bin .leq (.t 112) (.c (.int .i64 32)), some (110, true)⟩, ⟨some 114, .pick (.t 110) (.t 113) (.c (.bool false)), none⟩, ⟨some 2, .mv (.c (.int .i64 0)), none⟩, ⟨some 3, .mv (.c (.int .i64 0)), none⟩, ⟨some 4, .mv (.t 93), none⟩, ⟨some 5, .mv (.t 114), none⟩] [0, 1, 0, 4, 12, 28, 60, 124, 252, 508, 1020, 2044, 4092, 8188, 16380, 32764, 65532, 131068, 262140, 524284, 1048572, 2097148, 4194300, 524284, 8912892, 25690111, 67108863]) .ret) .skip)))))))))) (.seq (.reg [⟨some 2, .mv (.c (.int .i64 0)), none⟩, ⟨some 3, .mv (.c (.int .i64 0)), none⟩, ⟨some 4, .mv (.c (.int .i64 0)), none⟩, ⟨some 5, .mv (.c (.bool false)), none⟩]) .ret)))
def res : List RItem := [.t 2, .t 3, .t 4, .t 5]
theorem ok : Option.bind Try.f113.body (cCode P Try.f113.ntmps) = some code := by kernel_rfl
theorem rok : cRes P Try.f113.results.toList = some res := by kernel_rfl
theorem intro {args : List AV} {T T2 : Tab} {r : AV} (ha : (Nat.ble args.length nt && Nat.ble T.length 4) = true) (h : Run P nt [.code code] (argEnv 0 args) T (RetQ res T T2 r)) : AC P id args T r T2 :=
  AC.introB Try.func113 ok rfl rok ha h
end R12_Span
namespace field_Has
/-- instar/field.Has -/
abbrev id : FuncId := 120
abbrev nt : Nat := 39
def code : ACode := .seq (.reg [⟨some 2, .box (.t 0), none⟩, ⟨some 3, .box (.t 1), none⟩, ⟨some 4, .mv (.c (.bool false)), none⟩]) (.seq (.reg [⟨some 9, .ld 5 true (.t 2), none⟩, ⟨some 10, .call 144 [.t 9], none⟩, ⟨some 8, .mv (.t 10), none⟩, ⟨some 11, .ext 0 (.t 8), none⟩, ⟨some 12, .ext 1 (.t 8), none⟩, ⟨some 5, .mv (.t 11), none⟩, ⟨some 6, .mv (.t 12), none⟩]) (.seq (.reg [⟨some 7, .mv (.c (.int .i64 0)), none⟩]) (.seq (.seq (.reg [⟨some 13, .fa 1 (.t 2), none⟩, ⟨some 14, .ld 1 false (.t 13), none⟩, ⟨some 15, .bin .eql (.t 14) (.c (.int .i64 4)), none⟩]) (.cond (.t 15) (.reg [⟨some 16, .fa 4 (.t 2), none⟩, ⟨some 17, .ld 1 false (.t 16), none⟩, ⟨some 7, .mv (.t 17), none⟩]) .skip)) (.seq (.reg [⟨some 18, .ld 5 true (.t 2), none⟩, ⟨some 19, .call 127 [.t 18], none⟩, ⟨some 20, .mv (.t 19), none⟩, ⟨some 21, .fa 0 (.t 3), some (20, true)⟩, ⟨some 22, .ld 1 false (.t 21), some (20, true)⟩, ⟨some 23, .mv (.t 5), some (20, true)⟩, ⟨some 24, .bin .geq (.t 22) (.t 23), some (20, true)⟩, ⟨some 25, .pick (.t 20) (.t 24) (.c (.bool false)), none⟩, ⟨some 26, .mv (.t 25), none⟩, ⟨some 27, .fa 0 (.t 3), some (26, true)⟩, ⟨some 28, .ld 1 false (.t 27), some (26, true)⟩, ⟨some 29, .mv (.t 6), some (26, true)⟩, ⟨some 30, .bin .leq (.t 28) (.t 29), some (26, true)⟩, ⟨some 31, .pick (.t 26) (.t 30) (.c (.bool false)), none⟩, ⟨some 32, .mv (.t 31), none⟩, ⟨some 33, .fa 1 (.t 3), some (32, true)⟩, ⟨some 34, .ld 1 false (.t 33), some (32, true)⟩, ⟨some 35, .lenS (.t 34), some (32, true)⟩, ⟨some 36, .mv (.t 7), some (32, true)⟩, ⟨some 37, .bin .leq (.t 35) (.t 36), some (32, true)⟩, ⟨some 38, .pick (.t 32) (.t 37) (.c (.bool false)), none⟩, ⟨some 4, .mv (.t 38), none⟩]) .ret))))
def res : List RItem := [.t 4]
theorem ok : Option.bind Try.f120.body (cCode P Try.f120.ntmps) = some code := by kernel_rfl
theorem rok : cRes P Try.f120.results.toList = some res := by kernel_rfl
theorem intro {args : List AV} {T T2 : Tab} {r : AV} (ha : (Nat.ble args.length nt && Nat.ble T.length 4) = true) (h : Run P nt [.code code] (argEnv 0 args) T (RetQ res T T2 r)) : AC P id args T r T2 :=
  AC.introB Try.func120 ok rfl rok ha h
end field_Has
namespace schema_Long
/-- instar/schema.Long -/
abbrev id : FuncId := 124
abbrev nt : Nat := 19
def code : ACode := .seq (.reg [⟨some 1, .box (.t 0), none⟩, ⟨some 2, .mv (.c (.int .i64 0)), none⟩]) (.seq (.reg [⟨some 3, .mv (.c (.int .i64 0)), none⟩]) (.seq (.seq (.reg [⟨some 6, .fa 1 (.t 1), none⟩, ⟨some 7, .ld 1 false (.t 6), none⟩, ⟨some 8, .len (.t 7), none⟩, ⟨some 9, .mv (.c (.int .i64 0)), none⟩]) (.block 0 (.loop (.seq (.reg [⟨some 10, .bin .lss (.t 9) (.t 8), none⟩]) (.seq (.cond (.t 10) .skip (.exit 0)) (.seq (.block 1 (.seq (.reg [⟨some 11, .ia 5 (.t 7) (.t 9), none⟩, ⟨some 12, .ld 5 true (.t 11), none⟩, ⟨some 5, .alloc [.int .i64 0, .int .i64 0, .int .i64 0, .int .i64 0, .int .i64 0], none⟩, ⟨none, .st 5 (.t 5) (.t 12), none⟩]) (.reg [⟨some 13, .mv (.t 3), none⟩, ⟨some 14, .ld 5 true (.t 5), none⟩, ⟨some 15, .call 146 [.t 14], none⟩, ⟨some 16, .bin .add (.t 13) (.t 15), none⟩, ⟨some 3, .mv (.t 16), none⟩]))) (.reg [⟨some 17, .bin .add (.t 9) (.c (.int .i64 1)), none⟩, ⟨some 9, .mv (.t 17), none⟩]))))))) (.seq (.reg [⟨some 18, .mv (.t 3), none⟩, ⟨some 2, .mv (.t 18), none⟩]) .ret)))
def res : List RItem := [.t 2]
theorem ok : Option.bind Try.f124.body (cCode P Try.f124.ntmps) = some code := by kernel_rfl
theorem rok : cRes P Try.f124.results.toList = some res := by kernel_rfl
theorem intro {args : List AV} {T T2 : Tab} {r : AV} (ha : (Nat.ble args.length nt && Nat.ble T.length 4) = true) (h : Run P nt [.code code] (argEnv 0 args) T (RetQ res T T2 r)) : AC P id args T r T2 :=
  AC.introB Try.func124 ok rfl rok ha h
end schema_Long
namespace field_Right
/-- instar/field.Right -/
abbrev id : FuncId := 127
abbrev nt : Nat := 78
def code : ACode := .seq (.reg [⟨some 1, .box (.t 0), none⟩, ⟨some 2, .mv (.c (.bool false)), none⟩]) (.seq (.seq (.reg [⟨some 4, .fa 0 (.t 1), none⟩, ⟨some 5, .ld 1 false (.t 4), none⟩, ⟨some 6, .bin .lss (.t 5) (.c (.int .i64 0)), none⟩, ⟨some 7, .mv (.t 6), none⟩, ⟨some 8, .fa 0 (.t 1), some (7, false)⟩, ⟨some 9, .ld 1 false (.t 8), some (7, false)⟩, ⟨some 10, .bin .gtr (.t 9) (.c (.int .i64 255)), some (7, false)⟩, ⟨some 11, .pick (.t 7) (.c (.bool true)) (.t 10), none⟩]) (.cond (.t 11) (.seq (.reg [⟨some 2, .mv (.c (.bool false)), none⟩]) .ret) .skip)) (.seq (.reg [⟨some 12, .fa 2 (.t 1), none⟩, ⟨some 13, .ld 1 false (.t 12), none⟩, ⟨some 14, .bin .eql (.t 13) (.c (.int .i64 0)), none⟩, ⟨some 15, .mv (.t 14), none⟩, ⟨some 16, .fa 3 (.t 1), some (15, true)⟩, ⟨some 17, .ld 1 false (.t 16), some (15, true)⟩, ⟨some 18, .bin .eql (.t 17) (.c (.int .i64 0)), some (15, true)⟩, ⟨some 19, .pick (.t 15) (.t 18) (.c (.bool false)), none⟩, ⟨some 3, .mv (.t 19), none⟩]) (.seq (.seq (.reg [⟨some 20, .fa 1 (.t 1), none⟩, ⟨some 21, .ld 1 false (.t 20), none⟩]) (.block 0 (.seq (.reg [⟨some 23, .bin .eql (.t 21) (.c (.int .i64 1)), none⟩, ⟨some 22, .mv (.t 23), none⟩]) (.cond (.t 22) (.seq (.reg [⟨some 24, .fa 2 (.t 1), none⟩, ⟨some 25, .ld 1 false (.t 24), none⟩, ⟨some 26, .bin .geq (.t 25) (.c (.int .i64 (-1099511627776))), none⟩, ⟨some 27, .mv (.t 26), none⟩, ⟨some 28, .fa 2 (.t 1), some (27, true)⟩, ⟨some 29, .ld 1 false (.t 28), some (27, true)⟩, ⟨some 30, .fa 3 (.t 1), some (27, true)⟩, ⟨some 31, .ld 1 false (.t 30), some (27, true)⟩, ⟨some 32, .bin .leq (.t 29) (.t 31), some (27, true)⟩, ⟨some 33, .pick (.t 27) (.t 32) (.c (.bool false)), none⟩, ⟨some 34, .mv (.t 33), none⟩, ⟨some 35, .fa 3 (.t 1), some (34, true)⟩, ⟨some 36, .ld 1 false (.t 35), some (34, true)⟩, ⟨some 37, .bin .leq (.t 36) (.c (.int .i64 1099511627776)), some (34, true)⟩, ⟨some 38, .pick (.t 34) (.t 37) (.c (.bool false)), none⟩, ⟨some 39, .mv (.t 38), none⟩, ⟨some 40, .fa 4 (.t 1), some (39, true)⟩, ⟨some 41, .ld 1 false (.t 40), some (39, true)⟩, ⟨some 42, .bin .eql (.t 41) (.c (.int .i64 0)), some (39, true)⟩, ⟨some 43, .pick (.t 39) (.t 42) (.c (.bool false)), none⟩, ⟨some 2, .mv (.t 43), none⟩]) .ret) (.seq (.reg [⟨some 45, .bin .eql (.t 21) (.c (.int .i64 2)), none⟩, ⟨some 44, .mv (.t 45), none⟩]) (.cond (.t 44) (.seq (.reg [⟨some 46, .mv (.t 3), none⟩, ⟨some 47, .mv (.t 46), none⟩, ⟨some 48, .fa 4 (.t 1), some (47, true)⟩, ⟨some 49, .ld 1 false (.t 48), some (47, true)⟩, ⟨some 50, .bin .eql (.t 49) (.c (.int .i64 0)), some (47, true)⟩, ⟨some 51, .pick (.t 47) (.t 50) (.c (.bool false)), none⟩, ⟨some 2, .mv (.t 51), none⟩]) .ret) (.seq (.reg [⟨some 53, .bin .eql (.t 21) (.c (.int .i64 3)), none⟩, ⟨some 52, .mv (.t 53), none⟩]) (.cond (.t 52) (.seq (.reg [⟨some 54, .mv (.t 3), none⟩, ⟨some 55, .mv (.t 54), none⟩, ⟨some 56, .fa 4 (.t 1), some (55, true)⟩, ⟨some 57, .ld 1 false (.t 56), some (55, true)⟩, ⟨some 58, .bin .geq (.t 57) (.c (.int .i64 1)), some (55, true)⟩, ⟨some 59, .pick (.t 55) (.t 58) (.c (.bool false)), none⟩, ⟨some 60, .mv (.t 59), none⟩, ⟨some 61, .fa 4 (.t 1), some (60, true)⟩, ⟨some 62, .ld 1 false (.t 61), some (60, true)⟩, ⟨some 63, .bin .leq (.t 62) (.c (.int .i64 1000)), some (60, true)⟩, ⟨some 64, .pick (.t 60) (.t 63) (.c (.bool false)), none⟩, ⟨some 2, .mv (.t 64), none⟩]) .ret) (.seq (.reg [⟨some 66, .bin .eql (.t 21) (.c (.int .i64 4)), none⟩, ⟨some 65, .mv (.t 66), none⟩]) (.cond (.t 65) (.seq (.reg [⟨some 67, .mv (.t 3), none⟩, ⟨some 68, .mv (.t 67), none⟩, ⟨some 69, .fa 4 (.t 1), some (68, true)⟩, ⟨some 70, .ld 1 false (.t 69), some (68, true)⟩, ⟨some 71, .bin .geq (.t 70) (.c (.int .i64 0)), some (68, true)⟩, ⟨some 72, .pick (.t 68) (.t 71) (.c (.bool false)), none⟩, ⟨some 73, .mv (.t 72), none⟩, ⟨some 74, .fa 4 (.t 1), some (73, true)⟩, ⟨some 75, .ld 1 false (.t 74), some (73, true)⟩, ⟨some 76, .bin .leq (.t 75) (.c (.int .i64 32)), some (73, true)⟩, ⟨some 77, .pick (.t 73) (.t 76) (.c (.bool false)), none⟩, ⟨some 2, .mv (.t 77), none⟩]) .ret) .skip)))))))))) (.seq (.reg [⟨some 2, .mv (.c (.bool false)), none⟩]) .ret))))
def res : List RItem := [.t 2]
theorem ok : Option.bind Try.f127.body (cCode P Try.f127.ntmps) = some code := by kernel_rfl
theorem rok : cRes P Try.f127.results.toList = some res := by kernel_rfl
theorem intro {args : List AV} {T T2 : Tab} {r : AV} (ha : (Nat.ble args.length nt && Nat.ble T.length 4) = true) (h : Run P nt [.code code] (argEnv 0 args) T (RetQ res T T2 r)) : AC P id args T r T2 :=
  AC.introB Try.func127 ok rfl rok ha h
end field_Right
namespace step_in
/-- instar/step.in -/
abbrev id : FuncId := 128
abbrev nt : Nat := 15
def code : ACode := .seq (.reg [⟨some 6, .mv (.c (.bool false)), none⟩]) (.seq (.reg [⟨some 7, .mv (.t 0), none⟩, ⟨some 8, .mv (.t 1), none⟩, ⟨some 9, .bin .geq (.t 7) (.t 8), none⟩, ⟨some 10, .mv (.t 9), none⟩, ⟨some 11, .mv (.t 0), some (10, true)⟩, ⟨some 12, .mv (.t 2), some (10, true)⟩, ⟨some 13, .bin .leq (.t 11) (.t 12), some (10, true)⟩, ⟨some 14, .pick (.t 10) (.t 13) (.c (.bool false)), none⟩, ⟨some 6, .mv (.t 14), none⟩]) .ret)
def res : List RItem := [.t 6]
theorem ok : Option.bind Try.f128.body (cCode P Try.f128.ntmps) = some code := by kernel_rfl
theorem rok : cRes P Try.f128.results.toList = some res := by kernel_rfl
theorem intro {args : List AV} {T T2 : Tab} {r : AV} (ha : (Nat.ble args.length nt && Nat.ble T.length 4) = true) (h : Run P nt [.code code] (argEnv 0 args) T (RetQ res T T2 r)) : AC P id args T r T2 :=
  AC.introB Try.func128 ok rfl rok ha h
end step_in
namespace step_apart
/-- instar/step.apart -/
abbrev id : FuncId := 129
abbrev nt : Nat := 30
def code : ACode := .seq (.reg [⟨some 4, .mv (.c (.bool false)), none⟩]) (.seq (.reg [⟨some 5, .allocA 1000 (.bool false), none⟩]) (.seq (.seq (.reg [⟨some 8, .mv (.t 0), none⟩, ⟨some 9, .len (.t 8), none⟩, ⟨some 10, .mv (.c (.int .i64 0)), none⟩]) (.block 0 (.loop (.seq (.reg [⟨some 11, .bin .lss (.t 10) (.t 9), none⟩]) (.seq (.cond (.t 11) .skip (.exit 0)) (.seq (.block 1 (.seq (.reg [⟨some 12, .ia 1 (.t 8) (.t 10), none⟩, ⟨some 13, .ld 1 false (.t 12), none⟩, ⟨some 7, .mv (.t 13), none⟩]) (.seq (.seq (.reg [⟨some 14, .mv (.t 7), none⟩, ⟨some 15, .mv (.t 1), none⟩, ⟨some 16, .bin .sub (.t 15) (.c (.int .i64 1)), none⟩, ⟨some 17, .call 128 [.t 14, .c (.int .i64 0), .t 16], none⟩, ⟨some 18, .not (.t 17), none⟩, ⟨some 19, .mv (.t 18), none⟩, ⟨some 20, .mv (.t 7), some (19, false)⟩, ⟨some 21, .iaA 1000 1 (.t 5) (.t 20), some (19, false)⟩, ⟨some 22, .ld 1 false (.t 21), some (19, false)⟩, ⟨some 23, .pick (.t 19) (.c (.bool true)) (.t 22), none⟩]) (.cond (.t 23) (.seq (.reg [⟨some 4, .mv (.c (.bool false)), none⟩]) .ret) .skip)) (.reg [⟨some 24, .mv (.t 7), none⟩, ⟨some 25, .iaA 1000 1 (.t 5) (.t 24), none⟩, ⟨none, .st 1 (.t 25) (.c (.bool true)), none⟩])))) (.reg [⟨some 26, .bin .add (.t 10) (.c (.int .i64 1)), none⟩, ⟨some 10, .mv (.t 26), none⟩]))))))) (.seq (.reg [⟨some 27, .mv (.t 0), none⟩, ⟨some 28, .len (.t 27), none⟩, ⟨some 29, .call 128 [.t 28, .c (.int .i64 1), .c (.int .i64 64)], none⟩, ⟨some 4, .mv (.t 29), none⟩]) .ret)))
def res : List RItem := [.t 4]
theorem ok : Option.bind Try.f129.body (cCode P Try.f129.ntmps) = some code := by kernel_rfl
theorem rok : cRes P Try.f129.results.toList = some res := by kernel_rfl
theorem intro {args : List AV} {T T2 : Tab} {r : AV} (ha : (Nat.ble args.length nt && Nat.ble T.length 4) = true) (h : Run P nt [.code code] (argEnv 0 args) T (RetQ res T T2 r)) : AC P id args T r T2 :=
  AC.introB Try.func129 ok rfl rok ha h
end step_apart
namespace slices_IndexFunc_api_Field_api_Field
/-- slices.IndexFunc[[]instar/api.Field,instar/api.Field] -/
abbrev id : FuncId := 130
abbrev nt : Nat := 19
def code : ACode := .seq (.reg [⟨some 4, .mv (.c (.int .i64 0)), none⟩]) (.seq (.seq (.reg [⟨some 6, .mv (.t 0), none⟩, ⟨some 7, .len (.t 6), none⟩, ⟨some 8, .mv (.c (.int .i64 0)), none⟩]) (.block 0 (.loop (.seq (.reg [⟨some 9, .bin .lss (.t 8) (.t 7), none⟩]) (.seq (.cond (.t 9) .skip (.exit 0)) (.seq (.block 1 (.seq (.reg [⟨some 10, .mv (.t 8), none⟩, ⟨some 5, .mv (.t 10), none⟩]) (.seq (.reg [⟨some 11, .mv (.t 1), none⟩, ⟨some 12, .mv (.t 0), none⟩, ⟨some 13, .mv (.t 5), none⟩, ⟨some 14, .ia 5 (.t 12) (.t 13), none⟩, ⟨some 15, .ld 5 true (.t 14), none⟩, ⟨some 16, .callv (.t 11) [.t 15], none⟩]) (.cond (.t 16) (.seq (.reg [⟨some 17, .mv (.t 5), none⟩, ⟨some 4, .mv (.t 17), none⟩]) .ret) .skip)))) (.reg [⟨some 18, .bin .add (.t 8) (.c (.int .i64 1)), none⟩, ⟨some 8, .mv (.t 18), none⟩]))))))) (.seq (.reg [⟨some 4, .mv (.c (.int .i64 (-1))), none⟩]) .ret))
def res : List RItem := [.t 4]
theorem ok : Option.bind Try.f130.body (cCode P Try.f130.ntmps) = some code := by kernel_rfl
theorem rok : cRes P Try.f130.results.toList = some res := by kernel_rfl
theorem intro {args : List AV} {T T2 : Tab} {r : AV} (ha : (Nat.ble args.length nt && Nat.ble T.length 4) = true) (h : Run P nt [.code code] (argEnv 0 args) T (RetQ res T T2 r)) : AC P id args T r T2 :=
  AC.introB Try.func130 ok rfl rok ha h
end slices_IndexFunc_api_Field_api_Field
namespace schema_At_1
/-- instar/schema.At$1 -/
abbrev id : FuncId := 131
abbrev nt : Nat := 8
def code : ACode := .seq (.reg [⟨some 2, .box (.t 0), none⟩, ⟨some 3, .mv (.c (.bool false)), none⟩]) (.seq (.reg [⟨some 4, .fa 0 (.t 2), none⟩, ⟨some 5, .ld 1 false (.t 4), none⟩, ⟨some 6, .ld 1 false (.t 1), none⟩, ⟨some 7, .bin .eql (.t 5) (.t 6), none⟩, ⟨some 3, .mv (.t 7), none⟩]) .ret)
def res : List RItem := [.t 3]
theorem ok : Option.bind Try.f131.body (cCode P Try.f131.ntmps) = some code := by kernel_rfl
theorem rok : cRes P Try.f131.results.toList = some res := by kernel_rfl
theorem intro {args : List AV} {T T2 : Tab} {r : AV} (ha : (Nat.ble args.length nt && Nat.ble T.length 4) = true) (h : Run P nt [.code code] (argEnv 0 args) T (RetQ res T T2 r)) : AC P id args T r T2 :=
  AC.introB Try.func131 ok rfl rok ha h
end schema_At_1
namespace field_Wider
/-- instar/field.Wider -/
abbrev id : FuncId := 135
abbrev nt : Nat := 49
def code : ACode := .seq (.reg [⟨some 2, .box (.t 0), none⟩, ⟨some 3, .box (.t 1), none⟩, ⟨some 4, .mv (.c (.bool false)), none⟩]) (.seq (.seq (.reg [⟨some 9, .ld 5 true (.t 2), none⟩, ⟨some 10, .call 127 [.t 9], none⟩, ⟨some 11, .not (.t 10), none⟩, ⟨some 12, .mv (.t 11), none⟩, ⟨some 13, .ld 5 true (.t 3), some (12, false)⟩, ⟨some 14, .call 127 [.t 13], some (12, false)⟩, ⟨some 15, .not (.t 14), some (12, false)⟩, ⟨some 16, .pick (.t 12) (.c (.bool true)) (.t 15), none⟩, ⟨some 17, .mv (.t 16), none⟩, ⟨some 18, .fa 1 (.t 2), some (17, false)⟩, ⟨some 19, .ld 1 false (.t 18), some (17, false)⟩, ⟨some 20, .fa 1 (.t 3), some (17, false)⟩, ⟨some 21, .ld 1 false (.t 20), some (17, false)⟩, ⟨some 22, .bin .neq (.t 19) (.t 21), some (17, false)⟩, ⟨some 23, .pick (.t 17) (.c (.bool true)) (.t 22), none⟩]) (.cond (.t 23) (.seq (.reg [⟨some 4, .mv (.c (.bool false)), none⟩]) .ret) .skip)) (.seq (.reg [⟨some 25, .ld 5 true (.t 2), none⟩, ⟨some 26, .call 144 [.t 25], none⟩, ⟨some 24, .mv (.t 26), none⟩, ⟨some 27, .ext 0 (.t 24), none⟩, ⟨some 28, .ext 1 (.t 24), none⟩, ⟨some 5, .mv (.t 27), none⟩, ⟨some 6, .mv (.t 28), none⟩]) (.seq (.reg [⟨some 30, .ld 5 true (.t 3), none⟩, ⟨some 31, .call 144 [.t 30], none⟩, ⟨some 29, .mv (.t 31), none⟩, ⟨some 32, .ext 0 (.t 29), none⟩, ⟨some 33, .ext 1 (.t 29), none⟩, ⟨some 7, .mv (.t 32), none⟩, ⟨some 8, .mv (.t 33), none⟩]) (.seq (.reg [⟨some 34, .mv (.t 7), none⟩, ⟨some 35, .mv (.t 5), none⟩, ⟨some 36, .bin .leq (.t 34) (.t 35), none⟩, ⟨some 37, .mv (.t 36), none⟩, ⟨some 38, .mv (.t 6), some (37, true)⟩, ⟨some 39, .mv (.t 8), some (37, true)⟩, ⟨some 40, .bin .leq (.t 38) (.t 39), some (37, true)⟩, ⟨some 41, .pick (.t 37) (.t 40) (.c (.bool false)), none⟩, ⟨some 42, .mv (.t 41), none⟩, ⟨some 43, .fa 4 (.t 2), some (42, true)⟩, ⟨some 44, .ld 1 false (.t 43), some (42, true)⟩, ⟨some 45, .fa 4 (.t 3), some (42, true)⟩, ⟨some 46, .ld 1 false (.t 45), some (42, true)⟩, ⟨some 47, .bin .leq (.t 44) (.t 46), some (42, true)⟩, ⟨some 48, .pick (.t 42) (.t 47) (.c (.bool false)), none⟩, ⟨some 4, .mv (.t 48), none⟩]) .ret))))
def res : List RItem := [.t 4]
theorem ok : Option.bind Try.f135.body (cCode P Try.f135.ntmps) = some code := by kernel_rfl
theorem rok : cRes P Try.f135.results.toList = some res := by kernel_rfl
theorem intro {args : List AV} {T T2 : Tab} {r : AV} (ha : (Nat.ble args.length nt && Nat.ble T.length 4) = true) (h : Run P nt [.code code] (argEnv 0 args) T (RetQ res T T2 r)) : AC P id args T r T2 :=
  AC.introB Try.func135 ok rfl rok ha h
end field_Wider
namespace typing_scaled
/-- instar/typing.scaled -/
abbrev id : FuncId := 136
abbrev nt : Nat := 33
def code : ACode := .seq (.reg [⟨some 3, .box (.t 0), none⟩, ⟨some 6, .alloc [.int .i64 0, .int .i64 0, .int .i64 0, .int .i64 0, .int .i64 0], none⟩, ⟨some 7, .mv (.c (.bool false)), none⟩]) (.seq (.draw [⟨some 10, .mv (.t 1), none⟩, ⟨some 11, .fa 2 (.t 3), none⟩, ⟨some 12, .ld 1 false (.t 11), none⟩, ⟨some 13, .bin .mul (.t 10) (.t 12), none⟩, ⟨some 14, .mv (.t 2), none⟩, ⟨some 15, .bin .add (.t 13) (.t 14), none⟩, ⟨some 16, .mv (.t 1), none⟩, ⟨some 17, .fa 3 (.t 3), none⟩, ⟨some 18, .ld 1 false (.t 17), none⟩, ⟨some 19, .bin .mul (.t 16) (.t 18), none⟩, ⟨some 20, .mv (.t 2), none⟩, ⟨some 21, .bin .add (.t 19) (.t 20), none⟩, ⟨some 8, .mv (.t 15), none⟩, ⟨some 9, .mv (.t 21), none⟩] [0, 0, 2, 7, 0, 31, 0, 0, 128, 448, 0, 1984, 63, 8191]) (.seq (.reg [⟨some 22, .mv (.t 8), none⟩, ⟨some 23, .mv (.t 9), none⟩, ⟨some 24, .mnmx false (.t 22) (.t 23), none⟩, ⟨some 25, .mv (.t 8), none⟩, ⟨some 26, .mv (.t 9), none⟩, ⟨some 27, .mnmx true (.t 25) (.t 26), none⟩, ⟨some 28, .fa 2 (.t 3), none⟩, ⟨none, .st 1 (.t 28) (.t 24), none⟩, ⟨some 29, .fa 3 (.t 3), none⟩, ⟨none, .st 1 (.t 29) (.t 27), none⟩]) (.seq (.draw [⟨some 30, .ld 5 true (.t 3), none⟩, ⟨some 31, .ld 5 true (.t 3), none⟩, ⟨some 32, .call 127 [.t 31], none⟩, ⟨none, .st 5 (.t 6) (.t 30), none⟩, ⟨some 7, .mv (.t 32), none⟩] [0, 0, 2, 7, 15]) .ret)))
def res : List RItem := [.cell 6 5 true, .t 7]
theorem ok : Option.bind Try.f136.body (cCode P Try.f136.ntmps) = some code := by kernel_rfl
theorem rok : cRes P Try.f136.results.toList = some res := by kernel_rfl
theorem intro {args : List AV} {T T2 : Tab} {r : AV} (ha : (Nat.ble args.length nt && Nat.ble T.length 4) = true) (h : Run P nt [.code code] (argEnv 0 args) T (RetQ res T T2 r)) : AC P id args T r T2 :=
  AC.introB Try.func136 ok rfl rok ha h
end typing_scaled
namespace pen_Pen_put
/-- (*instar/pen.Pen).put -/
abbrev id : FuncId := 138
abbrev nt : Nat := 15
def code : ACode := .seq (.reg [⟨some 4, .mv (.t 0), none⟩, ⟨some 5, .eqNilP true (.t 4), none⟩]) (.cond (.t 5) (.reg [⟨some 6, .mv (.t 0), none⟩, ⟨some 7, .mv (.t 0), none⟩, ⟨some 8, .nilc (.t 7), none⟩, ⟨some 9, .fa 0 (.t 8), none⟩, ⟨some 10, .ld 1 false (.t 9), none⟩, ⟨some 11, .mv (.t 1), none⟩, ⟨some 12, .app 1 1 (.t 10) (.t 11), none⟩, ⟨some 13, .nilc (.t 6), none⟩, ⟨some 14, .fa 0 (.t 13), none⟩, ⟨none, .st 1 (.t 14) (.t 12), none⟩]) .skip)
def res : List RItem := []
theorem ok : Option.bind Try.f138.body (cCode P Try.f138.ntmps) = some code := by kernel_rfl
theorem rok : cRes P Try.f138.results.toList = some res := by kernel_rfl
theorem intro {args : List AV} {T T2 : Tab} {r : AV} (ha : (Nat.ble args.length nt && Nat.ble T.length 4) = true) (h : Run P nt [.code code] (argEnv 0 args) T (RetQ res T T2 r)) : AC P id args T r T2 :=
  AC.introB Try.func138 ok rfl rok ha h
end pen_Pen_put
namespace R12_Size
/-- instar/instarref12.Size -/
abbrev id : FuncId := 139
abbrev nt : Nat := 25
def code : ACode := .seq (.reg [⟨some 1, .box (.t 0), none⟩, ⟨some 2, .mv (.c (.int .i64 0)), none⟩]) (.seq (.reg [⟨some 8, .ld 5 true (.t 1), none⟩, ⟨some 9, .call 113 [.t 8], none⟩, ⟨some 7, .mv (.t 9), none⟩, ⟨some 10, .ext 0 (.t 7), none⟩, ⟨some 11, .ext 1 (.t 7), none⟩, ⟨some 12, .ext 2 (.t 7), none⟩, ⟨some 13, .ext 3 (.t 7), none⟩, ⟨some 3, .mv (.t 10), none⟩, ⟨some 4, .mv (.t 11), none⟩, ⟨some 5, .mv (.t 12), none⟩, ⟨some 6, .mv (.t 13), none⟩]) (.seq (.seq (.reg [⟨some 14, .mv (.t 6), none⟩, ⟨some 15, .not (.t 14), none⟩]) (.cond (.t 15) (.seq (.reg [⟨some 2, .mv (.c (.int .i64 0)), none⟩]) .ret) .skip)) (.seq (.seq (.reg [⟨some 16, .fa 1 (.t 1), none⟩, ⟨some 17, .ld 1 false (.t 16), none⟩, ⟨some 18, .bin .eql (.t 17) (.c (.int .i64 4)), none⟩]) (.cond (.t 18) (.seq (.reg [⟨some 19, .mv (.t 5), none⟩, ⟨some 20, .bin .add (.c (.int .i64 1)) (.t 19), none⟩, ⟨some 2, .mv (.t 20), none⟩]) .ret) .skip)) (.seq (.reg [⟨some 21, .mv (.t 4), none⟩, ⟨some 22, .mv (.t 3), none⟩, ⟨some 23, .bin .sub (.t 21) (.t 22), none⟩, ⟨some 24, .call 150 [.t 23], none⟩, ⟨some 2, .mv (.t 24), none⟩]) .ret))))
def res : List RItem := [.t 2]
theorem ok : Option.bind Try.f139.body (cCode P Try.f139.ntmps) = some code := by kernel_rfl
theorem rok : cRes P Try.f139.results.toList = some res := by kernel_rfl
theorem intro {args : List AV} {T T2 : Tab} {r : AV} (ha : (Nat.ble args.length nt && Nat.ble T.length 4) = true) (h : Run P nt [.code code] (argEnv 0 args) T (RetQ res T T2 r)) : AC P id args T r T2 :=
  AC.introB Try.func139 ok rfl rok ha h
end R12_Size
namespace field_wide
/-- instar/field.wide -/
abbrev id : FuncId := 143
abbrev nt : Nat := 14
def code : ACode := .seq (.reg [⟨some 1, .box (.t 0), none⟩, ⟨some 2, .mv (.c (.int .i64 0)), none⟩]) (.seq (.reg [⟨some 6, .ld 5 true (.t 1), none⟩, ⟨some 7, .call 144 [.t 6], none⟩, ⟨some 5, .mv (.t 7), none⟩, ⟨some 8, .ext 0 (.t 5), none⟩, ⟨some 9, .ext 1 (.t 5), none⟩, ⟨some 3, .mv (.t 8), none⟩, ⟨some 4, .mv (.t 9), none⟩]) (.seq (.reg [⟨some 10, .mv (.t 4), none⟩, ⟨some 11, .mv (.t 3), none⟩, ⟨some 12, .bin .sub (.t 10) (.t 11), none⟩, ⟨some 13, .call 151 [.t 12], none⟩, ⟨some 2, .mv (.t 13), none⟩]) .ret))
def res : List RItem := [.t 2]
theorem ok : Option.bind Try.f143.body (cCode P Try.f143.ntmps) = some code := by kernel_rfl
theorem rok : cRes P Try.f143.results.toList = some res := by kernel_rfl
theorem intro {args : List AV} {T T2 : Tab} {r : AV} (ha : (Nat.ble args.length nt && Nat.ble T.length 4) = true) (h : Run P nt [.code code] (argEnv 0 args) T (RetQ res T T2 r)) : AC P id args T r T2 :=
  AC.introB Try.func143 ok rfl rok ha h
end field_wide
namespace field_bounds
/-- instar/field.bounds -/
abbrev id : FuncId := 144
abbrev nt : Nat := 19
def code : ACode := .seq (.reg [⟨some 1, .box (.t 0), none⟩, ⟨some 2, .mv (.c (.int .i64 0)), none⟩, ⟨some 3, .mv (.c (.int .i64 0)), none⟩]) (.seq (.seq (.reg [⟨some 4, .fa 1 (.t 1), none⟩, ⟨some 5, .ld 1 false (.t 4), none⟩]) (.block 0 (.seq (.reg [⟨some 7, .bin .eql (.t 5) (.c (.int .i64 1)), none⟩, ⟨some 6, .mv (.t 7), none⟩]) (.cond (.t 6) (.seq (.draw [⟨some 8, .fa 2 (.t 1), none⟩, ⟨some 9, .ld 1 false (.t 8), none⟩, ⟨some 10, .fa 3 (.t 1), none⟩, ⟨some 11, .ld 1 false (.t 10), none⟩, ⟨some 2, .mv (.t 9), none⟩, ⟨some 3, .mv (.t 11), none⟩] [0, 1, 0, 4, 3, 31]) .ret) (.seq (.reg [⟨some 13, .bin .eql (.t 5) (.c (.int .i64 2)), none⟩, ⟨some 12, .mv (.t 13), none⟩]) (.cond (.t 12) (.seq (.reg [⟨some 2, .mv (.c (.int .i64 0)), none⟩, ⟨some 3, .mv (.c (.int .i64 1)), none⟩]) .ret) (.seq (.reg [⟨some 15, .bin .eql (.t 5) (.c (.int .i64 3)), none⟩, ⟨some 14, .mv (.t 15), none⟩]) (.cond (.t 14) (.seq (.draw [⟨some 16, .fa 4 (.t 1), none⟩, ⟨some 17, .ld 1 false (.t 16), none⟩, ⟨some 18, .bin .sub (.t 17) (.c (.int .i64 1)), none⟩, ⟨some 2, .mv (.c (.int .i64 0)), none⟩, ⟨some 3, .mv (.t 18), none⟩] [0, 1, 3, 0, 15]) .ret) .skip)))))))) (.seq (.reg [⟨some 2, .mv (.c (.int .i64 0)), none⟩, ⟨some 3, .mv (.c (.int .i64 0)), none⟩]) .ret))
def res : List RItem := [.t 2, .t 3]
theorem ok : Option.bind Try.f144.body (cCode P Try.f144.ntmps) = some code := by kernel_rfl
theorem rok : cRes P Try.f144.results.toList = some res := by kernel_rfl
theorem intro {args : List AV} {T T2 : Tab} {r : AV} (ha : (Nat.ble args.length nt && Nat.ble T.length 4) = true) (h : Run P nt [.code code] (argEnv 0 args) T (RetQ res T T2 r)) : AC P id args T r T2 :=
  AC.introB Try.func144 ok rfl rok ha h
end field_bounds
namespace field_Size
/-- instar/field.Size -/
abbrev id : FuncId := 146
abbrev nt : Nat := 20
def code : ACode := .seq (.reg [⟨some 1, .box (.t 0), none⟩, ⟨some 2, .mv (.c (.int .i64 0)), none⟩]) (.seq (.seq (.reg [⟨some 4, .ld 5 true (.t 1), none⟩, ⟨some 5, .call 127 [.t 4], none⟩, ⟨some 6, .not (.t 5), none⟩]) (.cond (.t 6) (.seq (.reg [⟨some 2, .mv (.c (.int .i64 0)), none⟩]) .ret) .skip)) (.seq (.reg [⟨some 3, .mv (.c (.int .i64 0)), none⟩]) (.seq (.seq (.reg [⟨some 7, .fa 1 (.t 1), none⟩, ⟨some 8, .ld 1 false (.t 7), none⟩]) (.block 0 (.seq (.block 3 (.seq (.block 2 (.seq (.block 1 (.seq (.seq (.seq (.reg [⟨some 10, .bin .eql (.t 8) (.c (.int .i64 4)), none⟩, ⟨some 9, .mv (.t 10), none⟩]) (.cond (.t 9) (.exit 1) .skip)) (.seq (.reg [⟨some 12, .bin .eql (.t 8) (.c (.int .i64 2)), none⟩, ⟨some 11, .mv (.t 12), none⟩]) (.cond (.t 11) (.exit 2) .skip))) (.exit 3))) (.reg [⟨some 13, .fa 4 (.t 1), none⟩, ⟨some 14, .ld 1 false (.t 13), none⟩, ⟨some 3, .mv (.t 14), none⟩]))) (.seq (.reg [⟨some 15, .mv (.t 3), none⟩, ⟨some 16, .bin .add (.t 15) (.c (.int .i64 1)), none⟩, ⟨some 3, .mv (.t 16), none⟩]) (.exit 0)))) (.seq (.reg [⟨some 17, .ld 5 true (.t 1), none⟩, ⟨some 18, .call 143 [.t 17], none⟩, ⟨some 3, .mv (.t 18), none⟩]) (.exit 0))))) (.seq (.reg [⟨some 19, .mv (.t 3), none⟩, ⟨some 2, .mv (.t 19), none⟩]) .ret))))
def res : List RItem := [.t 2]
theorem ok : Option.bind Try.f146.body (cCode P Try.f146.ntmps) = some code := by kernel_rfl
theorem rok : cRes P Try.f146.results.toList = some res := by kernel_rfl
theorem intro {args : List AV} {T T2 : Tab} {r : AV} (ha : (Nat.ble args.length nt && Nat.ble T.length 4) = true) (h : Run P nt [.code code] (argEnv 0 args) T (RetQ res T T2 r)) : AC P id args T r T2 :=
  AC.introB Try.func146 ok rfl rok ha h
end field_Size
namespace R12_wide
/-- instar/instarref12.wide -/
abbrev id : FuncId := 150
abbrev nt : Nat := 11
def code : ACode := .seq (.reg [⟨some 2, .mv (.c (.int .i64 0)), none⟩]) (.seq (.reg [⟨some 3, .mv (.c (.int .i64 0)), none⟩]) (.seq (.block 0 (.loop (.seq (.seq (.reg [⟨some 4, .mv (.t 0), none⟩, ⟨some 5, .bin .gtr (.t 4) (.c (.int .i64 0)), none⟩]) (.cond (.t 5) .skip (.exit 0))) (.block 1 (.seq (.reg [⟨some 6, .mv (.t 0), none⟩, ⟨some 7, .bin .quo (.t 6) (.c (.int .i64 256)), none⟩, ⟨some 0, .mv (.t 7), none⟩]) (.reg [⟨some 8, .mv (.t 3), none⟩, ⟨some 9, .bin .add (.t 8) (.c (.int .i64 1)), none⟩, ⟨some 3, .mv (.t 9), none⟩])))))) (.seq (.reg [⟨some 10, .mv (.t 3), none⟩, ⟨some 2, .mv (.t 10), none⟩]) .ret)))
def res : List RItem := [.t 2]
theorem ok : Option.bind Try.f150.body (cCode P Try.f150.ntmps) = some code := by kernel_rfl
theorem rok : cRes P Try.f150.results.toList = some res := by kernel_rfl
theorem intro {args : List AV} {T T2 : Tab} {r : AV} (ha : (Nat.ble args.length nt && Nat.ble T.length 4) = true) (h : Run P nt [.code code] (argEnv 0 args) T (RetQ res T T2 r)) : AC P id args T r T2 :=
  AC.introB Try.func150 ok rfl rok ha h
end R12_wide
namespace field_width
/-- instar/field.width -/
abbrev id : FuncId := 151
abbrev nt : Nat := 11
def code : ACode := .seq (.reg [⟨some 2, .mv (.c (.int .i64 0)), none⟩]) (.seq (.reg [⟨some 3, .mv (.c (.int .i64 0)), none⟩]) (.seq (.block 0 (.loop (.seq (.seq (.reg [⟨some 4, .mv (.t 0), none⟩, ⟨some 5, .bin .gtr (.t 4) (.c (.int .i64 0)), none⟩]) (.cond (.t 5) .skip (.exit 0))) (.seq (.block 1 (.reg [⟨some 8, .mv (.t 3), none⟩, ⟨some 9, .bin .add (.t 8) (.c (.int .i64 1)), none⟩, ⟨some 3, .mv (.t 9), none⟩])) (.reg [⟨some 6, .mv (.t 0), none⟩, ⟨some 7, .bin .shr (.t 6) (.c (.int .u64 8)), none⟩, ⟨some 0, .mv (.t 7), none⟩]))))) (.seq (.reg [⟨some 10, .mv (.t 3), none⟩, ⟨some 2, .mv (.t 10), none⟩]) .ret)))
def res : List RItem := [.t 2]
theorem ok : Option.bind Try.f151.body (cCode P Try.f151.ntmps) = some code := by kernel_rfl
theorem rok : cRes P Try.f151.results.toList = some res := by kernel_rfl
theorem intro {args : List AV} {T T2 : Tab} {r : AV} (ha : (Nat.ble args.length nt && Nat.ble T.length 4) = true) (h : Run P nt [.code code] (argEnv 0 args) T (RetQ res T T2 r)) : AC P id args T r T2 :=
  AC.introB Try.func151 ok rfl rok ha h
end field_width
end Go.Proofs.Ytbpcjahjbkiofaa.Fn

set_option linter.unusedVariables false
namespace Go.Proofs.Ytbpcjahjbkiofaa.Sp
open Go Go.Proofs.Ytbpcjahjbkiofaa.AV Go.Proofs.Ytbpcjahjbkiofaa.Fn

structure Fld where
  id : Int
  kind : Int
  lo : Int
  hi : Int
  most : Int
  deriving DecidableEq
instance : Inhabited Fld := ⟨⟨0, 0, 0, 0, 0⟩⟩
structure Frm where
  id : Int
  fields : List Fld
  deriving DecidableEq
instance : Inhabited Frm := ⟨⟨0, []⟩⟩
structure Sch where
  version : Int
  forms : List Frm
  deriving DecidableEq
instance : Inhabited Sch := ⟨⟨0, []⟩⟩
structure Stp where
  op : Int
  form : Int
  field : Int
  place : Int
  to : Int
  a : Int
  b : Int
  f : Fld
  vn : Int
  vs : ByteArray
  t : List Int
  fields : List Fld
instance : Inhabited Stp := ⟨⟨0, 0, 0, 0, 0, 0, 0, default, 0, ByteArray.empty, [], []⟩⟩

def Fld.cells (x : Fld) : List AV := [.int .i64 x.id, .int .i64 x.kind, .int .i64 x.lo, .int .i64 x.hi, .int .i64 x.most]
def encFs (l : List Fld) : AV := .list 5 l.length (fun i => Fld.cells (l.getD i default))
def encIs (l : List Int) : AV := .list 1 l.length (fun i => [.int .i64 (l.getD i 0)])
def Frm.cells (x : Frm) : List AV := [.int .i64 x.id, encFs x.fields]
def encFms (l : List Frm) : AV := .list 2 l.length (fun i => Frm.cells (l.getD i default))
def Sch.cells (x : Sch) : List AV := [.int .i64 x.version, encFms x.forms]
def Stp.cells (x : Stp) : List AV := [.int .i64 x.op, .int .i64 x.form, .int .i64 x.field, .int .i64 x.place, .int .i64 x.to, .int .i64 x.a, .int .i64 x.b,
  .int .i64 x.f.id, .int .i64 x.f.kind, .int .i64 x.f.lo, .int .i64 x.f.hi, .int .i64 x.f.most, .int .i64 x.vn, .str x.vs, encIs x.t, encFs x.fields]
def encSs (l : List Stp) : AV := .list 16 l.length (fun i => Stp.cells (l.getD i default))

theorem wrap_of {x : Int} (h1 : -9223372036854775808 ≤ x) (h2 : x ≤ 9223372036854775807) : IntKind.i64.wrap x = x := by
  unfold IntKind.wrap
  simp only [IntKind.bits, IntKind.signed, Bool.true_and]
  split <;> rename_i h <;> simp at h <;> omega

/-- Rows of cells that stand for a list. -/
structure IsL {α : Type} [Inhabited α] (enc : α → List AV) (n : Nat) (g : Nat → List AV) (l : List α) : Prop where
  len : n = l.length
  get : ∀ i, i < n → g i = enc (l.getD i default)

section
variable {α : Type} [Inhabited α] {enc : α → List AV} {n m : Nat} {g h : Nat → List AV} {l k : List α}

theorem IsL.all (enc : α → List AV) (l : List α) : IsL enc l.length (fun i => enc (l.getD i default)) l := ⟨rfl, fun _ _ => rfl⟩
theorem IsL.nil (g : Nat → List AV) : IsL enc 0 g [] := ⟨rfl, fun i hi => absurd hi (Nat.not_lt_zero _)⟩
theorem IsL.one (x : α) : IsL enc 1 (nthL [enc x]) [x] := ⟨rfl, fun i hi => by
  have h0 : i = 0 := Nat.lt_one_iff.1 hi
  subst h0
  rfl⟩
theorem IsL.app (h1 : IsL enc n g l) (h2 : IsL enc m h k) : IsL enc (n + m) (fapp n g h) (l ++ k) := by
  refine ⟨by rw [h1.len, h2.len, List.length_append], fun i hi => ?_⟩
  by_cases hn : i < n
  · rw [fapp_lt hn, h1.get i hn]
    have : i < l.length := by rw [← h1.len]; exact hn
    simp [List.getD_eq_getElem?_getD, List.getElem?_append_left this]
  · rw [fapp_ge (by omega), h2.get _ (by omega)]
    have : l.length ≤ i := by rw [← h1.len]; omega
    simp [List.getD_eq_getElem?_getD, List.getElem?_append_right this, h1.len]
theorem IsL.sub (h1 : IsL enc n g l) {i j : Nat} (hij : i ≤ j) (hj : j ≤ n) : IsL enc (j - i) (fun q => g (i + q)) ((l.drop i).take (j - i)) := by
  refine ⟨by have := h1.len; simp; omega, fun q hq => ?_⟩
  have hl := h1.len
  rw [h1.get _ (by omega)]
  simp [List.getD_eq_getElem?_getD, hq]
theorem IsL.from0 (h1 : IsL enc n g l) : IsL enc n (fun i => g (0 + i)) l := ⟨h1.len, fun i hi => by rw [Nat.zero_add]; exact h1.get i hi⟩
theorem IsL.eq (h1 : IsL enc n g l) (e : l = k) : IsL enc n g k := e ▸ h1
theorem IsL.le (h1 : IsL enc n g l) {sz : Nat} : Le (.list sz n g) (.list sz l.length (fun i => enc (l.getD i default))) :=
  Le.list h1.len fun i hi => by rw [h1.get i hi]; exact .refl _
end
end Go.Proofs.Ytbpcjahjbkiofaa.Sp

set_option linter.unusedVariables false
namespace Go.Proofs.Ytbpcjahjbkiofaa.Sp
open Go Go.Proofs.Ytbpcjahjbkiofaa.AV Go.Proofs.Ytbpcjahjbkiofaa.Fn
set_option maxRecDepth 10000

def fRight (f : Fld) : Bool :=
  !(f.id < 0 || f.id > 255) && (
    if f.kind == 1 then f.lo ≥ -1099511627776 && f.lo ≤ f.hi && f.hi ≤ 1099511627776 && f.most == 0
    else if f.kind == 2 then f.lo == 0 && f.hi == 0 && f.most == 0
    else if f.kind == 3 then f.lo == 0 && f.hi == 0 && f.most ≥ 1 && f.most ≤ 1000
    else if f.kind == 4 then f.lo == 0 && f.hi == 0 && f.most ≥ 0 && f.most ≤ 32
    else false)

theorem field_right (f : Fld) : AC P field_Right.id [.agg f.cells] [] (.bool (fRight f)) [] := by
  refine field_Right.intro rfl (Goes.run ?_)
  conv => whnf
  refine ⟨rfl, ?_⟩
  repeat' first
    | (refine Run.condC rfl (fun h => ?_) (fun h => ?_) <;> (conv => whnf) <;> refine ⟨rfl, ?_⟩)
    | (refine Run.retP ?_; (conv => whnf); refine ⟨rfl, ?_⟩)
  all_goals first
    | (refine Le.ff ?_; simp [fRight, *]; done)
    | (refine Le.ff ?_; simp [fRight]; simp at *; omega)
    | (refine Le.bool ?_; simp [fRight, *]; done)

def fLo (f : Fld) : Int := if f.kind == 1 then f.lo else 0
def fHi (f : Fld) : Int := if f.kind == 1 then f.hi else if f.kind == 2 then 1 else if f.kind == 3 then IntKind.i64.wrap (f.most - 1) else 0

theorem field_bounds (f : Fld) : AC P field_bounds.id [.agg f.cells] [] (.tuple [.int .i64 (fLo f), .int .i64 (fHi f)]) [] := by
  refine field_bounds.intro rfl (Goes.run ?_)
  conv => whnf
  refine ⟨rfl, ?_⟩
  repeat' first
    | (refine Run.condC rfl (fun h => ?_) (fun h => ?_) <;> (conv => whnf) <;> refine ⟨rfl, ?_⟩)
    | (refine Run.retP ?_; (conv => whnf); refine ⟨rfl, ?_⟩)
  all_goals
    refine Le.tuple (.cons (.int ?_) (.cons (.int ?_) .nil))
    · simp [fLo, *]
    · simp [fHi, *]

/-- How many bytes hold a number. -/
def byts (n : Nat) : Nat := if h : n = 0 then 0 else byts (n / 256) + 1
  termination_by n
  decreasing_by omega

theorem byts_zero : byts 0 = 0 := by rw [byts]; simp
theorem byts_pos {n : Nat} (h : 0 < n) : byts n = byts (n / 256) + 1 := by rw [byts]; simp [show n ≠ 0 by omega]

theorem byts_le (n : Nat) : byts n ≤ n := by
  induction n using Nat.strongRecOn with
  | _ n ih =>
    rcases Nat.eq_zero_or_pos n with rfl | h
    · rw [byts_zero]; omega
    · rw [byts_pos h]
      have := ih (n / 256) (by omega)
      omega

def wid (n : Int) : Int := byts n.toNat

theorem field_width (n : Int) (hn : n ≤ 9223372036854775807) : AC P field_width.id [.int .i64 n] [] (.int .i64 (wid n)) [] := by
  refine field_width.intro rfl (Goes.run ?_)
  conv => whnf
  refine ⟨rfl, ?_⟩
  refine Run.loopN (ι := Int × Nat) (fun i => i.1 ≤ n ∧ i.2 + byts i.1.toNat = byts n.toNat) (fun i => [(0, .int .i64 i.1), (3, .int .i64 (i.2 : Int))]) (fun _ => []) (fun i => i.1.toNat) (n, 0) ⟨Int.le_refl _, Nat.zero_add _⟩
    (Wk.ofEnv (Wk.cons (.refl _) (Wk.cons (.refl _) Wk.done))) fun ⟨c, w⟩ ⟨h1, h2⟩ => ?_
  have hle := byts_le n.toNat
  conv => whnf
  refine ⟨rfl, ?_⟩
  refine Run.condC rfl (fun h => ?_) (fun h => ?_) <;> (conv => whnf) <;> refine ⟨rfl, ?_⟩
  · have hc : 0 < c := by simpa using h
    refine Run.doesC rfl rfl (fun _ => Does.shr rfl rfl (by omega)) ?_
    conv => whnf
    refine ⟨rfl, ?_⟩
    have hb := byts_pos (n := c.toNat) (by omega)
    have hd : (c.fdiv 256).toNat = c.toNat / 256 := by
      rw [Int.fdiv_eq_ediv_of_nonneg _ (by omega)]
      omega
    refine Run.endR ⟨(c.fdiv 256, w + 1), ⟨?_, ?_⟩, ?_, Wk.ofEnv (Wk.cons (.int ?_) (Wk.cons (.int ?_) Wk.done))⟩
    · show c.fdiv 256 ≤ n
      rw [Int.fdiv_eq_ediv_of_nonneg _ (by omega)]
      omega
    · show w + 1 + byts (c.fdiv 256).toNat = _
      rw [hd]
      simp only at h2
      omega
    · show (c.fdiv 256).toNat < c.toNat
      rw [hd]
      omega
    · rfl
    · simp only at h2
      rw [wrap_of (by omega) (by omega)]
      simp
  · have hc : c ≤ 0 := by simpa using h
    refine Run.exitR rfl rfl ?_
    conv => whnf
    refine ⟨rfl, ?_⟩
    refine Run.retP ?_
    conv => whnf
    refine ⟨rfl, .int ?_⟩
    simp only at h2
    have : c.toNat = 0 := by omega
    rw [this, byts_zero] at h2
    show (w : Int) = _
    unfold wid
    omega
end Go.Proofs.Ytbpcjahjbkiofaa.Sp

set_option linter.unusedVariables false
namespace Go.Proofs.Ytbpcjahjbkiofaa.Sp
open Go Go.Proofs.Ytbpcjahjbkiofaa.AV Go.Proofs.Ytbpcjahjbkiofaa.Fn
set_option maxRecDepth 10000

def fMost (f : Fld) : Int := if f.kind == 4 then f.most else 0

theorem bool_eq {a b : Bool} (h : a = true ↔ b = true) : a = b := by cases a <;> cases b <;> simp_all

theorem r12_span (f : Fld) : AC P R12_Span.id [.agg f.cells] [] (.tuple [.int .i64 (fLo f), .int .i64 (fHi f), .int .i64 (fMost f), .bool (fRight f)]) [] := by
  refine R12_Span.intro rfl (Goes.run ?_)
  conv => whnf
  refine ⟨rfl, ?_⟩
  repeat' first
    | (refine Run.condC rfl (fun h => ?_) (fun h => ?_) <;> (conv => whnf) <;> refine ⟨rfl, ?_⟩)
    | (refine Run.retP ?_; (conv => whnf); refine ⟨rfl, ?_⟩)
  all_goals first
    | refine Le.tuple (.cons (.int ?_) (.cons (.int ?_) (.cons (.int ?_) (.cons (.bool ?_) .nil))))
    | refine Le.tuple (.cons (.int ?_) (.cons (.int ?_) (.cons (.int ?_) (.cons (.ff ?_) .nil))))
  all_goals first
    | (simp [fLo, *]; done)
    | (simp [fHi, *]; done)
    | (simp [fMost, *]; done)
    | (simp [fRight, *]; done)
    | (refine bool_eq ?_; simp [fRight, *]; omega)
    | (simp at *; simp [fMost, *]; done)
    | (simp at *; refine bool_eq ?_; simp [fRight, *]; omega)

theorem r12_right (f : Fld) : AC P R12_Right.id [.agg f.cells] [] (.bool (fRight f)) [] := by
  refine R12_Right.intro rfl (Goes.run ?_)
  conv => whnf
  refine ⟨rfl, ?_⟩
  refine Run.callC (av := [.agg f.cells]) rfl rfl rfl (fun _ => r12_span f) rfl rfl ?_
  conv => whnf
  refine ⟨rfl, ?_⟩
  refine Run.retP ?_
  conv => whnf
  exact ⟨rfl, .refl _⟩

def fHas (f : Fld) (n : Int) (s : ByteArray) : Bool := fRight f && decide (n ≥ fLo f) && decide (n ≤ fHi f) && decide ((s.size : Int) ≤ fMost f)

theorem r12_has (f : Fld) (n : Int) (s : ByteArray) : AC P R12_Has.id [.agg f.cells, .agg [.int .i64 n, .str s]] [] (.bool (fHas f n s)) [] := by
  refine R12_Has.intro rfl (Goes.run ?_)
  conv => whnf
  refine ⟨rfl, ?_⟩
  refine Run.callC (av := [.agg f.cells]) rfl rfl rfl (fun _ => r12_span f) rfl rfl ?_
  conv => whnf
  refine ⟨rfl, ?_⟩
  refine Run.retP ?_
  conv => whnf
  exact ⟨rfl, .refl _⟩

theorem field_has (f : Fld) (n : Int) (s : ByteArray) : AC P field_Has.id [.agg f.cells, .agg [.int .i64 n, .str s]] [] (.bool (fHas f n s)) [] := by
  refine field_Has.intro rfl (Goes.run ?_)
  conv => whnf
  refine ⟨rfl, ?_⟩
  refine Run.callC (av := [.agg f.cells]) rfl rfl rfl (fun _ => field_bounds f) rfl rfl ?_
  conv => whnf
  refine ⟨rfl, ?_⟩
  refine Run.condC rfl (fun h => ?_) (fun h => ?_) <;> (conv => whnf) <;> refine ⟨rfl, ?_⟩
  all_goals
    refine Run.callC (av := [.agg f.cells]) rfl rfl rfl (fun _ => field_right f) rfl rfl ?_
    conv => whnf
    refine ⟨rfl, ?_⟩
    refine Run.retP ?_
    conv => whnf
    refine ⟨rfl, .bool ?_⟩
    simp [fHas, fMost, h]
end Go.Proofs.Ytbpcjahjbkiofaa.Sp

set_option linter.unusedVariables false
namespace Go.Proofs.Ytbpcjahjbkiofaa.Sp
open Go Go.Proofs.Ytbpcjahjbkiofaa.AV Go.Proofs.Ytbpcjahjbkiofaa.Fn
set_option maxRecDepth 10000

theorem r12_wide (n : Int) (hn : n ≤ 9223372036854775807) : AC P R12_wide.id [.int .i64 n] [] (.int .i64 (wid n)) [] := by
  refine R12_wide.intro rfl (Goes.run ?_)
  conv => whnf
  refine ⟨rfl, ?_⟩
  refine Run.loopN (ι := Int × Nat) (fun i => i.1 ≤ n ∧ i.2 + byts i.1.toNat = byts n.toNat) (fun i => [(0, .int .i64 i.1), (3, .int .i64 (i.2 : Int))]) (fun _ => []) (fun i => i.1.toNat) (n, 0) ⟨Int.le_refl _, Nat.zero_add _⟩
    (Wk.ofEnv (Wk.cons (.refl _) (Wk.cons (.refl _) Wk.done))) fun ⟨c, w⟩ ⟨h1, h2⟩ => ?_
  have hle := byts_le n.toNat
  conv => whnf
  refine ⟨rfl, ?_⟩
  refine Run.condC rfl (fun h => ?_) (fun h => ?_) <;> (conv => whnf) <;> refine ⟨rfl, ?_⟩
  · have hc : 0 < c := by simpa using h
    refine Run.doesC rfl rfl (fun _ => Does.quo rfl rfl (by omega)) ?_
    conv => whnf
    refine ⟨rfl, ?_⟩
    have hb := byts_pos (n := c.toNat) (by omega)
    simp only at h1 h2
    have hq : IntKind.i64.wrap (c.tdiv 256) = c / 256 := by
      rw [Int.tdiv_eq_ediv_of_nonneg (by omega)]
      exact wrap_of (by omega) (by omega)
    have hd : (c / 256).toNat = c.toNat / 256 := by omega
    refine Run.endR ⟨(c / 256, w + 1), ⟨?_, ?_⟩, ?_, Wk.ofEnv (Wk.cons (.int hq) (Wk.cons (.int ?_) Wk.done))⟩
    · show c / 256 ≤ n
      omega
    · show w + 1 + byts (c / 256).toNat = _
      rw [hd]
      omega
    · show (c / 256).toNat < c.toNat
      omega
    · rw [wrap_of (by omega) (by omega)]
      simp
  · have hc : c ≤ 0 := by simpa using h
    refine Run.exitR rfl rfl ?_
    conv => whnf
    refine ⟨rfl, ?_⟩
    refine Run.retP ?_
    conv => whnf
    refine ⟨rfl, .int ?_⟩
    simp only at h2
    have : c.toNat = 0 := by omega
    rw [this, byts_zero] at h2
    show (w : Int) = _
    unfold wid
    omega

/-- What it says that a field is right. -/
theorem fRight_cases {f : Fld} (h : fRight f = true) : 0 ≤ f.id ∧ f.id ≤ 255 ∧ ((f.kind = 1 ∧ -1099511627776 ≤ f.lo ∧ f.lo ≤ f.hi ∧ f.hi ≤ 1099511627776 ∧ f.most = 0) ∨ (f.kind = 2 ∧ f.lo = 0 ∧ f.hi = 0 ∧ f.most = 0) ∨
    (f.kind = 3 ∧ f.lo = 0 ∧ f.hi = 0 ∧ 1 ≤ f.most ∧ f.most ≤ 1000) ∨ (f.kind = 4 ∧ f.lo = 0 ∧ f.hi = 0 ∧ 0 ≤ f.most ∧ f.most ≤ 32)) := by
  unfold fRight at h
  simp only [Bool.and_eq_true, Bool.not_eq_true', Bool.or_eq_false_iff, decide_eq_false_iff_not] at h
  obtain ⟨⟨h1, h2⟩, h3⟩ := h
  refine ⟨by omega, by omega, ?_⟩
  split at h3
  · simp at *; omega
  · split at h3
    · simp at *; omega
    · split at h3
      · simp at *; omega
      · split at h3
        · simp at *; omega
        · cases h3

def fWider (a b : Fld) : Bool := fRight a && fRight b && a.kind == b.kind && decide (fLo b ≤ fLo a) && decide (fHi a ≤ fHi b) && decide (fMost a ≤ fMost b)

theorem r12_wider (a b : Fld) : AC P R12_Wider.id [.agg a.cells, .agg b.cells] [] (.bool (fWider a b)) [] := by
  refine R12_Wider.intro rfl (Goes.run ?_)
  conv => whnf
  refine ⟨rfl, ?_⟩
  refine Run.callC (av := [.agg a.cells]) rfl rfl rfl (fun _ => r12_span a) rfl rfl ?_
  conv => whnf
  refine ⟨rfl, ?_⟩
  refine Run.callC (av := [.agg b.cells]) rfl rfl rfl (fun _ => r12_span b) rfl rfl ?_
  conv => whnf
  refine ⟨rfl, ?_⟩
  refine Run.retP ?_
  conv => whnf
  exact ⟨rfl, .refl _⟩

theorem field_wider (a b : Fld) : AC P field_Wider.id [.agg a.cells, .agg b.cells] [] (.bool (fWider a b)) [] := by
  refine field_Wider.intro rfl (Goes.run ?_)
  conv => whnf
  refine ⟨rfl, ?_⟩
  refine Run.callC (av := [.agg a.cells]) rfl rfl rfl (fun _ => field_right a) rfl rfl ?_
  conv => whnf
  refine ⟨rfl, ?_⟩
  refine Run.callC (av := [.agg b.cells]) rfl rfl rfl (fun _ => field_right b) rfl rfl ?_
  conv => whnf
  refine ⟨rfl, ?_⟩
  refine Run.condC rfl (fun h => ?_) (fun h => ?_) <;> (conv => whnf) <;> refine ⟨rfl, ?_⟩
  · refine Run.retP ?_
    conv => whnf
    refine ⟨rfl, .ff ?_⟩
    simp only [fWider]
    revert h
    cases fRight a <;> cases fRight b <;> simp
    intro h h2
    exact absurd h2 h
  · refine Run.callC (av := [.agg a.cells]) rfl rfl rfl (fun _ => field_bounds a) rfl rfl ?_
    conv => whnf
    refine ⟨rfl, ?_⟩
    refine Run.callC (av := [.agg b.cells]) rfl rfl rfl (fun _ => field_bounds b) rfl rfl ?_
    conv => whnf
    refine ⟨rfl, ?_⟩
    refine Run.retP ?_
    conv => whnf
    refine ⟨rfl, .bool ?_⟩
    have h' : fRight a = true ∧ fRight b = true ∧ a.kind = b.kind := by
      revert h
      cases fRight a <;> cases fRight b <;> simp
    obtain ⟨ha, hb, hk⟩ := h'
    refine bool_eq ?_
    obtain ⟨_, _, ca⟩ := fRight_cases ha
    obtain ⟨_, _, cb⟩ := fRight_cases hb
    simp only [fWider, ha, hb, hk, fMost]
    rcases ca with h1 | h1 | h1 | h1 <;> rcases cb with h2 | h2 | h2 | h2 <;> first
      | (exfalso; omega)
      | (have e1 : a.kind = _ := h1.1
         have e2 : b.kind = _ := h2.1
         simp only [fLo, fHi, e1, e2]
         simp [wrap_of (x := a.most - 1) (by omega) (by omega), wrap_of (x := b.most - 1) (by omega) (by omega)]
         try omega)
end Go.Proofs.Ytbpcjahjbkiofaa.Sp

set_option linter.unusedVariables false
namespace Go.Proofs.Ytbpcjahjbkiofaa.Sp
open Go Go.Proofs.Ytbpcjahjbkiofaa.AV Go.Proofs.Ytbpcjahjbkiofaa.Fn
set_option maxRecDepth 10000

theorem wrap_le (x : Int) : IntKind.i64.wrap x ≤ 9223372036854775807 := by
  unfold IntKind.wrap
  simp only [IntKind.bits, IntKind.signed, Bool.true_and]
  split <;> rename_i h <;> simp at h <;> omega
theorem wrap_ge (x : Int) : -9223372036854775808 ≤ IntKind.i64.wrap x := by
  unfold IntKind.wrap
  simp only [IntKind.bits, IntKind.signed, Bool.true_and]
  split <;> rename_i h <;> simp at h <;> omega

theorem field_wide (f : Fld) : AC P field_wide.id [.agg f.cells] [] (.int .i64 (wid (IntKind.i64.wrap (fHi f - fLo f)))) [] := by
  refine field_wide.intro rfl (Goes.run ?_)
  conv => whnf
  refine ⟨rfl, ?_⟩
  refine Run.callC (av := [.agg f.cells]) rfl rfl rfl (fun _ => field_bounds f) rfl rfl ?_
  conv => whnf
  refine ⟨rfl, ?_⟩
  refine Run.callC (av := [.int .i64 (IntKind.i64.wrap (fHi f - fLo f))]) rfl rfl rfl (fun _ => field_width _ (wrap_le _)) rfl rfl ?_
  conv => whnf
  refine ⟨rfl, ?_⟩
  refine Run.retP ?_
  conv => whnf
  exact ⟨rfl, .refl _⟩

def fSize (f : Fld) : Int := if fRight f then (if f.kind == 4 then 1 + f.most else wid (fHi f - fLo f)) else 0

theorem span_wrap {f : Fld} (h : fRight f = true) : IntKind.i64.wrap (fHi f - fLo f) = fHi f - fLo f := by
  obtain ⟨_, _, c⟩ := fRight_cases h
  refine wrap_of ?_ ?_
  all_goals
    rcases c with h1 | h1 | h1 | h1 <;>
      (have e1 : f.kind = _ := h1.1
       simp only [fLo, fHi, e1]
       simp
       try rw [wrap_of (x := f.most - 1) (by omega) (by omega)]
       try omega)

theorem wid_one : wid 1 = 1 := by
  unfold wid
  rw [byts_pos (by decide)]
  show ((byts 0 + 1 : Nat) : Int) = 1
  rw [byts_zero]
  rfl

theorem field_size (f : Fld) : AC P field_Size.id [.agg f.cells] [] (.int .i64 (fSize f)) [] := by
  refine field_Size.intro rfl (Goes.run ?_)
  conv => whnf
  refine ⟨rfl, ?_⟩
  refine Run.callC (av := [.agg f.cells]) rfl rfl rfl (fun _ => field_right f) rfl rfl ?_
  conv => whnf
  refine ⟨rfl, ?_⟩
  repeat' first
    | (refine Run.condC rfl (fun h => ?_) (fun h => ?_) <;> (conv => whnf) <;> refine ⟨rfl, ?_⟩)
    | (refine Run.callC (av := [.agg f.cells]) rfl rfl rfl (fun _ => field_wide f) rfl rfl ?_; (conv => whnf); refine ⟨rfl, ?_⟩)
    | (refine Run.retP ?_; (conv => whnf); refine ⟨rfl, .int ?_⟩)
  · simp at *; simp [fSize, *]
  · have hr : fRight f = true := by simp at *; assumption
    obtain ⟨_, _, c⟩ := fRight_cases hr
    have hk : f.kind = 4 := by simp at *; assumption
    simp [fSize, hr, hk]
    rw [wrap_of (by omega) (by omega)]
    omega
  · have hr : fRight f = true := by simp at *; assumption
    have hk : f.kind = 2 := by simp at *; assumption
    simp [fSize, hr, hk, fHi, fLo, wid_one]
    rfl
  · have hr : fRight f = true := by simp at *; assumption
    have hk : (f.kind == 4) = false := by simp at *; assumption
    simp [fSize, hr, hk, span_wrap hr]

theorem r12_size (f : Fld) : AC P R12_Size.id [.agg f.cells] [] (.int .i64 (fSize f)) [] := by
  refine R12_Size.intro rfl (Goes.run ?_)
  conv => whnf
  refine ⟨rfl, ?_⟩
  refine Run.callC (av := [.agg f.cells]) rfl rfl rfl (fun _ => r12_span f) rfl rfl ?_
  conv => whnf
  refine ⟨rfl, ?_⟩
  repeat' first
    | (refine Run.condC rfl (fun h => ?_) (fun h => ?_) <;> (conv => whnf) <;> refine ⟨rfl, ?_⟩)
    | (refine Run.callC (av := [.int .i64 (IntKind.i64.wrap (fHi f - fLo f))]) rfl rfl rfl (fun _ => r12_wide _ (wrap_le _)) rfl rfl ?_; (conv => whnf); refine ⟨rfl, ?_⟩)
    | (refine Run.retP ?_; (conv => whnf); refine ⟨rfl, .int ?_⟩)
  · simp at *; simp [fSize, *]
  · have hr : fRight f = true := by simp at *; assumption
    obtain ⟨_, _, c⟩ := fRight_cases hr
    have hk : f.kind = 4 := by simp at *; assumption
    simp [fSize, hr, hk, fMost]
    rw [wrap_of (by omega) (by omega)]
  · have hr : fRight f = true := by simp at *; assumption
    have hk : (f.kind == 4) = false := by simp at *; assumption
    simp [fSize, hr, hk, span_wrap hr]

theorem byts_mono : ∀ {a b : Nat}, a ≤ b → byts a ≤ byts b := by
  intro a
  induction a using Nat.strongRecOn with
  | _ a ih =>
    intro b h
    rcases Nat.eq_zero_or_pos a with rfl | ha
    · rw [byts_zero]; omega
    · rw [byts_pos ha, byts_pos (n := b) (by omega)]
      have := ih (a / 256) (by omega) (b := b / 256) (Nat.div_le_div_right h)
      omega

theorem fSize_le (f : Fld) : 0 ≤ fSize f ∧ fSize f ≤ 33 := by
  unfold fSize
  split
  · rename_i h
    obtain ⟨_, _, c⟩ := fRight_cases h
    split
    · rename_i hk
      simp at hk
      omega
    · have h8 : byts 2199023255552 ≤ 6 := by
        simp [byts_pos, byts_zero]
      have : (fHi f - fLo f).toNat ≤ 2199023255552 := by
        rcases c with h1 | h1 | h1 | h1 <;>
          (have e1 : f.kind = _ := h1.1
           simp only [fLo, fHi, e1]
           simp
           try rw [wrap_of (x := f.most - 1) (by omega) (by omega)]
           try omega)
      have := byts_mono this
      unfold wid
      omega
  · omega
end Go.Proofs.Ytbpcjahjbkiofaa.Sp

set_option linter.unusedVariables false
namespace Go.Proofs.Ytbpcjahjbkiofaa.Sp
open Go Go.Proofs.Ytbpcjahjbkiofaa.AV Go.Proofs.Ytbpcjahjbkiofaa.Fn
set_option maxRecDepth 10000

def fLong : List Fld → Int
  | [] => 0
  | x :: r => fSize x + fLong r

theorem fLong_app (l m : List Fld) : fLong (l ++ m) = fLong l + fLong m := by
  induction l with
  | nil => simp [fLong]
  | cons x r ih => simp [fLong, ih]; omega

theorem fLong_le (l : List Fld) : 0 ≤ fLong l ∧ fLong l ≤ 33 * l.length := by
  induction l with
  | nil => simp [fLong]
  | cons x r ih =>
    have := fSize_le x
    simp only [fLong, List.length_cons]
    omega

theorem fLong_take_succ {l : List Fld} {i : Nat} (h : i < l.length) : fLong (l.take (i + 1)) = fLong (l.take i) + fSize (l.getD i default) := by
  rw [List.take_add_one, fLong_app]
  simp [h, fLong]

theorem schema_long (x : Frm) (hb : x.fields.length ≤ 1000) : AC P schema_Long.id [.agg x.cells] [] (.int .i64 (fLong x.fields)) [] := by
  refine schema_Long.intro rfl (Goes.run ?_)
  conv => whnf
  refine ⟨rfl, ?_⟩
  refine Run.loopN (ι := Nat) (fun i => i ≤ x.fields.length) (fun i => [(1, .ptr 0 0 0 0), (3, .int .i64 (fLong (x.fields.take i))), (7, encFs x.fields), (8, .int .i64 (x.fields.length : Int)), (9, .int .i64 (i : Int))]) (fun _ => [.box x.cells, .dead, .dead, .dead])
    (fun i => x.fields.length - i) 0 (Nat.zero_le _) (Wk.trans (Wk.pad 4) (Wk.ofEnv (Wk.cons (.refl _) (Wk.cons (.refl _) (Wk.cons (.refl _) (Wk.cons (.refl _) (Wk.cons (.refl _) Wk.done))))))) fun i hi => ?_
  conv => whnf
  refine ⟨rfl, ?_⟩
  refine Run.condC rfl (fun h => ?_) (fun h => ?_) <;> (conv => whnf) <;> refine ⟨rfl, ?_⟩
  · have hlt : i < x.fields.length := by simpa using h
    refine Run.iaC rfl rfl rfl rfl rfl (fun _ => ⟨by omega, by omega⟩) ?_
    conv => whnf
    refine ⟨rfl, ?_⟩
    refine Run.callC (av := [.agg (x.fields.getD i default).cells]) rfl rfl rfl (fun _ => field_size _) rfl rfl ?_
    conv => whnf
    refine ⟨rfl, ?_⟩
    have h1 := fLong_le (x.fields.take i)
    have h2 := fSize_le (x.fields.getD i default)
    simp only [List.length_take] at h1
    refine Run.endR ⟨i + 1, by omega, by omega, Wk.cut 4 rfl rfl rfl rfl (Wk.cons (.refl _) (Wk.cons (.int ?_) (Wk.cons (.refl _) (Wk.cons (.refl _) (Wk.cons (.int ?_) Wk.done)))))⟩
    · rw [wrap_of (by omega) (by omega), fLong_take_succ hlt]
    · rw [wrap_of (by omega) (by omega)]
      simp
  · have hge : i = x.fields.length := by simp at h; omega
    refine Run.exitR rfl rfl ?_
    conv => whnf
    refine ⟨rfl, ?_⟩
    refine Run.retP ?_
    conv => whnf
    refine ⟨rfl, .int ?_⟩
    rw [hge, List.take_length]

theorem r13_long (x : Frm) (hb : x.fields.length ≤ 1000) : AC P R13_Long.id [.agg x.cells] [] (.int .i64 (fLong x.fields)) [] := by
  refine R13_Long.intro rfl (Goes.run ?_)
  conv => whnf
  refine ⟨rfl, ?_⟩
  refine Run.loopN (ι := Nat) (fun i => i ≤ x.fields.length) (fun i => [(1, .ptr 0 0 0 0), (3, .int .i64 (fLong (x.fields.take i))), (4, .int .i64 (i : Int))]) (fun _ => [.box x.cells])
    (fun i => x.fields.length - i) 0 (Nat.zero_le _) (Wk.ofEnv (Wk.cons (.refl _) (Wk.cons (.refl _) (Wk.cons (.refl _) Wk.done)))) fun i hi => ?_
  conv => whnf
  refine ⟨rfl, ?_⟩
  refine Run.condC rfl (fun h => ?_) (fun h => ?_) <;> (conv => whnf) <;> refine ⟨rfl, ?_⟩
  · have hlt : i < x.fields.length := by simpa using h
    refine Run.iaC rfl rfl rfl rfl rfl (fun _ => ⟨by omega, by omega⟩) ?_
    conv => whnf
    refine ⟨rfl, ?_⟩
    refine Run.callC (av := [.agg (x.fields.getD i default).cells]) rfl rfl rfl (fun _ => r12_size _) rfl rfl ?_
    conv => whnf
    refine ⟨rfl, ?_⟩
    have h1 := fLong_le (x.fields.take i)
    have h2 := fSize_le (x.fields.getD i default)
    simp only [List.length_take] at h1
    refine Run.endR ⟨i + 1, by omega, by omega, Wk.ofEnv (Wk.cons (.refl _) (Wk.cons (.int ?_) (Wk.cons (.int ?_) Wk.done)))⟩
    · rw [wrap_of (by omega) (by omega), fLong_take_succ hlt]
    · rw [wrap_of (by omega) (by omega)]
      simp
  · have hge : i = x.fields.length := by simp at h; omega
    refine Run.exitR rfl rfl ?_
    conv => whnf
    refine ⟨rfl, ?_⟩
    refine Run.retP ?_
    conv => whnf
    refine ⟨rfl, .int ?_⟩
    rw [hge, List.take_length]
end Go.Proofs.Ytbpcjahjbkiofaa.Sp

set_option linter.unusedVariables false
namespace Go.Proofs.Ytbpcjahjbkiofaa.Sp
open Go Go.Proofs.Ytbpcjahjbkiofaa.AV Go.Proofs.Ytbpcjahjbkiofaa.Fn
set_option maxRecDepth 10000

/-- The place of a field, or none. -/
def fAt (l : List Fld) (id : Int) : Option Nat := l.findIdx? fun x => x.id == id
def placeI : Option Nat → Int
  | some i => i
  | none => -1

theorem findIdx_hit {α : Type} [Inhabited α] {l : List α} {p : α → Bool} {i : Nat} (hi : i < l.length) (hp : p (l.getD i default) = true) (hb : ∀ j, j < i → p (l.getD j default) = false) : l.findIdx? p = some i := by
  rw [List.findIdx?_eq_some_iff_getElem]
  have e : ∀ (j : Nat) (h : j < l.length), l.getD j default = l[j] := fun j h => by simp [List.getD_eq_getElem?_getD, h]
  refine ⟨hi, by rw [← e i hi]; exact hp, fun j hj => ?_⟩
  have := hb j hj
  rw [e j (by omega)] at this
  simp [this]
theorem findIdx_miss {α : Type} [Inhabited α] {l : List α} {p : α → Bool} (hb : ∀ j, j < l.length → p (l.getD j default) = false) : l.findIdx? p = none := by
  rw [List.findIdx?_eq_none_iff]
  intro x hx
  obtain ⟨j, hj, rfl⟩ := List.mem_iff_getElem.1 hx
  have := hb j hj
  rwa [show l.getD j default = l[j] by simp [List.getD_eq_getElem?_getD, hj]] at this

theorem r13_at (x : Frm) (id : Int) (hb : x.fields.length ≤ 1000) : AC P R13_At.id [.agg x.cells, .int .i64 id] [] (.int .i64 (placeI (fAt x.fields id))) [] := by
  refine R13_At.intro rfl (Goes.run ?_)
  conv => whnf
  refine ⟨rfl, ?_⟩
  refine Run.loopN (ι := Nat) (fun i => i ≤ x.fields.length ∧ ∀ j, j < i → ((x.fields.getD j default).id == id) = false) (fun i => [(1, .int .i64 id), (2, .ptr 0 0 0 0), (5, .int .i64 (i : Int))]) (fun _ => [.box x.cells])
    (fun i => x.fields.length - i) 0 ⟨Nat.zero_le _, fun j hj => absurd hj (Nat.not_lt_zero _)⟩ (Wk.ofEnv (Wk.cons (.refl _) (Wk.cons (.refl _) (Wk.cons (.refl _) Wk.done)))) fun i ⟨hi, hp⟩ => ?_
  conv => whnf
  refine ⟨rfl, ?_⟩
  refine Run.condC rfl (fun h => ?_) (fun h => ?_) <;> (conv => whnf) <;> refine ⟨rfl, ?_⟩
  · have hlt : i < x.fields.length := by simpa using h
    refine Run.iaC rfl rfl rfl rfl rfl (fun _ => ⟨by omega, by omega⟩) ?_
    conv => whnf
    refine ⟨rfl, ?_⟩
    refine Run.condC rfl (fun h => ?_) (fun h => ?_) <;> (conv => whnf) <;> refine ⟨rfl, ?_⟩
    · refine Run.retR ?_
      conv => whnf
      refine ⟨rfl, .int ?_⟩
      have : fAt x.fields id = some i := findIdx_hit hlt h hp
      rw [this]
      rfl
    · refine Run.endR ⟨i + 1, ⟨by omega, fun j hj => ?_⟩, by omega, Wk.ofEnv (Wk.cons (.refl _) (Wk.cons (.refl _) (Wk.cons (.int ?_) Wk.done)))⟩
      · by_cases e : j < i
        · exact hp j e
        · obtain rfl : j = i := by omega
          exact h
      · rw [wrap_of (by omega) (by omega)]
        simp
  · have hge : x.fields.length ≤ i := by simpa using h
    refine Run.exitR rfl rfl ?_
    conv => whnf
    refine ⟨rfl, ?_⟩
    refine Run.retP ?_
    conv => whnf
    refine ⟨rfl, .int ?_⟩
    have : fAt x.fields id = none := findIdx_miss fun j hj => hp j (by omega)
    rw [this]
    rfl

def sFind (l : List Frm) (id : Int) : Option Nat := l.findIdx? fun x => x.id == id

theorem r13_find (s : Sch) (id : Int) (hb : s.forms.length ≤ 1000) : AC P R13_Find.id [.agg s.cells, .int .i64 id] [] (.int .i64 (placeI (sFind s.forms id))) [] := by
  refine R13_Find.intro rfl (Goes.run ?_)
  conv => whnf
  refine ⟨rfl, ?_⟩
  refine Run.loopN (ι := Nat) (fun i => i ≤ s.forms.length ∧ ∀ j, j < i → ((s.forms.getD j default).id == id) = false) (fun i => [(1, .int .i64 id), (2, .ptr 0 0 0 0), (5, .int .i64 (i : Int))]) (fun _ => [.box s.cells])
    (fun i => s.forms.length - i) 0 ⟨Nat.zero_le _, fun j hj => absurd hj (Nat.not_lt_zero _)⟩ (Wk.ofEnv (Wk.cons (.refl _) (Wk.cons (.refl _) (Wk.cons (.refl _) Wk.done)))) fun i ⟨hi, hp⟩ => ?_
  conv => whnf
  refine ⟨rfl, ?_⟩
  refine Run.condC rfl (fun h => ?_) (fun h => ?_) <;> (conv => whnf) <;> refine ⟨rfl, ?_⟩
  · have hlt : i < s.forms.length := by simpa using h
    refine Run.iaC rfl rfl rfl rfl rfl (fun _ => ⟨by omega, by omega⟩) ?_
    conv => whnf
    refine ⟨rfl, ?_⟩
    refine Run.condC rfl (fun h => ?_) (fun h => ?_) <;> (conv => whnf) <;> refine ⟨rfl, ?_⟩
    · refine Run.retR ?_
      conv => whnf
      refine ⟨rfl, .int ?_⟩
      have : sFind s.forms id = some i := findIdx_hit hlt h hp
      rw [this]
      rfl
    · refine Run.endR ⟨i + 1, ⟨by omega, fun j hj => ?_⟩, by omega, Wk.ofEnv (Wk.cons (.refl _) (Wk.cons (.refl _) (Wk.cons (.int ?_) Wk.done)))⟩
      · by_cases e : j < i
        · exact hp j e
        · obtain rfl : j = i := by omega
          exact h
      · rw [wrap_of (by omega) (by omega)]
        simp
  · have hge : s.forms.length ≤ i := by simpa using h
    refine Run.exitR rfl rfl ?_
    conv => whnf
    refine ⟨rfl, ?_⟩
    refine Run.retP ?_
    conv => whnf
    refine ⟨rfl, .int ?_⟩
    have : sFind s.forms id = none := findIdx_miss fun j hj => hp j (by omega)
    rw [this]
    rfl
end Go.Proofs.Ytbpcjahjbkiofaa.Sp

set_option linter.unusedVariables false
namespace Go.Proofs.Ytbpcjahjbkiofaa.Sp
open Go Go.Proofs.Ytbpcjahjbkiofaa.AV Go.Proofs.Ytbpcjahjbkiofaa.Fn
set_option maxRecDepth 10000

/-- The field at a place is right, and none before it has its number. -/
def goodAt (l : List Fld) (i : Nat) : Bool := fRight (l.getD i default) && (fAt l (l.getD i default).id == some i)
def fFine (x : Frm) : Bool := decide (0 ≤ x.id ∧ x.id ≤ 200 ∧ 1 ≤ x.fields.length ∧ x.fields.length ≤ 8) && (List.range x.fields.length).all (goodAt x.fields) && decide (fLong x.fields ≤ 64)

theorem fAt_le {l : List Fld} {i : Nat} (hi : i < l.length) : ∃ k, fAt l (l.getD i default).id = some k ∧ k ≤ i := by
  unfold fAt
  cases h : l.findIdx? (fun x => x.id == (l.getD i default).id) with
  | none =>
    rw [List.findIdx?_eq_none_iff] at h
    have := h (l.getD i default) (by simp [List.getD_eq_getElem?_getD, hi])
    simp at this
  | some k =>
    refine ⟨k, rfl, ?_⟩
    rw [List.findIdx?_eq_some_iff_getElem] at h
    obtain ⟨_, _, h3⟩ := h
    rcases Nat.lt_or_ge i k with g | g
    · have := h3 i g
      simp [List.getD_eq_getElem?_getD, hi] at this
    · exact g

theorem r13_fine (x : Frm) (hb : x.fields.length ≤ 1000) : AC P R13_Fine.id [.agg x.cells] [] (.bool (fFine x)) [] := by
  refine R13_Fine.intro rfl (Goes.run ?_)
  conv => whnf
  refine ⟨rfl, ?_⟩
  refine Run.condC rfl (fun h => ?_) (fun h => ?_) <;> (conv => whnf) <;> refine ⟨rfl, ?_⟩
  · refine Run.retP ?_
    conv => whnf
    refine ⟨rfl, .ff ?_⟩
    have : ¬ (0 ≤ x.id ∧ x.id ≤ 200 ∧ 1 ≤ x.fields.length ∧ x.fields.length ≤ 8) := by simp at h; omega
    simp [fFine, this]
  have hh : 0 ≤ x.id ∧ x.id ≤ 200 ∧ 1 ≤ x.fields.length ∧ x.fields.length ≤ 8 := by simp at h; omega
  refine Run.loopN (ι := Nat) (fun i => i ≤ x.fields.length ∧ ∀ j, j < i → goodAt x.fields j = true) (fun i => [(1, .ptr 0 0 0 0), (3, .int .i64 (i : Int))]) (fun _ => [.box x.cells])
    (fun i => x.fields.length - i) 0 ⟨Nat.zero_le _, fun j hj => absurd hj (Nat.not_lt_zero _)⟩ (Wk.ofEnv (Wk.cons (.refl _) (Wk.cons (.refl _) Wk.done))) fun i ⟨hi, hp⟩ => ?_
  conv => whnf
  refine ⟨rfl, ?_⟩
  refine Run.condC rfl (fun h => ?_) (fun h => ?_) <;> (conv => whnf) <;> refine ⟨rfl, ?_⟩
  · have hlt : i < x.fields.length := by simpa using h
    refine Run.iaD rfl rfl rfl rfl rfl (fun _ => ⟨by omega, by omega⟩) rfl ?_
    conv => whnf
    refine ⟨rfl, ?_⟩
    refine Run.callD (av := [.agg (x.fields.getD i default).cells]) rfl rfl rfl (fun _ => r12_right _) rfl rfl rfl ?_
    conv => whnf
    refine ⟨rfl, ?_⟩
    refine Run.iaD rfl rfl rfl rfl rfl (fun _ => ⟨by omega, by omega⟩) rfl ?_
    conv => whnf
    refine ⟨rfl, ?_⟩
    refine Run.callD (av := [.agg x.cells, .int .i64 (x.fields.getD i default).id]) rfl rfl rfl (fun _ => r13_at x _ hb) rfl rfl rfl ?_
    conv => whnf
    refine ⟨rfl, ?_⟩
    obtain ⟨k, hk, hki⟩ := fAt_le hlt
    refine Run.condC rfl (fun h => ?_) (fun h => ?_) <;> (conv => whnf) <;> refine ⟨rfl, ?_⟩
    · refine Run.retR ?_
      conv => whnf
      refine ⟨rfl, .ff ?_⟩
      have hbad : goodAt x.fields i = false := by
        try simp only [Int.toNat_natCast] at h
        unfold goodAt
        rw [hk] at h ⊢
        simp only [placeI] at h
        cases hr : fRight (x.fields.getD i default)
        · rfl
        · rw [hr] at h
          simp at h ⊢
          omega
      have : (List.range x.fields.length).all (goodAt x.fields) = false := by
        rw [List.all_eq_false]
        exact ⟨i, List.mem_range.2 hlt, by rw [hbad]; simp⟩
      simp only [fFine, this, Bool.and_false, Bool.false_and]
    · have hgood : goodAt x.fields i = true := by
        try simp only [Int.toNat_natCast] at h
        unfold goodAt
        rw [hk] at h ⊢
        simp only [placeI] at h
        cases hr : fRight (x.fields.getD i default)
        · rw [hr] at h; simp at h
        · rw [hr] at h
          simp at h ⊢
          omega
      refine Run.endR ⟨i + 1, ⟨by omega, fun j hj => ?_⟩, by omega, Wk.ofEnv (Wk.cons (.refl _) (Wk.cons (.int ?_) Wk.done))⟩
      · by_cases e : j < i
        · exact hp j e
        · obtain rfl : j = i := by omega
          exact hgood
      · rw [wrap_of (by omega) (by omega)]
        simp
  · have hge : x.fields.length ≤ i := by simpa using h
    refine Run.exitR rfl rfl ?_
    conv => whnf
    refine ⟨rfl, ?_⟩
    refine Run.callC (av := [.agg x.cells]) rfl rfl rfl (fun _ => r13_long x hb) rfl rfl ?_
    conv => whnf
    refine ⟨rfl, ?_⟩
    refine Run.retP ?_
    conv => whnf
    refine ⟨rfl, .bool ?_⟩
    have : (List.range x.fields.length).all (goodAt x.fields) = true := by
      rw [List.all_eq_true]
      intro j hj
      exact hp j (by rw [List.mem_range] at hj; omega)
    simp only [fFine, this, hh, and_self, decide_true, Bool.and_true, Bool.true_and]
end Go.Proofs.Ytbpcjahjbkiofaa.Sp

set_option linter.unusedVariables false
namespace Go.Proofs.Ytbpcjahjbkiofaa.Sp
open Go Go.Proofs.Ytbpcjahjbkiofaa.AV Go.Proofs.Ytbpcjahjbkiofaa.Fn
set_option maxRecDepth 10000

def okAt (l : List Frm) (i : Nat) : Bool := fFine (l.getD i default) && (i == 0 || decide ((l.getD (i - 1) default).id < (l.getD i default).id))
def sRight (s : Sch) : Bool := decide (1 ≤ s.version ∧ s.version ≤ 65535 ∧ s.forms.length ≤ 8) && (List.range s.forms.length).all (okAt s.forms)

def Small (s : Sch) : Prop := s.forms.length ≤ 1000 ∧ ∀ i, (s.forms.getD i default).fields.length ≤ 1000

theorem r13_right (s : Sch) (hs : Small s) : AC P R13_Right.id [.agg s.cells] [] (.bool (sRight s)) [] := by
  obtain ⟨hb, hf⟩ := hs
  refine R13_Right.intro rfl (Goes.run ?_)
  conv => whnf
  refine ⟨rfl, ?_⟩
  refine Run.condC rfl (fun h => ?_) (fun h => ?_) <;> (conv => whnf) <;> refine ⟨rfl, ?_⟩
  · refine Run.retP ?_
    conv => whnf
    refine ⟨rfl, .ff ?_⟩
    have : ¬ (1 ≤ s.version ∧ s.version ≤ 65535 ∧ s.forms.length ≤ 8) := by simp at h; omega
    simp [sRight, this]
  have hh : 1 ≤ s.version ∧ s.version ≤ 65535 ∧ s.forms.length ≤ 8 := by simp at h; omega
  refine Run.loopN (ι := Nat) (fun i => i ≤ s.forms.length ∧ ∀ j, j < i → okAt s.forms j = true) (fun i => [(1, .ptr 0 0 0 0), (3, .int .i64 (i : Int))]) (fun _ => [.box s.cells])
    (fun i => s.forms.length - i) 0 ⟨Nat.zero_le _, fun j hj => absurd hj (Nat.not_lt_zero _)⟩ (Wk.ofEnv (Wk.cons (.refl _) (Wk.cons (.refl _) Wk.done))) fun i ⟨hi, hp⟩ => ?_
  conv => whnf
  refine ⟨rfl, ?_⟩
  refine Run.condC rfl (fun h => ?_) (fun h => ?_) <;> (conv => whnf) <;> refine ⟨rfl, ?_⟩
  · have hlt : i < s.forms.length := by simpa using h
    refine Run.iaD rfl rfl rfl rfl rfl (fun _ => ⟨by omega, by omega⟩) rfl ?_
    conv => whnf
    refine ⟨rfl, ?_⟩
    refine Run.callD (av := [.agg (s.forms.getD i default).cells]) rfl rfl rfl (fun _ => r13_fine _ (hf i)) rfl rfl rfl ?_
    conv => whnf
    refine ⟨rfl, ?_⟩
    have hw : (i : Int) > 0 → IntKind.i64.wrap ((i : Int) - 1) = ((i - 1 : Nat) : Int) := fun h => by
      rw [wrap_of (by omega) (by omega)]; omega
    refine Run.iaD rfl rfl rfl rfl rfl (fun hg => ?_) rfl ?_
    · have h0 : (i : Int) > 0 := by simpa [pol] using hg.1
      rw [hw h0]
      omega
    conv => whnf
    refine ⟨rfl, ?_⟩
    refine Run.iaD rfl rfl rfl rfl rfl (fun _ => ⟨by omega, by omega⟩) rfl ?_
    conv => whnf
    refine ⟨rfl, ?_⟩
    have key : ∀ c : Bool, ((!fFine (s.forms.getD i default)) || (decide ((i : Int) > 0) && decide ((s.forms.getD (IntKind.i64.wrap ((i : Int) - 1)).toNat default).id ≥ (s.forms.getD i default).id))) = c → okAt s.forms i = !c := by
      intro c hc
      subst hc
      unfold okAt
      rcases Nat.eq_zero_or_pos i with h0 | h0
      · subst h0; simp
      · rw [hw (by omega), Int.toNat_natCast]
        have h1 : decide ((i : Int) > 0) = true := by simp; omega
        have h2 : (i == 0) = false := by simp; omega
        rw [h1, h2]
        cases fFine (s.forms.getD i default) <;> simp
        rw [← decide_not]
        simp
    refine Run.condC rfl (fun h => ?_) (fun h => ?_) <;> (conv => whnf) <;> refine ⟨rfl, ?_⟩
    · refine Run.retR ?_
      conv => whnf
      refine ⟨rfl, .ff ?_⟩
      have hbad : okAt s.forms i = false := key true h
      have : (List.range s.forms.length).all (okAt s.forms) = false := by
        rw [List.all_eq_false]
        exact ⟨i, List.mem_range.2 hlt, by rw [hbad]; simp⟩
      simp only [sRight, this, Bool.and_false]
    · have hgood : okAt s.forms i = true := key false h
      refine Run.endR ⟨i + 1, ⟨by omega, fun j hj => ?_⟩, by omega, Wk.ofEnv (Wk.cons (.refl _) (Wk.cons (.int ?_) Wk.done))⟩
      · by_cases e : j < i
        · exact hp j e
        · obtain rfl : j = i := by omega
          exact hgood
      · rw [wrap_of (by omega) (by omega)]
        simp
  · have hge : s.forms.length ≤ i := by simpa using h
    refine Run.exitR rfl rfl ?_
    conv => whnf
    refine ⟨rfl, ?_⟩
    refine Run.retP ?_
    conv => whnf
    refine ⟨rfl, .tt ?_⟩
    have : (List.range s.forms.length).all (okAt s.forms) = true := by
      rw [List.all_eq_true]
      intro j hj
      exact hp j (by rw [List.mem_range] at hj; omega)
    simp only [sRight, this, hh, and_self, decide_true, Bool.and_true]
end Go.Proofs.Ytbpcjahjbkiofaa.Sp

set_option linter.unusedVariables false
set_option linter.unusedSimpArgs false
namespace Go.Proofs.Ytbpcjahjbkiofaa.Sp
open Go Go.Proofs.Ytbpcjahjbkiofaa.AV Go.Proofs.Ytbpcjahjbkiofaa.Fn
set_option maxRecDepth 10000

def bs (l : List Nat) : ByteArray := ⟨(l.map UInt8.ofNat).toArray⟩
/-- The parts that a step has, each a letter. -/
def usesS (op : Int) : ByteArray := bif (op == 1 || op == 22) then bs [102, 112, 70, 86] else bif (op == 2) then bs [102, 100, 86] else bif (op == 3 || op == 23) then bs [102, 100, 70] else bif (op == 4) then bs [102, 100, 98] else bif (op == 24) then bs [102, 100, 98, 70] else bif (op == 5) then bs [102, 100, 97, 84] else bif (op == 25) then bs [102, 100, 84] else bif (op == 6) then bs [102, 100, 97, 116] else bif (op == 26) then bs [102, 100, 97, 116, 70] else bif (op == 7 || op == 27) then bs [102, 100, 112] else bif (op == 8 || op == 28) then bs [102, 100, 116] else bif (op == 9 || op == 30) then bs [102, 76] else bif (op == 10 || op == 29) then bs [102] else bif (op == 21) then bs [102, 100] else bs []

theorem usesS_size (op : Int) : (usesS op).size ≤ 5 := by
  have e : ∀ l : List Nat, (bs l).size = l.length := fun l => by simp [bs, ByteArray.size]
  unfold usesS
  repeat' (rw [cond_eq_ite]; split)
  all_goals (rw [e]; simp)

theorem r15_uses (op : Int) : AC P R15_uses.id [.int .i64 op] [] (.str (usesS op)) [] := by
  refine R15_uses.intro rfl (Goes.run ?_)
  conv => whnf
  refine ⟨rfl, ?_⟩
  repeat' first | (refine Run.condC rfl (fun h => ?_) (fun h => ?_) <;> (conv => whnf) <;> refine ⟨rfl, ?_⟩) | (refine Run.retP ?_; (conv => whnf); refine ⟨rfl, .str ?_⟩)
  all_goals (simp only [usesS, *, cond_true, cond_false, Bool.or_true, Bool.true_or, Bool.or_false, Bool.false_or]; rfl)

/-- Does a step of that kind have this part? -/
def hasS (s : ByteArray) (c : Int) : Bool := (List.range s.size).any fun i => byteAt s i == c
def hasB (op c : Int) : Bool := hasS (usesS op) c

theorem r15_has (op c : Int) : AC P R15_has.id [.int .i64 op, .int .u8 c] [] (.bool (hasB op c)) [] := by
  refine R15_has.intro rfl (Goes.run ?_)
  conv => whnf
  refine ⟨rfl, ?_⟩
  refine Run.callC (av := [.int .i64 op]) rfl rfl rfl (fun _ => r15_uses op) rfl rfl ?_
  conv => whnf
  refine ⟨rfl, ?_⟩
  have hs := usesS_size op
  unfold hasB
  generalize usesS op = s at hs ⊢
  refine Run.loopN (ι := Nat) (fun i => i ≤ s.size ∧ ∀ j, j < i → (byteAt s j == c) = false) (fun i => [(1, .int .u8 c), (5, .str s), (6, .int .i64 (i : Int))]) (fun _ => [])
    (fun i => s.size - i) 0 ⟨Nat.zero_le _, fun j hj => absurd hj (Nat.not_lt_zero _)⟩ (Wk.ofEnv (Wk.cons (.refl _) (Wk.cons (.refl _) (Wk.cons (.refl _) Wk.done)))) fun i ⟨hi, hp⟩ => ?_
  conv => whnf
  refine ⟨rfl, ?_⟩
  refine Run.condC rfl (fun h => ?_) (fun h => ?_) <;> (conv => whnf) <;> refine ⟨rfl, ?_⟩
  · have hlt : i < s.size := by simpa using h
    refine Run.doesC rfl rfl (fun _ => Does.ixS (i := i) rfl rfl rfl hlt) ?_
    conv => whnf
    refine ⟨rfl, ?_⟩
    refine Run.condC rfl (fun h => ?_) (fun h => ?_) <;> (conv => whnf) <;> refine ⟨rfl, ?_⟩
    · refine Run.retR ?_
      conv => whnf
      refine ⟨rfl, .tt ?_⟩
      unfold hasS
      rw [List.any_eq_true]
      exact ⟨i, List.mem_range.2 hlt, h⟩
    · refine Run.endR ⟨i + 1, ⟨by omega, fun j hj => ?_⟩, by omega, Wk.ofEnv (Wk.cons (.refl _) (Wk.cons (.refl _) (Wk.cons (.int ?_) Wk.done)))⟩
      · by_cases e : j < i
        · exact hp j e
        · obtain rfl : j = i := by omega
          exact h
      · rw [wrap_of (by omega) (by omega)]
        simp
  · have hge : s.size ≤ i := by simpa using h
    refine Run.exitR rfl rfl ?_
    conv => whnf
    refine ⟨rfl, ?_⟩
    refine Run.retP ?_
    conv => whnf
    refine ⟨rfl, .ff ?_⟩
    unfold hasS
    rw [List.any_eq_false]
    intro j hj
    rw [List.mem_range] at hj
    rw [hp j (by omega)]
    simp

def btw (n lo hi : Int) : Bool := decide (n ≥ lo) && decide (n ≤ hi)
theorem r15_between (n lo hi : Int) : AC P R15_between.id [.int .i64 n, .int .i64 lo, .int .i64 hi] [] (.bool (btw n lo hi)) [] := by
  refine R15_between.intro rfl (Goes.run ?_)
  conv => whnf
  refine ⟨rfl, ?_⟩
  refine Run.retP ?_
  conv => whnf
  refine ⟨rfl, .bool ?_⟩
  unfold btw
  cases decide (n ≥ lo) <;> rfl
end Go.Proofs.Ytbpcjahjbkiofaa.Sp

set_option linter.unusedVariables false
set_option linter.unusedSimpArgs false
namespace Go.Proofs.Ytbpcjahjbkiofaa.Sp
open Go Go.Proofs.Ytbpcjahjbkiofaa.AV Go.Proofs.Ytbpcjahjbkiofaa.Fn
set_option maxRecDepth 10000

def tabAt (l : List Int) (below : Int) (i : Nat) : Bool := btw (l.getD i 0) 0 (below - 1) && !(List.range i).any fun k => l.getD k 0 == l.getD i 0
def tabB (l : List Int) (below : Int) : Bool := (List.range l.length).all (tabAt l below) && (decide (1 ≤ l.length) && decide (l.length ≤ 64))

theorem r15_table (l : List Int) (below : Int) (hb : -1000000 ≤ below ∧ below ≤ 1000000) (hl : l.length ≤ 1000000) : AC P R15_table.id [encIs l, .int .i64 below] [] (.bool (tabB l below)) [] := by
  refine R15_table.intro rfl (Goes.run ?_)
  conv => whnf
  refine ⟨rfl, ?_⟩
  have bad : ∀ i, i < l.length → tabAt l below i = false → tabB l below = false := fun i hi h => by
    unfold tabB
    have : (List.range l.length).all (tabAt l below) = false := by
      rw [List.all_eq_false]
      exact ⟨i, List.mem_range.2 hi, by rw [h]; simp⟩
    rw [this, Bool.false_and]
  refine Run.loopN (ι := Nat) (fun i => i ≤ l.length ∧ ∀ j, j < i → tabAt l below j = true) (fun i => [(0, encIs l), (1, .int .i64 below), (5, .int .i64 (i : Int))]) (fun _ => [])
    (fun i => l.length - i) 0 ⟨Nat.zero_le _, fun j hj => absurd hj (Nat.not_lt_zero _)⟩ (Wk.ofEnv (Wk.cons (.refl _) (Wk.cons (.refl _) (Wk.cons (.refl _) Wk.done)))) fun i ⟨hi, hp⟩ => ?_
  conv => whnf
  refine ⟨rfl, ?_⟩
  refine Run.condC rfl (fun h => ?_) (fun h => ?_) <;> (conv => whnf) <;> refine ⟨rfl, ?_⟩
  · have hlt : i < l.length := by simpa using h
    refine Run.iaC rfl rfl rfl rfl rfl (fun _ => ⟨by omega, by omega⟩) ?_
    conv => whnf
    refine ⟨rfl, ?_⟩
    have hw : IntKind.i64.wrap (below - 1) = below - 1 := wrap_of (by omega) (by omega)
    refine Run.callC (av := [.int .i64 (l.getD i 0), .int .i64 0, .int .i64 (IntKind.i64.wrap (below - 1))]) rfl rfl rfl (fun _ => r15_between _ _ _) rfl rfl ?_
    conv => whnf
    refine ⟨rfl, ?_⟩
    refine Run.condC rfl (fun h => ?_) (fun h => ?_) <;> (conv => whnf) <;> refine ⟨rfl, ?_⟩
    · refine Run.retR ?_
      conv => whnf
      refine ⟨rfl, .ff (bad i hlt ?_)⟩
      rw [hw] at h
      unfold tabAt
      rw [show btw (l.getD i 0) 0 (below - 1) = false by simpa using h, Bool.false_and]
    have hbt : btw (l.getD i 0) 0 (below - 1) = true := by rw [hw] at h; simpa using h
    refine Run.loopN (ι := Nat) (fun k => k ≤ i ∧ ∀ j, j < k → (l.getD j 0 == l.getD i 0) = false) (fun k => [(0, encIs l), (1, .int .i64 below), (5, .int .i64 (i : Int)), (6, .int .i64 (k : Int))]) (fun _ => [])
      (fun k => i - k) 0 ⟨Nat.zero_le _, fun j hj => absurd hj (Nat.not_lt_zero _)⟩ (Wk.ofEnv (Wk.cons (.refl _) (Wk.cons (.refl _) (Wk.cons (.refl _) (Wk.cons (.refl _) Wk.done))))) fun k ⟨hk, hq⟩ => ?_
    conv => whnf
    refine ⟨rfl, ?_⟩
    refine Run.condC rfl (fun h => ?_) (fun h => ?_) <;> (conv => whnf) <;> refine ⟨rfl, ?_⟩
    · have hki : k < i := by simpa using h
      refine Run.iaD rfl rfl rfl rfl rfl (fun _ => ⟨by omega, by omega⟩) rfl ?_
      conv => whnf
      refine ⟨rfl, ?_⟩
      refine Run.iaD rfl rfl rfl rfl rfl (fun _ => ⟨by omega, by omega⟩) rfl ?_
      conv => whnf
      refine ⟨rfl, ?_⟩
      refine Run.condC rfl (fun h => ?_) (fun h => ?_) <;> (conv => whnf) <;> refine ⟨rfl, ?_⟩
      · refine Run.retRR ?_
        conv => whnf
        refine ⟨rfl, .ff (bad i hlt ?_)⟩
        have : ((List.range i).any fun k => l.getD k 0 == l.getD i 0) = true := by
          rw [List.any_eq_true]
          exact ⟨k, List.mem_range.2 hki, h⟩
        unfold tabAt
        rw [this]
        simp
      · refine Run.endR ⟨k + 1, ⟨by omega, fun j hj => ?_⟩, by omega, Wk.ofEnv (Wk.cons (.refl _) (Wk.cons (.refl _) (Wk.cons (.refl _) (Wk.cons (.int ?_) Wk.done))))⟩
        · by_cases e : j < k
          · exact hq j e
          · obtain rfl : j = k := by omega
            exact h
        · rw [wrap_of (by omega) (by omega)]
          simp
    · have hki : i ≤ k := by simpa using h
      refine Run.exitR rfl rfl ?_
      conv => whnf
      refine ⟨rfl, ?_⟩
      refine Run.endR ⟨i + 1, ⟨by omega, fun j hj => ?_⟩, by omega, Wk.ofEnv (Wk.cons (.refl _) (Wk.cons (.refl _) (Wk.cons (.int ?_) Wk.done)))⟩
      · by_cases e : j < i
        · exact hp j e
        · obtain rfl : j = i := by omega
          have : ((List.range j).any fun k => l.getD k 0 == l.getD j 0) = false := by
            rw [List.any_eq_false]
            intro q hq'
            rw [List.mem_range] at hq'
            rw [hq q (by omega)]
            simp
          unfold tabAt
          rw [hbt, this]
          rfl
      · rw [wrap_of (by omega) (by omega)]
        simp
  · have hge : l.length ≤ i := by simpa using h
    refine Run.exitR rfl rfl ?_
    conv => whnf
    refine ⟨rfl, ?_⟩
    refine Run.retP ?_
    conv => whnf
    refine ⟨rfl, .bool ?_⟩
    have : (List.range l.length).all (tabAt l below) = true := by
      rw [List.all_eq_true]
      intro j hj
      exact hp j (by rw [List.mem_range] at hj; omega)
    unfold tabB
    rw [this, Bool.true_and]
    exact bool_eq (by simp; omega)
end Go.Proofs.Ytbpcjahjbkiofaa.Sp

set_option linter.unusedVariables false
set_option linter.unusedSimpArgs false
namespace Go.Proofs.Ytbpcjahjbkiofaa.Sp
open Go Go.Proofs.Ytbpcjahjbkiofaa.AV Go.Proofs.Ytbpcjahjbkiofaa.Fn
set_option maxRecDepth 10000

def numB (t : Stp) : Bool :=
  bif (t.op == 4 || t.op == 24) then (btw t.a (-1048576) 1048576 && t.a != 0) && btw t.b (-1099511627776) 1099511627776 else bif (t.op == 6 || t.op == 26) then btw t.a 2 1048576 else
  bif t.op == 5 then btw t.a 1 1000 && tabB t.t t.a else bif t.op == 25 then tabB t.t 1000 else true

theorem r15_numbers (t : Stp) (hl : t.t.length ≤ 1000000) : AC P R15_numbers.id [.agg t.cells] [] (.bool (numB t)) [] := by
  refine R15_numbers.intro rfl (Goes.run ?_)
  conv => whnf
  refine ⟨rfl, ?_⟩
  refine Run.condC rfl (fun h4 => ?_) (fun h4 => ?_) <;> (conv => whnf) <;> refine ⟨rfl, ?_⟩
  · refine Run.callC (av := [.int .i64 t.a, .int .i64 (-1048576), .int .i64 1048576]) rfl rfl rfl (fun _ => r15_between _ _ _) rfl rfl ?_
    conv => whnf
    refine ⟨rfl, ?_⟩
    refine Run.callC (av := [.int .i64 t.b, .int .i64 (-1099511627776), .int .i64 1099511627776]) rfl rfl rfl (fun _ => r15_between _ _ _) rfl rfl ?_
    conv => whnf
    refine ⟨rfl, ?_⟩
    refine Run.retP ?_
    conv => whnf
    refine ⟨rfl, .bool ?_⟩
    simp only [numB, h4, cond_true]
  refine Run.condC rfl (fun h6 => ?_) (fun h6 => ?_) <;> (conv => whnf) <;> refine ⟨rfl, ?_⟩
  · refine Run.callC (av := [.int .i64 t.a, .int .i64 2, .int .i64 1048576]) rfl rfl rfl (fun _ => r15_between _ _ _) rfl rfl ?_
    conv => whnf
    refine ⟨rfl, ?_⟩
    refine Run.retP ?_
    conv => whnf
    refine ⟨rfl, .bool ?_⟩
    simp only [numB, h4, h6, cond_true, cond_false]
  refine Run.condC rfl (fun h5 => ?_) (fun h5 => ?_) <;> (conv => whnf) <;> refine ⟨rfl, ?_⟩
  · refine Run.callC (av := [.int .i64 t.a, .int .i64 1, .int .i64 1000]) rfl rfl rfl (fun _ => r15_between _ _ _) rfl rfl ?_
    conv => whnf
    refine ⟨rfl, ?_⟩
    refine Run.callC (av := [encIs t.t, .int .i64 t.a]) rfl rfl rfl (fun hg => r15_table _ _ ?_ hl) rfl rfl ?_
    · have : btw t.a 1 1000 = true := by simpa [pol] using hg.1
      simp [btw] at this
      omega
    conv => whnf
    refine ⟨rfl, ?_⟩
    refine Run.retP ?_
    conv => whnf
    refine ⟨rfl, .bool ?_⟩
    simp only [numB, h4, h6, h5, cond_true, cond_false]
  refine Run.condC rfl (fun h25 => ?_) (fun h25 => ?_) <;> (conv => whnf) <;> refine ⟨rfl, ?_⟩
  · refine Run.callC (av := [encIs t.t, .int .i64 1000]) rfl rfl rfl (fun hg => r15_table _ _ (by omega) hl) rfl rfl ?_
    conv => whnf
    refine ⟨rfl, ?_⟩
    refine Run.retP ?_
    conv => whnf
    refine ⟨rfl, .bool ?_⟩
    simp only [numB, h4, h6, h5, h25, cond_true, cond_false]
  refine Run.retP ?_
  conv => whnf
  refine ⟨rfl, .tt ?_⟩
  simp only [numB, h4, h6, h5, h25, cond_true, cond_false]

def fZero (f : Fld) : Bool := f.id == 0 && (f.kind == 0 && (f.lo == 0 && (f.hi == 0 && (f.most == 0 && true))))
def zeroB (t : Stp) : Bool :=
  ((hasB t.op 100 || t.field == 0) && (hasB t.op 112 || t.place == 0) && (hasB t.op 116 || t.to == 0)) && (hasB t.op 97 || hasB t.op 98 || t.a == 0) && (hasB t.op 98 || t.b == 0) &&
  (hasB t.op 70 || fZero t.f) && (hasB t.op 86 || (t.vn == 0 && (t.vs == ByteArray.mk #[] && true))) && (hasB t.op 84 || ((t.t.length : Int) == 0)) && (hasB t.op 76 || ((t.fields.length : Int) == 0))

theorem r15_zero (t : Stp) : AC P R15_zero.id [.agg t.cells] [] (.bool (zeroB t)) [] := by
  refine R15_zero.intro rfl (Goes.run ?_)
  conv => whnf
  refine ⟨rfl, ?_⟩
  refine Run.callC (av := [.int .i64 t.op, .int .u8 100]) rfl rfl rfl (fun _ => r15_has _ _) rfl rfl ?_
  conv => whnf
  refine ⟨rfl, ?_⟩
  refine Run.callC (av := [.int .i64 t.op, .int .u8 112]) rfl rfl rfl (fun _ => r15_has _ _) rfl rfl ?_
  conv => whnf
  refine ⟨rfl, ?_⟩
  refine Run.callC (av := [.int .i64 t.op, .int .u8 116]) rfl rfl rfl (fun _ => r15_has _ _) rfl rfl ?_
  conv => whnf
  refine ⟨rfl, ?_⟩
  refine Run.callC (av := [.int .i64 t.op, .int .u8 97]) rfl rfl rfl (fun _ => r15_has _ _) rfl rfl ?_
  conv => whnf
  refine ⟨rfl, ?_⟩
  refine Run.callC (av := [.int .i64 t.op, .int .u8 98]) rfl rfl rfl (fun _ => r15_has _ _) rfl rfl ?_
  conv => whnf
  refine ⟨rfl, ?_⟩
  refine Run.callC (av := [.int .i64 t.op, .int .u8 98]) rfl rfl rfl (fun _ => r15_has _ _) rfl rfl ?_
  conv => whnf
  refine ⟨rfl, ?_⟩
  refine Run.callC (av := [.int .i64 t.op, .int .u8 70]) rfl rfl rfl (fun _ => r15_has _ _) rfl rfl ?_
  conv => whnf
  refine ⟨rfl, ?_⟩
  refine Run.callC (av := [.int .i64 t.op, .int .u8 86]) rfl rfl rfl (fun _ => r15_has _ _) rfl rfl ?_
  conv => whnf
  refine ⟨rfl, ?_⟩
  refine Run.callC (av := [.int .i64 t.op, .int .u8 84]) rfl rfl rfl (fun _ => r15_has _ _) rfl rfl ?_
  conv => whnf
  refine ⟨rfl, ?_⟩
  refine Run.callC (av := [.int .i64 t.op, .int .u8 76]) rfl rfl rfl (fun _ => r15_has _ _) rfl rfl ?_
  conv => whnf
  refine ⟨rfl, ?_⟩
  refine Run.retP ?_
  conv => whnf
  exact ⟨rfl, .bool rfl⟩

/-- Which steps may be. -/
def bad1 (t : Stp) : Bool := negB false ((usesS t.op).toList == (ByteArray.mk #[]).toList) || !zeroB t || !btw t.form 0 200 || !btw t.field 0 255 || !btw t.place 0 8 || !btw t.to 0 255 || !numB t
def bad2 (t : Stp) : Bool := hasB t.op 116 && t.to == t.field || hasB t.op 70 && !fRight t.f
def bad3 (t : Stp) : Bool := hasB t.op 70 && hasB t.op 100 && t.f.id != t.field
def bad4 (t : Stp) : Bool := t.op == 2 && (!btw t.vn (-1099511627776) 1099511627776 || decide ((t.vs.size : Int) > 32))
def bad5 (t : Stp) : Bool := hasB t.op 112 && hasB t.op 86 && !fHas t.f t.vn t.vs
def stRight (t : Stp) : Bool := !bad1 t && (!bad2 t && (!bad3 t && (!bad4 t && (!bad5 t && (!hasB t.op 76 || fFine ⟨t.form, t.fields⟩)))))

theorem r15_right (t : Stp) (hl : t.t.length ≤ 1000000) (hf : t.fields.length ≤ 1000) : AC P R15_Right.id [.agg t.cells] [] (.bool (stRight t)) [] := by
  refine R15_Right.intro rfl (Goes.run ?_)
  conv => whnf
  refine ⟨rfl, ?_⟩
  refine Run.callC (av := [.int .i64 t.op]) rfl rfl rfl (fun _ => r15_uses _) rfl rfl ?_
  conv => whnf
  refine ⟨rfl, ?_⟩
  refine Run.callC (av := [.agg t.cells]) rfl rfl rfl (fun _ => r15_zero _) rfl rfl ?_
  conv => whnf
  refine ⟨rfl, ?_⟩
  refine Run.callC (av := [.int .i64 t.form, .int .i64 0, .int .i64 200]) rfl rfl rfl (fun _ => r15_between _ _ _) rfl rfl ?_
  conv => whnf
  refine ⟨rfl, ?_⟩
  refine Run.callC (av := [.int .i64 t.field, .int .i64 0, .int .i64 255]) rfl rfl rfl (fun _ => r15_between _ _ _) rfl rfl ?_
  conv => whnf
  refine ⟨rfl, ?_⟩
  refine Run.callC (av := [.int .i64 t.place, .int .i64 0, .int .i64 8]) rfl rfl rfl (fun _ => r15_between _ _ _) rfl rfl ?_
  conv => whnf
  refine ⟨rfl, ?_⟩
  refine Run.callC (av := [.int .i64 t.to, .int .i64 0, .int .i64 255]) rfl rfl rfl (fun _ => r15_between _ _ _) rfl rfl ?_
  conv => whnf
  refine ⟨rfl, ?_⟩
  refine Run.callC (av := [.agg t.cells]) rfl rfl rfl (fun _ => r15_numbers _ hl) rfl rfl ?_
  conv => whnf
  refine ⟨rfl, ?_⟩
  refine Run.condC rfl (fun h1 => ?_) (fun h1 => ?_) <;> (conv => whnf) <;> refine ⟨rfl, ?_⟩
  · refine Run.retP ?_
    conv => whnf
    refine ⟨rfl, .ff ?_⟩
    simp [stRight, (show bad1 t = true from h1)]
  refine Run.callC (av := [.int .i64 t.op, .int .u8 116]) rfl rfl rfl (fun _ => r15_has _ _) rfl rfl ?_
  conv => whnf
  refine ⟨rfl, ?_⟩
  refine Run.callC (av := [.int .i64 t.op, .int .u8 70]) rfl rfl rfl (fun _ => r15_has _ _) rfl rfl ?_
  conv => whnf
  refine ⟨rfl, ?_⟩
  refine Run.callC (av := [.agg t.f.cells]) rfl rfl rfl (fun _ => r12_right _) rfl rfl ?_
  conv => whnf
  refine ⟨rfl, ?_⟩
  refine Run.condC rfl (fun h2 => ?_) (fun h2 => ?_) <;> (conv => whnf) <;> refine ⟨rfl, ?_⟩
  · refine Run.retP ?_
    conv => whnf
    refine ⟨rfl, .ff ?_⟩
    simp [stRight, (show bad2 t = true from h2)]
  refine Run.callC (av := [.int .i64 t.op, .int .u8 70]) rfl rfl rfl (fun _ => r15_has _ _) rfl rfl ?_
  conv => whnf
  refine ⟨rfl, ?_⟩
  refine Run.callC (av := [.int .i64 t.op, .int .u8 100]) rfl rfl rfl (fun _ => r15_has _ _) rfl rfl ?_
  conv => whnf
  refine ⟨rfl, ?_⟩
  refine Run.condC rfl (fun h3 => ?_) (fun h3 => ?_) <;> (conv => whnf) <;> refine ⟨rfl, ?_⟩
  · refine Run.retP ?_
    conv => whnf
    refine ⟨rfl, .ff ?_⟩
    simp [stRight, (show bad3 t = true from h3)]
  refine Run.callC (av := [.int .i64 t.vn, .int .i64 (-1099511627776), .int .i64 1099511627776]) rfl rfl rfl (fun _ => r15_between _ _ _) rfl rfl ?_
  conv => whnf
  refine ⟨rfl, ?_⟩
  refine Run.condC rfl (fun h4 => ?_) (fun h4 => ?_) <;> (conv => whnf) <;> refine ⟨rfl, ?_⟩
  · refine Run.retP ?_
    conv => whnf
    refine ⟨rfl, .ff ?_⟩
    simp [stRight, (show bad4 t = true from h4)]
  refine Run.callC (av := [.int .i64 t.op, .int .u8 112]) rfl rfl rfl (fun _ => r15_has _ _) rfl rfl ?_
  conv => whnf
  refine ⟨rfl, ?_⟩
  refine Run.callC (av := [.int .i64 t.op, .int .u8 86]) rfl rfl rfl (fun _ => r15_has _ _) rfl rfl ?_
  conv => whnf
  refine ⟨rfl, ?_⟩
  refine Run.callC (av := [.agg t.f.cells, .agg [.int .i64 t.vn, .str t.vs]]) rfl rfl rfl (fun _ => r12_has _ _ _) rfl rfl ?_
  conv => whnf
  refine ⟨rfl, ?_⟩
  refine Run.condC rfl (fun h5 => ?_) (fun h5 => ?_) <;> (conv => whnf) <;> refine ⟨rfl, ?_⟩
  · refine Run.retP ?_
    conv => whnf
    refine ⟨rfl, .ff ?_⟩
    simp [stRight, (show bad5 t = true from h5)]
  refine Run.callC (av := [.int .i64 t.op, .int .u8 76]) rfl rfl rfl (fun _ => r15_has _ _) rfl rfl ?_
  conv => whnf
  refine ⟨rfl, ?_⟩
  refine Run.callC (av := [.agg (Frm.cells ⟨t.form, t.fields⟩)]) rfl rfl rfl (fun _ => r13_fine _ hf) rfl rfl ?_
  conv => whnf
  refine ⟨rfl, ?_⟩
  refine Run.retP ?_
  conv => whnf
  refine ⟨rfl, .bool ?_⟩
  have e1 : bad1 t = false := h1
  have e2 : bad2 t = false := h2
  have e3 : bad3 t = false := h3
  have e4 : bad4 t = false := h4
  have e5 : bad5 t = false := h5
  simp only [stRight, e1, e2, e3, e4, e5, Bool.not_false, Bool.true_and]
end Go.Proofs.Ytbpcjahjbkiofaa.Sp

set_option linter.unusedVariables false
namespace Go.Proofs.Ytbpcjahjbkiofaa.Sp
open Go Go.Proofs.Ytbpcjahjbkiofaa.AV Go.Proofs.Ytbpcjahjbkiofaa.Fn
set_option maxRecDepth 10000

/-- Without the elements from i on, up to j. -/
def delF (i j : Nat) (f : Nat → List AV) : Nat → List AV := fun k => if k < i then f k else f (k + (j - i))

theorem leL_eq {l m : List AV} (h : l = m) : LeL l m := h ▸ LeL.refl _

theorem delete_frm {n i j : Nat} {f : Nat → List AV} (hij : i < j) (hj : j ≤ n) (hn : n ≤ 1000000) :
    AC P slices_Delete_api_Form_api_Form.id [.row 2 0 0 0 n, .int .i64 i, .int .i64 j] [.row 2 n 0 f] (.row 2 0 1 0 (n - (j - i))) [.row 2 (n - (j - i)) 1 (delF i j f)] := by
  refine slices_Delete_api_Form_api_Form.intro rfl (Goes.run ?_)
  conv => whnf
  refine ⟨rfl, ?_⟩
  refine Run.doesC rfl rfl (fun _ => Does.slR3 (i := i) (j := j) (q := n) rfl rfl rfl rfl rfl (by simp) rfl rfl rfl rfl (by omega) (by omega) (Nat.le_refl _)) ?_
  conv => whnf
  refine ⟨rfl, ?_⟩
  refine Run.condC rfl (fun h => ?_) (fun h => ?_) <;> (conv => whnf) <;> refine ⟨rfl, ?_⟩
  · exfalso
    simp at h
    omega
  refine Run.slXD (i := 0) (j := i) rfl rfl rfl rfl rfl rfl rfl rfl (.inr rfl) (Nat.zero_le _) (by omega) rfl ?_
  conv => whnf
  refine ⟨rfl, ?_⟩
  rcases Nat.lt_or_ge j n with hjn | hjn
  · refine Run.slXD (i := j) (j := n) rfl rfl rfl rfl rfl rfl rfl rfl (.inl hjn) hj (by omega) rfl ?_
    conv => whnf
    refine ⟨rfl, ?_⟩
    refine Run.appInD rfl rfl rfl rfl rfl (by omega) rfl ?_
    conv => whnf
    refine ⟨rfl, ?_⟩
    refine Run.doesC rfl rfl (fun _ => Does.slRX (i := i + (n - j)) (j := n) rfl rfl rfl rfl rfl rfl rfl (.inl (by omega)) (by omega) (by omega)) ?_
    conv => whnf
    refine ⟨rfl, ?_⟩
    refine Run.doesT (id := 0) rfl (Does.clr rfl rfl rfl (by omega)) ?_
    conv => whnf
    refine ⟨rfl, ?_⟩
    refine Run.retS ?_
    conv => whnf
    rw [show i - 0 + (n - j) = n - (j - i) by omega]
    refine FinS.row (j := 0) rfl rfl rfl (by omega) fun k hk => leL_eq ?_
    unfold fput delF
    rw [if_neg (by omega)]
    by_cases h1 : k < i
    · rw [if_neg (by omega), if_pos h1]
    · rw [if_pos (by omega), if_neg h1]
      exact congrArg f (show 0 + j + (k - (i - 0)) = k + (j - i) by omega)
  · obtain rfl : j = n := by omega
    refine Run.slED (i := j) (j := j) rfl rfl rfl rfl rfl rfl rfl rfl rfl (by omega) rfl ?_
    conv => whnf
    refine ⟨rfl, ?_⟩
    refine Run.appInD rfl rfl rfl rfl rfl (by omega) rfl ?_
    conv => whnf
    refine ⟨rfl, ?_⟩
    refine Run.doesC rfl rfl (fun _ => Does.slRX (i := i) (j := j) rfl rfl rfl rfl rfl rfl rfl (.inl (by omega)) (by omega) (by omega)) ?_
    conv => whnf
    refine ⟨rfl, ?_⟩
    refine Run.doesT (id := 0) rfl (Does.clr rfl rfl rfl (by omega)) ?_
    conv => whnf
    refine ⟨rfl, ?_⟩
    refine Run.retS ?_
    conv => whnf
    rw [show i - 0 + 0 = j - (j - i) by omega]
    refine FinS.row (j := 0) rfl rfl rfl (by omega) fun k hk => leL_eq ?_
    unfold fput delF
    rw [if_neg (by omega), if_neg (by omega), if_pos (by omega)]
theorem delete_fld {n i j : Nat} {f : Nat → List AV} (hij : i < j) (hj : j ≤ n) (hn : n ≤ 1000000) :
    AC P slices_Delete_api_Field_api_Field.id [.row 5 0 0 0 n, .int .i64 i, .int .i64 j] [.row 5 n 0 f] (.row 5 0 1 0 (n - (j - i))) [.row 5 (n - (j - i)) 1 (delF i j f)] := by
  refine slices_Delete_api_Field_api_Field.intro rfl (Goes.run ?_)
  conv => whnf
  refine ⟨rfl, ?_⟩
  refine Run.doesC rfl rfl (fun _ => Does.slR3 (i := i) (j := j) (q := n) rfl rfl rfl rfl rfl (by simp) rfl rfl rfl rfl (by omega) (by omega) (Nat.le_refl _)) ?_
  conv => whnf
  refine ⟨rfl, ?_⟩
  refine Run.condC rfl (fun h => ?_) (fun h => ?_) <;> (conv => whnf) <;> refine ⟨rfl, ?_⟩
  · exfalso
    simp at h
    omega
  refine Run.slXD (i := 0) (j := i) rfl rfl rfl rfl rfl rfl rfl rfl (.inr rfl) (Nat.zero_le _) (by omega) rfl ?_
  conv => whnf
  refine ⟨rfl, ?_⟩
  rcases Nat.lt_or_ge j n with hjn | hjn
  · refine Run.slXD (i := j) (j := n) rfl rfl rfl rfl rfl rfl rfl rfl (.inl hjn) hj (by omega) rfl ?_
    conv => whnf
    refine ⟨rfl, ?_⟩
    refine Run.appInD rfl rfl rfl rfl rfl (by omega) rfl ?_
    conv => whnf
    refine ⟨rfl, ?_⟩
    refine Run.doesC rfl rfl (fun _ => Does.slRX (i := i + (n - j)) (j := n) rfl rfl rfl rfl rfl rfl rfl (.inl (by omega)) (by omega) (by omega)) ?_
    conv => whnf
    refine ⟨rfl, ?_⟩
    refine Run.doesT (id := 0) rfl (Does.clr rfl rfl rfl (by omega)) ?_
    conv => whnf
    refine ⟨rfl, ?_⟩
    refine Run.retS ?_
    conv => whnf
    rw [show i - 0 + (n - j) = n - (j - i) by omega]
    refine FinS.row (j := 0) rfl rfl rfl (by omega) fun k hk => leL_eq ?_
    unfold fput delF
    rw [if_neg (by omega)]
    by_cases h1 : k < i
    · rw [if_neg (by omega), if_pos h1]
    · rw [if_pos (by omega), if_neg h1]
      exact congrArg f (show 0 + j + (k - (i - 0)) = k + (j - i) by omega)
  · obtain rfl : j = n := by omega
    refine Run.slED (i := j) (j := j) rfl rfl rfl rfl rfl rfl rfl rfl rfl (by omega) rfl ?_
    conv => whnf
    refine ⟨rfl, ?_⟩
    refine Run.appInD rfl rfl rfl rfl rfl (by omega) rfl ?_
    conv => whnf
    refine ⟨rfl, ?_⟩
    refine Run.doesC rfl rfl (fun _ => Does.slRX (i := i) (j := j) rfl rfl rfl rfl rfl rfl rfl (.inl (by omega)) (by omega) (by omega)) ?_
    conv => whnf
    refine ⟨rfl, ?_⟩
    refine Run.doesT (id := 0) rfl (Does.clr rfl rfl rfl (by omega)) ?_
    conv => whnf
    refine ⟨rfl, ?_⟩
    refine Run.retS ?_
    conv => whnf
    rw [show i - 0 + 0 = j - (j - i) by omega]
    refine FinS.row (j := 0) rfl rfl rfl (by omega) fun k hk => leL_eq ?_
    unfold fput delF
    rw [if_neg (by omega), if_neg (by omega), if_pos (by omega)]
end Go.Proofs.Ytbpcjahjbkiofaa.Sp

set_option linter.unusedVariables false
namespace Go.Proofs.Ytbpcjahjbkiofaa.Sp
open Go Go.Proofs.Ytbpcjahjbkiofaa.AV Go.Proofs.Ytbpcjahjbkiofaa.Fn
set_option maxRecDepth 10000

theorem ovl_of {f : FuncId} {fn : Func} {tS e sz : Nat} {rt : Array TypeId} (h1 : P.funcs[f]? = some fn) (h2 : (fn.name == "runtime.NumGoroutine") = false) (h3 : fn.body.isNone = true) (h4 : Extern.findNext fn = none) (h5 : Extern.find fn = some (Extern.SlicesOverlaps.overlaps #[tS, tS] rt)) (h6 : P.underlying tS = some (.slice e)) (h7 : (P.info? e).map (·.size) = some sz) : OvlOK P f sz := by
  obtain ⟨ti, hi, hs⟩ := Option.map_eq_some_iff.1 h7
  exact ⟨⟨fn, tS, e, ti, rt, h1, h2, h3, h4, h5, h6, hi, hs⟩⟩

theorem ovl_frm : OvlOK P 97 2 := ovl_of Try.func97 (by kernel_rfl) (by kernel_rfl) (by kernel_rfl) (rt := #[4]) (tS := 22) (by kernel_rfl) Try.underlying22 (by kernel_rfl)
theorem ovl_fld : OvlOK P 133 5 := ovl_of Try.func133 (by kernel_rfl) (by kernel_rfl) (by kernel_rfl) (rt := #[4]) (tS := 30) (by kernel_rfl) Try.underlying30 (by kernel_rfl)

/-- With m elements g from i on. -/
def insF (i m : Nat) (g f : Nat → List AV) : Nat → List AV := fun k => if k < i then f k else if k < i + m then g (k - i) else f (k - m)

theorem insert_frm {n i m : Nat} {f g : Nat → List AV} (hi : i ≤ n) (hm : 1 ≤ m) (hn : n ≤ 1000000) (hm2 : m ≤ 1000000) :
    AC P slices_Insert_api_Form_api_Form.id [.row 2 0 0 0 n, .int .i64 i, .list 2 m g] [.row 2 n 0 f] (.row 2 0 2 0 (n + m)) [.row 2 (n + m) 2 (insF i m g f)] := by
  refine slices_Insert_api_Form_api_Form.intro rfl (Goes.run ?_)
  conv => whnf
  refine ⟨rfl, ?_⟩
  rcases Nat.lt_or_ge i n with hin | hin
  · refine Run.doesC rfl rfl (fun _ => Does.slRX (i := i) (j := n) rfl rfl rfl rfl rfl rfl rfl (.inl hin) hi (by omega)) ?_
    conv => whnf
    refine ⟨rfl, ?_⟩
    refine Run.condC rfl (fun h => ?_) (fun h => ?_) <;> (conv => whnf) <;> refine ⟨rfl, ?_⟩
    · exfalso; simp at h; omega
    refine Run.condC rfl (fun h => ?_) (fun h => ?_) <;> (conv => whnf) <;> refine ⟨rfl, ?_⟩
    · exfalso; simp at h; omega
    refine Run.capO 0 1 rfl rfl fun C hC hCm => ?_
    conv => whnf
    refine ⟨rfl, ?_⟩
    refine Run.doesC rfl rfl (fun _ => Does.cap (cid := 1) (C := C) rfl rfl rfl rfl) ?_
    conv => whnf
    refine ⟨rfl, ?_⟩
    have hw : IntKind.i64.wrap ((n : Int) + (m : Int)) = ((n + m : Nat) : Int) := by rw [wrap_of (by omega) (by omega)]; omega
    refine Run.condC rfl (fun h => ?_) (fun h => ?_) <;> (conv => whnf) <;> refine ⟨rfl, ?_⟩
    · have hlt : C < n + m := by rw [hw] at h; simp at h; omega
      refine Run.doesC rfl rfl (fun _ => Does.slRX (i := 0) (j := i) rfl rfl rfl rfl rfl rfl rfl (.inr rfl) (Nat.zero_le _) (by omega)) ?_
      conv => whnf
      refine ⟨rfl, ?_⟩
      refine Run.doesT (id := 2) rfl (Does.appzNew (nid := 2) (cid := 1) (C := C) (m := n + m - i) rfl rfl rfl rfl rfl rfl ?_ (by omega) (by omega) (by simp only [maxLen]; omega) (by omega)) ?_
      · rw [hw, wrap_of (by omega) (by omega)]; omega
      conv => whnf
      refine ⟨rfl, ?_⟩
      refine Run.doesC rfl rfl (fun _ => Does.slRX (i := i) (j := n + m) rfl rfl rfl rfl rfl rfl ?_ (.inl (by omega)) (by omega) (by omega)) ?_
      · show ((i - 0 + (n + m - i) : Nat) : Int) = _; omega
      conv => whnf
      refine ⟨rfl, ?_⟩
      refine Run.doesT (id := 2) rfl (Does.copy rfl rfl rfl (by omega) rfl) ?_
      conv => whnf
      refine ⟨rfl, ?_⟩
      have hw2 : IntKind.i64.wrap ((i : Int) + (m : Int)) = ((i + m : Nat) : Int) := by rw [wrap_of (by omega) (by omega)]; omega
      refine Run.slXD (i := i + m) (j := n + m) rfl rfl rfl rfl rfl rfl hw2 ?_ (.inl (by omega)) (by omega) (by omega) rfl ?_
      · show ((i - 0 + (n + m - i) : Nat) : Int) = _; omega
      conv => whnf
      refine ⟨rfl, ?_⟩
      refine Run.slXD (i := i) (j := n) rfl rfl rfl rfl rfl rfl rfl rfl (.inl hin) hi (by omega) rfl ?_
      conv => whnf
      refine ⟨rfl, ?_⟩
      refine Run.copyD rfl rfl rfl rfl (by omega) rfl rfl ?_
      conv => whnf
      refine ⟨rfl, ?_⟩
      refine Run.retS ?_
      conv => whnf
      rw [show i - 0 + (n + m - i) = n + m by omega]
      refine FinS.row (j := 2) rfl rfl rfl (by omega) fun k hk => leL_eq ?_
      simp only [fput, insF, fext]
      (repeat' split) <;> first | (exfalso; omega) | (rw [fapp_lt (by omega)]; first | rfl | exact if_pos (by omega)) | exact congrArg g (by omega) | exact congrArg f (by omega)
    · have hge : n + m ≤ C := by rw [hw] at h; simp at h; omega
      have hw2 : IntKind.i64.wrap ((i : Int) + (m : Int)) = ((i + m : Nat) : Int) := by rw [wrap_of (by omega) (by omega)]; omega
      refine Run.doesC rfl rfl (fun _ => Does.slRX (i := 0) (j := n + m) rfl rfl rfl rfl rfl rfl hw (.inr rfl) (Nat.zero_le _) (by omega)) ?_
      conv => whnf
      refine ⟨rfl, ?_⟩
      refine Run.doesC rfl rfl (fun _ => Does.slRX (i := i + m) (j := n + m) rfl rfl rfl rfl rfl hw2 rfl (.inl (by omega)) (by omega) (by omega)) ?_
      conv => whnf
      refine ⟨rfl, ?_⟩
      refine Run.doesC rfl rfl (fun _ => (Does.ovlLR ovl_frm rfl rfl rfl rfl).1) ?_
      conv => whnf
      refine ⟨rfl, ?_⟩
      refine Run.slXD (i := i + m) (j := n + m) rfl rfl rfl rfl rfl rfl hw2 rfl (.inl (by omega)) (by omega) (by omega) rfl ?_
      conv => whnf
      refine ⟨rfl, ?_⟩
      refine Run.slXD (i := i) (j := n + m) rfl rfl rfl rfl rfl rfl rfl rfl (.inl (by omega)) (by omega) (by omega) rfl ?_
      conv => whnf
      refine ⟨rfl, ?_⟩
      refine Run.copyD rfl rfl rfl rfl (by omega) rfl rfl ?_
      conv => whnf
      refine ⟨rfl, ?_⟩
      refine Run.doesC rfl rfl (fun _ => Does.slRX (i := i) (j := n + m) rfl rfl rfl rfl rfl rfl rfl (.inl (by omega)) (by omega) (by omega)) ?_
      conv => whnf
      refine ⟨rfl, ?_⟩
      refine Run.doesT (id := 0) rfl (Does.copy rfl rfl rfl (by omega) rfl) ?_
      conv => whnf
      refine ⟨rfl, ?_⟩
      refine Run.retS ?_
      conv => whnf
      rw [show n + m - 0 = n + m by omega]
      refine FinS.row (j := 0) rfl rfl rfl (by omega) fun k hk => leL_eq ?_
      simp only [fput, insF, fext]
      (repeat' split) <;> first | (exfalso; omega) | rfl | exact congrArg g (by omega) | exact congrArg f (by omega)
  · obtain rfl : i = n := by omega
    refine Run.doesC rfl rfl (fun _ => Does.slRE (i := i) (j := i) rfl rfl rfl rfl rfl rfl rfl rfl (by omega)) ?_
    conv => whnf
    refine ⟨rfl, ?_⟩
    refine Run.condC rfl (fun h => ?_) (fun h => ?_) <;> (conv => whnf) <;> refine ⟨rfl, ?_⟩
    · exfalso; simp at h; omega
    refine Run.condC rfl (fun h => ?_) (fun h => ?_) <;> (conv => whnf) <;> refine ⟨rfl, ?_⟩
    · refine Run.doesT (id := 0) rfl (Does.appR rfl rfl rfl (by simp only [maxLen]; omega) (by omega)) ?_
      conv => whnf
      refine ⟨rfl, ?_⟩
      refine Run.retS ?_
      conv => whnf
      refine FinS.row (j := 0) rfl rfl rfl (Nat.le_refl _) fun k hk => leL_eq ?_
      unfold insF
      by_cases h1 : k < i
      · rw [if_pos h1, fapp_lt h1]
      · rw [if_neg h1, if_pos (by omega), fapp_ge (by omega)]
    · exfalso; simp at h

theorem insert_fld {n i m : Nat} {f g : Nat → List AV} (hi : i ≤ n) (hm : 1 ≤ m) (hn : n ≤ 1000000) (hm2 : m ≤ 1000000) :
    AC P slices_Insert_api_Field_api_Field.id [.row 5 0 0 0 n, .int .i64 i, .list 5 m g] [.row 5 n 0 f] (.row 5 0 2 0 (n + m)) [.row 5 (n + m) 2 (insF i m g f)] := by
  refine slices_Insert_api_Field_api_Field.intro rfl (Goes.run ?_)
  conv => whnf
  refine ⟨rfl, ?_⟩
  rcases Nat.lt_or_ge i n with hin | hin
  · refine Run.doesC rfl rfl (fun _ => Does.slRX (i := i) (j := n) rfl rfl rfl rfl rfl rfl rfl (.inl hin) hi (by omega)) ?_
    conv => whnf
    refine ⟨rfl, ?_⟩
    refine Run.condC rfl (fun h => ?_) (fun h => ?_) <;> (conv => whnf) <;> refine ⟨rfl, ?_⟩
    · exfalso; simp at h; omega
    refine Run.condC rfl (fun h => ?_) (fun h => ?_) <;> (conv => whnf) <;> refine ⟨rfl, ?_⟩
    · exfalso; simp at h; omega
    refine Run.capO 0 1 rfl rfl fun C hC hCm => ?_
    conv => whnf
    refine ⟨rfl, ?_⟩
    refine Run.doesC rfl rfl (fun _ => Does.cap (cid := 1) (C := C) rfl rfl rfl rfl) ?_
    conv => whnf
    refine ⟨rfl, ?_⟩
    have hw : IntKind.i64.wrap ((n : Int) + (m : Int)) = ((n + m : Nat) : Int) := by rw [wrap_of (by omega) (by omega)]; omega
    refine Run.condC rfl (fun h => ?_) (fun h => ?_) <;> (conv => whnf) <;> refine ⟨rfl, ?_⟩
    · have hlt : C < n + m := by rw [hw] at h; simp at h; omega
      refine Run.doesC rfl rfl (fun _ => Does.slRX (i := 0) (j := i) rfl rfl rfl rfl rfl rfl rfl (.inr rfl) (Nat.zero_le _) (by omega)) ?_
      conv => whnf
      refine ⟨rfl, ?_⟩
      refine Run.doesT (id := 2) rfl (Does.appzNew (nid := 2) (cid := 1) (C := C) (m := n + m - i) rfl rfl rfl rfl rfl rfl ?_ (by omega) (by omega) (by simp only [maxLen]; omega) (by omega)) ?_
      · rw [hw, wrap_of (by omega) (by omega)]; omega
      conv => whnf
      refine ⟨rfl, ?_⟩
      refine Run.doesC rfl rfl (fun _ => Does.slRX (i := i) (j := n + m) rfl rfl rfl rfl rfl rfl ?_ (.inl (by omega)) (by omega) (by omega)) ?_
      · show ((i - 0 + (n + m - i) : Nat) : Int) = _; omega
      conv => whnf
      refine ⟨rfl, ?_⟩
      refine Run.doesT (id := 2) rfl (Does.copy rfl rfl rfl (by omega) rfl) ?_
      conv => whnf
      refine ⟨rfl, ?_⟩
      have hw2 : IntKind.i64.wrap ((i : Int) + (m : Int)) = ((i + m : Nat) : Int) := by rw [wrap_of (by omega) (by omega)]; omega
      refine Run.slXD (i := i + m) (j := n + m) rfl rfl rfl rfl rfl rfl hw2 ?_ (.inl (by omega)) (by omega) (by omega) rfl ?_
      · show ((i - 0 + (n + m - i) : Nat) : Int) = _; omega
      conv => whnf
      refine ⟨rfl, ?_⟩
      refine Run.slXD (i := i) (j := n) rfl rfl rfl rfl rfl rfl rfl rfl (.inl hin) hi (by omega) rfl ?_
      conv => whnf
      refine ⟨rfl, ?_⟩
      refine Run.copyD rfl rfl rfl rfl (by omega) rfl rfl ?_
      conv => whnf
      refine ⟨rfl, ?_⟩
      refine Run.retS ?_
      conv => whnf
      rw [show i - 0 + (n + m - i) = n + m by omega]
      refine FinS.row (j := 2) rfl rfl rfl (by omega) fun k hk => leL_eq ?_
      simp only [fput, insF, fext]
      (repeat' split) <;> first | (exfalso; omega) | (rw [fapp_lt (by omega)]; first | rfl | exact if_pos (by omega)) | exact congrArg g (by omega) | exact congrArg f (by omega)
    · have hge : n + m ≤ C := by rw [hw] at h; simp at h; omega
      have hw2 : IntKind.i64.wrap ((i : Int) + (m : Int)) = ((i + m : Nat) : Int) := by rw [wrap_of (by omega) (by omega)]; omega
      refine Run.doesC rfl rfl (fun _ => Does.slRX (i := 0) (j := n + m) rfl rfl rfl rfl rfl rfl hw (.inr rfl) (Nat.zero_le _) (by omega)) ?_
      conv => whnf
      refine ⟨rfl, ?_⟩
      refine Run.doesC rfl rfl (fun _ => Does.slRX (i := i + m) (j := n + m) rfl rfl rfl rfl rfl hw2 rfl (.inl (by omega)) (by omega) (by omega)) ?_
      conv => whnf
      refine ⟨rfl, ?_⟩
      refine Run.doesC rfl rfl (fun _ => (Does.ovlLR ovl_fld rfl rfl rfl rfl).1) ?_
      conv => whnf
      refine ⟨rfl, ?_⟩
      refine Run.slXD (i := i + m) (j := n + m) rfl rfl rfl rfl rfl rfl hw2 rfl (.inl (by omega)) (by omega) (by omega) rfl ?_
      conv => whnf
      refine ⟨rfl, ?_⟩
      refine Run.slXD (i := i) (j := n + m) rfl rfl rfl rfl rfl rfl rfl rfl (.inl (by omega)) (by omega) (by omega) rfl ?_
      conv => whnf
      refine ⟨rfl, ?_⟩
      refine Run.copyD rfl rfl rfl rfl (by omega) rfl rfl ?_
      conv => whnf
      refine ⟨rfl, ?_⟩
      refine Run.doesC rfl rfl (fun _ => Does.slRX (i := i) (j := n + m) rfl rfl rfl rfl rfl rfl rfl (.inl (by omega)) (by omega) (by omega)) ?_
      conv => whnf
      refine ⟨rfl, ?_⟩
      refine Run.doesT (id := 0) rfl (Does.copy rfl rfl rfl (by omega) rfl) ?_
      conv => whnf
      refine ⟨rfl, ?_⟩
      refine Run.retS ?_
      conv => whnf
      rw [show n + m - 0 = n + m by omega]
      refine FinS.row (j := 0) rfl rfl rfl (by omega) fun k hk => leL_eq ?_
      simp only [fput, insF, fext]
      (repeat' split) <;> first | (exfalso; omega) | rfl | exact congrArg g (by omega) | exact congrArg f (by omega)
  · obtain rfl : i = n := by omega
    refine Run.doesC rfl rfl (fun _ => Does.slRE (i := i) (j := i) rfl rfl rfl rfl rfl rfl rfl rfl (by omega)) ?_
    conv => whnf
    refine ⟨rfl, ?_⟩
    refine Run.condC rfl (fun h => ?_) (fun h => ?_) <;> (conv => whnf) <;> refine ⟨rfl, ?_⟩
    · exfalso; simp at h; omega
    refine Run.condC rfl (fun h => ?_) (fun h => ?_) <;> (conv => whnf) <;> refine ⟨rfl, ?_⟩
    · refine Run.doesT (id := 0) rfl (Does.appR rfl rfl rfl (by simp only [maxLen]; omega) (by omega)) ?_
      conv => whnf
      refine ⟨rfl, ?_⟩
      refine Run.retS ?_
      conv => whnf
      refine FinS.row (j := 0) rfl rfl rfl (Nat.le_refl _) fun k hk => leL_eq ?_
      unfold insF
      by_cases h1 : k < i
      · rw [if_pos h1, fapp_lt h1]
      · rw [if_neg h1, if_pos (by omega), fapp_ge (by omega)]
    · exfalso; simp at h

theorem insert_fld1 {n i m : Nat} {f g : Nat → List AV} (hi : i ≤ n) (hm : 1 ≤ m) (hn : n ≤ 1000000) (hm2 : m ≤ 1000000) :
    AC P slices_Insert_api_Field_api_Field.id [.row 5 0 1 0 n, .int .i64 i, .list 5 m g] [.row 5 n 1 f] (.row 5 0 3 0 (n + m)) [.row 5 (n + m) 3 (insF i m g f)] := by
  refine slices_Insert_api_Field_api_Field.intro rfl (Goes.run ?_)
  conv => whnf
  refine ⟨rfl, ?_⟩
  rcases Nat.lt_or_ge i n with hin | hin
  · refine Run.doesC rfl rfl (fun _ => Does.slRX (i := i) (j := n) rfl rfl rfl rfl rfl rfl rfl (.inl hin) hi (by omega)) ?_
    conv => whnf
    refine ⟨rfl, ?_⟩
    refine Run.condC rfl (fun h => ?_) (fun h => ?_) <;> (conv => whnf) <;> refine ⟨rfl, ?_⟩
    · exfalso; simp at h; omega
    refine Run.condC rfl (fun h => ?_) (fun h => ?_) <;> (conv => whnf) <;> refine ⟨rfl, ?_⟩
    · exfalso; simp at h; omega
    refine Run.capO 0 1 rfl rfl fun C hC hCm => ?_
    conv => whnf
    refine ⟨rfl, ?_⟩
    refine Run.doesC rfl rfl (fun _ => Does.cap (cid := 1) (C := C) rfl rfl rfl rfl) ?_
    conv => whnf
    refine ⟨rfl, ?_⟩
    have hw : IntKind.i64.wrap ((n : Int) + (m : Int)) = ((n + m : Nat) : Int) := by rw [wrap_of (by omega) (by omega)]; omega
    refine Run.condC rfl (fun h => ?_) (fun h => ?_) <;> (conv => whnf) <;> refine ⟨rfl, ?_⟩
    · have hlt : C < n + m := by rw [hw] at h; simp at h; omega
      refine Run.doesC rfl rfl (fun _ => Does.slRX (i := 0) (j := i) rfl rfl rfl rfl rfl rfl rfl (.inr rfl) (Nat.zero_le _) (by omega)) ?_
      conv => whnf
      refine ⟨rfl, ?_⟩
      refine Run.doesT (id := 2) rfl (Does.appzNew (nid := 2) (cid := 1) (C := C) (m := n + m - i) rfl rfl rfl rfl rfl rfl ?_ (by omega) (by omega) (by simp only [maxLen]; omega) (by omega)) ?_
      · rw [hw, wrap_of (by omega) (by omega)]; omega
      conv => whnf
      refine ⟨rfl, ?_⟩
      refine Run.doesC rfl rfl (fun _ => Does.slRX (i := i) (j := n + m) rfl rfl rfl rfl rfl rfl ?_ (.inl (by omega)) (by omega) (by omega)) ?_
      · show ((i - 0 + (n + m - i) : Nat) : Int) = _; omega
      conv => whnf
      refine ⟨rfl, ?_⟩
      refine Run.doesT (id := 2) rfl (Does.copy rfl rfl rfl (by omega) rfl) ?_
      conv => whnf
      refine ⟨rfl, ?_⟩
      have hw2 : IntKind.i64.wrap ((i : Int) + (m : Int)) = ((i + m : Nat) : Int) := by rw [wrap_of (by omega) (by omega)]; omega
      refine Run.slXD (i := i + m) (j := n + m) rfl rfl rfl rfl rfl rfl hw2 ?_ (.inl (by omega)) (by omega) (by omega) rfl ?_
      · show ((i - 0 + (n + m - i) : Nat) : Int) = _; omega
      conv => whnf
      refine ⟨rfl, ?_⟩
      refine Run.slXD (i := i) (j := n) rfl rfl rfl rfl rfl rfl rfl rfl (.inl hin) hi (by omega) rfl ?_
      conv => whnf
      refine ⟨rfl, ?_⟩
      refine Run.copyD rfl rfl rfl rfl (by omega) rfl rfl ?_
      conv => whnf
      refine ⟨rfl, ?_⟩
      refine Run.retS ?_
      conv => whnf
      rw [show i - 0 + (n + m - i) = n + m by omega]
      refine FinS.row (j := 2) rfl rfl rfl (by omega) fun k hk => leL_eq ?_
      simp only [fput, insF, fext]
      (repeat' split) <;> first | (exfalso; omega) | (rw [fapp_lt (by omega)]; first | rfl | exact if_pos (by omega)) | exact congrArg g (by omega) | exact congrArg f (by omega)
    · have hge : n + m ≤ C := by rw [hw] at h; simp at h; omega
      have hw2 : IntKind.i64.wrap ((i : Int) + (m : Int)) = ((i + m : Nat) : Int) := by rw [wrap_of (by omega) (by omega)]; omega
      refine Run.doesC rfl rfl (fun _ => Does.slRX (i := 0) (j := n + m) rfl rfl rfl rfl rfl rfl hw (.inr rfl) (Nat.zero_le _) (by omega)) ?_
      conv => whnf
      refine ⟨rfl, ?_⟩
      refine Run.doesC rfl rfl (fun _ => Does.slRX (i := i + m) (j := n + m) rfl rfl rfl rfl rfl hw2 rfl (.inl (by omega)) (by omega) (by omega)) ?_
      conv => whnf
      refine ⟨rfl, ?_⟩
      refine Run.doesC rfl rfl (fun _ => (Does.ovlLR ovl_fld rfl rfl rfl rfl).1) ?_
      conv => whnf
      refine ⟨rfl, ?_⟩
      refine Run.slXD (i := i + m) (j := n + m) rfl rfl rfl rfl rfl rfl hw2 rfl (.inl (by omega)) (by omega) (by omega) rfl ?_
      conv => whnf
      refine ⟨rfl, ?_⟩
      refine Run.slXD (i := i) (j := n + m) rfl rfl rfl rfl rfl rfl rfl rfl (.inl (by omega)) (by omega) (by omega) rfl ?_
      conv => whnf
      refine ⟨rfl, ?_⟩
      refine Run.copyD rfl rfl rfl rfl (by omega) rfl rfl ?_
      conv => whnf
      refine ⟨rfl, ?_⟩
      refine Run.doesC rfl rfl (fun _ => Does.slRX (i := i) (j := n + m) rfl rfl rfl rfl rfl rfl rfl (.inl (by omega)) (by omega) (by omega)) ?_
      conv => whnf
      refine ⟨rfl, ?_⟩
      refine Run.doesT (id := 0) rfl (Does.copy rfl rfl rfl (by omega) rfl) ?_
      conv => whnf
      refine ⟨rfl, ?_⟩
      refine Run.retS ?_
      conv => whnf
      rw [show n + m - 0 = n + m by omega]
      refine FinS.row (j := 0) rfl rfl rfl (by omega) fun k hk => leL_eq ?_
      simp only [fput, insF, fext]
      (repeat' split) <;> first | (exfalso; omega) | rfl | exact congrArg g (by omega) | exact congrArg f (by omega)
  · obtain rfl : i = n := by omega
    refine Run.doesC rfl rfl (fun _ => Does.slRE (i := i) (j := i) rfl rfl rfl rfl rfl rfl rfl rfl (by omega)) ?_
    conv => whnf
    refine ⟨rfl, ?_⟩
    refine Run.condC rfl (fun h => ?_) (fun h => ?_) <;> (conv => whnf) <;> refine ⟨rfl, ?_⟩
    · exfalso; simp at h; omega
    refine Run.condC rfl (fun h => ?_) (fun h => ?_) <;> (conv => whnf) <;> refine ⟨rfl, ?_⟩
    · refine Run.doesT (id := 0) rfl (Does.appR rfl rfl rfl (by simp only [maxLen]; omega) (by omega)) ?_
      conv => whnf
      refine ⟨rfl, ?_⟩
      refine Run.retS ?_
      conv => whnf
      refine FinS.row (j := 0) rfl rfl rfl (Nat.le_refl _) fun k hk => leL_eq ?_
      unfold insF
      by_cases h1 : k < i
      · rw [if_pos h1, fapp_lt h1]
      · rw [if_neg h1, if_pos (by omega), fapp_ge (by omega)]
    · exfalso; simp at h

end Go.Proofs.Ytbpcjahjbkiofaa.Sp

