/- The row FactorKnown: the law of the examples returns true, for every start. -/
import Derived.Laws.RangeAny
import Derived.Test.YtgncpbkedhchfaaA01
import Derived.Test.YtgncpbkedhchfaaA02
set_option linter.unusedVariables false
set_option linter.unusedSimpArgs false
namespace Go.Proofs.Ytgncpbkedhchfaa
open Go.AM
def bs (l : List UInt8) : ByteArray := ⟨l.toArray⟩
def c7 : AFunc :=
  let k:List Nat:=[0,1,2,3,4,5,6,7,8,9,10,11,12]
  {nt := 91,body := (.seq (.reg [⟨.some 0,.move (.c (.bool false)),.none,0,[]⟩] k) (.seq (.reg [⟨.some 13,.call (.c (.func 32 [] [])) [.c .nilslice],.none,0,[]⟩,⟨.some 1,.alloc [.nilslice,.nilslice],.none,1,[]⟩,⟨.none,.store 2 (.s 1) (.s 13),.none,2,[]⟩] k) (.seq (.reg [⟨.some 15,.loadN 2 (.s 1),.none,0,[]⟩,⟨.some 16,.call (.c (.func 18 [] [])) [.s 15,.c (.int .i64 1)],.none,1,[]⟩,⟨.some 14,.move (.s 16),.none,2,[]⟩,⟨.some 17,.extract 0 (.s 14),.none,3,[]⟩,⟨.some 18,.extract 1 (.s 14),.none,4,[]⟩,⟨.some 2,.alloc [.int .i64 0,.int .i64 0],.none,5,[]⟩,⟨.none,.store 2 (.s 2) (.s 17),.none,6,[]⟩,⟨.some 3,.move (.s 18),.none,7,[]⟩] k) (.seq (.reg [⟨.some 20,.loadN 2 (.s 1),.none,0,[]⟩,⟨.some 21,.call (.c (.func 20 [] [])) [.s 20,.c (.int .i64 0)],.none,1,[]⟩,⟨.some 19,.move (.s 21),.none,2,[]⟩,⟨.some 22,.extract 0 (.s 19),.none,3,[]⟩,⟨.some 23,.extract 1 (.s 19),.none,4,[]⟩,⟨.some 4,.alloc [.int .i64 0,.int .i64 0],.none,5,[]⟩,⟨.none,.store 2 (.s 4) (.s 22),.none,6,[]⟩,⟨.some 5,.move (.s 23),.none,7,[]⟩] k) (.seq (.reg [⟨.some 25,.loadN 2 (.s 1),.none,0,[]⟩,⟨.some 26,.call (.c (.func 23 [] [])) [.s 25,.c (.int .i64 1),.c (.int .i64 0)],.none,1,[]⟩,⟨.some 24,.move (.s 26),.none,2,[]⟩,⟨.some 27,.extract 0 (.s 24),.none,3,[]⟩,⟨.some 28,.extract 1 (.s 24),.none,4,[]⟩,⟨.some 6,.alloc [.int .i64 0,.int .i64 0],.none,5,[]⟩,⟨.none,.store 2 (.s 6) (.s 27),.none,6,[]⟩,⟨.some 7,.move (.s 28),.none,7,[]⟩] k) (.seq (.reg [⟨.some 30,.loadN 2 (.s 1),.none,0,[]⟩,⟨.some 31,.call (.c (.func 25 [] [])) [.s 30,.c (.int .i64 0),.c (.int .i64 1)],.none,1,[]⟩,⟨.some 29,.move (.s 31),.none,2,[]⟩,⟨.some 32,.extract 0 (.s 29),.none,3,[]⟩,⟨.some 33,.extract 1 (.s 29),.none,4,[]⟩,⟨.some 34,.extract 2 (.s 29),.none,5,[]⟩,⟨.some 8,.alloc [.int .i64 0,.int .i64 0],.none,6,[]⟩,⟨.some 9,.alloc [.int .i64 0,.int .i64 0],.none,7,[]⟩,⟨.none,.store 2 (.s 8) (.s 32),.none,8,[]⟩,⟨.none,.store 2 (.s 9) (.s 33),.none,9,[]⟩,⟨.some 10,.move (.s 34),.none,10,[]⟩] k) (.seq (.reg [⟨.some 36,.loadN 2 (.s
    1),.none,0,[]⟩,⟨.some 37,.call (.c (.func 29 [] [])) [.s 36],.none,1,[]⟩,⟨.some 35,.move (.s 37),.none,2,[]⟩,⟨.some 38,.extract 0 (.s 35),.none,3,[]⟩,⟨.some 39,.extract 1 (.s 35),.none,4,[]⟩,⟨.some 11,.move (.s 38),.none,5,[]⟩,⟨.some 12,.move (.s 39),.none,6,[]⟩] k) (.seq (.draw [⟨.some 40,.move (.s 3),.none,0,[]⟩,⟨.some 41,.bin .eql (.s 40) (.c (.int .i64 0)),.none,1,[0]⟩,⟨.some 42,.move (.s 41),.none,2,[0,1]⟩,⟨.some 43,.move (.s 5),.some (42,true),3,[1,0,2]⟩,⟨.some 44,.bin .eql (.s 43) (.c (.int .i64 0)),.some (42,true),4,[2,0,1,3]⟩,⟨.some 45,.pick (.s 42) (.s 44) (.c (.bool false)),.none,5,[3,4,1,0,2]⟩,⟨.some 46,.move (.s 45),.none,6,[2,0,1,4,3,5]⟩,⟨.some 47,.move (.s 7),.some (46,true),7,[5,3,4,1,0,2,6]⟩,⟨.some 48,.bin .eql (.s 47) (.c (.int .i64 0)),.some (46,true),8,[6,2,0,1,4,3,5,7]⟩,⟨.some 49,.pick (.s 46) (.s 48) (.c (.bool false)),.none,9,[7,8,5,3,4,1,0,2,6]⟩,⟨.some 50,.move (.s 49),.none,10,[6,2,0,1,4,3,5,8,7,9]⟩,⟨.some 51,.move (.s 10),.some (50,true),11,[9,7,8,5,3,4,1,0,2,6,10]⟩,⟨.some 52,.bin .eql (.s 51) (.c (.int .i64 0)),.some (50,true),12,[10,6,2,0,1,4,3,5,8,7,9,11]⟩,⟨.some 53,.pick (.s 50) (.s 52) (.c (.bool false)),.none,13,[11,12,9,7,8,5,3,4,1,0,2,6,10]⟩,⟨.some 54,.move (.s 53),.none,14,[10,6,2,0,1,4,3,5,8,7,9,12,11,13]⟩,⟨.some 55,.move (.s 12),.some (54,true),15,[13,11,12,9,7,8,5,3,4,1,0,2,6,10,14]⟩,⟨.some 56,.bin .eql (.s 55) (.c (.int .i64 0)),.some (54,true),16,[14,10,6,2,0,1,4,3,5,8,7,9,12,11,13,15]⟩,⟨.some 57,.pick (.s 54) (.s 56) (.c (.bool false)),.none,17,[15,16,13,11,12,9,7,8,5,3,4,1,0,2,6,10,14]⟩,⟨.some 58,.move (.s 57),.none,18,[14,10,6,2,0,1,4,3,5,8,7,9,12,11,13,16,15,17]⟩,⟨.some 59,.loadN 2 (.s 2),.some (58,true),19,[17,15,16,13,11,12,9,7,8,5,3,4,1,0,2,6,10,14,18]⟩,⟨.some 60,.call (.c (.func 33 [] [])) [.c (.int .i64 112),.c (.int .i64 115)],.some (58,true),20,[17,15,16,13,11,12,9,7,8,5,3,4,1,0,2,6,10,14,18]⟩,⟨.some 61,.eqFlat true [.i,.i] false (.s 59) (.s 60),.some
    (58,true),21,[20,18,14,10,6,2,0,1,4,3,5,8,7,9,12,11,13,16,15,17,19]⟩,⟨.some 62,.pick (.s 58) (.s 61) (.c (.bool false)),.none,22,[19,20,21,17,15,16,13,11,12,9,7,8,5,3,4,1,0,2,6,10,14,18]⟩,⟨.some 63,.move (.s 62),.none,23,[18,14,10,6,2,0,1,4,3,5,8,7,9,12,11,13,16,15,17,21,20,19,22]⟩,⟨.some 64,.loadN 2 (.s 4),.some (63,true),24,[22,19,20,21,17,15,16,13,11,12,9,7,8,5,3,4,1,0,2,6,10,14,18,23]⟩,⟨.some 65,.call (.c (.func 33 [] [])) [.c (.int .i64 6000),.c (.int .i64 6000)],.some (63,true),25,[22,19,20,21,17,15,16,13,11,12,9,7,8,5,3,4,1,0,2,6,10,14,18,23]⟩,⟨.some 66,.eqFlat true [.i,.i] false (.s 64) (.s 65),.some (63,true),26,[25,23,18,14,10,6,2,0,1,4,3,5,8,7,9,12,11,13,16,15,17,21,20,19,22,24]⟩,⟨.some 67,.pick (.s 63) (.s 66) (.c (.bool false)),.none,27,[24,25,26,22,19,20,21,17,15,16,13,11,12,9,7,8,5,3,4,1,0,2,6,10,14,18,23]⟩,⟨.some 68,.move (.s 67),.none,28,[23,18,14,10,6,2,0,1,4,3,5,8,7,9,12,11,13,16,15,17,21,20,19,22,26,25,24,27]⟩,⟨.some 69,.loadN 2 (.s 6),.some (68,true),29,[27,24,25,26,22,19,20,21,17,15,16,13,11,12,9,7,8,5,3,4,1,0,2,6,10,14,18,23,28]⟩,⟨.some 70,.call (.c (.func 33 [] [])) [.c (.int .i64 100),.c (.int .i64 104)],.some (68,true),30,[27,24,25,26,22,19,20,21,17,15,16,13,11,12,9,7,8,5,3,4,1,0,2,6,10,14,18,23,28]⟩,⟨.some 71,.eqFlat true [.i,.i] false (.s 69) (.s 70),.some (68,true),31,[30,28,23,18,14,10,6,2,0,1,4,3,5,8,7,9,12,11,13,16,15,17,21,20,19,22,26,25,24,27,29]⟩,⟨.some 72,.pick (.s 68) (.s 71) (.c (.bool false)),.none,32,[29,30,31,27,24,25,26,22,19,20,21,17,15,16,13,11,12,9,7,8,5,3,4,1,0,2,6,10,14,18,23,28]⟩,⟨.some 73,.move (.s 72),.none,33,[28,23,18,14,10,6,2,0,1,4,3,5,8,7,9,12,11,13,16,15,17,21,20,19,22,26,25,24,27,31,30,29,32]⟩,⟨.some 74,.loadN 2 (.s 8),.some (73,true),34,[32,29,30,31,27,24,25,26,22,19,20,21,17,15,16,13,11,12,9,7,8,5,3,4,1,0,2,6,10,14,18,23,28,33]⟩,⟨.some 75,.call (.c (.func 34 [] [])) [.c (.int .i64 20),.c (.int .i64 23)],.some
    (73,true),35,[32,29,30,31,27,24,25,26,22,19,20,21,17,15,16,13,11,12,9,7,8,5,3,4,1,0,2,6,10,14,18,23,28,33]⟩,⟨.some 76,.eqFlat true [.i,.i] false (.s 74) (.s 75),.some (73,true),36,[35,33,28,23,18,14,10,6,2,0,1,4,3,5,8,7,9,12,11,13,16,15,17,21,20,19,22,26,25,24,27,31,30,29,32,34]⟩,⟨.some 77,.pick (.s 73) (.s 76) (.c (.bool false)),.none,37,[34,35,36,32,29,30,31,27,24,25,26,22,19,20,21,17,15,16,13,11,12,9,7,8,5,3,4,1,0,2,6,10,14,18,23,28,33]⟩,⟨.some 78,.move (.s 77),.none,38,[33,28,23,18,14,10,6,2,0,1,4,3,5,8,7,9,12,11,13,16,15,17,21,20,19,22,26,25,24,27,31,30,29,32,36,35,34,37]⟩,⟨.some 79,.loadN 2 (.s 9),.some (78,true),39,[37,34,35,36,32,29,30,31,27,24,25,26,22,19,20,21,17,15,16,13,11,12,9,7,8,5,3,4,1,0,2,6,10,14,18,23,28,33,38]⟩,⟨.some 80,.call (.c (.func 34 [] [])) [.c (.int .i64 25),.c (.int .i64 28)],.some (78,true),40,[37,34,35,36,32,29,30,31,27,24,25,26,22,19,20,21,17,15,16,13,11,12,9,7,8,5,3,4,1,0,2,6,10,14,18,23,28,33,38]⟩,⟨.some 81,.eqFlat true [.i,.i] false (.s 79) (.s 80),.some (78,true),41,[40,38,33,28,23,18,14,10,6,2,0,1,4,3,5,8,7,9,12,11,13,16,15,17,21,20,19,22,26,25,24,27,31,30,29,32,36,35,34,37,39]⟩,⟨.some 82,.pick (.s 78) (.s 81) (.c (.bool false)),.none,42,[39,40,41,37,34,35,36,32,29,30,31,27,24,25,26,22,19,20,21,17,15,16,13,11,12,9,7,8,5,3,4,1,0,2,6,10,14,18,23,28,33,38]⟩,⟨.some 83,.move (.s 82),.none,43,[38,33,28,23,18,14,10,6,2,0,1,4,3,5,8,7,9,12,11,13,16,15,17,21,20,19,22,26,25,24,27,31,30,29,32,36,35,34,37,41,40,39,42]⟩,⟨.some 84,.move (.s 11),.some (83,true),44,[42,39,40,41,37,34,35,36,32,29,30,31,27,24,25,26,22,19,20,21,17,15,16,13,11,12,9,7,8,5,3,4,1,0,2,6,10,14,18,23,28,33,38,43]⟩,⟨.some 85,.len false (.s 84),.some (83,true),45,[43,38,33,28,23,18,14,10,6,2,0,1,4,3,5,8,7,9,12,11,13,16,15,17,21,20,19,22,26,25,24,27,31,30,29,32,36,35,34,37,41,40,39,42,44]⟩,⟨.some 86,.bin .eql (.s 85) (.c (.int .i64 0)),.some
    (83,true),46,[44,42,39,40,41,37,34,35,36,32,29,30,31,27,24,25,26,22,19,20,21,17,15,16,13,11,12,9,7,8,5,3,4,1,0,2,6,10,14,18,23,28,33,38,43,45]⟩,⟨.some 87,.pick (.s 83) (.s 86) (.c (.bool false)),.none,47,[45,44,46,42,39,40,41,37,34,35,36,32,29,30,31,27,24,25,26,22,19,20,21,17,15,16,13,11,12,9,7,8,5,3,4,1,0,2,6,10,14,18,23,28,33,38,43]⟩,⟨.some 88,.move (.s 87),.none,48,[43,38,33,28,23,18,14,10,6,2,0,1,4,3,5,8,7,9,12,11,13,16,15,17,21,20,19,22,26,25,24,27,31,30,29,32,36,35,34,37,41,40,39,42,46,44,45,47]⟩,⟨.some 89,.call (.c (.func 22 [] [])) [],.some (88,true),49,[47,45,44,46,42,39,40,41,37,34,35,36,32,29,30,31,27,24,25,26,22,19,20,21,17,15,16,13,11,12,9,7,8,5,3,4,1,0,2,6,10,14,18,23,28,33,38,43,48]⟩,⟨.some 90,.pick (.s 88) (.s 89) (.c (.bool false)),.none,50,[49,47,45,44,46,42,39,40,41,37,34,35,36,32,29,30,31,27,24,25,26,22,19,20,21,17,15,16,13,11,12,9,7,8,5,3,4,1,0,2,6,10,14,18,23,28,33,38,43,48]⟩,⟨.some 0,.move (.s 90),.none,51,[48,43,38,33,28,23,18,14,10,6,2,0,1,4,3,5,8,7,9,12,11,13,16,15,17,21,20,19,22,26,25,24,27,31,30,29,32,36,35,34,37,41,40,39,42,46,44,45,47,49,50]⟩] k) .ret)))))))),res := [.slot 0]}
def c16 : AFunc :=
  let k:List Nat:=[0,1,2,3,4,13,24]
  {nt := 27,body := (.seq (.reg [⟨.some 1,.box (.s 0),.none,0,[]⟩,⟨.some 2,.move (.c (.int .i64 0)),.none,1,[]⟩,⟨.some 3,.move (.c (.int .i64 0)),.none,2,[]⟩,⟨.some 4,.move (.c (.int .i64 0)),.none,3,[]⟩] k) (.seq (.reg [⟨.some 6,.off 0 (.s 1),.none,0,[]⟩,⟨.some 7,.load (.s 6),.none,1,[]⟩,⟨.some 8,.func 56 [] [.s 1],.none,2,[]⟩,⟨.some 9,.call (.c (.func 55 [] [])) [.s 7,.c (.int .i64 3),.s 8],.none,3,[]⟩,⟨.some 5,.move (.s 9),.none,4,[]⟩,⟨.some 10,.extract 0 (.s 5),.none,5,[]⟩,⟨.some 11,.extract 1 (.s 5),.none,6,[]⟩,⟨.some 3,.move (.s 10),.none,7,[]⟩,⟨.some 4,.move (.s 11),.none,8,[]⟩] k) (.seq (.seq (.reg [⟨.some 12,.move (.s 4),.none,0,[]⟩,⟨.some 13,.bin .neq (.s 12) (.c (.int .i64 0)),.none,1,[]⟩] k) (.cond (.s 13) (.seq (.reg [⟨.some 14,.move (.s 3),.none,0,[]⟩,⟨.some 15,.move (.s 4),.none,1,[]⟩,⟨.some 2,.move (.c (.int .i64 1)),.none,2,[]⟩,⟨.some 3,.move (.s 14),.none,3,[]⟩,⟨.some 4,.move (.s 15),.none,4,[]⟩] k) .ret) .skip)) (.seq (.reg [⟨.some 17,.off 1 (.s 1),.none,0,[]⟩,⟨.some 18,.load (.s 17),.none,1,[]⟩,⟨.some 19,.func 59 [] [.s 1],.none,2,[]⟩,⟨.some 20,.call (.c (.func 58 [] [])) [.s 18,.c (.int .i64 4),.s 19],.none,3,[]⟩,⟨.some 16,.move (.s 20),.none,4,[]⟩,⟨.some 21,.extract 0 (.s 16),.none,5,[]⟩,⟨.some 22,.extract 1 (.s 16),.none,6,[]⟩,⟨.some 3,.move (.s 21),.none,7,[]⟩,⟨.some 4,.move (.s 22),.none,8,[]⟩] k) (.seq (.seq (.reg [⟨.some 23,.move (.s 4),.none,0,[]⟩,⟨.some 24,.bin .neq (.s 23) (.c (.int .i64 0)),.none,1,[]⟩] k) (.cond (.s 24) (.seq (.reg [⟨.some 25,.move (.s 3),.none,0,[]⟩,⟨.some 26,.move (.s 4),.none,1,[]⟩,⟨.some 2,.move (.c (.int .i64 2)),.none,2,[]⟩,⟨.some 3,.move (.s 25),.none,3,[]⟩,⟨.some 4,.move (.s 26),.none,4,[]⟩] k) .ret) .skip)) (.seq (.reg [⟨.some 2,.move (.c (.int .i64 0)),.none,0,[]⟩,⟨.some 3,.move (.c (.int .i64 0)),.none,1,[]⟩,⟨.some 4,.move (.c (.int .i64 0)),.none,2,[]⟩] k) .ret)))))),res := [.slot 2,.slot 3,.slot 4]}
def c18 : AFunc :=
  let k:List Nat:=[0,1,2,3,4,5,6,7,19]
  {nt := 24,body := (.seq (.reg [⟨.some 2,.box (.s 0),.none,0,[]⟩,⟨.some 3,.box (.s 1),.none,1,[]⟩,⟨.some 4,.alloc [.int .i64 0,.int .i64 0],.none,2,[]⟩,⟨.some 5,.move (.c (.int .i64 0)),.none,3,[]⟩] k) (.seq (.reg [⟨.some 9,.loadN 2 (.s 2),.none,0,[]⟩,⟨.some 10,.load (.s 3),.none,1,[]⟩,⟨.some 11,.off 0 (.s 2),.none,2,[]⟩,⟨.some 12,.load (.s 11),.none,3,[]⟩,⟨.some 13,.len false (.s 12),.none,4,[]⟩,⟨.some 14,.mkslice 2 1 [.int .i64 0,.int .i64 0] [(0,(1,(.s 10))),(1,(1,(.s 13)))],.none,5,[]⟩,⟨.some 15,.call (.c (.func 63 [] [])) [.s 9,.c (.func 64 [] []),.s 14],.none,6,[]⟩,⟨.some 8,.move (.s 15),.none,7,[]⟩,⟨.some 16,.extract 0 (.s 8),.none,8,[]⟩,⟨.some 17,.extract 1 (.s 8),.none,9,[]⟩,⟨.some 6,.alloc [.nilptr],.none,10,[]⟩,⟨.none,.store 1 (.s 6) (.s 16),.none,11,[]⟩,⟨.some 7,.move (.s 17),.none,12,[]⟩] k) (.seq (.seq (.reg [⟨.some 18,.move (.s 7),.none,0,[]⟩,⟨.some 19,.bin .neq (.s 18) (.c (.int .i64 0)),.none,1,[]⟩] k) (.cond (.s 19) (.seq (.reg [⟨.some 20,.build [.int .i64 0,.int .i64 0] [],.none,0,[]⟩,⟨.some 21,.move (.s 7),.none,1,[]⟩,⟨.none,.store 2 (.s 4) (.s 20),.none,2,[]⟩,⟨.some 5,.move (.s 21),.none,3,[]⟩] k) .ret) .skip)) (.seq (.reg [⟨.some 22,.func 66 [] [.s 6,.s 3],.none,0,[]⟩,⟨.some 23,.call (.c (.func 65 [] [])) [.s 22],.none,1,[]⟩,⟨.none,.store 2 (.s 4) (.s 23),.none,2,[]⟩,⟨.some 5,.move (.c (.int .i64 0)),.none,3,[]⟩] k) .ret)))),res := [.cellN 2 4,.slot 5]}
def c20 : AFunc :=
  let k:List Nat:=[0,1,2,3,4,5,6,7,19]
  {nt := 24,body := (.seq (.reg [⟨.some 2,.box (.s 0),.none,0,[]⟩,⟨.some 3,.box (.s 1),.none,1,[]⟩,⟨.some 4,.alloc [.int .i64 0,.int .i64 0],.none,2,[]⟩,⟨.some 5,.move (.c (.int .i64 0)),.none,3,[]⟩] k) (.seq (.reg [⟨.some 9,.loadN 2 (.s 2),.none,0,[]⟩,⟨.some 10,.load (.s 3),.none,1,[]⟩,⟨.some 11,.off 1 (.s 2),.none,2,[]⟩,⟨.some 12,.load (.s 11),.none,3,[]⟩,⟨.some 13,.len false (.s 12),.none,4,[]⟩,⟨.some 14,.mkslice 2 1 [.int .i64 0,.int .i64 0] [(0,(1,(.s 10))),(1,(1,(.s 13)))],.none,5,[]⟩,⟨.some 15,.call (.c (.func 63 [] [])) [.s 9,.c (.func 64 [] []),.s 14],.none,6,[]⟩,⟨.some 8,.move (.s 15),.none,7,[]⟩,⟨.some 16,.extract 0 (.s 8),.none,8,[]⟩,⟨.some 17,.extract 1 (.s 8),.none,9,[]⟩,⟨.some 6,.alloc [.nilptr],.none,10,[]⟩,⟨.none,.store 1 (.s 6) (.s 16),.none,11,[]⟩,⟨.some 7,.move (.s 17),.none,12,[]⟩] k) (.seq (.seq (.reg [⟨.some 18,.move (.s 7),.none,0,[]⟩,⟨.some 19,.bin .neq (.s 18) (.c (.int .i64 0)),.none,1,[]⟩] k) (.cond (.s 19) (.seq (.reg [⟨.some 20,.build [.int .i64 0,.int .i64 0] [],.none,0,[]⟩,⟨.some 21,.move (.s 7),.none,1,[]⟩,⟨.none,.store 2 (.s 4) (.s 20),.none,2,[]⟩,⟨.some 5,.move (.s 21),.none,3,[]⟩] k) .ret) .skip)) (.seq (.reg [⟨.some 22,.func 71 [] [.s 6,.s 3],.none,0,[]⟩,⟨.some 23,.call (.c (.func 65 [] [])) [.s 22],.none,1,[]⟩,⟨.none,.store 2 (.s 4) (.s 23),.none,2,[]⟩,⟨.some 5,.move (.c (.int .i64 0)),.none,3,[]⟩] k) .ret)))),res := [.cellN 2 4,.slot 5]}
def c22 : AFunc :=
  let k:List Nat:=[0,1,2,3,4,5,6,7,8,9,10,11,12,13,14,15,16,18,20]
  {nt := 135,body := (.seq (.reg [⟨.some 0,.move (.c (.bool false)),.none,0,[]⟩] k) (.seq (.reg [⟨.some 21,.call (.c (.func 32 [] [])) [.c .nilslice],.none,0,[]⟩,⟨.some 22,.mkslice 3 1 [.int .i64 0,.int .i64 0,.int .i64 0] [(0,(1,(.c (.int .i64 50)))),(1,(1,(.c (.int .i64 (-1))))),(2,(1,(.c (.int .i64 60))))],.none,1,[]⟩,⟨.some 23,.mkslice 1 1 [.nilslice] [(0,(1,(.s 22)))],.none,2,[]⟩,⟨.some 24,.call (.c (.func 32 [] [])) [.s 23],.none,3,[]⟩,⟨.some 1,.alloc [.nilslice,.nilslice],.none,4,[]⟩,⟨.some 2,.alloc [.nilslice,.nilslice],.none,5,[]⟩,⟨.none,.store 2 (.s 1) (.s 21),.none,6,[]⟩,⟨.none,.store 2 (.s 2) (.s 24),.none,7,[]⟩] k) (.seq (.reg [⟨.some 26,.loadN 2 (.s 1),.none,0,[]⟩,⟨.some 27,.call (.c (.func 18 [] [])) [.s 26,.c (.int .i64 2)],.none,1,[]⟩,⟨.some 25,.move (.s 27),.none,2,[]⟩,⟨.some 28,.extract 0 (.s 25),.none,3,[]⟩,⟨.some 29,.extract 1 (.s 25),.none,4,[]⟩,⟨.some 3,.alloc [.int .i64 0,.int .i64 0],.none,5,[]⟩,⟨.none,.store 2 (.s 3) (.s 28),.none,6,[]⟩,⟨.some 4,.move (.s 29),.none,7,[]⟩] k) (.seq (.reg [⟨.some 31,.loadN 2 (.s 1),.none,0,[]⟩,⟨.some 32,.call (.c (.func 20 [] [])) [.s 31,.c (.int .i64 1)],.none,1,[]⟩,⟨.some 30,.move (.s 32),.none,2,[]⟩,⟨.some 33,.extract 0 (.s 30),.none,3,[]⟩,⟨.some 34,.extract 1 (.s 30),.none,4,[]⟩,⟨.some 5,.alloc [.int .i64 0,.int .i64 0],.none,5,[]⟩,⟨.none,.store 2 (.s 5) (.s 33),.none,6,[]⟩,⟨.some 6,.move (.s 34),.none,7,[]⟩] k) (.seq (.reg [⟨.some 36,.loadN 2 (.s 1),.none,0,[]⟩,⟨.some 37,.call (.c (.func 23 [] [])) [.s 36,.c (.int .i64 0),.c (.int .i64 2)],.none,1,[]⟩,⟨.some 35,.move (.s 37),.none,2,[]⟩,⟨.some 38,.extract 0 (.s 35),.none,3,[]⟩,⟨.some 39,.extract 1 (.s 35),.none,4,[]⟩,⟨.some 7,.alloc [.int .i64 0,.int .i64 0],.none,5,[]⟩,⟨.none,.store 2 (.s 7) (.s 38),.none,6,[]⟩,⟨.some 8,.move (.s 39),.none,7,[]⟩] k) (.seq (.reg [⟨.some 41,.loadN 2 (.s 1),.none,0,[]⟩,⟨.some 42,.call (.c (.func 25 [] [])) [.s 41,.c (.int .i64 1),.c (.int .i64 2)],.none,1,[]⟩,⟨.some 40,.move (.s 42),.none,2,[]⟩,⟨.some 43,.extract 0 (.s
    40),.none,3,[]⟩,⟨.some 44,.extract 1 (.s 40),.none,4,[]⟩,⟨.some 45,.extract 2 (.s 40),.none,5,[]⟩,⟨.some 9,.alloc [.int .i64 0,.int .i64 0],.none,6,[]⟩,⟨.some 10,.alloc [.int .i64 0,.int .i64 0],.none,7,[]⟩,⟨.none,.store 2 (.s 9) (.s 43),.none,8,[]⟩,⟨.none,.store 2 (.s 10) (.s 44),.none,9,[]⟩,⟨.some 11,.move (.s 45),.none,10,[]⟩] k) (.seq (.reg [⟨.some 47,.loadN 2 (.s 1),.none,0,[]⟩,⟨.some 48,.call (.c (.func 27 [] [])) [.s 47],.none,1,[]⟩,⟨.some 46,.move (.s 48),.none,2,[]⟩,⟨.some 49,.extract 0 (.s 46),.none,3,[]⟩,⟨.some 50,.extract 1 (.s 46),.none,4,[]⟩,⟨.some 51,.extract 2 (.s 46),.none,5,[]⟩,⟨.some 12,.move (.s 49),.none,6,[]⟩,⟨.some 13,.move (.s 50),.none,7,[]⟩,⟨.some 14,.move (.s 51),.none,8,[]⟩] k) (.seq (.reg [⟨.some 53,.loadN 2 (.s 2),.none,0,[]⟩,⟨.some 54,.call (.c (.func 29 [] [])) [.s 53],.none,1,[]⟩,⟨.some 52,.move (.s 54),.none,2,[]⟩,⟨.some 55,.extract 0 (.s 52),.none,3,[]⟩,⟨.some 56,.extract 1 (.s 52),.none,4,[]⟩,⟨.some 15,.move (.s 55),.none,5,[]⟩,⟨.some 16,.move (.s 56),.none,6,[]⟩] k) (.seq (.reg [⟨.some 58,.loadN 2 (.s 2),.none,0,[]⟩,⟨.some 59,.call (.c (.func 18 [] [])) [.s 58,.c (.int .i64 0)],.none,1,[]⟩,⟨.some 57,.move (.s 59),.none,2,[]⟩,⟨.some 60,.extract 0 (.s 57),.none,3,[]⟩,⟨.some 61,.extract 1 (.s 57),.none,4,[]⟩,⟨.some 17,.alloc [.int .i64 0,.int .i64 0],.none,5,[]⟩,⟨.none,.store 2 (.s 17) (.s 60),.none,6,[]⟩,⟨.some 18,.move (.s 61),.none,7,[]⟩] k) (.seq (.reg [⟨.some 63,.loadN 2 (.s 1),.none,0,[]⟩,⟨.some 64,.call (.c (.func 23 [] [])) [.s 63,.c (.int .i64 0),.c (.int .i64 0)],.none,1,[]⟩,⟨.some 62,.move (.s 64),.none,2,[]⟩,⟨.some 65,.extract 0 (.s 62),.none,3,[]⟩,⟨.some 66,.extract 1 (.s 62),.none,4,[]⟩,⟨.some 19,.alloc [.int .i64 0,.int .i64 0],.none,5,[]⟩,⟨.none,.store 2 (.s 19) (.s 65),.none,6,[]⟩,⟨.some 20,.move (.s 66),.none,7,[]⟩] k) (.seq (.draw [⟨.some 67,.move (.s 4),.none,0,[]⟩,⟨.some 68,.bin .eql (.s 67) (.c (.int .i64 0)),.none,1,[0]⟩,⟨.some 69,.move (.s 68),.none,2,[0,1]⟩,⟨.some 70,.move (.s 6),.some
    (69,true),3,[1,0,2]⟩,⟨.some 71,.bin .eql (.s 70) (.c (.int .i64 0)),.some (69,true),4,[2,0,1,3]⟩,⟨.some 72,.pick (.s 69) (.s 71) (.c (.bool false)),.none,5,[3,4,1,0,2]⟩,⟨.some 73,.move (.s 72),.none,6,[2,0,1,4,3,5]⟩,⟨.some 74,.move (.s 8),.some (73,true),7,[5,3,4,1,0,2,6]⟩,⟨.some 75,.bin .eql (.s 74) (.c (.int .i64 0)),.some (73,true),8,[6,2,0,1,4,3,5,7]⟩,⟨.some 76,.pick (.s 73) (.s 75) (.c (.bool false)),.none,9,[7,8,5,3,4,1,0,2,6]⟩,⟨.some 77,.move (.s 76),.none,10,[6,2,0,1,4,3,5,8,7,9]⟩,⟨.some 78,.move (.s 11),.some (77,true),11,[9,7,8,5,3,4,1,0,2,6,10]⟩,⟨.some 79,.bin .eql (.s 78) (.c (.int .i64 0)),.some (77,true),12,[10,6,2,0,1,4,3,5,8,7,9,11]⟩,⟨.some 80,.pick (.s 77) (.s 79) (.c (.bool false)),.none,13,[11,12,9,7,8,5,3,4,1,0,2,6,10]⟩,⟨.some 81,.move (.s 80),.none,14,[10,6,2,0,1,4,3,5,8,7,9,12,11,13]⟩,⟨.some 82,.move (.s 14),.some (81,true),15,[13,11,12,9,7,8,5,3,4,1,0,2,6,10,14]⟩,⟨.some 83,.bin .eql (.s 82) (.c (.int .i64 0)),.some (81,true),16,[14,10,6,2,0,1,4,3,5,8,7,9,12,11,13,15]⟩,⟨.some 84,.pick (.s 81) (.s 83) (.c (.bool false)),.none,17,[15,16,13,11,12,9,7,8,5,3,4,1,0,2,6,10,14]⟩,⟨.some 85,.move (.s 84),.none,18,[14,10,6,2,0,1,4,3,5,8,7,9,12,11,13,16,15,17]⟩,⟨.some 86,.move (.s 16),.some (85,true),19,[17,15,16,13,11,12,9,7,8,5,3,4,1,0,2,6,10,14,18]⟩,⟨.some 87,.bin .eql (.s 86) (.c (.int .i64 0)),.some (85,true),20,[18,14,10,6,2,0,1,4,3,5,8,7,9,12,11,13,16,15,17,19]⟩,⟨.some 88,.pick (.s 85) (.s 87) (.c (.bool false)),.none,21,[19,20,17,15,16,13,11,12,9,7,8,5,3,4,1,0,2,6,10,14,18]⟩,⟨.some 89,.move (.s 88),.none,22,[18,14,10,6,2,0,1,4,3,5,8,7,9,12,11,13,16,15,17,20,19,21]⟩,⟨.some 90,.move (.s 18),.some (89,true),23,[21,19,20,17,15,16,13,11,12,9,7,8,5,3,4,1,0,2,6,10,14,18,22]⟩,⟨.some 91,.bin .eql (.s 90) (.c (.int .i64 8)),.some (89,true),24,[22,18,14,10,6,2,0,1,4,3,5,8,7,9,12,11,13,16,15,17,20,19,21,23]⟩,⟨.some 92,.pick (.s 89) (.s 91) (.c (.bool false)),.none,25,[23,24,21,19,20,17,15,16,13,11,12,9,7,8,5,3,4,1,0,2,6,10,14,18,22]⟩,⟨.some 93,.move (.s
    92),.none,26,[22,18,14,10,6,2,0,1,4,3,5,8,7,9,12,11,13,16,15,17,20,19,21,24,23,25]⟩,⟨.some 94,.move (.s 20),.some (93,true),27,[25,23,24,21,19,20,17,15,16,13,11,12,9,7,8,5,3,4,1,0,2,6,10,14,18,22,26]⟩,⟨.some 95,.bin .eql (.s 94) (.c (.int .i64 5)),.some (93,true),28,[26,22,18,14,10,6,2,0,1,4,3,5,8,7,9,12,11,13,16,15,17,20,19,21,24,23,25,27]⟩,⟨.some 96,.pick (.s 93) (.s 95) (.c (.bool false)),.none,29,[27,28,25,23,24,21,19,20,17,15,16,13,11,12,9,7,8,5,3,4,1,0,2,6,10,14,18,22,26]⟩,⟨.some 97,.move (.s 96),.none,30,[26,22,18,14,10,6,2,0,1,4,3,5,8,7,9,12,11,13,16,15,17,20,19,21,24,23,25,28,27,29]⟩,⟨.some 98,.loadN 2 (.s 3),.some (97,true),31,[29,27,28,25,23,24,21,19,20,17,15,16,13,11,12,9,7,8,5,3,4,1,0,2,6,10,14,18,22,26,30]⟩,⟨.some 99,.call (.c (.func 33 [] [])) [.c (.int .i64 95),.c (.int .i64 100)],.some (97,true),32,[29,27,28,25,23,24,21,19,20,17,15,16,13,11,12,9,7,8,5,3,4,1,0,2,6,10,14,18,22,26,30]⟩,⟨.some 100,.eqFlat true [.i,.i] false (.s 98) (.s 99),.some (97,true),33,[32,30,26,22,18,14,10,6,2,0,1,4,3,5,8,7,9,12,11,13,16,15,17,20,19,21,24,23,25,28,27,29,31]⟩,⟨.some 101,.pick (.s 97) (.s 100) (.c (.bool false)),.none,34,[31,32,33,29,27,28,25,23,24,21,19,20,17,15,16,13,11,12,9,7,8,5,3,4,1,0,2,6,10,14,18,22,26,30]⟩,⟨.some 102,.move (.s 101),.none,35,[30,26,22,18,14,10,6,2,0,1,4,3,5,8,7,9,12,11,13,16,15,17,20,19,21,24,23,25,28,27,29,33,32,31,34]⟩,⟨.some 103,.loadN 2 (.s 5),.some (102,true),36,[34,31,32,33,29,27,28,25,23,24,21,19,20,17,15,16,13,11,12,9,7,8,5,3,4,1,0,2,6,10,14,18,22,26,30,35]⟩,⟨.some 104,.call (.c (.func 33 [] [])) [.c (.int .i64 9968),.c (.int .i64 10465)],.some (102,true),37,[34,31,32,33,29,27,28,25,23,24,21,19,20,17,15,16,13,11,12,9,7,8,5,3,4,1,0,2,6,10,14,18,22,26,30,35]⟩,⟨.some 105,.eqFlat true [.i,.i] false (.s 103) (.s 104),.some (102,true),38,[37,35,30,26,22,18,14,10,6,2,0,1,4,3,5,8,7,9,12,11,13,16,15,17,20,19,21,24,23,25,28,27,29,33,32,31,34,36]⟩,⟨.some 106,.pick (.s 102) (.s 105) (.c (.bool
    false)),.none,39,[36,37,38,34,31,32,33,29,27,28,25,23,24,21,19,20,17,15,16,13,11,12,9,7,8,5,3,4,1,0,2,6,10,14,18,22,26,30,35]⟩,⟨.some 107,.move (.s 106),.none,40,[35,30,26,22,18,14,10,6,2,0,1,4,3,5,8,7,9,12,11,13,16,15,17,20,19,21,24,23,25,28,27,29,33,32,31,34,38,37,36,39]⟩,⟨.some 108,.loadN 2 (.s 7),.some (107,true),41,[39,36,37,38,34,31,32,33,29,27,28,25,23,24,21,19,20,17,15,16,13,11,12,9,7,8,5,3,4,1,0,2,6,10,14,18,22,26,30,35,40]⟩,⟨.some 109,.call (.c (.func 33 [] [])) [.c (.int .i64 59),.c (.int .i64 64)],.some (107,true),42,[39,36,37,38,34,31,32,33,29,27,28,25,23,24,21,19,20,17,15,16,13,11,12,9,7,8,5,3,4,1,0,2,6,10,14,18,22,26,30,35,40]⟩,⟨.some 110,.eqFlat true [.i,.i] false (.s 108) (.s 109),.some (107,true),43,[42,40,35,30,26,22,18,14,10,6,2,0,1,4,3,5,8,7,9,12,11,13,16,15,17,20,19,21,24,23,25,28,27,29,33,32,31,34,38,37,36,39,41]⟩,⟨.some 111,.pick (.s 107) (.s 110) (.c (.bool false)),.none,44,[41,42,43,39,36,37,38,34,31,32,33,29,27,28,25,23,24,21,19,20,17,15,16,13,11,12,9,7,8,5,3,4,1,0,2,6,10,14,18,22,26,30,35,40]⟩,⟨.some 112,.move (.s 111),.none,45,[40,35,30,26,22,18,14,10,6,2,0,1,4,3,5,8,7,9,12,11,13,16,15,17,20,19,21,24,23,25,28,27,29,33,32,31,34,38,37,36,39,43,42,41,44]⟩,⟨.some 113,.loadN 2 (.s 9),.some (112,true),46,[44,41,42,43,39,36,37,38,34,31,32,33,29,27,28,25,23,24,21,19,20,17,15,16,13,11,12,9,7,8,5,3,4,1,0,2,6,10,14,18,22,26,30,35,40,45]⟩,⟨.some 114,.call (.c (.func 34 [] [])) [.c (.int .i64 57),.c (.int .i64 50)],.some (112,true),47,[44,41,42,43,39,36,37,38,34,31,32,33,29,27,28,25,23,24,21,19,20,17,15,16,13,11,12,9,7,8,5,3,4,1,0,2,6,10,14,18,22,26,30,35,40,45]⟩,⟨.some 115,.eqFlat true [.i,.i] false (.s 113) (.s 114),.some (112,true),48,[47,45,40,35,30,26,22,18,14,10,6,2,0,1,4,3,5,8,7,9,12,11,13,16,15,17,20,19,21,24,23,25,28,27,29,33,32,31,34,38,37,36,39,43,42,41,44,46]⟩,⟨.some 116,.pick (.s 112) (.s 115) (.c (.bool
    false)),.none,49,[46,47,48,44,41,42,43,39,36,37,38,34,31,32,33,29,27,28,25,23,24,21,19,20,17,15,16,13,11,12,9,7,8,5,3,4,1,0,2,6,10,14,18,22,26,30,35,40,45]⟩,⟨.some 117,.move (.s 116),.none,50,[45,40,35,30,26,22,18,14,10,6,2,0,1,4,3,5,8,7,9,12,11,13,16,15,17,20,19,21,24,23,25,28,27,29,33,32,31,34,38,37,36,39,43,42,41,44,48,47,46,49]⟩,⟨.some 118,.loadN 2 (.s 10),.some (117,true),51,[49,46,47,48,44,41,42,43,39,36,37,38,34,31,32,33,29,27,28,25,23,24,21,19,20,17,15,16,13,11,12,9,7,8,5,3,4,1,0,2,6,10,14,18,22,26,30,35,40,45,50]⟩,⟨.some 119,.call (.c (.func 34 [] [])) [.c (.int .i64 112),.c (.int .i64 95)],.some (117,true),52,[49,46,47,48,44,41,42,43,39,36,37,38,34,31,32,33,29,27,28,25,23,24,21,19,20,17,15,16,13,11,12,9,7,8,5,3,4,1,0,2,6,10,14,18,22,26,30,35,40,45,50]⟩,⟨.some 120,.eqFlat true [.i,.i] false (.s 118) (.s 119),.some (117,true),53,[52,50,45,40,35,30,26,22,18,14,10,6,2,0,1,4,3,5,8,7,9,12,11,13,16,15,17,20,19,21,24,23,25,28,27,29,33,32,31,34,38,37,36,39,43,42,41,44,48,47,46,49,51]⟩,⟨.some 121,.pick (.s 117) (.s 120) (.c (.bool false)),.none,54,[51,52,53,49,46,47,48,44,41,42,43,39,36,37,38,34,31,32,33,29,27,28,25,23,24,21,19,20,17,15,16,13,11,12,9,7,8,5,3,4,1,0,2,6,10,14,18,22,26,30,35,40,45,50]⟩,⟨.some 122,.move (.s 121),.none,55,[50,45,40,35,30,26,22,18,14,10,6,2,0,1,4,3,5,8,7,9,12,11,13,16,15,17,20,19,21,24,23,25,28,27,29,33,32,31,34,38,37,36,39,43,42,41,44,48,47,46,49,53,52,51,54]⟩,⟨.some 123,.move (.s 12),.some (122,true),56,[54,51,52,53,49,46,47,48,44,41,42,43,39,36,37,38,34,31,32,33,29,27,28,25,23,24,21,19,20,17,15,16,13,11,12,9,7,8,5,3,4,1,0,2,6,10,14,18,22,26,30,35,40,45,50,55]⟩,⟨.some 124,.bin .eql (.s 123) (.c (.int .i64 0)),.some (122,true),57,[55,50,45,40,35,30,26,22,18,14,10,6,2,0,1,4,3,5,8,7,9,12,11,13,16,15,17,20,19,21,24,23,25,28,27,29,33,32,31,34,38,37,36,39,43,42,41,44,48,47,46,49,53,52,51,54,56]⟩,⟨.some 125,.pick (.s 122) (.s 124) (.c (.bool
    false)),.none,58,[56,57,54,51,52,53,49,46,47,48,44,41,42,43,39,36,37,38,34,31,32,33,29,27,28,25,23,24,21,19,20,17,15,16,13,11,12,9,7,8,5,3,4,1,0,2,6,10,14,18,22,26,30,35,40,45,50,55]⟩,⟨.some 126,.move (.s 125),.none,59,[55,50,45,40,35,30,26,22,18,14,10,6,2,0,1,4,3,5,8,7,9,12,11,13,16,15,17,20,19,21,24,23,25,28,27,29,33,32,31,34,38,37,36,39,43,42,41,44,48,47,46,49,53,52,51,54,57,56,58]⟩,⟨.some 127,.move (.s 13),.some (126,true),60,[58,56,57,54,51,52,53,49,46,47,48,44,41,42,43,39,36,37,38,34,31,32,33,29,27,28,25,23,24,21,19,20,17,15,16,13,11,12,9,7,8,5,3,4,1,0,2,6,10,14,18,22,26,30,35,40,45,50,55,59]⟩,⟨.some 128,.bin .eql (.s 127) (.c (.int .i64 2)),.some (126,true),61,[59,55,50,45,40,35,30,26,22,18,14,10,6,2,0,1,4,3,5,8,7,9,12,11,13,16,15,17,20,19,21,24,23,25,28,27,29,33,32,31,34,38,37,36,39,43,42,41,44,48,47,46,49,53,52,51,54,57,56,58,60]⟩,⟨.some 129,.pick (.s 126) (.s 128) (.c (.bool false)),.none,62,[60,61,58,56,57,54,51,52,53,49,46,47,48,44,41,42,43,39,36,37,38,34,31,32,33,29,27,28,25,23,24,21,19,20,17,15,16,13,11,12,9,7,8,5,3,4,1,0,2,6,10,14,18,22,26,30,35,40,45,50,55,59]⟩,⟨.some 130,.move (.s 129),.none,63,[59,55,50,45,40,35,30,26,22,18,14,10,6,2,0,1,4,3,5,8,7,9,12,11,13,16,15,17,20,19,21,24,23,25,28,27,29,33,32,31,34,38,37,36,39,43,42,41,44,48,47,46,49,53,52,51,54,57,56,58,61,60,62]⟩,⟨.some 131,.move (.s 15),.some (130,true),64,[62,60,61,58,56,57,54,51,52,53,49,46,47,48,44,41,42,43,39,36,37,38,34,31,32,33,29,27,28,25,23,24,21,19,20,17,15,16,13,11,12,9,7,8,5,3,4,1,0,2,6,10,14,18,22,26,30,35,40,45,50,55,59,63]⟩,⟨.some 132,.mkslice 1 1 [.int .i64 0] [(0,(1,(.c (.int .i64 6))))],.some (130,true),65,[62,60,61,58,56,57,54,51,52,53,49,46,47,48,44,41,42,43,39,36,37,38,34,31,32,33,29,27,28,25,23,24,21,19,20,17,15,16,13,11,12,9,7,8,5,3,4,1,0,2,6,10,14,18,22,26,30,35,40,45,50,55,59,63]⟩,⟨.some 133,.call (.c (.func 31 [] [])) [.s 131,.s 132],.some
    (130,true),66,[65,63,59,55,50,45,40,35,30,26,22,18,14,10,6,2,0,1,4,3,5,8,7,9,12,11,13,16,15,17,20,19,21,24,23,25,28,27,29,33,32,31,34,38,37,36,39,43,42,41,44,48,47,46,49,53,52,51,54,57,56,58,61,60,62,64]⟩,⟨.some 134,.pick (.s 130) (.s 133) (.c (.bool false)),.none,67,[64,65,66,62,60,61,58,56,57,54,51,52,53,49,46,47,48,44,41,42,43,39,36,37,38,34,31,32,33,29,27,28,25,23,24,21,19,20,17,15,16,13,11,12,9,7,8,5,3,4,1,0,2,6,10,14,18,22,26,30,35,40,45,50,55,59,63]⟩,⟨.some 0,.move (.s 134),.none,68,[63,59,55,50,45,40,35,30,26,22,18,14,10,6,2,0,1,4,3,5,8,7,9,12,11,13,16,15,17,20,19,21,24,23,25,28,27,29,33,32,31,34,38,37,36,39,43,42,41,44,48,47,46,49,53,52,51,54,57,56,58,61,60,62,66,65,64,67]⟩] k) .ret))))))))))),res := [.slot 0]}
def c23 : AFunc :=
  let k:List Nat:=[0,1,2,3,4,5,6,7,8,9,10,27,34]
  {nt := 37,body := (.seq (.reg [⟨.some 3,.box (.s 0),.none,0,[]⟩,⟨.some 4,.box (.s 1),.none,1,[]⟩,⟨.some 5,.box (.s 2),.none,2,[]⟩,⟨.some 6,.alloc [.int .i64 0,.int .i64 0],.none,3,[]⟩,⟨.some 7,.move (.c (.int .i64 0)),.none,4,[]⟩] k) (.seq (.reg [⟨.some 12,.loadN 2 (.s 3),.none,0,[]⟩,⟨.some 13,.func 73 [] [.s 3,.s 4,.s 5],.none,1,[]⟩,⟨.some 14,.load (.s 4),.none,2,[]⟩,⟨.some 15,.off 1 (.s 3),.none,3,[]⟩,⟨.some 16,.load (.s 15),.none,4,[]⟩,⟨.some 17,.len false (.s 16),.none,5,[]⟩,⟨.some 18,.load (.s 5),.none,6,[]⟩,⟨.some 19,.off 0 (.s 3),.none,7,[]⟩,⟨.some 20,.load (.s 19),.none,8,[]⟩,⟨.some 21,.len false (.s 20),.none,9,[]⟩,⟨.some 22,.mkslice 4 1 [.int .i64 0,.int .i64 0,.int .i64 0,.int .i64 0] [(0,(1,(.s 14))),(1,(1,(.s 17))),(2,(1,(.s 18))),(3,(1,(.s 21)))],.none,10,[]⟩,⟨.some 23,.call (.c (.func 63 [] [])) [.s 12,.s 13,.s 22],.none,11,[]⟩,⟨.some 11,.move (.s 23),.none,12,[]⟩,⟨.some 24,.extract 0 (.s 11),.none,13,[]⟩,⟨.some 25,.extract 1 (.s 11),.none,14,[]⟩,⟨.some 8,.alloc [.nilptr],.none,15,[]⟩,⟨.none,.store 1 (.s 8) (.s 24),.none,16,[]⟩,⟨.some 9,.move (.s 25),.none,17,[]⟩] k) (.seq (.seq (.reg [⟨.some 26,.move (.s 9),.none,0,[]⟩,⟨.some 27,.bin .neq (.s 26) (.c (.int .i64 0)),.none,1,[]⟩] k) (.cond (.s 27) (.seq (.reg [⟨.some 28,.build [.int .i64 0,.int .i64 0] [],.none,0,[]⟩,⟨.some 29,.move (.s 9),.none,1,[]⟩,⟨.none,.store 2 (.s 6) (.s 28),.none,2,[]⟩,⟨.some 7,.move (.s 29),.none,3,[]⟩] k) .ret) .skip)) (.seq (.reg [⟨.some 30,.func 74 [] [.s 3,.s 5,.s 8,.s 4],.none,0,[]⟩,⟨.some 31,.call (.c (.func 65 [] [])) [.s 30],.none,1,[]⟩,⟨.some 10,.alloc [.int .i64 0,.int .i64 0],.none,2,[]⟩,⟨.none,.store 2 (.s 10) (.s 31),.none,3,[]⟩] k) (.seq (.seq (.reg [⟨.some 32,.off 1 (.s 10),.none,0,[]⟩,⟨.some 33,.load (.s 32),.none,1,[]⟩,⟨.some 34,.bin .lss (.s 33) (.c (.int .i64 0)),.none,2,[]⟩] k) (.cond (.s 34) (.seq (.reg [⟨.some 35,.build [.int .i64 0,.int .i64 0] [],.none,0,[]⟩,⟨.none,.store 2 (.s 6) (.s 35),.none,1,[]⟩,⟨.some 7,.move (.c (.int .i64 9)),.none,2,[]⟩] k)
    .ret) .skip)) (.seq (.reg [⟨.some 36,.loadN 2 (.s 10),.none,0,[]⟩,⟨.none,.store 2 (.s 6) (.s 36),.none,1,[]⟩,⟨.some 7,.move (.c (.int .i64 0)),.none,2,[]⟩] k) .ret)))))),res := [.cellN 2 6,.slot 7]}
def c25 : AFunc :=
  let k:List Nat:=[0,1,2,3,6,7,8,9,25]
  {nt := 38,body := (.seq (.reg [⟨.some 3,.box (.s 0),.none,0,[]⟩,⟨.some 6,.alloc [.int .i64 0,.int .i64 0],.none,1,[]⟩,⟨.some 7,.alloc [.int .i64 0,.int .i64 0],.none,2,[]⟩,⟨.some 8,.move (.c (.int .i64 0)),.none,3,[]⟩] k) (.seq (.reg [⟨.some 11,.loadN 2 (.s 3),.none,0,[]⟩,⟨.some 12,.move (.s 1),.none,1,[]⟩,⟨.some 13,.off 0 (.s 3),.none,2,[]⟩,⟨.some 14,.load (.s 13),.none,3,[]⟩,⟨.some 15,.len false (.s 14),.none,4,[]⟩,⟨.some 16,.move (.s 2),.none,5,[]⟩,⟨.some 17,.off 0 (.s 3),.none,6,[]⟩,⟨.some 18,.load (.s 17),.none,7,[]⟩,⟨.some 19,.len false (.s 18),.none,8,[]⟩,⟨.some 20,.mkslice 4 1 [.int .i64 0,.int .i64 0,.int .i64 0,.int .i64 0] [(0,(1,(.s 12))),(1,(1,(.s 15))),(2,(1,(.s 16))),(3,(1,(.s 19)))],.none,9,[]⟩,⟨.some 21,.call (.c (.func 63 [] [])) [.s 11,.c (.func 64 [] []),.s 20],.none,10,[]⟩,⟨.some 10,.move (.s 21),.none,11,[]⟩,⟨.some 22,.extract 0 (.s 10),.none,12,[]⟩,⟨.some 23,.extract 1 (.s 10),.none,13,[]⟩,⟨.some 9,.move (.s 22),.none,14,[]⟩,⟨.some 8,.move (.s 23),.none,15,[]⟩] k) (.seq (.seq (.reg [⟨.some 24,.move (.s 8),.none,0,[]⟩,⟨.some 25,.bin .neq (.s 24) (.c (.int .i64 0)),.none,1,[]⟩] k) (.cond (.s 25) (.seq (.draw [⟨.some 26,.loadN 2 (.s 6),.none,0,[]⟩,⟨.some 27,.loadN 2 (.s 7),.none,1,[]⟩,⟨.some 28,.move (.s 8),.none,2,[]⟩,⟨.none,.store 2 (.s 6) (.s 26),.none,3,[0]⟩,⟨.none,.store 2 (.s 7) (.s 27),.none,4,[0,3,1]⟩,⟨.some 8,.move (.s 28),.none,5,[1,3,0,4,2]⟩] k) .ret) .skip)) (.seq (.reg [⟨.some 30,.move (.s 9),.none,0,[]⟩,⟨.some 31,.move (.s 1),.none,1,[]⟩,⟨.some 32,.move (.s 2),.none,2,[]⟩,⟨.some 33,.call (.c (.func 75 [] [])) [.s 30,.s 31,.s 32],.none,3,[]⟩,⟨.some 29,.move (.s 33),.none,4,[]⟩,⟨.some 34,.extract 0 (.s 29),.none,5,[]⟩,⟨.some 35,.extract 1 (.s 29),.none,6,[]⟩,⟨.none,.store 2 (.s 6) (.s 34),.none,7,[]⟩,⟨.none,.store 2 (.s 7) (.s 35),.none,8,[]⟩] k) (.seq (.draw [⟨.some 36,.loadN 2 (.s 6),.none,0,[]⟩,⟨.some 37,.loadN 2 (.s 7),.none,1,[]⟩,⟨.none,.store 2 (.s 6) (.s 36),.none,2,[0]⟩,⟨.none,.store 2 (.s 7) (.s 37),.none,3,[0,2,1]⟩,⟨.some
    8,.move (.c (.int .i64 0)),.none,4,[1,2,0,3]⟩] k) .ret))))),res := [.cellN 2 6,.cellN 2 7,.slot 8]}
def c27 : AFunc :=
  let k:List Nat:=[0,1,2,3,4,5,6,7,8,9,10,11,12,19,24,25,26,28,29,30,75,82]
  {nt := 85,body := (.seq (.reg [⟨.some 1,.box (.s 0),.none,0,[]⟩,⟨.some 2,.move (.c (.int .i64 0)),.none,1,[]⟩,⟨.some 3,.move (.c (.int .i64 0)),.none,2,[]⟩,⟨.some 4,.move (.c (.int .i64 0)),.none,3,[]⟩] k) (.seq (.reg [⟨.some 14,.loadN 2 (.s 1),.none,0,[]⟩,⟨.some 15,.call (.c (.func 63 [] [])) [.s 14,.c (.func 64 [] []),.c .nilslice],.none,1,[]⟩,⟨.some 13,.move (.s 15),.none,2,[]⟩,⟨.some 16,.extract 0 (.s 13),.none,3,[]⟩,⟨.some 17,.extract 1 (.s 13),.none,4,[]⟩,⟨.some 5,.move (.s 16),.none,5,[]⟩,⟨.some 4,.move (.s 17),.none,6,[]⟩] k) (.seq (.seq (.reg [⟨.some 18,.move (.s 4),.none,0,[]⟩,⟨.some 19,.bin .neq (.s 18) (.c (.int .i64 0)),.none,1,[]⟩] k) (.cond (.s 19) (.seq (.reg [⟨.some 20,.move (.s 4),.none,0,[]⟩,⟨.some 2,.move (.c (.int .i64 0)),.none,1,[]⟩,⟨.some 3,.move (.c (.int .i64 0)),.none,2,[]⟩,⟨.some 4,.move (.s 20),.none,3,[]⟩] k) .ret) .skip)) (.seq (.reg [⟨.some 21,.build [.int .i64 0,.int .i64 0] [(0,(1,(.c (.int .i64 1)))),(1,(1,(.c (.int .i64 1))))],.none,0,[]⟩,⟨.some 6,.alloc [.int .i64 0,.int .i64 0],.none,1,[]⟩,⟨.none,.store 2 (.s 6) (.s 21),.none,2,[]⟩] k) (.seq (.reg [⟨.some 7,.move (.c (.bool false)),.none,0,[]⟩] k) (.seq (.seq (.reg [⟨.some 22,.off 0 (.s 1),.none,0,[]⟩,⟨.some 23,.load (.s 22),.none,1,[]⟩,⟨.some 24,.len false (.s 23),.none,2,[]⟩,⟨.some 25,.move (.c (.int .i64 0)),.none,3,[]⟩] k) (.block 0 (.loop (.seq (.reg [⟨.some 26,.bin .lss (.s 25) (.s 24),.none,0,[]⟩] k) (.seq (.cond (.s 26) .skip (.exit 0)) (.seq (.block 1 (.seq (.reg [⟨.some 27,.move (.s 25),.none,0,[]⟩,⟨.some 8,.move (.s 27),.none,1,[]⟩] k) (.seq (.reg [⟨.some 28,.move (.s 8),.none,0,[]⟩,⟨.some 29,.move (.c (.int .i64 0)),.none,1,[]⟩] k) (.block 2 (.loop (.seq (.reg [⟨.some 30,.bin .lss (.s 29) (.s 28),.none,0,[]⟩] k) (.seq (.cond (.s 30) .skip (.exit 2)) (.seq (.block 3 (.seq (.reg [⟨.some 31,.move (.s 29),.none,0,[]⟩,⟨.some 9,.move (.s 31),.none,1,[]⟩] k) (.seq (.reg [⟨.some 33,.move (.s 5),.none,0,[]⟩,⟨.some 34,.move (.s 9),.none,1,[]⟩,⟨.some 35,.move (.s
    8),.none,2,[]⟩,⟨.some 36,.call (.c (.func 75 [] [])) [.s 33,.s 34,.s 35],.none,3,[]⟩,⟨.some 32,.move (.s 36),.none,4,[]⟩,⟨.some 37,.extract 0 (.s 32),.none,5,[]⟩,⟨.some 38,.extract 1 (.s 32),.none,6,[]⟩,⟨.some 10,.alloc [.int .i64 0,.int .i64 0],.none,7,[]⟩,⟨.some 11,.alloc [.int .i64 0,.int .i64 0],.none,8,[]⟩,⟨.none,.store 2 (.s 10) (.s 37),.none,9,[]⟩,⟨.none,.store 2 (.s 11) (.s 38),.none,10,[]⟩] k) (.seq (.reg [⟨.some 39,.off 0 (.s 11),.none,0,[]⟩,⟨.some 40,.load (.s 39),.none,1,[]⟩,⟨.some 41,.off 1 (.s 10),.none,2,[]⟩,⟨.some 42,.load (.s 41),.none,3,[]⟩,⟨.some 43,.bin .mul (.s 40) (.s 42),.none,4,[]⟩,⟨.some 44,.off 1 (.s 11),.none,5,[]⟩,⟨.some 45,.load (.s 44),.none,6,[]⟩,⟨.some 46,.off 0 (.s 10),.none,7,[]⟩,⟨.some 47,.load (.s 46),.none,8,[]⟩,⟨.some 48,.bin .mul (.s 45) (.s 47),.none,9,[]⟩,⟨.some 49,.call (.c (.func 77 [] [])) [.s 43,.s 48],.none,10,[]⟩,⟨.some 12,.alloc [.int .i64 0,.int .i64 0],.none,11,[]⟩,⟨.none,.store 2 (.s 12) (.s 49),.none,12,[]⟩] k) (.seq (.reg [⟨.some 50,.loadN 2 (.s 6),.none,0,[]⟩,⟨.some 51,.loadN 2 (.s 12),.none,1,[]⟩,⟨.some 52,.call (.c (.func 78 [] [])) [.s 50,.s 51],.none,2,[]⟩,⟨.some 53,.move (.s 52),.none,3,[]⟩,⟨.some 54,.move (.s 7),.some (53,false),4,[]⟩,⟨.some 55,.move (.s 54),.some (53,false),5,[]⟩,⟨.some 56,.loadN 2 (.s 12),.some (55,true),6,[]⟩,⟨.some 57,.loadN 2 (.s 6),.some (55,true),7,[]⟩,⟨.some 58,.eqFlat true [.i,.i] false (.s 56) (.s 57),.some (55,true),8,[]⟩,⟨.some 59,.pick (.s 55) (.s 58) (.c (.bool false)),.some (53,false),9,[]⟩,⟨.some 60,.move (.s 59),.some (53,false),10,[]⟩,⟨.some 61,.move (.s 9),.some (60,true),11,[]⟩,⟨.some 62,.move (.s 2),.some (60,true),12,[]⟩,⟨.some 63,.bin .lss (.s 61) (.s 62),.some (60,true),13,[]⟩,⟨.some 64,.move (.s 63),.some (60,true),14,[]⟩,⟨.some 65,.move (.s 9),.some (64,false),15,[]⟩,⟨.some 66,.move (.s 2),.some (64,false),16,[]⟩,⟨.some 67,.bin .eql (.s 65) (.s 66),.some (64,false),17,[]⟩,⟨.some 68,.move (.s 67),.some (64,false),18,[]⟩,⟨.some 69,.move (.s 8),.some
    (68,true),19,[]⟩,⟨.some 70,.move (.s 3),.some (68,true),20,[]⟩,⟨.some 71,.bin .lss (.s 69) (.s 70),.some (68,true),21,[]⟩,⟨.some 72,.pick (.s 68) (.s 71) (.c (.bool false)),.some (64,false),22,[]⟩,⟨.some 73,.pick (.s 64) (.c (.bool true)) (.s 72),.some (60,true),23,[]⟩,⟨.some 74,.pick (.s 60) (.s 73) (.c (.bool false)),.some (53,false),24,[]⟩,⟨.some 75,.pick (.s 53) (.c (.bool true)) (.s 74),.none,25,[]⟩] k) (.cond (.s 75) (.draw [⟨.some 76,.move (.s 9),.none,0,[]⟩,⟨.some 77,.move (.s 8),.none,1,[]⟩,⟨.some 78,.loadN 2 (.s 12),.none,2,[]⟩,⟨.some 2,.move (.s 76),.none,3,[0]⟩,⟨.some 3,.move (.s 77),.none,4,[0,3,1]⟩,⟨.none,.store 2 (.s 6) (.s 78),.none,5,[1,3,0,4,2]⟩,⟨.some 7,.move (.c (.bool true)),.none,6,[2,4,0,3,1,5]⟩] k) .skip)))))) (.reg [⟨.some 79,.bin .add (.s 29) (.c (.int .i64 1)),.none,0,[]⟩,⟨.some 29,.move (.s 79),.none,1,[]⟩] k))))))))) (.reg [⟨.some 80,.bin .add (.s 25) (.c (.int .i64 1)),.none,0,[]⟩,⟨.some 25,.move (.s 80),.none,1,[]⟩] k))))))) (.seq (.seq (.reg [⟨.some 81,.move (.s 7),.none,0,[]⟩,⟨.some 82,.un .not (.s 81),.none,1,[]⟩] k) (.cond (.s 82) (.seq (.reg [⟨.some 2,.move (.c (.int .i64 0)),.none,0,[]⟩,⟨.some 3,.move (.c (.int .i64 0)),.none,1,[]⟩,⟨.some 4,.move (.c (.int .i64 9)),.none,2,[]⟩] k) .ret) .skip)) (.seq (.reg [⟨.some 83,.move (.s 2),.none,0,[]⟩,⟨.some 84,.move (.s 3),.none,1,[]⟩,⟨.some 2,.move (.s 83),.none,2,[]⟩,⟨.some 3,.move (.s 84),.none,3,[]⟩,⟨.some 4,.move (.c (.int .i64 0)),.none,4,[]⟩] k) .ret)))))))),res := [.slot 2,.slot 3,.slot 4]}
def c29 : AFunc :=
  let k:List Nat:=[0,1,2,3,4,5,6,7,8,9,10,11,19,22,23,24,25,29,30,31,32,37,58,59,60,76]
  {nt := 80,body := (.seq (.reg [⟨.some 1,.box (.s 0),.none,0,[]⟩,⟨.some 2,.move (.c .nilslice),.none,1,[]⟩,⟨.some 3,.move (.c (.int .i64 0)),.none,2,[]⟩] k) (.seq (.seq (.reg [⟨.some 13,.loadN 2 (.s 1),.none,0,[]⟩,⟨.some 14,.call (.c (.func 16 [] [])) [.s 13],.none,1,[]⟩,⟨.some 12,.move (.s 14),.none,2,[]⟩,⟨.some 15,.extract 0 (.s 12),.none,3,[]⟩,⟨.some 16,.extract 1 (.s 12),.none,4,[]⟩,⟨.some 17,.extract 2 (.s 12),.none,5,[]⟩,⟨.some 3,.move (.s 17),.none,6,[]⟩] k) (.seq (.reg [⟨.some 18,.move (.s 3),.none,0,[]⟩,⟨.some 19,.bin .neq (.s 18) (.c (.int .i64 0)),.none,1,[]⟩] k) (.cond (.s 19) (.seq (.reg [⟨.some 20,.move (.s 3),.none,0,[]⟩,⟨.some 2,.move (.c .nilslice),.none,1,[]⟩,⟨.some 3,.move (.s 20),.none,2,[]⟩] k) .ret) .skip))) (.seq (.reg [⟨.some 4,.move (.c .nilslice),.none,0,[]⟩] k) (.seq (.seq (.reg [⟨.some 21,.off 1 (.s 1),.none,0,[]⟩,⟨.some 22,.load (.s 21),.none,1,[]⟩,⟨.some 23,.len false (.s 22),.none,2,[]⟩,⟨.some 24,.move (.c (.int .i64 0)),.none,3,[]⟩] k) (.block 0 (.loop (.seq (.reg [⟨.some 25,.bin .lss (.s 24) (.s 23),.none,0,[]⟩] k) (.seq (.cond (.s 25) .skip (.exit 0)) (.seq (.block 1 (.seq (.reg [⟨.some 26,.move (.s 24),.none,0,[]⟩,⟨.some 27,.idxSl 1 (.s 22) (.s 24),.none,1,[]⟩,⟨.some 28,.load (.s 27),.none,2,[]⟩,⟨.some 5,.move (.s 26),.none,3,[]⟩,⟨.some 6,.move (.s 28),.none,4,[]⟩] k) (.seq (.reg [⟨.some 29,.move (.s 6),.none,0,[]⟩,⟨.some 30,.len false (.s 29),.none,1,[]⟩,⟨.some 31,.move (.c (.int .i64 0)),.none,2,[]⟩] k) (.block 2 (.loop (.seq (.reg [⟨.some 32,.bin .lss (.s 31) (.s 30),.none,0,[]⟩] k) (.seq (.cond (.s 32) .skip (.exit 2)) (.seq (.block 3 (.seq (.reg [⟨.some 33,.move (.s 31),.none,0,[]⟩,⟨.some 34,.idxSl 1 (.s 29) (.s 31),.none,1,[]⟩,⟨.some 35,.load (.s 34),.none,2,[]⟩,⟨.some 7,.move (.s 33),.none,3,[]⟩,⟨.some 8,.move (.s 35),.none,4,[]⟩] k) (.seq (.reg [⟨.some 36,.move (.s 8),.none,0,[]⟩,⟨.some 37,.bin .neq (.s 36) (.c (.int .i64 (-1))),.none,1,[]⟩] k) (.cond (.s 37) (.reg [⟨.some 38,.move (.s 4),.none,0,[]⟩,⟨.some 39,.move (.s
    5),.none,1,[]⟩,⟨.some 40,.off 0 (.s 1),.none,2,[]⟩,⟨.some 41,.load (.s 40),.none,3,[]⟩,⟨.some 42,.len false (.s 41),.none,4,[]⟩,⟨.some 43,.bin .mul (.s 39) (.s 42),.none,5,[]⟩,⟨.some 44,.move (.s 7),.none,6,[]⟩,⟨.some 45,.bin .add (.s 43) (.s 44),.none,7,[]⟩,⟨.some 46,.mkslice 1 1 [.int .i64 0] [(0,(1,(.s 45)))],.none,8,[]⟩,⟨.some 47,.append 1 8 (.s 38) (.s 46),.none,9,[]⟩,⟨.some 4,.move (.s 47),.none,10,[]⟩] k) .skip)))) (.reg [⟨.some 48,.bin .add (.s 31) (.c (.int .i64 1)),.none,0,[]⟩,⟨.some 31,.move (.s 48),.none,1,[]⟩] k))))))))) (.reg [⟨.some 49,.bin .add (.s 24) (.c (.int .i64 1)),.none,0,[]⟩,⟨.some 24,.move (.s 49),.none,1,[]⟩] k))))))) (.seq (.reg [⟨.some 50,.move (.s 4),.none,0,[]⟩,⟨.some 51,.len false (.s 50),.none,1,[]⟩,⟨.some 52,.makeSlice 1 8 [.int .i64 0] (.s 51) (.s 51),.none,2,[]⟩,⟨.some 9,.move (.s 52),.none,3,[]⟩] k) (.seq (.reg [⟨.some 53,.move (.s 9),.none,0,[]⟩,⟨.some 54,.move (.s 4),.none,1,[]⟩,⟨.some 55,.copy 1 (.s 53) (.s 54),.none,2,[]⟩] k) (.seq (.seq (.reg [⟨.some 56,.move (.s 9),.none,0,[]⟩,⟨.some 57,.len false (.s 56),.none,1,[]⟩,⟨.some 58,.bin .add (.s 57) (.c (.int .i64 1)),.none,2,[]⟩,⟨.some 59,.move (.c (.int .i64 0)),.none,3,[]⟩] k) (.block 4 (.loop (.seq (.reg [⟨.some 60,.bin .lss (.s 59) (.s 58),.none,0,[]⟩] k) (.seq (.cond (.s 60) .skip (.exit 4)) (.seq (.block 5 (.seq (.reg [⟨.some 61,.move (.s 59),.none,0,[]⟩,⟨.some 10,.move (.s 61),.none,1,[]⟩] k) (.seq (.reg [⟨.some 62,.move (.s 9),.none,0,[]⟩,⟨.some 63,.move (.s 10),.none,1,[]⟩,⟨.some 64,.func 80 [] [.s 1],.none,2,[]⟩,⟨.some 65,.call (.c (.func 79 [] [])) [.s 62,.s 63,.s 64],.none,3,[]⟩,⟨.some 11,.move (.s 65),.none,4,[]⟩] k) (.seq (.reg [⟨.some 66,.move (.s 11),.none,0,[]⟩,⟨.some 67,.eqNil .slice true (.s 66) (.c .nilslice),.none,1,[]⟩,⟨.some 68,.move (.s 67),.none,2,[]⟩,⟨.some 69,.move (.s 10),.some (68,false),3,[]⟩,⟨.some 70,.bin .eql (.s 69) (.c (.int .i64 0)),.some (68,false),4,[]⟩,⟨.some 71,.move (.s 70),.some (68,false),5,[]⟩,⟨.some 72,.loadN 2 (.s 1),.some
    (71,true),6,[]⟩,⟨.some 73,.call (.c (.func 81 [] [])) [.s 72,.c (.int .i64 0)],.some (71,true),7,[]⟩,⟨.some 74,.call (.c (.func 82 [] [])) [.s 73],.some (71,true),8,[]⟩,⟨.some 75,.pick (.s 71) (.s 74) (.c (.bool false)),.some (68,false),9,[]⟩,⟨.some 76,.pick (.s 68) (.c (.bool true)) (.s 75),.none,10,[]⟩] k) (.cond (.s 76) (.seq (.reg [⟨.some 77,.move (.s 11),.none,0,[]⟩,⟨.some 2,.move (.s 77),.none,1,[]⟩,⟨.some 3,.move (.c (.int .i64 0)),.none,2,[]⟩] k) .ret) .skip))))) (.reg [⟨.some 78,.bin .add (.s 59) (.c (.int .i64 1)),.none,0,[]⟩,⟨.some 59,.move (.s 78),.none,1,[]⟩] k))))))) (.seq (.reg [⟨.some 79,.move (.s 9),.none,0,[]⟩,⟨.some 2,.move (.s 79),.none,1,[]⟩,⟨.some 3,.move (.c (.int .i64 0)),.none,2,[]⟩] k) .ret)))))))),res := [.slot 2,.slot 3]}
def c31 : AFunc :=
  let k:List Nat:=[0,1,4,5,6,18]
  {nt := 31,body := (.seq (.reg [⟨.some 4,.move (.c (.bool false)),.none,0,[]⟩] k) (.seq (.reg [⟨.some 7,.move (.s 0),.none,0,[]⟩,⟨.some 8,.len false (.s 7),.none,1,[]⟩,⟨.some 9,.move (.s 1),.none,2,[]⟩,⟨.some 10,.len false (.s 9),.none,3,[]⟩,⟨.some 11,.bin .eql (.s 8) (.s 10),.none,4,[]⟩,⟨.some 5,.move (.s 11),.none,5,[]⟩] k) (.seq (.seq (.reg [⟨.some 6,.move (.c (.int .i64 0)),.none,0,[]⟩] k) (.block 0 (.loop (.seq (.seq (.reg [⟨.some 12,.move (.s 5),.none,0,[]⟩,⟨.some 13,.move (.s 12),.none,1,[]⟩,⟨.some 14,.move (.s 6),.some (13,true),2,[]⟩,⟨.some 15,.move (.s 0),.some (13,true),3,[]⟩,⟨.some 16,.len false (.s 15),.some (13,true),4,[]⟩,⟨.some 17,.bin .lss (.s 14) (.s 16),.some (13,true),5,[]⟩,⟨.some 18,.pick (.s 13) (.s 17) (.c (.bool false)),.none,6,[]⟩] k) (.cond (.s 18) .skip (.exit 0))) (.seq (.block 1 (.draw [⟨.some 21,.move (.s 0),.none,0,[]⟩,⟨.some 22,.move (.s 6),.none,1,[]⟩,⟨.some 23,.idxSl 1 (.s 21) (.s 22),.none,2,[1,0]⟩,⟨.some 24,.load (.s 23),.none,3,[0,1,2]⟩,⟨.some 25,.move (.s 1),.none,4,[]⟩,⟨.some 26,.move (.s 6),.none,5,[]⟩,⟨.some 27,.idxSl 1 (.s 25) (.s 26),.none,6,[5,4]⟩,⟨.some 28,.load (.s 27),.none,7,[4,5,6]⟩,⟨.some 29,.bin .eql (.s 24) (.s 28),.none,8,[6,5,4,7,2,1,0,3]⟩,⟨.some 5,.move (.s 29),.none,9,[3,0,1,2,7,4,5,6,8]⟩] k)) (.reg [⟨.some 19,.move (.s 6),.none,0,[]⟩,⟨.some 20,.bin .add (.s 19) (.c (.int .i64 1)),.none,1,[]⟩,⟨.some 6,.move (.s 20),.none,2,[]⟩] k)))))) (.seq (.reg [⟨.some 30,.move (.s 5),.none,0,[]⟩,⟨.some 4,.move (.s 30),.none,1,[]⟩] k) .ret)))),res := [.slot 4]}
def c32 : AFunc :=
  {nt := 16,body := (.seq (.reg [⟨.some 2,.alloc [.nilslice,.nilslice],.none,0,[]⟩] [0,2]) (.seq (.reg [⟨.some 3,.call (.c (.func 33 [] [])) [.c (.int .i64 100),.c (.int .i64 100)],.none,0,[]⟩,⟨.some 4,.build [.str (bs []),.int .i64 0,.int .i64 0,.int .i64 0] [(0,(1,(.c (.str (bs [119,111,108,102]))))),(1,(2,(.s 3)))],.none,1,[]⟩,⟨.some 5,.call (.c (.func 33 [] [])) [.c (.int .i64 110),.c (.int .i64 116)],.none,2,[]⟩,⟨.some 6,.build [.str (bs []),.int .i64 0,.int .i64 0,.int .i64 0] [(0,(1,(.c (.str (bs [98,101,114,116,97]))))),(1,(2,(.s 5))),(3,(1,(.c (.int .i64 1))))],.none,3,[]⟩,⟨.some 7,.call (.c (.func 33 [] [])) [.c (.int .i64 94),.c (.int .i64 100)],.none,4,[]⟩,⟨.some 8,.build [.str (bs []),.int .i64 0,.int .i64 0,.int .i64 0] [(0,(1,(.c (.str (bs [99,97,114,108]))))),(1,(2,(.s 7))),(3,(1,(.c (.int .i64 1))))],.none,5,[]⟩,⟨.some 9,.mkslice 3 4 [.str (bs []),.int .i64 0,.int .i64 0,.int .i64 0,.str (bs []),.int .i64 0,.int .i64 0,.int .i64 0,.str (bs []),.int .i64 0,.int .i64 0,.int .i64 0] [(0,(4,(.s 4))),(4,(4,(.s 6))),(8,(4,(.s 8)))],.none,6,[]⟩,⟨.some 10,.mkslice 3 1 [.int .i64 0,.int .i64 0,.int .i64 0] [(0,(1,(.c (.int .i64 60)))),(1,(1,(.c (.int .i64 53)))),(2,(1,(.c (.int .i64 (-1)))))],.none,7,[]⟩,⟨.some 11,.mkslice 3 1 [.int .i64 0,.int .i64 0,.int .i64 0] [(0,(1,(.c (.int .i64 (-1))))),(1,(1,(.c (.int .i64 90)))),(2,(1,(.c (.int .i64 104))))],.none,8,[]⟩,⟨.some 12,.mkslice 2 1 [.nilslice,.nilslice] [(0,(1,(.s 10))),(1,(1,(.s 11)))],.none,9,[]⟩,⟨.some 13,.move (.s 0),.none,10,[]⟩,⟨.some 14,.append 1 24 (.s 12) (.s 13),.none,11,[]⟩,⟨.some 15,.build [.nilslice,.nilslice] [(0,(1,(.s 9))),(1,(1,(.s 14)))],.none,12,[]⟩,⟨.none,.store 2 (.s 2) (.s 15),.none,13,[]⟩] [0,2]) .ret)),res := [.cellN 2 2]}
def c33 : AFunc :=
  {nt := 8,body := (.seq (.reg [⟨.some 4,.alloc [.int .i64 0,.int .i64 0],.none,0,[]⟩] [0,1,4]) (.seq (.reg [⟨.some 5,.move (.s 0),.none,0,[]⟩,⟨.some 6,.move (.s 1),.none,1,[]⟩,⟨.some 7,.build [.int .i64 0,.int .i64 0] [(0,(1,(.s 5))),(1,(1,(.s 6)))],.none,2,[]⟩,⟨.none,.store 2 (.s 4) (.s 7),.none,3,[]⟩] [0,1,4]) .ret)),res := [.cellN 2 4]}
def c34 : AFunc :=
  {nt := 8,body := (.seq (.reg [⟨.some 4,.alloc [.int .i64 0,.int .i64 0],.none,0,[]⟩] [0,1,4]) (.seq (.reg [⟨.some 5,.move (.s 0),.none,0,[]⟩,⟨.some 6,.move (.s 1),.none,1,[]⟩,⟨.some 7,.build [.int .i64 0,.int .i64 0] [(0,(1,(.s 5))),(1,(1,(.s 6)))],.none,2,[]⟩,⟨.none,.store 2 (.s 4) (.s 7),.none,3,[]⟩] [0,1,4]) .ret)),res := [.cellN 2 4]}
def c55 : AFunc :=
  let k:List Nat:=[0,1,2,6,7,8,9,10,14,15,16,17,18,27]
  {nt := 31,body := (.seq (.reg [⟨.some 6,.move (.c (.int .i64 0)),.none,0,[]⟩,⟨.some 7,.move (.c (.int .i64 0)),.none,1,[]⟩] k) (.seq (.seq (.reg [⟨.some 11,.move (.s 0),.none,0,[]⟩,⟨.some 12,.len false (.s 11),.none,1,[]⟩,⟨.some 13,.move (.s 1),.none,2,[]⟩,⟨.some 14,.bin .gtr (.s 12) (.s 13),.none,3,[]⟩] k) (.cond (.s 14) (.seq (.reg [⟨.some 6,.move (.c (.int .i64 0)),.none,0,[]⟩,⟨.some 7,.move (.c (.int .i64 3)),.none,1,[]⟩] k) .ret) .skip)) (.seq (.seq (.reg [⟨.some 15,.move (.s 0),.none,0,[]⟩,⟨.some 16,.len false (.s 15),.none,1,[]⟩,⟨.some 17,.move (.c (.int .i64 0)),.none,2,[]⟩] k) (.block 0 (.loop (.seq (.reg [⟨.some 18,.bin .lss (.s 17) (.s 16),.none,0,[]⟩] k) (.seq (.cond (.s 18) .skip (.exit 0)) (.seq (.block 1 (.seq (.reg [⟨.some 19,.move (.s 17),.none,0,[]⟩,⟨.some 20,.idxSl 4 (.s 15) (.s 17),.none,1,[]⟩,⟨.some 21,.loadN 4 (.s 20),.none,2,[]⟩,⟨.some 9,.alloc [.str (bs []),.int .i64 0,.int .i64 0,.int .i64 0],.none,3,[]⟩,⟨.some 8,.move (.s 19),.none,4,[]⟩,⟨.none,.store 4 (.s 9) (.s 21),.none,5,[]⟩] k) (.seq (.reg [⟨.some 22,.move (.s 2),.none,0,[]⟩,⟨.some 23,.move (.s 8),.none,1,[]⟩,⟨.some 24,.loadN 4 (.s 9),.none,2,[]⟩,⟨.some 25,.call (.s 22) [.s 23,.s 24],.none,3,[]⟩,⟨.some 10,.move (.s 25),.none,4,[]⟩] k) (.seq (.reg [⟨.some 26,.move (.s 10),.none,0,[]⟩,⟨.some 27,.bin .neq (.s 26) (.c (.int .i64 0)),.none,1,[]⟩] k) (.cond (.s 27) (.seq (.reg [⟨.some 28,.move (.s 8),.none,0,[]⟩,⟨.some 29,.move (.s 10),.none,1,[]⟩,⟨.some 6,.move (.s 28),.none,2,[]⟩,⟨.some 7,.move (.s 29),.none,3,[]⟩] k) .ret) .skip))))) (.reg [⟨.some 30,.bin .add (.s 17) (.c (.int .i64 1)),.none,0,[]⟩,⟨.some 17,.move (.s 30),.none,1,[]⟩] k))))))) (.seq (.reg [⟨.some 6,.move (.c (.int .i64 0)),.none,0,[]⟩,⟨.some 7,.move (.c (.int .i64 0)),.none,1,[]⟩] k) .ret)))),res := [.slot 6,.slot 7]}
def c56 : AFunc :=
  let k:List Nat:=[0,1,2,4,5,7,8,9,10,11,21]
  {nt := 25,body := (.seq (.reg [⟨.some 4,.box (.s 1),.none,0,[]⟩,⟨.some 5,.move (.c (.int .i64 0)),.none,1,[]⟩] k) (.seq (.seq (.reg [⟨.some 8,.call (.c (.func 57 [] [])) [],.none,0,[]⟩,⟨.some 9,.len false (.s 8),.none,1,[]⟩,⟨.some 10,.move (.c (.int .i64 0)),.none,2,[]⟩] k) (.block 0 (.loop (.seq (.reg [⟨.some 11,.bin .lss (.s 10) (.s 9),.none,0,[]⟩] k) (.seq (.cond (.s 11) .skip (.exit 0)) (.seq (.block 1 (.seq (.reg [⟨.some 12,.idxSl 2 (.s 8) (.s 10),.none,0,[]⟩,⟨.some 13,.loadN 2 (.s 12),.none,1,[]⟩,⟨.some 7,.alloc [.int .i64 0,.nilfunc],.none,2,[]⟩,⟨.none,.store 2 (.s 7) (.s 13),.none,3,[]⟩] k) (.seq (.draw [⟨.some 14,.off 1 (.s 7),.none,0,[]⟩,⟨.some 15,.load (.s 14),.none,1,[0]⟩,⟨.some 16,.loadN 4 (.s 4),.none,2,[]⟩,⟨.some 17,.off 0 (.s 2),.none,3,[]⟩,⟨.some 18,.load (.s 17),.none,4,[3]⟩,⟨.some 19,.move (.s 0),.none,5,[]⟩,⟨.some 20,.sliceSl 4 (.s 18) .none (.some (.s 19)),.none,6,[5,3,4]⟩,⟨.some 21,.call (.s 15) [.s 16,.s 20],.none,7,[4,3,5,6,2,0,1]⟩] k) (.cond (.s 21) (.seq (.reg [⟨.some 22,.off 0 (.s 7),.none,0,[]⟩,⟨.some 23,.load (.s 22),.none,1,[]⟩,⟨.some 5,.move (.s 23),.none,2,[]⟩] k) .ret) .skip)))) (.reg [⟨.some 24,.bin .add (.s 10) (.c (.int .i64 1)),.none,0,[]⟩,⟨.some 10,.move (.s 24),.none,1,[]⟩] k))))))) (.seq (.reg [⟨.some 5,.move (.c (.int .i64 0)),.none,0,[]⟩] k) .ret))),res := [.slot 5]}
def c57 : AFunc :=
  {nt := 6,body := (.seq (.reg [⟨.some 0,.move (.c .nilslice),.none,0,[]⟩] [0]) (.seq (.reg [⟨.some 1,.build [.int .i64 0,.nilfunc] [(0,(1,(.c (.int .i64 6)))),(1,(1,(.c (.func 89 [] []))))],.none,0,[]⟩,⟨.some 2,.build [.int .i64 0,.nilfunc] [(0,(1,(.c (.int .i64 5)))),(1,(1,(.c (.func 91 [] []))))],.none,1,[]⟩,⟨.some 3,.build [.int .i64 0,.nilfunc] [(0,(1,(.c (.int .i64 7)))),(1,(1,(.c (.func 94 [] []))))],.none,2,[]⟩,⟨.some 4,.build [.int .i64 0,.nilfunc] [(0,(1,(.c (.int .i64 2)))),(1,(1,(.c (.func 95 [] []))))],.none,3,[]⟩,⟨.some 5,.mkslice 4 2 [.int .i64 0,.nilfunc,.int .i64 0,.nilfunc,.int .i64 0,.nilfunc,.int .i64 0,.nilfunc] [(0,(2,(.s 1))),(2,(2,(.s 2))),(4,(2,(.s 3))),(6,(2,(.s 4)))],.none,4,[]⟩,⟨.some 0,.move (.s 5),.none,5,[]⟩] [0]) .ret)),res := [.slot 0]}
def c58 : AFunc :=
  let k:List Nat:=[0,1,2,6,7,8,9,10,14,15,16,17,18,27]
  {nt := 31,body := (.seq (.reg [⟨.some 6,.move (.c (.int .i64 0)),.none,0,[]⟩,⟨.some 7,.move (.c (.int .i64 0)),.none,1,[]⟩] k) (.seq (.seq (.reg [⟨.some 11,.move (.s 0),.none,0,[]⟩,⟨.some 12,.len false (.s 11),.none,1,[]⟩,⟨.some 13,.move (.s 1),.none,2,[]⟩,⟨.some 14,.bin .gtr (.s 12) (.s 13),.none,3,[]⟩] k) (.cond (.s 14) (.seq (.reg [⟨.some 6,.move (.c (.int .i64 0)),.none,0,[]⟩,⟨.some 7,.move (.c (.int .i64 3)),.none,1,[]⟩] k) .ret) .skip)) (.seq (.seq (.reg [⟨.some 15,.move (.s 0),.none,0,[]⟩,⟨.some 16,.len false (.s 15),.none,1,[]⟩,⟨.some 17,.move (.c (.int .i64 0)),.none,2,[]⟩] k) (.block 0 (.loop (.seq (.reg [⟨.some 18,.bin .lss (.s 17) (.s 16),.none,0,[]⟩] k) (.seq (.cond (.s 18) .skip (.exit 0)) (.seq (.block 1 (.seq (.reg [⟨.some 19,.move (.s 17),.none,0,[]⟩,⟨.some 20,.idxSl 1 (.s 15) (.s 17),.none,1,[]⟩,⟨.some 21,.load (.s 20),.none,2,[]⟩,⟨.some 8,.move (.s 19),.none,3,[]⟩,⟨.some 9,.move (.s 21),.none,4,[]⟩] k) (.seq (.reg [⟨.some 22,.move (.s 2),.none,0,[]⟩,⟨.some 23,.move (.s 8),.none,1,[]⟩,⟨.some 24,.move (.s 9),.none,2,[]⟩,⟨.some 25,.call (.s 22) [.s 23,.s 24],.none,3,[]⟩,⟨.some 10,.move (.s 25),.none,4,[]⟩] k) (.seq (.reg [⟨.some 26,.move (.s 10),.none,0,[]⟩,⟨.some 27,.bin .neq (.s 26) (.c (.int .i64 0)),.none,1,[]⟩] k) (.cond (.s 27) (.seq (.reg [⟨.some 28,.move (.s 8),.none,0,[]⟩,⟨.some 29,.move (.s 10),.none,1,[]⟩,⟨.some 6,.move (.s 28),.none,2,[]⟩,⟨.some 7,.move (.s 29),.none,3,[]⟩] k) .ret) .skip))))) (.reg [⟨.some 30,.bin .add (.s 17) (.c (.int .i64 1)),.none,0,[]⟩,⟨.some 17,.move (.s 30),.none,1,[]⟩] k))))))) (.seq (.reg [⟨.some 6,.move (.c (.int .i64 0)),.none,0,[]⟩,⟨.some 7,.move (.c (.int .i64 0)),.none,1,[]⟩] k) .ret)))),res := [.slot 6,.slot 7]}
def c59 : AFunc :=
  let k:List Nat:=[1,2,5,6,13]
  {nt := 16,body := (.seq (.reg [⟨.some 5,.move (.c (.int .i64 0)),.none,0,[]⟩] k) (.seq (.block 0 (.seq (.reg [⟨.some 7,.move (.s 1),.none,0,[]⟩,⟨.some 8,.len false (.s 7),.none,1,[]⟩,⟨.some 9,.off 0 (.s 2),.none,2,[]⟩,⟨.some 10,.load (.s 9),.none,3,[]⟩,⟨.some 11,.len false (.s 10),.none,4,[]⟩,⟨.some 12,.bin .neq (.s 8) (.s 11),.none,5,[]⟩,⟨.some 6,.move (.s 12),.none,6,[]⟩] k) (.cond (.s 6) (.seq (.reg [⟨.some 5,.move (.c (.int .i64 3)),.none,0,[]⟩] k) .ret) (.seq (.reg [⟨.some 14,.move (.s 1),.none,0,[]⟩,⟨.some 15,.call (.c (.func 60 [] [])) [.c (.int .i64 (-1)),.c (.int .i64 120),.s 14],.none,1,[]⟩,⟨.some 13,.move (.s 15),.none,2,[]⟩] k) (.cond (.s 13) (.seq (.reg [⟨.some 5,.move (.c (.int .i64 7)),.none,0,[]⟩] k) .ret) .skip))))) (.seq (.reg [⟨.some 5,.move (.c (.int .i64 0)),.none,0,[]⟩] k) .ret))),res := [.slot 5]}
def c60 : AFunc :=
  {nt := 10,body := (.seq (.reg [⟨.some 3,.box (.s 0),.none,0,[]⟩,⟨.some 4,.box (.s 1),.none,1,[]⟩,⟨.some 6,.move (.c (.bool false)),.none,2,[]⟩] [0,1,2,3,4,6]) (.seq (.reg [⟨.some 7,.move (.s 2),.none,0,[]⟩,⟨.some 8,.func 97 [] [.s 3,.s 4],.none,1,[]⟩,⟨.some 9,.call (.c (.func 96 [] [])) [.s 7,.s 8],.none,2,[]⟩,⟨.some 6,.move (.s 9),.none,3,[]⟩] [0,1,2,3,4,6]) .ret)),res := [.slot 6]}
def c63 : AFunc :=
  let k:List Nat:=[0,1,2,3,6,7,10,11,12,13,21,27,41,45,51]
  {nt := 53,body := (.seq (.reg [⟨.some 3,.box (.s 0),.none,0,[]⟩,⟨.some 6,.move (.c .nilptr),.none,1,[]⟩,⟨.some 7,.move (.c (.int .i64 0)),.none,2,[]⟩] k) (.seq (.seq (.reg [⟨.some 15,.loadN 2 (.s 3),.none,0,[]⟩,⟨.some 16,.call (.c (.func 16 [] [])) [.s 15],.none,1,[]⟩,⟨.some 14,.move (.s 16),.none,2,[]⟩,⟨.some 17,.extract 0 (.s 14),.none,3,[]⟩,⟨.some 18,.extract 1 (.s 14),.none,4,[]⟩,⟨.some 19,.extract 2 (.s 14),.none,5,[]⟩,⟨.some 8,.move (.s 17),.none,6,[]⟩,⟨.some 9,.move (.s 18),.none,7,[]⟩,⟨.some 10,.move (.s 19),.none,8,[]⟩] k) (.seq (.reg [⟨.some 20,.move (.s 10),.none,0,[]⟩,⟨.some 21,.bin .neq (.s 20) (.c (.int .i64 0)),.none,1,[]⟩] k) (.cond (.s 21) (.seq (.reg [⟨.some 22,.move (.s 10),.none,0,[]⟩,⟨.some 6,.move (.c .nilptr),.none,1,[]⟩,⟨.some 7,.move (.s 22),.none,2,[]⟩] k) .ret) .skip))) (.seq (.seq (.reg [⟨.some 11,.move (.c (.int .i64 0)),.none,0,[]⟩] k) (.block 0 (.loop (.seq (.seq (.reg [⟨.some 23,.move (.s 11),.none,0,[]⟩,⟨.some 24,.bin .add (.s 23) (.c (.int .i64 1)),.none,1,[]⟩,⟨.some 25,.move (.s 2),.none,2,[]⟩,⟨.some 26,.len false (.s 25),.none,3,[]⟩,⟨.some 27,.bin .lss (.s 24) (.s 26),.none,4,[]⟩] k) (.cond (.s 27) .skip (.exit 0))) (.seq (.block 1 (.seq (.draw [⟨.some 30,.move (.s 2),.none,0,[]⟩,⟨.some 31,.move (.s 11),.none,1,[]⟩,⟨.some 32,.bin .add (.s 31) (.c (.int .i64 1)),.none,2,[1]⟩,⟨.some 33,.idxSl 1 (.s 30) (.s 32),.none,3,[1,2,0]⟩,⟨.some 34,.load (.s 33),.none,4,[0,2,1,3]⟩,⟨.some 35,.bin .sub (.s 34) (.c (.int .i64 1)),.none,5,[3,1,2,0,4]⟩,⟨.some 36,.move (.s 2),.none,6,[]⟩,⟨.some 37,.move (.s 11),.none,7,[]⟩,⟨.some 38,.idxSl 1 (.s 36) (.s 37),.none,8,[7,6]⟩,⟨.some 39,.load (.s 38),.none,9,[6,7,8]⟩,⟨.some 40,.mkslice 1 1 [.int .i64 0] [(0,(1,(.s 39)))],.none,10,[8,7,6,9]⟩,⟨.some 41,.call (.c (.func 60 [] [])) [.c (.int .i64 0),.s 35,.s 40],.none,11,[9,6,7,8,10,4,0,2,1,3,5]⟩] k) (.cond (.s 41) (.seq (.reg [⟨.some 6,.move (.c .nilptr),.none,0,[]⟩,⟨.some 7,.move (.c (.int .i64 4)),.none,1,[]⟩] k) .ret) .skip))) (.reg [⟨.some 28,.move
    (.s 11),.none,0,[]⟩,⟨.some 29,.bin .add (.s 28) (.c (.int .i64 2)),.none,1,[]⟩,⟨.some 11,.move (.s 29),.none,2,[]⟩] k)))))) (.seq (.seq (.reg [⟨.some 42,.move (.s 1),.none,0,[]⟩,⟨.some 43,.call (.s 42) [],.none,1,[]⟩,⟨.some 12,.move (.s 43),.none,2,[]⟩] k) (.seq (.reg [⟨.some 44,.move (.s 12),.none,0,[]⟩,⟨.some 45,.bin .neq (.s 44) (.c (.int .i64 0)),.none,1,[]⟩] k) (.cond (.s 45) (.seq (.reg [⟨.some 46,.move (.s 12),.none,0,[]⟩,⟨.some 6,.move (.c .nilptr),.none,1,[]⟩,⟨.some 7,.move (.s 46),.none,2,[]⟩] k) .ret) .skip))) (.seq (.reg [⟨.some 47,.loadN 2 (.s 3),.none,0,[]⟩,⟨.some 48,.call (.c (.func 81 [] [])) [.s 47,.c (.int .i64 0)],.none,1,[]⟩,⟨.some 13,.move (.s 48),.none,2,[]⟩] k) (.seq (.seq (.reg [⟨.some 49,.move (.s 13),.none,0,[]⟩,⟨.some 50,.call (.c (.func 82 [] [])) [.s 49],.none,1,[]⟩,⟨.some 51,.un .not (.s 50),.none,2,[]⟩] k) (.cond (.s 51) (.seq (.reg [⟨.some 6,.move (.c .nilptr),.none,0,[]⟩,⟨.some 7,.move (.c (.int .i64 8)),.none,1,[]⟩] k) .ret) .skip)) (.seq (.reg [⟨.some 52,.move (.s 13),.none,0,[]⟩,⟨.some 6,.move (.s 52),.none,1,[]⟩,⟨.some 7,.move (.c (.int .i64 0)),.none,2,[]⟩] k) .ret))))))),res := [.slot 6,.slot 7]}
def c64 : AFunc :=
  {nt := 1,body := (.seq (.reg [⟨.some 0,.move (.c (.int .i64 0)),.none,0,[]⟩] [0]) (.seq (.reg [⟨.some 0,.move (.c (.int .i64 0)),.none,0,[]⟩] [0]) .ret)),res := [.slot 0]}
def c65 : AFunc :=
  let k:List Nat:=[0,2,3,5,6]
  {nt := 19,body := (.seq (.reg [⟨.some 2,.alloc [.int .i64 0,.int .i64 0],.none,0,[]⟩] k) (.seq (.reg [⟨.some 4,.build [.int .i64 0,.int .i64 0] [(0,(1,(.c (.int .i64 9223372036854775807)))),(1,(1,(.c (.int .i64 (-1)))))],.none,0,[]⟩,⟨.none,.store 2 (.s 2) (.s 4),.none,1,[]⟩] k) (.seq (.seq (.reg [⟨.some 5,.move (.s 0),.none,0,[]⟩] k) (.block 0 (.range (.s 5) [6] (.reg [⟨.some 3,.alloc [.int .i64 0,.int .i64 0],.none,0,[]⟩,⟨.none,.store 2 (.s 3) (.s 6),.none,1,[]⟩] k) (.block 1 (.reg [⟨.some 7,.off 0 (.s 2),.none,0,[]⟩,⟨.some 8,.load (.s 7),.none,1,[]⟩,⟨.some 9,.off 0 (.s 3),.none,2,[]⟩,⟨.some 10,.load (.s 9),.none,3,[]⟩,⟨.some 11,.minInt (.s 8) [.s 10],.none,4,[]⟩,⟨.some 12,.off 1 (.s 2),.none,5,[]⟩,⟨.some 13,.load (.s 12),.none,6,[]⟩,⟨.some 14,.off 1 (.s 3),.none,7,[]⟩,⟨.some 15,.load (.s 14),.none,8,[]⟩,⟨.some 16,.maxInt (.s 13) [.s 15],.none,9,[]⟩,⟨.some 17,.build [.int .i64 0,.int .i64 0] [(0,(1,(.s 11))),(1,(1,(.s 16)))],.none,10,[]⟩,⟨.none,.store 2 (.s 2) (.s 17),.none,11,[]⟩] k))))) (.seq (.reg [⟨.some 18,.loadN 2 (.s 2),.none,0,[]⟩,⟨.none,.store 2 (.s 2) (.s 18),.none,1,[]⟩] k) .ret)))),res := [.cellN 2 2]}
def c66 : AFunc :=
  let k:List Nat:=[0,1,2,3,4,6,7,18]
  {nt := 19,body := (.seq (.reg [⟨.some 3,.box (.s 0),.none,0,[]⟩] k) (.seq (.reg [⟨.some 5,.load (.s 1),.none,0,[]⟩,⟨.some 6,.call (.c (.func 67 [] [])) [.s 5],.none,1,[]⟩] k) (.block 0 (.range (.s 6) [7,8] (.reg [⟨.some 4,.alloc [.int .i64 0,.int .i64 0,.int .i64 0],.none,0,[]⟩,⟨.none,.store 3 (.s 4) (.s 7),.none,1,[]⟩] k) (.block 1 (.seq (.draw [⟨.some 9,.load (.s 3),.none,0,[]⟩,⟨.some 10,.load (.s 2),.none,1,[]⟩,⟨.some 11,.idxArr 3 1 (.s 4) (.s 10),.none,2,[1]⟩,⟨.some 12,.load (.s 11),.none,3,[1,2]⟩,⟨.some 13,.load (.s 2),.none,4,[]⟩,⟨.some 14,.idxArr 3 1 (.s 4) (.s 13),.none,5,[4]⟩,⟨.some 15,.load (.s 14),.none,6,[4,5]⟩,⟨.some 16,.build [.int .i64 0,.int .i64 0] [(0,(1,(.s 12))),(1,(1,(.s 15)))],.none,7,[5,4,6,2,1,3]⟩,⟨.some 17,.call (.s 9) [.s 16],.none,8,[3,1,2,6,4,5,7,0]⟩,⟨.some 18,.un .not (.s 17),.none,9,[0,7,5,4,6,2,1,3,8]⟩] k) (.cond (.s 18) .ret .skip))))))),res := []}
def c67 : AFunc :=
  {nt := 4,body := (.seq (.reg [⟨.some 1,.box (.s 0),.none,0,[]⟩,⟨.some 2,.move (.c .nilfunc),.none,1,[]⟩] [0,1,2]) (.seq (.reg [⟨.some 3,.func 101 [] [.s 1],.none,0,[]⟩,⟨.some 2,.move (.s 3),.none,1,[]⟩] [0,1,2]) .ret)),res := [.slot 2]}
def c71 : AFunc :=
  let k:List Nat:=[0,1,2,3,5,7,9,15]
  {nt := 16,body := (.seq (.reg [⟨.some 3,.box (.s 0),.none,0,[]⟩] k) (.seq (.reg [⟨.some 6,.load (.s 1),.none,0,[]⟩,⟨.some 7,.call (.c (.func 67 [] [])) [.s 6],.none,1,[]⟩] k) (.block 0 (.range (.s 7) [8,9] (.reg [⟨.some 5,.alloc [.int .i64 0,.int .i64 0,.int .i64 0,.int .i64 0,.int .i64 0,.int .i64 0,.int .i64 0,.int .i64 0],.none,0,[]⟩,⟨.none,.store 8 (.s 5) (.s 9),.none,1,[]⟩] k) (.block 1 (.seq (.draw [⟨.some 10,.load (.s 3),.none,0,[]⟩,⟨.some 11,.load (.s 2),.none,1,[]⟩,⟨.some 12,.idxArr 4 2 (.s 5) (.s 11),.none,2,[1]⟩,⟨.some 13,.loadN 2 (.s 12),.none,3,[1,2]⟩,⟨.some 14,.call (.s 10) [.s 13],.none,4,[2,1,3,0]⟩,⟨.some 15,.un .not (.s 14),.none,5,[0,3,1,2,4]⟩] k) (.cond (.s 15) .ret .skip))))))),res := []}
def c73 : AFunc :=
  let k:List Nat:=[0,1,2,3,12]
  {nt := 13,body := (.seq (.reg [⟨.some 3,.move (.c (.int .i64 0)),.none,0,[]⟩] k) (.seq (.seq (.draw [⟨.some 4,.off 1 (.s 0),.none,0,[]⟩,⟨.some 5,.load (.s 4),.none,1,[0]⟩,⟨.some 6,.load (.s 1),.none,2,[]⟩,⟨.some 7,.idxSl 1 (.s 5) (.s 6),.none,3,[2,0,1]⟩,⟨.some 8,.load (.s 7),.none,4,[1,0,2,3]⟩,⟨.some 9,.load (.s 2),.none,5,[]⟩,⟨.some 10,.idxSl 1 (.s 8) (.s 9),.none,6,[5,3,2,0,1,4]⟩,⟨.some 11,.load (.s 10),.none,7,[4,1,0,2,3,5,6]⟩,⟨.some 12,.bin .neq (.s 11) (.c (.int .i64 (-1))),.none,8,[6,5,3,2,0,1,4,7]⟩] k) (.cond (.s 12) (.seq (.reg [⟨.some 3,.move (.c (.int .i64 5)),.none,0,[]⟩] k) .ret) .skip)) (.seq (.reg [⟨.some 3,.move (.c (.int .i64 0)),.none,0,[]⟩] k) .ret))),res := [.slot 3]}
def c74 : AFunc :=
  let k:List Nat:=[0,1,2,3,4,5,6,7,8,9,16,17,18,59]
  {nt := 60,body := (.seq (.reg [⟨.some 5,.box (.s 0),.none,0,[]⟩] k) (.seq (.reg [⟨.some 10,.off 0 (.s 1),.none,0,[]⟩,⟨.some 11,.load (.s 10),.none,1,[]⟩,⟨.some 12,.load (.s 2),.none,2,[]⟩,⟨.some 13,.idxSl 4 (.s 11) (.s 12),.none,3,[]⟩,⟨.some 14,.loadN 4 (.s 13),.none,4,[]⟩,⟨.some 6,.alloc [.str (bs []),.int .i64 0,.int .i64 0,.int .i64 0],.none,5,[]⟩,⟨.none,.store 4 (.s 6) (.s 14),.none,6,[]⟩] k) (.seq (.reg [⟨.some 15,.load (.s 3),.none,0,[]⟩,⟨.some 16,.call (.c (.func 67 [] [])) [.s 15],.none,1,[]⟩] k) (.block 0 (.range (.s 16) [17,18] (.seq (.reg [⟨.some 7,.alloc [.int .i64 0,.int .i64 0,.int .i64 0],.none,0,[]⟩,⟨.none,.store 3 (.s 7) (.s 17),.none,1,[]⟩] k) (.reg [⟨.some 8,.alloc [.int .i64 0,.int .i64 0,.int .i64 0,.int .i64 0,.int .i64 0,.int .i64 0,.int .i64 0,.int .i64 0],.none,0,[]⟩,⟨.none,.store 8 (.s 8) (.s 18),.none,1,[]⟩] k)) (.block 1 (.seq (.draw [⟨.some 19,.load (.s 4),.none,0,[]⟩,⟨.some 20,.idxArr 4 2 (.s 8) (.s 19),.none,1,[0]⟩,⟨.some 21,.off 0 (.s 20),.none,2,[0,1]⟩,⟨.some 22,.load (.s 21),.none,3,[1,0,2]⟩,⟨.some 23,.load (.s 2),.none,4,[]⟩,⟨.some 24,.idxArr 3 1 (.s 7) (.s 23),.none,5,[4]⟩,⟨.some 25,.load (.s 24),.none,6,[4,5]⟩,⟨.some 26,.bin .add (.s 22) (.s 25),.none,7,[5,4,6,2,0,1,3]⟩,⟨.some 27,.bin .sub (.s 26) (.c (.int .i64 1)),.none,8,[3,1,0,2,6,4,5,7]⟩,⟨.some 28,.load (.s 2),.none,9,[]⟩,⟨.some 29,.idxArr 3 1 (.s 7) (.s 28),.none,10,[9]⟩,⟨.some 30,.load (.s 29),.none,11,[9,10]⟩,⟨.some 31,.bin .quo (.s 27) (.s 30),.none,12,[10,9,11,7,5,4,6,2,0,1,3,8]⟩,⟨.some 32,.off 3 (.s 6),.none,13,[]⟩,⟨.some 33,.load (.s 32),.none,14,[13]⟩,⟨.some 34,.bin .sub (.s 31) (.s 33),.none,15,[13,14,8,3,1,0,2,6,4,5,7,11,9,10,12]⟩,⟨.some 35,.maxInt (.c (.int .i64 0)) [.s 34],.none,16,[12,10,9,11,7,5,4,6,2,0,1,3,8,14,13,15]⟩,⟨.some 36,.load (.s 4),.none,17,[]⟩,⟨.some 37,.idxArr 4 2 (.s 8) (.s 36),.none,18,[17]⟩,⟨.some 38,.off 1 (.s 37),.none,19,[17,18]⟩,⟨.some 39,.load (.s 38),.none,20,[18,17,19]⟩,⟨.some 40,.load (.s 2),.none,21,[]⟩,⟨.some 41,.idxArr 3 1 (.s 7)
    (.s 40),.none,22,[21]⟩,⟨.some 42,.load (.s 41),.none,23,[21,22]⟩,⟨.some 43,.bin .quo (.s 39) (.s 42),.none,24,[22,21,23,19,17,18,20]⟩,⟨.some 44,.off 3 (.s 6),.none,25,[]⟩,⟨.some 45,.load (.s 44),.none,26,[25]⟩,⟨.some 46,.bin .add (.s 43) (.s 45),.none,27,[25,26,20,18,17,19,23,21,22,24]⟩,⟨.some 47,.minInt (.c (.int .i64 120)) [.s 46],.none,28,[24,22,21,23,19,17,18,20,26,25,27]⟩,⟨.some 48,.build [.int .i64 0,.int .i64 0] [(0,(1,(.s 35))),(1,(1,(.s 47)))],.none,29,[27,25,26,20,18,17,19,23,21,22,24,28,15,13,14,8,3,1,0,2,6,4,5,7,11,9,10,12,16]⟩,⟨.some 9,.alloc [.int .i64 0,.int .i64 0],.none,30,[]⟩,⟨.none,.store 2 (.s 9) (.s 48),.none,31,[16,12,10,9,11,7,5,4,6,2,0,1,3,8,14,13,15,28,24,22,21,23,19,17,18,20,26,25,27,29,30]⟩] k) (.seq (.reg [⟨.some 49,.off 0 (.s 9),.none,0,[]⟩,⟨.some 50,.load (.s 49),.none,1,[]⟩,⟨.some 51,.off 1 (.s 9),.none,2,[]⟩,⟨.some 52,.load (.s 51),.none,3,[]⟩,⟨.some 53,.bin .leq (.s 50) (.s 52),.none,4,[]⟩,⟨.some 54,.move (.s 53),.none,5,[]⟩,⟨.some 55,.load (.s 5),.some (54,true),6,[]⟩,⟨.some 56,.loadN 2 (.s 9),.some (54,true),7,[]⟩,⟨.some 57,.call (.s 55) [.s 56],.some (54,true),8,[]⟩,⟨.some 58,.un .not (.s 57),.some (54,true),9,[]⟩,⟨.some 59,.pick (.s 54) (.s 58) (.c (.bool false)),.none,10,[]⟩] k) (.cond (.s 59) .ret .skip))))))))),res := []}
def c75 : AFunc :=
  let k:List Nat:=[0,1,2,4,5,6,7,8,9,11,12,28,37]
  {nt := 41,body := (.seq (.reg [⟨.some 4,.box (.s 1),.none,0,[]⟩,⟨.some 5,.box (.s 2),.none,1,[]⟩,⟨.some 6,.alloc [.int .i64 0,.int .i64 0],.none,2,[]⟩,⟨.some 7,.alloc [.int .i64 0,.int .i64 0],.none,3,[]⟩] k) (.seq (.seq (.reg [⟨.some 10,.move (.s 0),.none,0,[]⟩,⟨.some 11,.call (.c (.func 67 [] [])) [.s 10],.none,1,[]⟩] k) (.block 0 (.range (.s 11) [12,13] (.reg [⟨.some 8,.alloc [.int .i64 0,.int .i64 0,.int .i64 0],.none,0,[]⟩,⟨.none,.store 3 (.s 8) (.s 12),.none,1,[]⟩] k) (.block 1 (.seq (.draw [⟨.some 14,.load (.s 4),.none,0,[]⟩,⟨.some 15,.idxArr 3 1 (.s 8) (.s 14),.none,1,[0]⟩,⟨.some 16,.load (.s 15),.none,2,[0,1]⟩,⟨.some 17,.load (.s 5),.none,3,[]⟩,⟨.some 18,.idxArr 3 1 (.s 8) (.s 17),.none,4,[3]⟩,⟨.some 19,.load (.s 18),.none,5,[3,4]⟩,⟨.some 9,.alloc [.int .i64 0,.int .i64 0],.none,7,[]⟩,⟨.some 20,.call (.c (.func 77 [] [])) [.s 16,.s 19],.none,6,[4,3,5,1,0,2]⟩,⟨.none,.store 2 (.s 9) (.s 20),.none,8,[2,0,1,5,3,4,6,7]⟩] k) (.seq (.seq (.reg [⟨.some 21,.off 1 (.s 6),.none,0,[]⟩,⟨.some 22,.load (.s 21),.none,1,[]⟩,⟨.some 23,.bin .eql (.s 22) (.c (.int .i64 0)),.none,2,[]⟩,⟨.some 24,.move (.s 23),.none,3,[]⟩,⟨.some 25,.loadN 2 (.s 9),.some (24,false),4,[]⟩,⟨.some 26,.loadN 2 (.s 6),.some (24,false),5,[]⟩,⟨.some 27,.call (.c (.func 78 [] [])) [.s 25,.s 26],.some (24,false),6,[]⟩,⟨.some 28,.pick (.s 24) (.c (.bool true)) (.s 27),.none,7,[]⟩] k) (.cond (.s 28) (.reg [⟨.some 29,.loadN 2 (.s 9),.none,0,[]⟩,⟨.none,.store 2 (.s 6) (.s 29),.none,1,[]⟩] k) .skip)) (.seq (.reg [⟨.some 30,.off 1 (.s 7),.none,0,[]⟩,⟨.some 31,.load (.s 30),.none,1,[]⟩,⟨.some 32,.bin .eql (.s 31) (.c (.int .i64 0)),.none,2,[]⟩,⟨.some 33,.move (.s 32),.none,3,[]⟩,⟨.some 34,.loadN 2 (.s 7),.some (33,false),4,[]⟩,⟨.some 35,.loadN 2 (.s 9),.some (33,false),5,[]⟩,⟨.some 36,.call (.c (.func 78 [] [])) [.s 34,.s 35],.some (33,false),6,[]⟩,⟨.some 37,.pick (.s 33) (.c (.bool true)) (.s 36),.none,7,[]⟩] k) (.cond (.s 37) (.reg [⟨.some 38,.loadN 2 (.s 9),.none,0,[]⟩,⟨.none,.store 2 (.s 7) (.s
    38),.none,1,[]⟩] k) .skip)))))))) (.seq (.draw [⟨.some 39,.loadN 2 (.s 6),.none,0,[]⟩,⟨.some 40,.loadN 2 (.s 7),.none,1,[]⟩,⟨.none,.store 2 (.s 6) (.s 39),.none,2,[0]⟩,⟨.none,.store 2 (.s 7) (.s 40),.none,3,[0,2,1]⟩] k) .ret))),res := [.cellN 2 6,.cellN 2 7]}
def c77 : AFunc :=
  let k:List Nat:=[0,1,4,5,6,10]
  {nt := 22,body := (.seq (.reg [⟨.some 4,.alloc [.int .i64 0,.int .i64 0],.none,0,[]⟩] k) (.seq (.reg [⟨.some 7,.move (.s 0),.none,0,[]⟩,⟨.some 8,.move (.s 1),.none,1,[]⟩,⟨.some 5,.move (.s 7),.none,2,[]⟩,⟨.some 6,.move (.s 8),.none,3,[]⟩] k) (.seq (.block 0 (.loop (.seq (.seq (.reg [⟨.some 9,.move (.s 6),.none,0,[]⟩,⟨.some 10,.bin .neq (.s 9) (.c (.int .i64 0)),.none,1,[]⟩] k) (.cond (.s 10) .skip (.exit 0))) (.block 1 (.draw [⟨.some 11,.move (.s 6),.none,0,[]⟩,⟨.some 12,.move (.s 5),.none,1,[]⟩,⟨.some 13,.move (.s 6),.none,2,[]⟩,⟨.some 14,.bin .rem (.s 12) (.s 13),.none,3,[2,1]⟩,⟨.some 5,.move (.s 11),.none,4,[1,0]⟩,⟨.some 6,.move (.s 14),.none,5,[0,4,1,2,3]⟩] k))))) (.seq (.draw [⟨.some 15,.move (.s 0),.none,0,[]⟩,⟨.some 16,.move (.s 5),.none,1,[]⟩,⟨.some 17,.bin .quo (.s 15) (.s 16),.none,2,[1,0]⟩,⟨.some 18,.move (.s 1),.none,3,[]⟩,⟨.some 19,.move (.s 5),.none,4,[]⟩,⟨.some 20,.bin .quo (.s 18) (.s 19),.none,5,[4,3]⟩,⟨.some 21,.build [.int .i64 0,.int .i64 0] [(0,(1,(.s 17))),(1,(1,(.s 20)))],.none,6,[3,4,5,0,1,2]⟩,⟨.none,.store 2 (.s 4) (.s 21),.none,7,[2,1,0,5,4,3,6]⟩] k) .ret)))),res := [.cellN 2 4]}
def c78 : AFunc :=
  {nt := 16,body := (.seq (.reg [⟨.some 2,.box (.s 0),.none,0,[]⟩,⟨.some 3,.box (.s 1),.none,1,[]⟩,⟨.some 4,.move (.c (.bool false)),.none,2,[]⟩] [0,1,2,3,4]) (.seq (.reg [⟨.some 5,.off 0 (.s 2),.none,0,[]⟩,⟨.some 6,.load (.s 5),.none,1,[]⟩,⟨.some 7,.off 1 (.s 3),.none,2,[]⟩,⟨.some 8,.load (.s 7),.none,3,[]⟩,⟨.some 9,.bin .mul (.s 6) (.s 8),.none,4,[]⟩,⟨.some 10,.off 0 (.s 3),.none,5,[]⟩,⟨.some 11,.load (.s 10),.none,6,[]⟩,⟨.some 12,.off 1 (.s 2),.none,7,[]⟩,⟨.some 13,.load (.s 12),.none,8,[]⟩,⟨.some 14,.bin .mul (.s 11) (.s 13),.none,9,[]⟩,⟨.some 15,.bin .lss (.s 9) (.s 14),.none,10,[]⟩,⟨.some 4,.move (.s 15),.none,11,[]⟩] [0,1,2,3,4]) .ret)),res := [.slot 4]}
def c79 : AFunc :=
  let k:List Nat:=[0,1,2,3,4,5,6,7,8,16]
  {nt := 18,body := (.seq (.reg [⟨.some 3,.box (.s 0),.none,0,[]⟩,⟨.some 4,.box (.s 1),.none,1,[]⟩,⟨.some 5,.box (.s 2),.none,2,[]⟩,⟨.some 6,.move (.c .nilslice),.none,3,[]⟩] k) (.seq (.reg [⟨.some 7,.alloc [.nilslice],.none,0,[]⟩] k) (.seq (.reg [⟨.some 8,.alloc [.nilfunc],.none,0,[]⟩] k) (.seq (.reg [⟨.some 9,.func 104 [] [.s 7,.s 4,.s 5,.s 3,.s 8],.none,0,[]⟩,⟨.none,.store 1 (.s 8) (.s 9),.none,1,[]⟩] k) (.seq (.seq (.reg [⟨.some 10,.load (.s 4),.none,0,[]⟩,⟨.some 11,.bin .eql (.s 10) (.c (.int .i64 0)),.none,1,[]⟩,⟨.some 12,.move (.s 11),.none,2,[]⟩,⟨.some 13,.load (.s 8),.some (12,false),3,[]⟩,⟨.some 14,.call (.s 13) [.c (.int .i64 0),.c (.int .i64 0)],.some (12,false),4,[]⟩,⟨.some 15,.un .not (.s 14),.some (12,false),5,[]⟩,⟨.some 16,.pick (.s 12) (.c (.bool true)) (.s 15),.none,6,[]⟩] k) (.cond (.s 16) (.seq (.reg [⟨.some 6,.move (.c .nilslice),.none,0,[]⟩] k) .ret) .skip)) (.seq (.reg [⟨.some 17,.load (.s 7),.none,0,[]⟩,⟨.some 6,.move (.s 17),.none,1,[]⟩] k) .ret)))))),res := [.slot 6]}
def c80 : AFunc :=
  {nt := 8,body := (.seq (.reg [⟨.some 3,.move (.c (.bool false)),.none,0,[]⟩] [0,1,3]) (.seq (.reg [⟨.some 4,.loadN 2 (.s 1),.none,0,[]⟩,⟨.some 5,.move (.s 0),.none,1,[]⟩,⟨.some 6,.call (.c (.func 81 [] [])) [.s 4,.s 5],.none,2,[]⟩,⟨.some 7,.call (.c (.func 82 [] [])) [.s 6],.none,3,[]⟩,⟨.some 3,.move (.s 7),.none,4,[]⟩] [0,1,3]) .ret)),res := [.slot 3]}
def c81 : AFunc :=
  {nt := 10,body := (.seq (.reg [⟨.some 2,.box (.s 0),.none,0,[]⟩,⟨.some 4,.move (.c .nilptr),.none,1,[]⟩] [0,1,2,4]) (.seq (.reg [⟨.some 5,.loadN 2 (.s 2),.none,0,[]⟩,⟨.some 6,.move (.s 1),.none,1,[]⟩,⟨.some 7,.makeMap,.none,2,[]⟩,⟨.some 8,.build [.nilslice,.nilslice,.int .i64 0,.nilmap] [(0,(2,(.s 5))),(2,(1,(.s 6))),(3,(1,(.s 7)))],.none,3,[]⟩,⟨.some 9,.box (.s 8),.none,4,[]⟩,⟨.some 4,.move (.s 9),.none,5,[]⟩] [0,1,2,4]) .ret)),res := [.slot 4]}
def c82 : AFunc :=
  let k:List Nat:=[0,2,4]
  {nt := 7,body := (.seq (.reg [⟨.some 2,.alloc [.bool false],.none,0,[]⟩] k) (.seq (.seq (.reg [⟨.some 3,.move (.s 0),.none,0,[]⟩,⟨.some 4,.call (.c (.func 67 [] [])) [.s 3],.none,1,[]⟩] k) (.block 0 (.range (.s 4) [5,6] .skip (.block 1 (.seq (.reg [⟨.none,.store 1 (.s 2) (.c (.bool true)),.none,0,[]⟩] k) .ret))))) (.seq (.reg [⟨.none,.store 1 (.s 2) (.c (.bool false)),.none,0,[]⟩] k) .ret))),res := [.cell 2]}
def c89 : AFunc :=
  {nt := 9,body := (.seq (.reg [⟨.some 2,.box (.s 0),.none,0,[]⟩,⟨.some 4,.move (.c (.bool false)),.none,1,[]⟩] [0,2,4]) (.seq (.reg [⟨.some 5,.off 0 (.s 2),.none,0,[]⟩,⟨.some 6,.load (.s 5),.none,1,[]⟩,⟨.some 7,.call (.c (.func 90 [] [])) [.s 6],.none,2,[]⟩,⟨.some 8,.un .not (.s 7),.none,3,[]⟩,⟨.some 4,.move (.s 8),.none,4,[]⟩] [0,2,4]) .ret)),res := [.slot 4]}
def c90 : AFunc :=
  let k:List Nat:=[0,2,3,4,6,7,8,11,18]
  {nt := 38,body := (.seq (.reg [⟨.some 2,.move (.c (.bool false)),.none,0,[]⟩] k) (.seq (.seq (.reg [⟨.some 5,.move (.s 0),.none,0,[]⟩,⟨.some 6,.rangeStr (.s 5),.none,1,[]⟩] k) (.block 0 (.loop (.seq (.reg [⟨.some 7,.nextStr (.s 6),.none,0,[]⟩,⟨.some 8,.extract 0 (.s 7),.none,1,[]⟩] k) (.seq (.cond (.s 8) .skip (.exit 0)) (.block 1 (.seq (.reg [⟨.some 9,.extract 1 (.s 7),.none,0,[]⟩,⟨.some 10,.extract 2 (.s 7),.none,1,[]⟩,⟨.some 3,.move (.s 9),.none,2,[]⟩,⟨.some 4,.move (.s 10),.none,3,[]⟩] k) (.block 2 (.seq (.reg [⟨.some 12,.move (.s 4),.none,0,[]⟩,⟨.some 13,.bin .geq (.s 12) (.c (.int .i32 97)),.none,1,[]⟩,⟨.some 14,.move (.s 13),.none,2,[]⟩,⟨.some 15,.move (.s 4),.some (14,true),3,[]⟩,⟨.some 16,.bin .leq (.s 15) (.c (.int .i32 122)),.some (14,true),4,[]⟩,⟨.some 17,.pick (.s 14) (.s 16) (.c (.bool false)),.none,5,[]⟩,⟨.some 11,.move (.s 17),.none,6,[]⟩] k) (.cond (.s 11) .skip (.seq (.reg [⟨.some 19,.move (.s 3),.none,0,[]⟩,⟨.some 20,.bin .gtr (.s 19) (.c (.int .i64 0)),.none,1,[]⟩,⟨.some 21,.move (.s 20),.none,2,[]⟩,⟨.some 22,.move (.s 4),.some (21,true),3,[]⟩,⟨.some 23,.bin .eql (.s 22) (.c (.int .i32 46)),.some (21,true),4,[]⟩,⟨.some 24,.move (.s 23),.some (21,true),5,[]⟩,⟨.some 25,.move (.s 4),.some (24,false),6,[]⟩,⟨.some 26,.bin .geq (.s 25) (.c (.int .i32 48)),.some (24,false),7,[]⟩,⟨.some 27,.move (.s 26),.some (24,false),8,[]⟩,⟨.some 28,.move (.s 4),.some (27,true),9,[]⟩,⟨.some 29,.bin .leq (.s 28) (.c (.int .i32 57)),.some (27,true),10,[]⟩,⟨.some 30,.pick (.s 27) (.s 29) (.c (.bool false)),.some (24,false),11,[]⟩,⟨.some 31,.pick (.s 24) (.c (.bool true)) (.s 30),.some (21,true),12,[]⟩,⟨.some 32,.pick (.s 21) (.s 31) (.c (.bool false)),.none,13,[]⟩,⟨.some 18,.move (.s 32),.none,14,[]⟩] k) (.cond (.s 18) .skip (.seq (.reg [⟨.some 2,.move (.c (.bool false)),.none,0,[]⟩] k) .ret))))))))))))) (.seq (.reg [⟨.some 33,.move (.s 0),.none,0,[]⟩,⟨.some 34,.len true (.s 33),.none,1,[]⟩,⟨.some 35,.mkslice 1 1 [.int .i64 0] [(0,(1,(.s 34)))],.none,2,[]⟩,⟨.some
    36,.call (.c (.func 105 [] [])) [.c (.int .i64 1),.c (.int .i64 16),.s 35],.none,3,[]⟩,⟨.some 37,.un .not (.s 36),.none,4,[]⟩,⟨.some 2,.move (.s 37),.none,5,[]⟩] k) .ret))),res := [.slot 2]}
def c91 : AFunc :=
  {nt := 8,body := (.seq (.reg [⟨.some 2,.box (.s 0),.none,0,[]⟩,⟨.some 4,.move (.c (.bool false)),.none,1,[]⟩] [0,1,2,4]) (.seq (.reg [⟨.some 5,.move (.s 1),.none,0,[]⟩,⟨.some 6,.func 93 [] [.s 2],.none,1,[]⟩,⟨.some 7,.call (.c (.func 92 [] [])) [.s 5,.s 6],.none,2,[]⟩,⟨.some 4,.move (.s 7),.none,3,[]⟩] [0,1,2,4]) .ret)),res := [.slot 4]}
def c92 : AFunc :=
  {nt := 9,body := (.seq (.reg [⟨.some 4,.move (.c (.bool false)),.none,0,[]⟩] [0,1,4]) (.seq (.reg [⟨.some 5,.move (.s 0),.none,0,[]⟩,⟨.some 6,.move (.s 1),.none,1,[]⟩,⟨.some 7,.call (.c (.func 106 [] [])) [.s 5,.s 6],.none,2,[]⟩,⟨.some 8,.bin .geq (.s 7) (.c (.int .i64 0)),.none,3,[]⟩,⟨.some 4,.move (.s 8),.none,4,[]⟩] [0,1,4]) .ret)),res := [.slot 4]}
def c93 : AFunc :=
  {nt := 9,body := (.seq (.reg [⟨.some 2,.box (.s 0),.none,0,[]⟩,⟨.some 3,.move (.c (.bool false)),.none,1,[]⟩] [0,1,2,3]) (.seq (.reg [⟨.some 4,.off 0 (.s 2),.none,0,[]⟩,⟨.some 5,.load (.s 4),.none,1,[]⟩,⟨.some 6,.off 0 (.s 1),.none,2,[]⟩,⟨.some 7,.load (.s 6),.none,3,[]⟩,⟨.some 8,.bin .eql (.s 5) (.s 7),.none,4,[]⟩,⟨.some 3,.move (.s 8),.none,5,[]⟩] [0,1,2,3]) .ret)),res := [.slot 3]}
def c94 : AFunc :=
  {nt := 19,body := (.seq (.reg [⟨.some 2,.box (.s 0),.none,0,[]⟩,⟨.some 4,.move (.c (.bool false)),.none,1,[]⟩] [0,2,4]) (.seq (.reg [⟨.some 5,.off 1 (.s 2),.none,0,[]⟩,⟨.some 6,.off 0 (.s 5),.none,1,[]⟩,⟨.some 7,.load (.s 6),.none,2,[]⟩,⟨.some 8,.off 1 (.s 2),.none,3,[]⟩,⟨.some 9,.off 1 (.s 8),.none,4,[]⟩,⟨.some 10,.load (.s 9),.none,5,[]⟩,⟨.some 11,.mkslice 2 1 [.int .i64 0,.int .i64 0] [(0,(1,(.s 7))),(1,(1,(.s 10)))],.none,6,[]⟩,⟨.some 12,.call (.c (.func 60 [] [])) [.c (.int .i64 1),.c (.int .i64 300),.s 11],.none,7,[]⟩,⟨.some 13,.move (.s 12),.none,8,[]⟩,⟨.some 14,.off 3 (.s 2),.some (13,false),9,[]⟩,⟨.some 15,.load (.s 14),.some (13,false),10,[]⟩,⟨.some 16,.mkslice 1 1 [.int .i64 0] [(0,(1,(.s 15)))],.some (13,false),11,[]⟩,⟨.some 17,.call (.c (.func 60 [] [])) [.c (.int .i64 0),.c (.int .i64 9),.s 16],.some (13,false),12,[]⟩,⟨.some 18,.pick (.s 13) (.c (.bool true)) (.s 17),.none,13,[]⟩,⟨.some 4,.move (.s 18),.none,14,[]⟩] [0,2,4]) .ret)),res := [.slot 4]}
def c95 : AFunc :=
  {nt := 14,body := (.seq (.reg [⟨.some 2,.box (.s 0),.none,0,[]⟩,⟨.some 4,.move (.c (.bool false)),.none,1,[]⟩] [0,2,4]) (.seq (.reg [⟨.some 5,.off 1 (.s 2),.none,0,[]⟩,⟨.some 6,.off 1 (.s 5),.none,1,[]⟩,⟨.some 7,.load (.s 6),.none,2,[]⟩,⟨.some 8,.off 1 (.s 2),.none,3,[]⟩,⟨.some 9,.off 0 (.s 8),.none,4,[]⟩,⟨.some 10,.load (.s 9),.none,5,[]⟩,⟨.some 11,.bin .sub (.s 7) (.s 10),.none,6,[]⟩,⟨.some 12,.mkslice 1 1 [.int .i64 0] [(0,(1,(.s 11)))],.none,7,[]⟩,⟨.some 13,.call (.c (.func 60 [] [])) [.c (.int .i64 0),.c (.int .i64 6),.s 12],.none,8,[]⟩,⟨.some 4,.move (.s 13),.none,9,[]⟩] [0,2,4]) .ret)),res := [.slot 4]}
def c96 : AFunc :=
  {nt := 9,body := (.seq (.reg [⟨.some 4,.move (.c (.bool false)),.none,0,[]⟩] [0,1,4]) (.seq (.reg [⟨.some 5,.move (.s 0),.none,0,[]⟩,⟨.some 6,.move (.s 1),.none,1,[]⟩,⟨.some 7,.call (.c (.func 107 [] [])) [.s 5,.s 6],.none,2,[]⟩,⟨.some 8,.bin .geq (.s 7) (.c (.int .i64 0)),.none,3,[]⟩,⟨.some 4,.move (.s 8),.none,4,[]⟩] [0,1,4]) .ret)),res := [.slot 4]}
def c97 : AFunc :=
  {nt := 13,body := (.seq (.reg [⟨.some 4,.move (.c (.bool false)),.none,0,[]⟩] [0,1,2,4]) (.seq (.reg [⟨.some 5,.move (.s 0),.none,0,[]⟩,⟨.some 6,.load (.s 1),.none,1,[]⟩,⟨.some 7,.bin .lss (.s 5) (.s 6),.none,2,[]⟩,⟨.some 8,.move (.s 7),.none,3,[]⟩,⟨.some 9,.move (.s 0),.some (8,false),4,[]⟩,⟨.some 10,.load (.s 2),.some (8,false),5,[]⟩,⟨.some 11,.bin .gtr (.s 9) (.s 10),.some (8,false),6,[]⟩,⟨.some 12,.pick (.s 8) (.c (.bool true)) (.s 11),.none,7,[]⟩,⟨.some 4,.move (.s 12),.none,8,[]⟩] [0,1,2,4]) .ret)),res := [.slot 4]}
def c101 : AFunc :=
  let k:List Nat:=[0,1,2,3,4,5]
  {nt := 11,body := (.seq (.reg [⟨.some 2,.box (.s 0),.none,0,[]⟩] k) (.seq (.reg [⟨.some 6,.load (.s 1),.none,0,[]⟩,⟨.some 7,.func 102 [.s 6] [],.none,1,[]⟩,⟨.some 3,.alloc [.nilfunc],.none,2,[]⟩,⟨.none,.store 1 (.s 3) (.s 7),.none,3,[]⟩] k) (.seq (.reg [⟨.some 4,.alloc [.int .i64 0,.int .i64 0,.int .i64 0],.none,0,[]⟩] k) (.seq (.reg [⟨.some 5,.alloc [.nilfunc],.none,0,[]⟩] k) (.seq (.reg [⟨.some 8,.func 103 [] [.s 1,.s 4,.s 5,.s 3,.s 2],.none,0,[]⟩,⟨.none,.store 1 (.s 5) (.s 8),.none,1,[]⟩] k) (.reg [⟨.some 9,.load (.s 5),.none,0,[]⟩,⟨.some 10,.call (.s 9) [.c (.int .i64 0)],.none,1,[]⟩] k)))))),res := []}
def c102 : AFunc :=
  let k:List Nat:=[0,1,2,5,6,7,8,9,18,19,20,21,45]
  {nt := 79,body := (.seq (.reg [⟨.some 5,.box (.s 2),.none,0,[]⟩,⟨.some 6,.alloc [.int .i64 0,.int .i64 0],.none,1,[]⟩] k) (.seq (.reg [⟨.some 10,.off 1 (.s 6),.none,0,[]⟩,⟨.none,.store 1 (.s 10) (.c (.int .i64 39999)),.none,1,[]⟩] k) (.seq (.seq (.reg [⟨.some 11,.move (.s 0),.none,0,[]⟩,⟨.some 12,.nilCheck (.s 11),.none,1,[]⟩,⟨.some 13,.off 0 (.s 12),.none,2,[]⟩,⟨.some 14,.off 1 (.s 13),.none,3,[]⟩,⟨.some 15,.load (.s 14),.none,4,[]⟩,⟨.some 16,.move (.s 1),.none,5,[]⟩,⟨.some 17,.idxSl 1 (.s 15) (.s 16),.none,6,[]⟩,⟨.some 18,.load (.s 17),.none,7,[]⟩,⟨.some 19,.len false (.s 18),.none,8,[]⟩,⟨.some 20,.move (.c (.int .i64 0)),.none,9,[]⟩] k) (.block 0 (.loop (.seq (.reg [⟨.some 21,.bin .lss (.s 20) (.s 19),.none,0,[]⟩] k) (.seq (.cond (.s 21) .skip (.exit 0)) (.seq (.block 1 (.seq (.reg [⟨.some 22,.move (.s 20),.none,0,[]⟩,⟨.some 23,.idxSl 1 (.s 18) (.s 20),.none,1,[]⟩,⟨.some 24,.load (.s 23),.none,2,[]⟩,⟨.some 7,.move (.s 22),.none,3,[]⟩,⟨.some 8,.move (.s 24),.none,4,[]⟩] k) (.seq (.seq (.draw [⟨.some 25,.move (.s 8),.none,0,[]⟩,⟨.some 26,.bin .eql (.s 25) (.c (.int .i64 (-1))),.none,1,[0]⟩,⟨.some 27,.move (.s 26),.none,2,[0,1]⟩,⟨.some 28,.move (.s 0),.some (27,false),3,[1,0,2]⟩,⟨.some 29,.nilCheck (.s 28),.some (27,false),4,[2,0,1,3]⟩,⟨.some 30,.off 2 (.s 29),.some (27,false),5,[3,1,0,2,4]⟩,⟨.some 31,.load (.s 30),.some (27,false),6,[4,2,0,1,3,5]⟩,⟨.some 32,.move (.s 1),.some (27,false),7,[1,0,2]⟩,⟨.some 33,.move (.s 0),.some (27,false),8,[1,0,2]⟩,⟨.some 34,.nilCheck (.s 33),.some (27,false),9,[2,0,1,8]⟩,⟨.some 35,.off 0 (.s 34),.some (27,false),10,[8,1,0,2,9]⟩,⟨.some 36,.off 0 (.s 35),.some (27,false),11,[9,2,0,1,8,10]⟩,⟨.some 37,.load (.s 36),.some (27,false),12,[10,8,1,0,2,9,11]⟩,⟨.some 38,.len false (.s 37),.some (27,false),13,[11,9,2,0,1,8,10,12]⟩,⟨.some 39,.bin .mul (.s 32) (.s 38),.some (27,false),14,[12,10,8,9,11,13,2,0,1,7]⟩,⟨.some 40,.move (.s 7),.some (27,false),15,[1,0,2]⟩,⟨.some 41,.bin .add (.s 39) (.s 40),.some
    (27,false),16,[15,7,1,0,2,13,11,9,8,10,12,14]⟩,⟨.some 42,.bin .shr (.s 31) (.s 41),.some (27,false),17,[14,12,10,8,9,11,13,7,15,16,5,3,1,0,2,4,6]⟩,⟨.some 43,.bin .and (.s 42) (.c (.int .i64 1)),.some (27,false),18,[6,4,2,0,1,3,5,16,15,7,13,11,9,8,10,12,14,17]⟩,⟨.some 44,.bin .eql (.s 43) (.c (.int .i64 1)),.some (27,false),19,[17,14,12,10,8,9,11,13,7,15,16,5,3,1,0,2,4,6,18]⟩,⟨.some 45,.pick (.s 27) (.c (.bool true)) (.s 44),.none,20,[18,6,4,3,5,16,15,7,13,11,9,8,10,12,14,17,19,1,0,2]⟩] k) (.cond (.s 45) (.exit 1) .skip)) (.seq (.reg [⟨.some 46,.move (.s 0),.none,0,[]⟩,⟨.some 47,.nilCheck (.s 46),.none,1,[]⟩,⟨.some 48,.off 0 (.s 47),.none,2,[]⟩,⟨.some 49,.off 0 (.s 48),.none,3,[]⟩,⟨.some 50,.load (.s 49),.none,4,[]⟩,⟨.some 51,.move (.s 7),.none,5,[]⟩,⟨.some 52,.idxSl 4 (.s 50) (.s 51),.none,6,[]⟩,⟨.some 53,.loadN 4 (.s 52),.none,7,[]⟩,⟨.some 9,.alloc [.str (bs []),.int .i64 0,.int .i64 0,.int .i64 0],.none,8,[]⟩,⟨.none,.store 4 (.s 9) (.s 53),.none,9,[]⟩] k) (.draw [⟨.some 54,.off 0 (.s 6),.none,0,[]⟩,⟨.some 55,.load (.s 54),.none,1,[0]⟩,⟨.some 56,.move (.s 7),.none,2,[]⟩,⟨.some 57,.idxArr 3 1 (.s 5) (.s 56),.none,3,[2]⟩,⟨.some 58,.load (.s 57),.none,4,[2,3]⟩,⟨.some 59,.move (.s 8),.none,5,[]⟩,⟨.some 60,.off 3 (.s 9),.none,6,[]⟩,⟨.some 61,.load (.s 60),.none,7,[6]⟩,⟨.some 62,.bin .sub (.s 59) (.s 61),.none,8,[6,7,5]⟩,⟨.some 63,.bin .mul (.s 58) (.s 62),.none,9,[5,7,6,8,3,2,4]⟩,⟨.some 64,.maxInt (.s 55) [.s 63],.none,10,[4,2,3,8,6,7,5,9,0,1]⟩,⟨.some 65,.off 1 (.s 6),.none,11,[]⟩,⟨.some 66,.load (.s 65),.none,12,[11]⟩,⟨.some 67,.move (.s 7),.none,13,[]⟩,⟨.some 68,.idxArr 3 1 (.s 5) (.s 67),.none,14,[13]⟩,⟨.some 69,.load (.s 68),.none,15,[13,14]⟩,⟨.some 70,.move (.s 8),.none,16,[]⟩,⟨.some 71,.off 3 (.s 9),.none,17,[]⟩,⟨.some 72,.load (.s 71),.none,18,[17]⟩,⟨.some 73,.bin .add (.s 70) (.s 72),.none,19,[17,18,16]⟩,⟨.some 74,.bin .mul (.s 69) (.s 73),.none,20,[16,18,17,19,14,13,15]⟩,⟨.some 75,.minInt (.s 66) [.s 74],.none,21,[15,13,14,19,17,18,16,20,11,12]⟩,⟨.some
    76,.build [.int .i64 0,.int .i64 0] [(0,(1,(.s 64))),(1,(1,(.s 75)))],.none,22,[12,11,20,16,18,17,19,14,13,15,21,1,0,9,5,7,6,8,3,2,4,10]⟩,⟨.none,.store 2 (.s 6) (.s 76),.none,23,[10,4,2,3,8,6,7,5,9,0,1,21,15,13,14,19,17,18,16,20,11,12,22]⟩] k))))) (.reg [⟨.some 77,.bin .add (.s 20) (.c (.int .i64 1)),.none,0,[]⟩,⟨.some 20,.move (.s 77),.none,1,[]⟩] k))))))) (.seq (.reg [⟨.some 78,.loadN 2 (.s 6),.none,0,[]⟩,⟨.none,.store 2 (.s 6) (.s 78),.none,1,[]⟩] k) .ret)))),res := [.cellN 2 6]}
def c103 : AFunc :=
  let k:List Nat:=[0,1,2,3,4,5,7,8,9,10,11,12,20,35,45,56,62,63,64,80]
  {nt := 109,body := (.seq (.reg [⟨.some 7,.move (.c (.bool false)),.none,0,[]⟩] k) (.seq (.seq (.reg [⟨.some 13,.move (.s 0),.none,0,[]⟩,⟨.some 14,.load (.s 1),.none,1,[]⟩,⟨.some 15,.nilCheck (.s 14),.none,2,[]⟩,⟨.some 16,.off 0 (.s 15),.none,3,[]⟩,⟨.some 17,.off 0 (.s 16),.none,4,[]⟩,⟨.some 18,.load (.s 17),.none,5,[]⟩,⟨.some 19,.len false (.s 18),.none,6,[]⟩,⟨.some 20,.bin .lss (.s 13) (.s 19),.none,7,[]⟩] k) (.cond (.s 20) (.seq (.reg [⟨.some 21,.load (.s 1),.none,0,[]⟩,⟨.some 22,.nilCheck (.s 21),.none,1,[]⟩,⟨.some 23,.off 0 (.s 22),.none,2,[]⟩,⟨.some 24,.off 0 (.s 23),.none,3,[]⟩,⟨.some 25,.load (.s 24),.none,4,[]⟩,⟨.some 26,.move (.s 0),.none,5,[]⟩,⟨.some 27,.idxSl 4 (.s 25) (.s 26),.none,6,[]⟩,⟨.some 28,.off 1 (.s 27),.none,7,[]⟩,⟨.some 29,.loadN 2 (.s 28),.none,8,[]⟩,⟨.some 8,.alloc [.int .i64 0,.int .i64 0],.none,9,[]⟩,⟨.none,.store 2 (.s 8) (.s 29),.none,10,[]⟩] k) (.seq (.seq (.reg [⟨.some 30,.off 0 (.s 8),.none,0,[]⟩,⟨.some 31,.load (.s 30),.none,1,[]⟩,⟨.some 9,.move (.s 31),.none,2,[]⟩] k) (.block 0 (.loop (.seq (.seq (.reg [⟨.some 32,.move (.s 9),.none,0,[]⟩,⟨.some 33,.off 1 (.s 8),.none,1,[]⟩,⟨.some 34,.load (.s 33),.none,2,[]⟩,⟨.some 35,.bin .leq (.s 32) (.s 34),.none,3,[]⟩] k) (.cond (.s 35) .skip (.exit 0))) (.seq (.block 1 (.seq (.reg [⟨.some 38,.move (.s 0),.none,0,[]⟩,⟨.some 39,.move (.s 9),.none,1,[]⟩,⟨.some 40,.idxArr 3 1 (.s 2) (.s 38),.none,2,[]⟩,⟨.none,.store 1 (.s 40) (.s 39),.none,3,[]⟩] k) (.seq (.reg [⟨.some 41,.load (.s 3),.none,0,[]⟩,⟨.some 42,.move (.s 0),.none,1,[]⟩,⟨.some 43,.bin .add (.s 42) (.c (.int .i64 1)),.none,2,[]⟩,⟨.some 44,.call (.s 41) [.s 43],.none,3,[]⟩,⟨.some 45,.un .not (.s 44),.none,4,[]⟩] k) (.cond (.s 45) (.seq (.reg [⟨.some 7,.move (.c (.bool false)),.none,0,[]⟩] k) .ret) .skip)))) (.reg [⟨.some 36,.move (.s 9),.none,0,[]⟩,⟨.some 37,.bin .add (.s 36) (.c (.int .i64 1)),.none,1,[]⟩,⟨.some 9,.move (.s 37),.none,2,[]⟩] k)))))) (.seq (.reg [⟨.some 7,.move (.c (.bool true)),.none,0,[]⟩] k) .ret))) .skip)) (.seq
    (.draw [⟨.some 47,.load (.s 1),.none,0,[]⟩,⟨.some 48,.nilCheck (.s 47),.none,1,[0]⟩,⟨.some 49,.off 3 (.s 48),.none,2,[0,1]⟩,⟨.some 50,.load (.s 49),.none,3,[1,0,2]⟩,⟨.some 51,.loadN 3 (.s 2),.none,4,[]⟩,⟨.some 52,.lookup true [.i,.i,.i] (.agg [.int .i64 0,.int .i64 0,.int .i64 0,.int .i64 0,.int .i64 0,.int .i64 0,.int .i64 0,.int .i64 0]) true (.s 50) (.s 51),.none,5,[4,2,0,1,3]⟩,⟨.some 46,.move (.s 52),.none,6,[3,1,0,2,4,5]⟩,⟨.some 53,.extract 0 (.s 46),.none,7,[5,4,2,0,1,3,6]⟩,⟨.some 54,.extract 1 (.s 46),.none,8,[5,4,2,0,1,3,6]⟩,⟨.some 10,.alloc [.int .i64 0,.int .i64 0,.int .i64 0,.int .i64 0,.int .i64 0,.int .i64 0,.int .i64 0,.int .i64 0],.none,9,[]⟩,⟨.none,.store 8 (.s 10) (.s 53),.none,10,[6,3,1,0,2,4,5,7,9]⟩,⟨.some 11,.move (.s 54),.none,11,[9,7,10,6,3,1,0,2,4,5,8]⟩] k) (.seq (.seq (.reg [⟨.some 55,.move (.s 11),.none,0,[]⟩,⟨.some 56,.un .not (.s 55),.none,1,[]⟩] k) (.cond (.s 56) (.seq .skip (.seq (.seq (.reg [⟨.some 57,.load (.s 1),.none,0,[]⟩,⟨.some 58,.nilCheck (.s 57),.none,1,[]⟩,⟨.some 59,.off 0 (.s 58),.none,2,[]⟩,⟨.some 60,.off 1 (.s 59),.none,3,[]⟩,⟨.some 61,.load (.s 60),.none,4,[]⟩,⟨.some 62,.len false (.s 61),.none,5,[]⟩,⟨.some 63,.move (.c (.int .i64 0)),.none,6,[]⟩] k) (.block 2 (.loop (.seq (.reg [⟨.some 64,.bin .lss (.s 63) (.s 62),.none,0,[]⟩] k) (.seq (.cond (.s 64) .skip (.exit 2)) (.seq (.block 3 (.seq (.reg [⟨.some 65,.move (.s 63),.none,0,[]⟩,⟨.some 12,.move (.s 65),.none,1,[]⟩] k) (.seq (.reg [⟨.some 66,.move (.s 12),.none,0,[]⟩,⟨.some 67,.load (.s 4),.none,1,[]⟩,⟨.some 68,.move (.s 12),.none,2,[]⟩,⟨.some 69,.loadN 3 (.s 2),.none,3,[]⟩,⟨.some 70,.call (.s 67) [.s 68,.s 69],.none,4,[]⟩,⟨.some 71,.idxArr 4 2 (.s 10) (.s 66),.none,5,[]⟩,⟨.none,.store 2 (.s 71) (.s 70),.none,6,[]⟩] k) (.seq (.draw [⟨.some 72,.move (.s 12),.none,0,[]⟩,⟨.some 73,.idxArr 4 2 (.s 10) (.s 72),.none,1,[0]⟩,⟨.some 74,.off 0 (.s 73),.none,2,[0,1]⟩,⟨.some 75,.load (.s 74),.none,3,[1,0,2]⟩,⟨.some 76,.move (.s 12),.none,4,[]⟩,⟨.some 77,.idxArr 4 2 (.s 10) (.s
    76),.none,5,[4]⟩,⟨.some 78,.off 1 (.s 77),.none,6,[4,5]⟩,⟨.some 79,.load (.s 78),.none,7,[5,4,6]⟩,⟨.some 80,.bin .gtr (.s 75) (.s 79),.none,8,[6,4,5,7,2,0,1,3]⟩] k) (.cond (.s 80) (.seq (.reg [⟨.some 81,.build [.int .i64 0,.int .i64 0] [(0,(1,(.c (.int .i64 1))))],.none,0,[]⟩,⟨.some 82,.idxArr 4 2 (.s 10) (.c (.int .i64 0)),.none,1,[]⟩,⟨.none,.store 2 (.s 82) (.s 81),.none,2,[]⟩] k) (.exit 2)) .skip))))) (.reg [⟨.some 83,.bin .add (.s 63) (.c (.int .i64 1)),.none,0,[]⟩,⟨.some 63,.move (.s 83),.none,1,[]⟩] k))))))) (.draw [⟨.some 84,.load (.s 1),.none,0,[]⟩,⟨.some 85,.nilCheck (.s 84),.none,1,[0]⟩,⟨.some 86,.off 3 (.s 85),.none,2,[0,1]⟩,⟨.some 87,.load (.s 86),.none,3,[1,0,2]⟩,⟨.some 88,.loadN 3 (.s 2),.none,4,[]⟩,⟨.some 89,.loadN 8 (.s 10),.none,5,[]⟩,⟨.none,.update true [.i,.i,.i] (.s 87) (.s 88) (.s 89),.none,6,[5,4,2,0,1,3]⟩] k))) .skip)) (.seq (.reg [⟨.some 90,.load (.s 1),.none,0,[]⟩,⟨.some 91,.nilCheck (.s 90),.none,1,[]⟩,⟨.some 92,.off 0 (.s 91),.none,2,[]⟩,⟨.some 93,.off 1 (.s 92),.none,3,[]⟩,⟨.some 94,.load (.s 93),.none,4,[]⟩,⟨.some 95,.len false (.s 94),.none,5,[]⟩,⟨.some 96,.bin .gtr (.s 95) (.c (.int .i64 0)),.none,6,[]⟩,⟨.some 97,.move (.s 96),.none,7,[]⟩,⟨.some 98,.idxArr 4 2 (.s 10) (.c (.int .i64 0)),.some (97,true),8,[]⟩,⟨.some 99,.loadN 2 (.s 98),.some (97,true),9,[]⟩,⟨.some 100,.build [.int .i64 0,.int .i64 0] [(0,(1,(.c (.int .i64 1))))],.some (97,true),10,[]⟩,⟨.some 101,.eqFlat true [.i,.i] false (.s 99) (.s 100),.some (97,true),11,[]⟩,⟨.some 102,.pick (.s 97) (.s 101) (.c (.bool false)),.none,12,[]⟩,⟨.some 103,.move (.s 102),.none,13,[]⟩,⟨.some 104,.load (.s 5),.some (103,false),14,[]⟩,⟨.some 105,.loadN 3 (.s 2),.some (103,false),15,[]⟩,⟨.some 106,.loadN 8 (.s 10),.some (103,false),16,[]⟩,⟨.some 107,.call (.s 104) [.s 105,.s 106],.some (103,false),17,[]⟩,⟨.some 108,.pick (.s 103) (.c (.bool true)) (.s 107),.none,18,[]⟩,⟨.some 7,.move (.s 108),.none,19,[]⟩] k) .ret))))),res := [.slot 7]}
def c104 : AFunc :=
  let k:List Nat:=[0,1,2,3,4,5,6,9,10,14,22,42]
  {nt := 48,body := (.seq (.reg [⟨.some 9,.move (.c (.bool false)),.none,0,[]⟩] k) (.seq (.seq (.reg [⟨.some 11,.load (.s 2),.none,0,[]⟩,⟨.some 12,.len false (.s 11),.none,1,[]⟩,⟨.some 13,.load (.s 3),.none,2,[]⟩,⟨.some 14,.bin .eql (.s 12) (.s 13),.none,3,[]⟩] k) (.cond (.s 14) (.seq (.reg [⟨.some 15,.load (.s 4),.none,0,[]⟩,⟨.some 16,.move (.s 1),.none,1,[]⟩,⟨.some 17,.call (.s 15) [.s 16],.none,2,[]⟩,⟨.some 9,.move (.s 17),.none,3,[]⟩] k) .ret) .skip)) (.seq (.seq (.reg [⟨.some 18,.move (.s 0),.none,0,[]⟩,⟨.some 10,.move (.s 18),.none,1,[]⟩] k) (.block 0 (.loop (.seq (.seq (.reg [⟨.some 19,.move (.s 10),.none,0,[]⟩,⟨.some 20,.load (.s 5),.none,1,[]⟩,⟨.some 21,.len false (.s 20),.none,2,[]⟩,⟨.some 22,.bin .lss (.s 19) (.s 21),.none,3,[]⟩] k) (.cond (.s 22) .skip (.exit 0))) (.seq (.block 1 (.seq (.draw [⟨.some 25,.load (.s 2),.none,0,[]⟩,⟨.some 26,.load (.s 5),.none,1,[]⟩,⟨.some 27,.move (.s 10),.none,2,[]⟩,⟨.some 28,.idxSl 1 (.s 26) (.s 27),.none,3,[2,1]⟩,⟨.some 29,.load (.s 28),.none,4,[1,2,3]⟩,⟨.some 30,.mkslice 1 1 [.int .i64 0] [(0,(1,(.s 29)))],.none,5,[3,2,1,4]⟩,⟨.some 31,.append 1 8 (.s 25) (.s 30),.none,6,[4,1,2,3,5,0]⟩,⟨.none,.store 1 (.s 2) (.s 31),.none,7,[0,5,3,2,1,4,6]⟩] k) (.seq (.seq (.draw [⟨.some 32,.load (.s 6),.none,0,[]⟩,⟨.some 33,.move (.s 10),.none,1,[]⟩,⟨.some 34,.bin .add (.s 33) (.c (.int .i64 1)),.none,2,[1]⟩,⟨.some 35,.move (.s 1),.none,3,[]⟩,⟨.some 36,.load (.s 5),.none,4,[]⟩,⟨.some 37,.move (.s 10),.none,5,[]⟩,⟨.some 38,.idxSl 1 (.s 36) (.s 37),.none,6,[5,4]⟩,⟨.some 39,.load (.s 38),.none,7,[4,5,6]⟩,⟨.some 40,.bin .shl (.c (.int .i64 1)) (.s 39),.none,8,[6,5,4,7]⟩,⟨.some 41,.bin .or (.s 35) (.s 40),.none,9,[7,4,5,6,8,3]⟩,⟨.some 42,.call (.s 32) [.s 34,.s 41],.none,10,[3,8,6,5,4,7,9,1,2,0]⟩] k) (.cond (.s 42) (.seq (.reg [⟨.some 9,.move (.c (.bool true)),.none,0,[]⟩] k) .ret) .skip)) (.reg [⟨.some 43,.load (.s 2),.none,0,[]⟩,⟨.some 44,.load (.s 2),.none,1,[]⟩,⟨.some 45,.len false (.s 44),.none,2,[]⟩,⟨.some 46,.bin .sub (.s 45) (.c
    (.int .i64 1)),.none,3,[]⟩,⟨.some 47,.sliceSl 1 (.s 43) .none (.some (.s 46)),.none,4,[]⟩,⟨.none,.store 1 (.s 2) (.s 47),.none,5,[]⟩] k)))) (.reg [⟨.some 23,.move (.s 10),.none,0,[]⟩,⟨.some 24,.bin .add (.s 23) (.c (.int .i64 1)),.none,1,[]⟩,⟨.some 10,.move (.s 24),.none,2,[]⟩] k)))))) (.seq (.reg [⟨.some 9,.move (.c (.bool false)),.none,0,[]⟩] k) .ret)))),res := [.slot 9]}
def c105 : AFunc :=
  let k:List Nat:=[0,1,2,6,8,9,10,11,12,22]
  {nt := 24,body := (.seq (.reg [⟨.some 6,.move (.c (.bool false)),.none,0,[]⟩] k) (.seq (.seq (.reg [⟨.some 9,.move (.s 2),.none,0,[]⟩,⟨.some 10,.len false (.s 9),.none,1,[]⟩,⟨.some 11,.move (.c (.int .i64 0)),.none,2,[]⟩] k) (.block 0 (.loop (.seq (.reg [⟨.some 12,.bin .lss (.s 11) (.s 10),.none,0,[]⟩] k) (.seq (.cond (.s 12) .skip (.exit 0)) (.seq (.block 1 (.seq (.reg [⟨.some 13,.idxSl 1 (.s 9) (.s 11),.none,0,[]⟩,⟨.some 14,.load (.s 13),.none,1,[]⟩,⟨.some 8,.move (.s 14),.none,2,[]⟩] k) (.seq (.reg [⟨.some 15,.move (.s 8),.none,0,[]⟩,⟨.some 16,.move (.s 0),.none,1,[]⟩,⟨.some 17,.bin .lss (.s 15) (.s 16),.none,2,[]⟩,⟨.some 18,.move (.s 17),.none,3,[]⟩,⟨.some 19,.move (.s 8),.some (18,false),4,[]⟩,⟨.some 20,.move (.s 1),.some (18,false),5,[]⟩,⟨.some 21,.bin .gtr (.s 19) (.s 20),.some (18,false),6,[]⟩,⟨.some 22,.pick (.s 18) (.c (.bool true)) (.s 21),.none,7,[]⟩] k) (.cond (.s 22) (.seq (.reg [⟨.some 6,.move (.c (.bool true)),.none,0,[]⟩] k) .ret) .skip)))) (.reg [⟨.some 23,.bin .add (.s 11) (.c (.int .i64 1)),.none,0,[]⟩,⟨.some 11,.move (.s 23),.none,1,[]⟩] k))))))) (.seq (.reg [⟨.some 6,.move (.c (.bool false)),.none,0,[]⟩] k) .ret))),res := [.slot 6]}
def c106 : AFunc :=
  let k:List Nat:=[0,1,4,5,7,8,9,16]
  {nt := 19,body := (.seq (.reg [⟨.some 4,.move (.c (.int .i64 0)),.none,0,[]⟩] k) (.seq (.seq (.reg [⟨.some 6,.move (.s 0),.none,0,[]⟩,⟨.some 7,.len false (.s 6),.none,1,[]⟩,⟨.some 8,.move (.c (.int .i64 0)),.none,2,[]⟩] k) (.block 0 (.loop (.seq (.reg [⟨.some 9,.bin .lss (.s 8) (.s 7),.none,0,[]⟩] k) (.seq (.cond (.s 9) .skip (.exit 0)) (.seq (.block 1 (.seq (.reg [⟨.some 10,.move (.s 8),.none,0,[]⟩,⟨.some 5,.move (.s 10),.none,1,[]⟩] k) (.seq (.reg [⟨.some 11,.move (.s 1),.none,0,[]⟩,⟨.some 12,.move (.s 0),.none,1,[]⟩,⟨.some 13,.move (.s 5),.none,2,[]⟩,⟨.some 14,.idxSl 4 (.s 12) (.s 13),.none,3,[]⟩,⟨.some 15,.loadN 4 (.s 14),.none,4,[]⟩,⟨.some 16,.call (.s 11) [.s 15],.none,5,[]⟩] k) (.cond (.s 16) (.seq (.reg [⟨.some 17,.move (.s 5),.none,0,[]⟩,⟨.some 4,.move (.s 17),.none,1,[]⟩] k) .ret) .skip)))) (.reg [⟨.some 18,.bin .add (.s 8) (.c (.int .i64 1)),.none,0,[]⟩,⟨.some 8,.move (.s 18),.none,1,[]⟩] k))))))) (.seq (.reg [⟨.some 4,.move (.c (.int .i64 (-1))),.none,0,[]⟩] k) .ret))),res := [.slot 4]}
def c107 : AFunc :=
  let k:List Nat:=[0,1,4,5,7,8,9,16]
  {nt := 19,body := (.seq (.reg [⟨.some 4,.move (.c (.int .i64 0)),.none,0,[]⟩] k) (.seq (.seq (.reg [⟨.some 6,.move (.s 0),.none,0,[]⟩,⟨.some 7,.len false (.s 6),.none,1,[]⟩,⟨.some 8,.move (.c (.int .i64 0)),.none,2,[]⟩] k) (.block 0 (.loop (.seq (.reg [⟨.some 9,.bin .lss (.s 8) (.s 7),.none,0,[]⟩] k) (.seq (.cond (.s 9) .skip (.exit 0)) (.seq (.block 1 (.seq (.reg [⟨.some 10,.move (.s 8),.none,0,[]⟩,⟨.some 5,.move (.s 10),.none,1,[]⟩] k) (.seq (.reg [⟨.some 11,.move (.s 1),.none,0,[]⟩,⟨.some 12,.move (.s 0),.none,1,[]⟩,⟨.some 13,.move (.s 5),.none,2,[]⟩,⟨.some 14,.idxSl 1 (.s 12) (.s 13),.none,3,[]⟩,⟨.some 15,.load (.s 14),.none,4,[]⟩,⟨.some 16,.call (.s 11) [.s 15],.none,5,[]⟩] k) (.cond (.s 16) (.seq (.reg [⟨.some 17,.move (.s 5),.none,0,[]⟩,⟨.some 4,.move (.s 17),.none,1,[]⟩] k) .ret) .skip)))) (.reg [⟨.some 18,.bin .add (.s 8) (.c (.int .i64 1)),.none,0,[]⟩,⟨.some 8,.move (.s 18),.none,1,[]⟩] k))))))) (.seq (.reg [⟨.some 4,.move (.c (.int .i64 (-1))),.none,0,[]⟩] k) .ret))),res := [.slot 4]}
def prog : Nat → Option AFunc
  | 7 => some c7
  | 16 => some c16
  | 18 => some c18
  | 20 => some c20
  | 22 => some c22
  | 23 => some c23
  | 25 => some c25
  | 27 => some c27
  | 29 => some c29
  | 31 => some c31
  | 32 => some c32
  | 33 => some c33
  | 34 => some c34
  | 55 => some c55
  | 56 => some c56
  | 57 => some c57
  | 58 => some c58
  | 59 => some c59
  | 60 => some c60
  | 63 => some c63
  | 64 => some c64
  | 65 => some c65
  | 66 => some c66
  | 67 => some c67
  | 71 => some c71
  | 73 => some c73
  | 74 => some c74
  | 75 => some c75
  | 77 => some c77
  | 78 => some c78
  | 79 => some c79
  | 80 => some c80
  | 81 => some c81
  | 82 => some c82
  | 89 => some c89
  | 90 => some c90
  | 91 => some c91
  | 92 => some c92
  | 93 => some c93
  | 94 => some c94
  | 95 => some c95
  | 96 => some c96
  | 97 => some c97
  | 101 => some c101
  | 102 => some c102
  | 103 => some c103
  | 104 => some c104
  | 105 => some c105
  | 106 => some c106
  | 107 => some c107
  | _ => none
end Go.Proofs.Ytgncpbkedhchfaa
namespace Go.Proofs.Ytgncpbkedhchfaa
open Go.AM Go.IntWalk
set_option maxRecDepth 100000
set_option linter.unusedSimpArgs false
variable {H : AH} {R : AV → AH → Prop}
abbrev I (n : Int) : AV := .int .i64 n
theorem abs_mul_le (a b m n : Int) (h1 : -m ≤ a ∧ a ≤ m) (h2 : -n ≤ b ∧ b ≤ n) : -(m * n) ≤ a * b ∧ a * b ≤ m * n := by
  have hm : 0 ≤ m := by omega
  have hn : 0 ≤ n := by omega
  have h3 : a.natAbs ≤ m.natAbs := by omega
  have h4 : b.natAbs ≤ n.natAbs := by omega
  have h5 := Nat.mul_le_mul h3 h4
  rw [← Int.natAbs_mul, ← Int.natAbs_mul] at h5
  have h6 : 0 ≤ m * n := Int.mul_nonneg hm hn
  omega
structure Watcher where
  name : ByteArray
  lo : Int
  hi : Int
  off : Int
  deriving DecidableEq
def Watcher.cells (w : Watcher) : List AV := [.str w.name, I w.lo, I w.hi, I w.off]
def isLetter (c : UInt8) : Bool := decide (97 ≤ (c.toNat : Int)) && decide ((c.toNat : Int) ≤ 122)
def isDigit (c : UInt8) : Bool := decide (48 ≤ (c.toNat : Int)) && decide ((c.toNat : Int) ≤ 57)
def isInner (c : UInt8) : Bool := isLetter c || isDigit c || decide ((c.toNat : Int) = 46)
def isName (s : ByteArray) : Bool := decide (1 ≤ (s.size : Int)) && decide ((s.size : Int) ≤ 16) && (s.toList.head?.any isLetter) && s.toList.tail.all isInner
theorem toList_length (s : ByteArray) : s.toList.length = s.size := by
  rw [ByteArray.toList_eq]; rfl
theorem all_tail {l : List UInt8} {p : UInt8 → Bool} (h : ∀ j (hj : j < l.length), 1 ≤ j → p l[j] = true) : l.tail.all p = true := by
  cases l with
  | nil => rfl
  | cons a l =>
    simp only [List.tail_cons, List.all_eq_true]
    intro x hx
    obtain ⟨j, hj, rfl⟩ := List.getElem_of_mem hx
    exact h (j + 1) (by simp; omega) (by omega)
def freshE (s : ByteArray) (before : List ByteArray) : Int :=
  if isName s then (if before.any (·.toList == s.toList) then 5 else 0) else 6
def endsE (a b lo hi : Int) : Int :=
  if lo ≤ a ∧ a ≤ hi ∧ lo ≤ b ∧ b ≤ hi then (if b < a then 2 else 0) else 7
def watcherE (w : Watcher) : Int :=
  if endsE w.lo w.hi 1 300 = 7 ∨ ¬ (0 ≤ w.off ∧ w.off ≤ 9) then 7 else if endsE w.lo w.hi 1 300 ≠ 0 ∨ 6 < w.hi - w.lo then 2 else 0
end Go.Proofs.Ytgncpbkedhchfaa
namespace Go.Proofs.Ytgncpbkedhchfaa
open Go.AM Go.IntWalk
structure House where
  ws : List Watcher
  days : List (List Int)
  deriving DecidableEq
def firstErr {α : Type} (f : Nat → α → Int) : Nat → List α → Option (Nat × Int)
  | _, [] => none
  | i, x :: xs => if f i x ≠ 0 then some (i, f i x) else firstErr f (i + 1) xs
theorem firstErr_some {α : Type} {f : Nat → α → Int} : ∀ {l : List α} {i k : Nat} (hk : k < l.length), (∀ j (hj : j < l.length), j < k → f (i + j) l[j] = 0) → f (i + k) l[k] ≠ 0 → firstErr f i l = some (i + k, f (i + k) l[k])
  | [], _, k, hk, _, _ => by simp at hk
  | x :: xs, i, 0, _, _, h => by
    simp only [firstErr]
    rw [if_pos (by simpa using h)]
    rfl
  | x :: xs, i, k + 1, hk, h0, h => by
    have h1 := h0 0 (by simp) (by omega)
    simp only [Nat.add_zero, List.getElem_cons_zero] at h1
    simp only [firstErr, h1]
    have h2 := firstErr_some (f := f) (l := xs) (i := i + 1) (k := k) (by simpa using hk) (fun j hj hjk => by
      have := h0 (j + 1) (by simp; omega) (by omega)
      rw [show i + 1 + j = i + (j + 1) from by omega]
      simpa using this) (by rw [show i + 1 + k = i + (k + 1) from by omega]; simpa using h)
    rw [show i + 1 + k = i + (k + 1) from by omega] at h2
    simpa using h2
theorem firstErr_none {α : Type} {f : Nat → α → Int} : ∀ {l : List α} {i : Nat}, (∀ j (hj : j < l.length), f (i + j) l[j] = 0) → firstErr f i l = none
  | [], _, _ => rfl
  | x :: xs, i, h => by
    have h1 := h 0 (by simp)
    simp only [Nat.add_zero, List.getElem_cons_zero] at h1
    simp only [firstErr, h1]
    have h2 := firstErr_none (f := f) (l := xs) (i := i + 1) (fun j hj => by
      have := h (j + 1) (by simp; omega)
      rw [show i + 1 + j = i + (j + 1) from by omega]
      simpa using this)
    simpa using h2
def wE (h : House) (i : Nat) (w : Watcher) : Int := if freshE w.name ((h.ws.take i).map (·.name)) = 0 then watcherE w else freshE w.name ((h.ws.take i).map (·.name))
def dE (h : House) (_ : Nat) (day : List Int) : Int := if day.length ≠ h.ws.length then 3 else if day.all (fun n => decide (-1 ≤ n) && decide (n ≤ 120)) then 0 else 7
def checkE (h : House) : Int × Int × Int :=
  if 3 < h.ws.length then (1, 0, 3) else
  match firstErr (wE h) 0 h.ws with
  | some (i, e) => (1, i, e)
  | none => if 4 < h.days.length then (2, 0, 3) else
    match firstErr (dE h) 0 h.days with
    | some (i, e) => (2, i, e)
    | none => (0, 0, 0)
def EWatcher : Elem Watcher := fun _ _ cs w => cs = w.cells
theorem EWatcher.stays : Stays EWatcher := fun _ _ _ _ _ _ _ h => h
def IsHouse (F : Nat → Prop) (H : AH) (v1 v2 : AV) (h : House) : Prop := IsSl 4 EWatcher F H v1 h.ws ∧ IsSl 1 (ESl 1 EInt) F H v2 h.days
theorem IsHouse.move {F F' : Nat → Prop} {H H' : AH} {v1 v2 : AV} {h : House} (hk : Keeps F F' H H') (hh : IsHouse F H v1 v2 h) : IsHouse F' H' v1 v2 h :=
  ⟨hh.1.move EWatcher.stays hk, hh.2.move (ESl.stays EInt.stays) hk⟩
end Go.Proofs.Ytgncpbkedhchfaa
namespace Go.AM
theorem C_ndecide {prog : Nat → Option AFunc} {e : Env} {H : AH} {ks : List Kont} {Q : AExit → Env → AH → Prop} {p : Prop} [Decidable p] {a b : ACode} (h1 : ¬ p → WpK prog a e H ks Q) (h2 : p → WpK prog b e H ks Q) : CondK prog (some (.bool (!decide p))) a b e H ks Q := by
  by_cases h : p
  · simp only [h, decide_true, Bool.not_true]; exact h2 h
  · simp only [h, decide_false, Bool.not_false]; exact h1 h
section
variable {α : Type} {z : Nat} {E : Elem α} {F : Nat → Prop} {H H' : AH} {v : AV} {l : List α}
theorem IsSl.rd (h : IsSl z E (Old H) H v l) {n : Int} {k : Nat} (hn : n = k) (hk : k < l.length) : ∃ b i ro vs cs, b < H.next ∧ cs.length = z ∧ E (Old H) H cs l[k] ∧
    ((∀ S, opIdxSl z v (.int .i64 n) S = some (.ptr b i, S)) ∧ H.get b = some (.cells ro vs) ∧ (i + z ≤ vs.length) ∧ (vs.drop i).take z = cs) ∧ ∀ j, j < z → vs[i + j]? = cs[j]? := by
  subst hn
  obtain ⟨b, i, ro, vs, cs, h1, h2, h3, h4, h5, h6, h7, h8⟩ := h.at_ hk
  exact ⟨b, i, ro, vs, cs, h2, h4, h5, ⟨h1, h3, h6, h7⟩, h8⟩
theorem IsSl.rdInt {l : List Int} (h : IsSl 1 EInt (Old H) H v l) {n : Int} {k : Nat} (hn : n = k) (hk : k < l.length) : ∃ b i ro vs, b < H.next ∧
    ((∀ S, opIdxSl 1 v (.int .i64 n) S = some (.ptr b i, S)) ∧ H.get b = some (.cells ro vs) ∧ vs[i]? = some (.int .i64 l[k])) := by
  obtain ⟨b, i, ro, vs, cs, h1, h2, rfl, ⟨h4, h5, _, _⟩, h6⟩ := h.rd hn hk
  exact ⟨b, i, ro, vs, h1, h4, h5, by simpa using h6 0 (by omega)⟩
theorem IsSl.rdSl {β : Type} {y : Nat} {E : Elem β} {l : List (List β)} (h : IsSl 1 (ESl y E) (Old H) H v l) {n : Int} {k : Nat} (hn : n = k) (hk : k < l.length) : ∃ b i ro vs vd, b < H.next ∧ IsSl y E (Old H) H vd l[k] ∧
    ((∀ S, opIdxSl 1 v (.int .i64 n) S = some (.ptr b i, S)) ∧ H.get b = some (.cells ro vs) ∧ vs[i]? = some vd) := by
  obtain ⟨b, i, ro, vs, cs, h1, h2, ⟨vd, rfl, hvd⟩, ⟨h4, h5, _, _⟩, h6⟩ := h.rd hn hk
  exact ⟨b, i, ro, vs, vd, h1, hvd, h4, h5, by simpa using h6 0 (by omega)⟩
theorem IsSl.grow (hE : Stays E) (hg : Grew H H') (h : IsSl z E (Old H) H v l) : IsSl z E (Old H') H' v l := h.move hE hg.keeps
def Mine (z : Nat) (E : Elem α) (P : Nat → Prop) (N : Nat) (H : AH) (v : AV) (l : List α) : Prop :=
  (v = .nilslice ∧ l = []) ∨ ∃ b i vs cells, v = .slice b i l.length z ∧ N ≤ b ∧ b < H.next ∧ H.get b = some (.cells false vs) ∧ readN vs i (l.length * z) = some cells ∧ Rows z (E (fun k => k < H.next ∧ k ≠ b ∧ (P k ∨ N ≤ k)) H) cells l
variable {P : Nat → Prop} {N : Nat}
theorem Mine.nil : Mine z E P N H .nilslice [] := .inl ⟨rfl, rfl⟩
theorem Mine.len (h : Mine z E P N H v l) (S : AH) : opLen false v S = some (.int .i64 l.length, S) := by
  rcases h with ⟨rfl, rfl⟩ | ⟨b, i, vs, cells, rfl, _⟩ <;> rfl
theorem Mine.isCell (h : Mine z E P N H v l) : v.isCell = true := by
  rcases h with ⟨rfl, rfl⟩ | ⟨b, i, vs, cells, rfl, _⟩ <;> rfl
theorem Mine.cells? (h : Mine z E P N H v l) : v.cells? = some [v] := by
  rcases h with ⟨rfl, rfl⟩ | ⟨b, i, vs, cells, rfl, _⟩ <;> rfl
theorem Mine.spine (h : Mine z E P N H v l) {b i n y : Nat} (hv : v = .slice b i n y) : N ≤ b ∧ b < H.next := by
  rcases h with ⟨rfl, _⟩ | ⟨b', i', vs, cells, rfl, h2, h3, _⟩
  · cases hv
  · simp only [AV.slice.injEq] at hv
    obtain ⟨rfl, _⟩ := hv
    exact ⟨h2, h3⟩
theorem Mine.move (hE : Stays E) (hs : ∀ k, k < H.next → (P k ∨ N ≤ k) → H'.get k = H.get k) (hn : H.next ≤ H'.next) (h : Mine z E P N H v l) : Mine z E P N H' v l := by
  rcases h with h | ⟨b, i, vs, cells, h1, h2, h3, h4, h5, h6⟩
  · exact .inl h
  · refine .inr ⟨b, i, vs, cells, h1, h2, Nat.lt_of_lt_of_le h3 hn, (hs b h3 (.inr h2)).trans h4, h5, h6.mono fun cs a h => hE _ _ _ _ _ _ (fun k hk => ⟨⟨Nat.lt_of_lt_of_le hk.1 hn, hk.2⟩, hs k hk.1 hk.2.2⟩) h⟩
theorem Mine.grow (hE : Stays E) (hg : Grew H H') (h : Mine z E P N H v l) : Mine z E P N H' v l := h.move hE (fun k hk _ => hg.get k hk) hg.next
theorem Mine.sl (hE : Stays E) (h : Mine z E P N H v l) : IsSl z E (Old H) H v l := by
  rcases h with h | ⟨b, i, vs, cells, h1, h2, h3, h4, h5, h6⟩
  · exact .inl h
  · refine .inr ⟨b, i, cells, h1, h3, by unfold AH.read; rw [h4]; exact h5, h6.mono fun cs a h => hE _ _ _ _ _ _ (fun k hk => ⟨hk.1, rfl⟩) h⟩
theorem Mine.append {bytes : Nat} {x : AV} {new : List AV} {l2 : List α} (hE : Stays E) (h : Mine z E P N H v l) (hN : N ≤ H.next) (hx : AM.lenA x = some l2.length) (hs : srcCells H z l2.length x = some new)
    (hr : Rows z (E (fun k => k < H.next ∧ (∀ i n y, v ≠ .slice k i n y) ∧ (P k ∨ N ≤ k)) H) new l2) (hc : new.all AV.isCell = true) (hroom : l.length + l2.length ≤ roomA ∧ (l.length + l2.length) * bytes ≤ roomA) :
    ∃ v' H', appendA H z bytes v x = some (v', H') ∧ Mine z E P N H' v' (l ++ l2) ∧ H.next ≤ H'.next ∧ (∀ k, k < H.next → (∀ i n z, v ≠ .slice k i n z) → H'.get k = H.get k) := by
  unfold appendA
  simp only [hx, hs]
  rcases h with ⟨rfl, rfl⟩ | ⟨b, i, vs, cells, rfl, h2, h3, h4, h5, h6⟩
  · by_cases h0 : l2.length = 0
    · simp only [h0, if_true]
      have : l2 = [] := List.length_eq_zero_iff.1 h0
      subst this
      exact ⟨_, _, rfl, .inl ⟨rfl, rfl⟩, Nat.le_refl _, fun _ _ _ => rfl⟩
    · simp only [List.length_nil, Nat.zero_add] at hroom
      simp only [h0, if_false, hroom, and_self, if_true]
      refine ⟨_, _, rfl, .inr ⟨H.next, 0, new, new, rfl, hN, by simp, get_alloc_new _ _, ?_, hr.mono fun cs a h => hE _ _ _ _ _ _ (fun b hb => ⟨⟨by simp; omega, by omega, hb.2.2⟩, get_alloc_old hb.1⟩) h⟩, by simp, fun k hk _ => get_alloc_old hk⟩
      have := hr.length
      simp only [List.nil_append, readN, Nat.zero_add, this, Nat.le_refl, if_true, List.drop_zero]
      rw [← this, List.take_length]
  · by_cases h0 : l2.length = 0
    · simp only [h0, if_true]
      have : l2 = [] := List.length_eq_zero_iff.1 h0
      subst this
      rw [List.append_nil]
      exact ⟨_, _, rfl, .inr ⟨b, i, vs, cells, rfl, h2, h3, h4, h5, h6⟩, Nat.le_refl _, fun _ _ _ => rfl⟩
    · simp only [h0, if_false, h4, h5, hroom, hc, and_self, if_true]
      have hset : ∀ k, k ≠ b → k < H.next → ((H.set b .dead).alloc (.cells false (cells ++ new))).get k = H.get k := fun k hk hlt => by
        rw [AH.get_alloc, if_neg (by simp; omega), AH.get_set, if_neg hk]
      have hl1 := h6.length
      have hl2 := hr.length
      have r1 := h6.mono (E' := E (fun k => k < ((H.set b .dead).alloc (.cells false (cells ++ new))).next ∧ k ≠ H.next ∧ (P k ∨ N ≤ k)) ((H.set b .dead).alloc (.cells false (cells ++ new)))) fun cs a h => hE _ _ _ _ _ _ (fun k hk => ⟨⟨by simp; omega, by omega, hk.2.2⟩, hset k hk.2.1 hk.1⟩) h
      have r2 := hr.mono (E' := E (fun k => k < ((H.set b .dead).alloc (.cells false (cells ++ new))).next ∧ k ≠ H.next ∧ (P k ∨ N ≤ k)) ((H.set b .dead).alloc (.cells false (cells ++ new)))) fun cs a h => hE _ _ _ _ _ _ (fun k hk => ⟨⟨by simp; omega, by omega, hk.2.2⟩, hset k (fun e => hk.2.1 i l.length z (by rw [e])) hk.1⟩) h
      refine ⟨_, _, rfl, .inr ⟨H.next, 0, cells ++ new, cells ++ new, by simp, hN, by simp, ?_, ?_, r1.append r2⟩, by simp, fun k hk hne => hset k (fun e => hne i l.length z (by rw [e])) hk⟩
      · rw [AH.get_alloc, if_pos (by simp)]
      · simp only [readN, List.length_append, Nat.zero_add, hl1, hl2, Nat.add_mul, Nat.le_refl, if_true, List.drop_zero]
        rw [List.take_of_length_le (by rw [List.length_append, hl1, hl2]; omega)]
theorem Mine.push {bytes : Nat} {cs : List AV} {a : α} (hE : Stays E) (h : Mine z E P N H v l) (hN : N ≤ H.next) (hcs : cs.length = z) (hF : ∀ k, F k → k < H.next ∧ (∀ i n y, v ≠ .slice k i n y) ∧ (P k ∨ N ≤ k)) (ha : E F H cs a) (hc : cs.all AV.isCell = true)
    (hroom : l.length < 1000000000000 ∧ bytes ≤ 100) :
    ∃ v' H', appendA (H.alloc (.cells false cs)) z bytes v (.slice H.next 0 1 z) = some (v', H') ∧ Mine z E P N H' v' (l ++ [a]) ∧ H.next < H'.next ∧ (∀ k, k < N → H'.get k = H.get k) := by
  have hv : ∀ i n y, v ≠ .slice H.next i n y := fun i n y e => by have := (h.spine e).2; omega
  have h' := h.move (H' := H.alloc (.cells false cs)) hE (fun k hk _ => get_alloc_old hk) (Nat.le_succ _)
  have hsrc : srcCells (H.alloc (.cells false cs)) z [a].length (.slice H.next 0 1 z) = some cs := by
    simp [srcCells, AH.read, get_alloc_new, readN, ← hcs]
  have hmul : (l.length + 1) * bytes ≤ 1000000000000 * 100 := Nat.mul_le_mul (by omega) hroom.2
  obtain ⟨v', H', q1, q2, q3, q4⟩ := h'.append (bytes := bytes) (x := .slice H.next 0 1 z) (l2 := [a]) hE (by simp; omega) rfl hsrc
    (Rows.single hcs (hE _ _ _ _ _ _ (fun k hk => ⟨⟨by have := (hF k hk).1; simp; omega, (hF k hk).2⟩, get_alloc_old (hF k hk).1⟩) ha)) hc (by simp only [List.length_singleton, roomA]; omega)
  simp only [AH.next_alloc] at q3 q4
  exact ⟨v', H', q1, q2, by omega, fun k hk => by rw [q4 k (by omega) (fun i n y e => by have := (h.spine e).1; omega), get_alloc_old (by omega)]⟩
end
theorem IsSl.front {α : Type} {z : Nat} {E : Elem α} {F : Nat → Prop} {H : AH} {v : AV} {l : List α} (h : IsSl z E F H v l) {n : Int} {k : Nat} (hn : n = k) (hk : k ≤ l.length) : ∃ v', (∀ S, opSliceSl z v none (some (.int .i64 n)) S = some (v', S)) ∧ IsSl z E F H v' (l.take k) := by
  subst hn
  rcases h with ⟨rfl, rfl⟩ | ⟨b, i, cells, rfl, h2, h3, h4⟩
  · have : k = 0 := by simpa using hk
    subst this
    exact ⟨.nilslice, fun S => rfl, .inl ⟨rfl, by simp⟩⟩
  · refine ⟨.slice b i k z, fun S => by simp [opSliceSl, optNat, natOf, hk], .inr ⟨b, i, cells.take (k * z), by rw [List.length_take, Nat.min_eq_left hk], h2, ?_, h4.take k hk⟩⟩
    rw [List.length_take, Nat.min_eq_left hk]
    have hm : k * z ≤ l.length * z := Nat.mul_le_mul_right _ hk
    unfold AH.read at h3 ⊢
    split at h3
    · unfold readN at h3 ⊢
      split at h3
      · rename_i hle
        rw [if_pos (by omega)]
        simp only [Option.some.injEq] at h3 ⊢
        rw [← h3, List.take_take, Nat.min_eq_left hm]
      · cases h3
    · cases h3
theorem Mine.front {α : Type} {z : Nat} {E : Elem α} {P : Nat → Prop} {N : Nat} {H : AH} {v : AV} {l : List α} (h : Mine z E P N H v l) {n : Int} {k : Nat} (hn : n = k) (hk : k ≤ l.length) : ∃ v', (∀ S, opSliceSl z v none (some (.int .i64 n)) S = some (v', S)) ∧ Mine z E P N H v' (l.take k) := by
  subst hn
  rcases h with ⟨rfl, rfl⟩ | ⟨b, i, vs, cells, rfl, h2, h3, h4, h5, h6⟩
  · have : k = 0 := by simpa using hk
    subst this
    exact ⟨.nilslice, fun S => rfl, .inl ⟨rfl, by simp⟩⟩
  · refine ⟨.slice b i k z, fun S => by simp [opSliceSl, optNat, natOf, hk], .inr ⟨b, i, vs, cells.take (k * z), by rw [List.length_take, Nat.min_eq_left hk], h2, h3, h4, ?_, h6.take k hk⟩⟩
    rw [List.length_take, Nat.min_eq_left hk]
    have hm : k * z ≤ l.length * z := Nat.mul_le_mul_right _ hk
    unfold readN at h5 ⊢
    split at h5
    · rename_i hle
      rw [if_pos (by omega)]
      simp only [Option.some.injEq] at h5 ⊢
      rw [← h5, List.take_take, Nat.min_eq_left hm]
    · cases h5
theorem Rows.allCell {α : Type} {z : Nat} {E : List AV → α → Prop} (hc : ∀ cs a, E cs a → cs.all AV.isCell = true) : ∀ {c : List AV} {l : List α}, Rows z E c l → c.all AV.isCell = true
  | _, _, .nil => rfl
  | _, _, .cons hz h t => by rw [List.all_append, hc _ _ h, Rows.allCell hc t]; rfl
theorem EInt.isCell : ∀ (F : Nat → Prop) (H : AH) (cs : List AV) (a : Int), EInt F H cs a → cs.all AV.isCell = true := by rintro F H cs a rfl; rfl
theorem ESl.isCell {β : Type} {y : Nat} {E : Elem β} : ∀ (F : Nat → Prop) (H : AH) (cs : List AV) (a : List β), ESl y E F H cs a → cs.all AV.isCell = true := by
  rintro F H cs a ⟨v, rfl, h⟩
  simp [h.isCell]
end Go.AM
namespace Go.Proofs.Ytgncpbkedhchfaa
open Go.AM Go.IntWalk
set_option maxRecDepth 100000
set_option maxHeartbeats 2000000
set_option linter.unusedSimpArgs false
variable {H : AH} {R : AV → AH → Prop}
def narrow (s : Int × Int) (w : Watcher) (c f : Int) : Int × Int :=
  if c = -1 then s else (max s.1 (f * max 0 (c - w.off)), min s.2 (f * (c + w.off)))
def narrowAll : Int × Int → List Watcher → List Int → List Int → Int × Int
  | s, w :: ws, c :: cs, f :: fs => narrowAll (narrow s w c f) ws cs fs
  | s, _, _, _ => s
def numbersE (h : House) (day : Nat) (fs : List Int) : Int × Int := narrowAll (0, 39999) h.ws (h.days.getD day []) fs
theorem narrowAll_take : ∀ {ws : List Watcher} {cs fs : List Int} {s : Int × Int} {k : Nat} (h1 : k < ws.length) (h2 : k < cs.length) (h3 : k < fs.length),
    narrowAll s (ws.take (k + 1)) (cs.take (k + 1)) (fs.take (k + 1)) = narrow (narrowAll s (ws.take k) (cs.take k) (fs.take k)) ws[k] cs[k] fs[k]
  | w :: ws, c :: cs, f :: fs, s, 0, _, _, _ => by simp [narrowAll]
  | w :: ws, c :: cs, f :: fs, s, k + 1, h1, h2, h3 => by
    have := narrowAll_take (ws := ws) (cs := cs) (fs := fs) (s := narrow s w c f) (k := k) (by simpa using h1) (by simpa using h2) (by simpa using h3)
    simp only [List.take_succ_cons, narrowAll, List.getElem_cons_succ]
    exact this
  | [], _, _, _, k, h1, _, _ => by simp at h1
  | _ :: _, [], _, _, k, _, h2, _ => by simp at h2
  | _ :: _, _ :: _, [], _, k, _, _, h3 => by simp at h3
structure Fine (h : House) : Prop where
  ws : h.ws.length ≤ 3
  days : h.days.length ≤ 4
  len : ∀ d ∈ h.days, d.length = h.ws.length
  count : ∀ d ∈ h.days, ∀ c ∈ d, -1 ≤ c ∧ c ≤ 120
  lo : ∀ w ∈ h.ws, 1 ≤ w.lo ∧ w.lo ≤ w.hi ∧ w.hi ≤ 300 ∧ w.hi - w.lo ≤ 6
  off : ∀ w ∈ h.ws, 0 ≤ w.off ∧ w.off ≤ 9
theorem Fine.w {h : House} (hf : Fine h) {k : Nat} (hk : k < h.ws.length) : 1 ≤ h.ws[k].lo ∧ h.ws[k].lo ≤ h.ws[k].hi ∧ h.ws[k].hi ≤ 300 ∧ h.ws[k].hi - h.ws[k].lo ≤ 6 ∧ 0 ≤ h.ws[k].off ∧ h.ws[k].off ≤ 9 := by
  have h1 := hf.lo _ (List.getElem_mem hk)
  have h2 := hf.off _ (List.getElem_mem hk)
  omega
theorem rdW {v : AV} {l : List Watcher} (h : IsSl 4 EWatcher (Old H) H v l) {n : Int} {k : Nat} (hn : n = k) (hk : k < l.length) : ∃ b i ro vs, b < H.next ∧
    ((∀ S, opIdxSl 4 v (.int .i64 n) S = some (.ptr b i, S)) ∧ H.get b = some (.cells ro vs) ∧ (i + 4 ≤ vs.length) ∧ (vs.drop i).take 4 = l[k].cells ∧ vs[i]? = some (.str l[k].name) ∧ vs[i + 1]? = some (I l[k].lo) ∧ vs[i + 2]? = some (I l[k].hi) ∧ vs[i + 3]? = some (I l[k].off)) := by
  obtain ⟨b, i, ro, vs, cs, h1, h2, h3, ⟨h4, h5, h6, h7⟩, h8⟩ := h.rd hn hk
  obtain rfl : cs = l[k].cells := h3
  exact ⟨b, i, ro, vs, h1, h4, h5, h6, h7, by simpa [Watcher.cells] using h8 0 (by omega), by simpa [Watcher.cells] using h8 1 (by omega), by simpa [Watcher.cells] using h8 2 (by omega), by simpa [Watcher.cells] using h8 3 (by omega)⟩
def upTo (lo hi : Int) : List Int := (List.range (hi + 1 - lo).toNat).map fun (i : Nat) => lo + (i : Int)
theorem upTo_succ {lo f : Int} (h : lo ≤ f) : upTo lo f = upTo lo (f - 1) ++ [f] := by
  unfold upTo
  have : (f + 1 - lo).toNat = (f - 1 + 1 - lo).toNat + 1 := by omega
  rw [this, List.range_succ, List.map_append]
  congr 1
  simp; omega
theorem upTo_nil {lo : Int} : upTo lo (lo - 1) = [] := by
  unfold upTo
  have : (lo - 1 + 1 - lo).toNat = 0 := by omega
  rw [this]; rfl
theorem mem_upTo {lo hi n : Int} : n ∈ upTo lo hi ↔ lo ≤ n ∧ n ≤ hi := by
  simp only [upTo, List.mem_map, List.mem_range]
  constructor
  · rintro ⟨i, h, rfl⟩; omega
  · intro h; exact ⟨(n - lo).toNat, by omega, by omega⟩
def allRow (o : List Int) (w : Watcher) (hi : Int) : List (List Int) := (upTo w.lo hi).map fun f => o ++ [f]
def allStep (out : List (List Int)) (w : Watcher) : List (List Int) := out.flatMap fun o => allRow o w w.hi
def allE (h : House) : List (List Int) := h.ws.foldl allStep [[]]
theorem foldl_take_succ {α β : Type} {f : β → α → β} {b : β} {l : List α} {k : Nat} (hk : k < l.length) : (l.take (k + 1)).foldl f b = f ((l.take k).foldl f b) l[k] := by
  rw [List.take_succ_eq_append_getElem hk, List.foldl_append]; rfl
theorem mem_allStep {out : List (List Int)} {w : Watcher} {x : List Int} : x ∈ allStep out w ↔ ∃ o ∈ out, ∃ f, w.lo ≤ f ∧ f ≤ w.hi ∧ x = o ++ [f] := by
  simp only [allStep, allRow, List.mem_flatMap, List.mem_map, mem_upTo]
  constructor
  · rintro ⟨o, ho, f, hf, rfl⟩; exact ⟨o, ho, f, hf.1, hf.2, rfl⟩
  · rintro ⟨o, ho, f, h1, h2, rfl⟩; exact ⟨o, ho, f, ⟨h1, h2⟩, rfl⟩
theorem allE_mem {h : House} (hf : Fine h) : ∀ k, k ≤ h.ws.length → ∀ o ∈ (h.ws.take k).foldl allStep [[]], o.length = k ∧ ∀ f ∈ o, 1 ≤ f ∧ f ≤ 300
  | 0, _ => by simp
  | k + 1, hk => by
    rw [foldl_take_succ (by omega)]
    intro x hx
    obtain ⟨o, ho, f, h1, h2, rfl⟩ := mem_allStep.1 hx
    obtain ⟨h3, h4⟩ := allE_mem hf k (by omega) o ho
    have := hf.w (k := k) (by omega)
    refine ⟨by simp [h3], fun f' hf' => ?_⟩
    rcases List.mem_append.1 hf' with h | h
    · exact h4 _ h
    · simp only [List.mem_singleton] at h; omega
end Go.Proofs.Ytgncpbkedhchfaa
namespace Go.Proofs.Ytgncpbkedhchfaa
open Go.AM Go.IntWalk
set_option maxRecDepth 100000
set_option maxHeartbeats 2000000
set_option linter.unusedSimpArgs false
variable {H : AH} {R : AV → AH → Prop}
def okDay (h : House) (fs : List Int) (d : Nat) : Bool := decide ((numbersE h d fs).1 ≤ (numbersE h d fs).2)
def okE (h : House) (fs : List Int) : Bool := (List.range h.days.length).all (okDay h fs)
def truthsE (h : House) : List (List Int) := (allE h).filter (okE h)
theorem all_range_succ {p : Nat → Bool} {n : Nat} : (List.range (n + 1)).all p = ((List.range n).all p && p n) := by
  rw [List.range_succ, List.all_append]; simp
theorem all_range_le {p : Nat → Bool} {n m : Nat} (h : n ≤ m) (hp : (List.range n).all p = false) : (List.range m).all p = false := by
  rw [Bool.eq_false_iff] at hp ⊢
  intro hm
  apply hp
  rw [List.all_eq_true] at hm ⊢
  intro x hx
  exact hm x (by simp at hx ⊢; omega)
theorem allE_mem' {h : House} (hf : Fine h) {o : List Int} (ho : o ∈ allE h) : o.length = h.ws.length ∧ ∀ f ∈ o, 1 ≤ f ∧ f ≤ 300 := by
  have := allE_mem hf h.ws.length (Nat.le_refl _) o (by rw [List.take_length]; exact ho)
  exact this
theorem truthsE_mem {h : House} (hf : Fine h) {o : List Int} (ho : o ∈ truthsE h) : o.length = h.ws.length ∧ ∀ f ∈ o, 1 ≤ f ∧ f ≤ 300 := allE_mem' hf (List.mem_filter.1 ho).1
end Go.Proofs.Ytgncpbkedhchfaa
namespace Go.Proofs.Ytgncpbkedhchfaa
open Go.AM Go.IntWalk
set_option maxRecDepth 100000
set_option maxHeartbeats 2000000
set_option linter.unusedSimpArgs false
variable {H : AH} {R : AV → AH → Prop}
structure Sized (h : House) : Prop where
  name : ∀ w ∈ h.ws, w.name.size ≤ 9223372036854775807
  ws : h.ws.length ≤ 9223372036854775807
  days : h.days.length ≤ 9223372036854775807
def errE (h : House) : Int := (checkE h).2.2
theorem firstErr_none' {α : Type} {f : Nat → α → Int} : ∀ {l : List α} {i : Nat}, firstErr f i l = none → ∀ j (hj : j < l.length), f (i + j) l[j] = 0
  | [], _, _, j, hj => by simp at hj
  | x :: xs, i, h, 0, _ => by
    simp only [firstErr] at h
    split at h
    · cases h
    · rename_i h0
      simpa using h0
  | x :: xs, i, h, j + 1, hj => by
    simp only [firstErr] at h
    split at h
    · cases h
    · have := firstErr_none' h j (by simpa using hj)
      rw [show i + (j + 1) = i + 1 + j from by omega]
      simpa using this
theorem firstErr_ne {α : Type} {f : Nat → α → Int} : ∀ {l : List α} {i n : Nat} {e : Int}, firstErr f i l = some (n, e) → e ≠ 0
  | [], _, _, _, h => by simp [firstErr] at h
  | x :: xs, i, n, e, h => by
    simp only [firstErr] at h
    split at h
    · rename_i h0
      simp only [Option.some.injEq, Prod.mk.injEq] at h
      rw [← h.2]; exact h0
    · exact firstErr_ne h
theorem fine_of {h : House} (he : errE h = 0) : Fine h := by
  unfold errE checkE at he
  split at he
  · cases he
  · rename_i h1
    split at he
    · rename_i n e hf
      exact absurd he (firstErr_ne hf)
    · rename_i hf
      split at he
      · cases he
      · rename_i h2
        split at he
        · rename_i n e hg
          exact absurd he (firstErr_ne hg)
        · rename_i hg
          have w0 := firstErr_none' hf
          have d0 := firstErr_none' hg
          have hw : ∀ w ∈ h.ws, watcherE w = 0 := fun w hm => by
            obtain ⟨j, hj, rfl⟩ := List.getElem_of_mem hm
            have := w0 j hj
            simp only [wE] at this
            split at this
            · exact this
            · rename_i hne; exact absurd this hne
          have hd : ∀ d ∈ h.days, d.length = h.ws.length ∧ ∀ c ∈ d, -1 ≤ c ∧ c ≤ 120 := fun d hm => by
            obtain ⟨j, hj, rfl⟩ := List.getElem_of_mem hm
            have := d0 j hj
            simp only [dE] at this
            split at this
            · cases this
            · rename_i hl
              split at this
              · rename_i ha
                refine ⟨by omega, fun c hc => ?_⟩
                have := (List.all_eq_true.1 ha) c hc
                simpa using this
              · cases this
          have hw' : ∀ w ∈ h.ws, (1 ≤ w.lo ∧ w.lo ≤ w.hi ∧ w.hi ≤ 300 ∧ w.hi - w.lo ≤ 6) ∧ 0 ≤ w.off ∧ w.off ≤ 9 := fun w hm => by
            have := hw w hm
            unfold watcherE at this
            split at this
            · cases this
            · rename_i h3
              split at this
              · cases this
              · rename_i h4
                unfold endsE at h3 h4
                split at h3
                · rename_i h5
                  rw [if_pos h5] at h4
                  split at h4 <;> omega
                · omega
          exact ⟨by omega, by omega, fun d hm => (hd d hm).1, fun d hm => (hd d hm).2, fun w hm => (hw' w hm).1, fun w hm => (hw' w hm).2⟩
def indexE (h : House) (n below : Int) : Int := if errE h = 0 then (if 0 ≤ n ∧ n ≤ below - 1 then 0 else 4) else errE h
theorem indexE_zero {h : House} {n below : Int} (hi : indexE h n below = 0) : Fine h ∧ 0 ≤ n ∧ n < below := by
  unfold indexE at hi
  split at hi
  · rename_i he
    split at hi
    · rename_i hn
      exact ⟨fine_of he, by omega⟩
    · cases hi
  · rename_i he; exact absurd hi he
def join (s x : Int × Int) : Int × Int := (min x.1 s.1, max x.2 s.2)
def hullFrom (s : Int × Int) (l : List (Int × Int)) : Int × Int := l.foldl join s
def hull : List (Int × Int) → Int × Int
  | [] => (9223372036854775807, -1)
  | x :: xs => hullFrom x xs
def getI (l : List Int) (k : Nat) : Int := l.getD k 0
theorem getI_eq {l : List Int} {k : Nat} (h : k < l.length) : getI l k = l[k] := by
  simp [getI, h]
def factorsOf (h : House) (w : Nat) : List (Int × Int) := (truthsE h).map fun fs => (getI fs w, getI fs w)
def factorE (h : House) (w : Int) : (Int × Int) × Int :=
  if indexE h w h.ws.length ≠ 0 then ((0, 0), indexE h w h.ws.length) else if truthsE h = [] then ((0, 0), 8) else (hull (factorsOf h w.toNat), 0)
def numbersOf (h : House) (d : Nat) : List (Int × Int) := (truthsE h).map fun fs => numbersE h d fs
def numberE (h : House) (d : Int) : (Int × Int) × Int :=
  if indexE h d h.days.length ≠ 0 then ((0, 0), indexE h d h.days.length) else if truthsE h = [] then ((0, 0), 8) else (hull (numbersOf h d.toNat), 0)
theorem okE_day {h : House} {fs : List Int} (hm : fs ∈ truthsE h) {d : Nat} (hd : d < h.days.length) : (numbersE h d fs).1 ≤ (numbersE h d fs).2 := by
  have := (List.mem_filter.1 hm).2
  simp only [okE, List.all_eq_true] at this
  simpa [okDay] using this d (by simpa using hd)
end Go.Proofs.Ytgncpbkedhchfaa
namespace Go.Proofs.Ytgncpbkedhchfaa
open Go.AM Go.IntWalk
set_option maxRecDepth 100000
set_option maxHeartbeats 2000000
set_option linter.unusedSimpArgs false
variable {H : AH} {R : AV → AH → Prop}
def withE (h : House) (d w : Nat) (c : Int) : House := { h with days := h.days.set d ((h.days.getD d []).set w c) }
theorem getD_eq {α : Type} {l : List α} {k : Nat} {x : α} (h : k < l.length) : l.getD k x = l[k] := by
  simp [h]
theorem Fine.withE {h : House} (hf : Fine h) {d w : Nat} {c : Int} (hd : d < h.days.length) (hc : -1 ≤ c ∧ c ≤ 120) : Fine (withE h d w c) := by
  refine ⟨hf.ws, by simp [Proofs.Ytgncpbkedhchfaa.withE]; exact hf.days, fun x hx => ?_, fun x hx y hy => ?_, hf.lo, hf.off⟩
  · rcases List.mem_or_eq_of_mem_set hx with hx | rfl
    · exact hf.len _ hx
    · rw [List.length_set, getD_eq hd]; exact hf.len _ (List.getElem_mem hd)
  · rcases List.mem_or_eq_of_mem_set hx with hx | rfl
    · exact hf.count _ hx _ hy
    · rw [getD_eq hd] at hy
      rcases List.mem_or_eq_of_mem_set hy with hy | rfl
      · exact hf.count _ (List.getElem_mem hd) _ hy
      · exact hc
def canE (h : House) (d w : Nat) (c : Int) : Bool := (truthsE h).any fun fs => okDay (withE h d w c) fs d
def wouldFold (h : House) (d w n : Nat) : Int × Int := (List.range n).foldl (fun s (c : Nat) => if canE h d w (c : Int) then join s ((c : Int), (c : Int)) else s) (121, -1)
def wouldErr (h : House) (d w : Int) : Int :=
  if indexE h d h.days.length ≠ 0 then indexE h d h.days.length else if indexE h w h.ws.length ≠ 0 then indexE h w h.ws.length else if getI (h.days.getD d.toNat []) w.toNat ≠ -1 then 5 else 0
def wouldE (h : House) (d w : Int) : (Int × Int) × Int :=
  if wouldErr h d w ≠ 0 then ((0, 0), wouldErr h d w) else if truthsE h = [] then ((0, 0), 8) else
  if (wouldFold h d.toNat w.toNat 121).2 < 0 then ((0, 0), 9) else (wouldFold h d.toNat w.toNat 121, 0)
theorem any_take_succ {α : Type} {p : α → Bool} {l : List α} {k : Nat} (hk : k < l.length) : (l.take (k + 1)).any p = ((l.take k).any p || p l[k]) := by
  rw [List.take_succ_eq_append_getElem hk, List.any_append]; simp
end Go.Proofs.Ytgncpbkedhchfaa
namespace Go.Proofs.Ytgncpbkedhchfaa
open Go.AM Go.IntWalk
set_option maxRecDepth 100000
set_option maxHeartbeats 2000000
set_option linter.unusedSimpArgs false
variable {H : AH} {R : AV → AH → Prop}
def lowE (a b : Int) : Int × Int := ((a.toNat / Nat.gcd a.toNat b.toNat : Nat), (b.toNat / Nat.gcd a.toNat b.toNat : Nat))
def InR (m : Int) (q : Int × Int) : Prop := 1 ≤ q.1 ∧ q.1 ≤ m ∧ 1 ≤ q.2 ∧ q.2 ≤ m
theorem lowE_in {a b m : Int} (ha : 1 ≤ a ∧ a ≤ m) (hb : 1 ≤ b ∧ b ≤ m) : InR m (lowE a b) := by
  have hg : 0 < Nat.gcd a.toNat b.toNat := Nat.gcd_pos_of_pos_left _ (by omega)
  have h1 : 1 ≤ a.toNat / Nat.gcd a.toNat b.toNat := (Nat.le_div_iff_mul_le hg).2 (by rw [Nat.one_mul]; exact Nat.gcd_le_left _ (by omega))
  have h2 : 1 ≤ b.toNat / Nat.gcd a.toNat b.toNat := (Nat.le_div_iff_mul_le hg).2 (by rw [Nat.one_mul]; exact Nat.gcd_le_right _ (by omega))
  have h3 := Nat.div_le_self a.toNat (Nat.gcd a.toNat b.toNat)
  have h4 := Nat.div_le_self b.toNat (Nat.gcd a.toNat b.toNat)
  unfold InR lowE
  generalize a.toNat / Nat.gcd a.toNat b.toNat = x at *
  generalize b.toNat / Nat.gcd a.toNat b.toNat = y at *
  simp only
  omega
def ltE (p q : Int × Int) : Prop := p.1 * q.2 < q.1 * p.2
instance (p q : Int × Int) : Decidable (ltE p q) := inferInstanceAs (Decidable (_ < _))
theorem mul_in {a b m n : Int} (ha : 1 ≤ a ∧ a ≤ m) (hb : 1 ≤ b ∧ b ≤ n) : 1 ≤ a * b ∧ a * b ≤ m * n := by
  have h1 : 1 * 1 ≤ a * b := Int.mul_le_mul ha.1 hb.1 (by omega) (by omega)
  have h2 : a * b ≤ m * n := Int.mul_le_mul ha.2 hb.2 (by omega) (by omega)
  omega
def quotStep (s : (Int × Int) × (Int × Int)) (q : Int × Int) : (Int × Int) × (Int × Int) := (if ltE q s.1 then q else s.1, if ltE s.2 q then q else s.2)
def quotE : List (Int × Int) → (Int × Int) × (Int × Int)
  | [] => ((0, 0), (0, 0))
  | q :: qs => qs.foldl quotStep (q, q)
theorem quotFold_in {m : Int} : ∀ {l : List (Int × Int)} {s : (Int × Int) × (Int × Int)}, (∀ q ∈ l, InR m q) → InR m s.1 → InR m s.2 → InR m (l.foldl quotStep s).1 ∧ InR m (l.foldl quotStep s).2
  | [], s, _, h1, h2 => ⟨h1, h2⟩
  | q :: l, s, h, h1, h2 => by
    have hq := h q (by simp)
    refine quotFold_in (l := l) (s := quotStep s q) (fun q' hq' => h q' (by simp [hq'])) ?_ ?_
    · show InR m (if ltE q s.1 then q else s.1)
      split <;> assumption
    · show InR m (if ltE s.2 q then q else s.2)
      split <;> assumption
theorem quotE_in {m : Int} {l : List (Int × Int)} (h : ∀ q ∈ l, InR m q) (h0 : l ≠ []) : InR m (quotE l).1 ∧ InR m (quotE l).2 := by
  cases l with
  | nil => exact absurd rfl h0
  | cons q l => exact quotFold_in (fun q' hq' => h q' (by simp [hq'])) (h q (by simp)) (h q (by simp))
def quotsOf (l : List (List Int)) (a b : Nat) : List (Int × Int) := l.map fun fs => lowE (getI fs a) (getI fs b)
def Factors (n : Nat) (l : List (List Int)) : Prop := ∀ fs ∈ l, fs.length = n ∧ ∀ f ∈ fs, 1 ≤ f ∧ f ≤ 300
theorem Factors.at_ {n : Nat} {l : List (List Int)} (h : Factors n l) {i a : Nat} (hi : i < l.length) (ha : a < n) : a < l[i].length ∧ 1 ≤ getI l[i] a ∧ getI l[i] a ≤ 300 := by
  obtain ⟨h1, h2⟩ := h _ (List.getElem_mem hi)
  have h3 : a < l[i].length := by omega
  have := h2 _ (List.getElem_mem h3)
  rw [getI_eq h3]
  exact ⟨h3, this⟩
theorem quotsOf_in {n : Nat} {l : List (List Int)} (h : Factors n l) {a b : Nat} (ha : a < n) (hb : b < n) : ∀ q ∈ quotsOf l a b, InR 300 q := by
  intro q hq
  obtain ⟨fs, hfs, rfl⟩ := List.mem_map.1 hq
  obtain ⟨i, hi, rfl⟩ := List.getElem_of_mem hfs
  have h1 := h.at_ hi ha
  have h2 := h.at_ hi hb
  exact lowE_in ⟨h1.2.1, h1.2.2⟩ ⟨h2.2.1, h2.2.2⟩
theorem InR.le {m n : Int} {q : Int × Int} (h : InR m q) (hm : m ≤ n) : InR n q := by
  unfold InR at *; omega
def spreadE (s : (Int × Int) × (Int × Int)) : Int × Int := lowE (s.2.1 * s.1.2) (s.2.2 * s.1.1)
theorem spreadE_in {s : (Int × Int) × (Int × Int)} (h1 : InR 300 s.1) (h2 : InR 300 s.2) : InR 90000 (spreadE s) := by
  unfold InR at h1 h2
  exact lowE_in (mul_in (m := 300) (n := 300) (by omega) (by omega)) (mul_in (m := 300) (n := 300) (by omega) (by omega))
def pairErr (h : House) (a b : Int) : Int := if indexE h a h.ws.length ≠ 0 then indexE h a h.ws.length else indexE h b h.ws.length
def betweenE (h : House) (a b : Int) : ((Int × Int) × (Int × Int)) × Int :=
  if pairErr h a b ≠ 0 then (((0, 0), (0, 0)), pairErr h a b) else if truthsE h = [] then (((0, 0), (0, 0)), 8) else (quotE (quotsOf (truthsE h) a.toNat b.toNat), 0)
theorem truthsE_factors {h : House} (hf : Fine h) : Factors h.ws.length (truthsE h) := fun _ hfs => truthsE_mem hf hfs
def nextStep (l : List (List Int)) (a : Nat) (s : (Int × Int) × (Int × Int)) (b : Nat) : (Int × Int) × (Int × Int) :=
  if ltE s.2 (spreadE (quotE (quotsOf l a b))) then (((a : Int), (b : Int)), spreadE (quotE (quotsOf l a b))) else s
def nextRow (l : List (List Int)) (a m : Nat) (s : (Int × Int) × (Int × Int)) : (Int × Int) × (Int × Int) := (List.range' (a + 1) m).foldl (nextStep l a) s
def nextAll (l : List (List Int)) (n k : Nat) : (Int × Int) × (Int × Int) := (List.range k).foldl (fun s a => nextRow l a (n - (a + 1)) s) ((-1, -1), (1, 1))
def nextE (h : House) : (Int × Int) × Int :=
  if errE h ≠ 0 then ((0, 0), errE h) else if truthsE h = [] then ((0, 0), 8) else
  if (nextAll (truthsE h) h.ws.length h.ws.length).1.1 < 0 then ((0, 0), 9) else ((nextAll (truthsE h) h.ws.length h.ws.length).1, 0)
end Go.Proofs.Ytgncpbkedhchfaa
namespace Go.Proofs.Ytgncpbkedhchfaa
open Go.AM Go.IntWalk
set_option maxRecDepth 100000
set_option maxHeartbeats 2000000
set_option linter.unusedSimpArgs false
variable {H : AH} {R : AV → AH → Prop}
def cntRow (h : House) (d m : Nat) : List Int := (List.range m).filterMap fun (w : Nat) => if getI (h.days.getD d []) w ≠ -1 then some ((d : Int) * h.ws.length + w) else none
def countsTo (h : House) (n : Nat) : List Int := (List.range n).flatMap fun d => cntRow h d h.ws.length
def countsE (h : House) : List Int := countsTo h h.days.length
theorem cntRow_succ {h : House} {d m : Nat} : cntRow h d (m + 1) = cntRow h d m ++ (if getI (h.days.getD d []) m ≠ -1 then [(d : Int) * h.ws.length + m] else []) := by
  rw [cntRow, List.range_succ, List.filterMap_append, cntRow]
  congr 1
  generalize h.days.getD d [] = row
  by_cases hc : getI row m = -1
  · simp only [List.filterMap_cons, List.filterMap_nil, hc, ne_eq, not_true, if_false]
  · simp only [List.filterMap_cons, List.filterMap_nil, hc, ne_eq, not_false_eq_true, if_true]
theorem countsTo_succ {h : House} {n : Nat} : countsTo h (n + 1) = countsTo h n ++ cntRow h n h.ws.length := by
  rw [countsTo, List.range_succ, List.flatMap_append, countsTo]; simp
theorem cntRow_length {h : House} {d m : Nat} : (cntRow h d m).length ≤ m := by
  have := List.length_filterMap_le (fun (w : Nat) => if getI (h.days.getD d []) w ≠ -1 then some ((d : Int) * h.ws.length + w) else none) (List.range m)
  simpa [cntRow] using this
theorem countsTo_length {h : House} (hf : Fine h) : ∀ n, (countsTo h n).length ≤ n * 3
  | 0 => by simp [countsTo]
  | n + 1 => by
    rw [countsTo_succ, List.length_append]
    have h1 := countsTo_length hf n
    have h2 := cntRow_length (h := h) (d := n) (m := h.ws.length)
    have h3 := hf.ws
    omega
theorem countsE_length {h : House} (hf : Fine h) : (countsE h).length ≤ 12 := by
  have h1 := countsTo_length hf h.days.length
  have h2 := hf.days
  unfold countsE
  omega
def maskRow (p : Nat → Bool) (row : List Int) (base j : Nat) : List Int := (List.range row.length).map fun w => if w < j ∧ p (base + w) = true then -1 else getI row w
def maskE (h : House) (p : Nat → Bool) : House := { h with days := (List.range h.days.length).map fun d => maskRow p (h.days.getD d []) (d * h.ws.length) (h.days.getD d []).length }
def butE (h : House) (l : List Int) : House := maskE h fun x => decide ((x : Int) ∈ l)
theorem maskRow_length {p : Nat → Bool} {row : List Int} {base j : Nat} : (maskRow p row base j).length = row.length := by simp [maskRow]
theorem maskRow_mem {p : Nat → Bool} {row : List Int} {base j : Nat} {x : Int} (h : x ∈ maskRow p row base j) : x = -1 ∨ x ∈ row := by
  obtain ⟨w, hw, rfl⟩ := List.mem_map.1 h
  simp only [List.mem_range] at hw
  split
  · exact .inl rfl
  · rw [getI_eq hw]; exact .inr (List.getElem_mem hw)
theorem maskE_length {h : House} {p : Nat → Bool} : (maskE h p).days.length = h.days.length := by simp [maskE]
theorem maskE_day {h : House} {p : Nat → Bool} {d : Nat} (hd : d < h.days.length) : (maskE h p).days[d]'(by rw [maskE_length]; exact hd) = maskRow p h.days[d] (d * h.ws.length) h.days[d].length := by
  simp only [maskE, List.getElem_map, List.getElem_range, getD_eq hd]
theorem Fine.mask {h : House} (hf : Fine h) (p : Nat → Bool) : Fine (maskE h p) := by
  have hrow : ∀ x ∈ (maskE h p).days, ∃ d, ∃ hd : d < h.days.length, x = maskRow p h.days[d] (d * h.ws.length) h.days[d].length := fun x hx => by
    obtain ⟨d, hd, rfl⟩ := List.mem_map.1 hx
    simp only [List.mem_range] at hd
    exact ⟨d, hd, by simp only [getD_eq hd]⟩
  refine ⟨hf.ws, by simp [maskE]; exact hf.days, fun x hx => ?_, fun x hx y hy => ?_, hf.lo, hf.off⟩
  · obtain ⟨d, hd, rfl⟩ := hrow x hx
    rw [maskRow_length]; exact hf.len _ (List.getElem_mem hd)
  · obtain ⟨d, hd, rfl⟩ := hrow x hx
    rcases maskRow_mem hy with rfl | hm
    · omega
    · exact hf.count _ (List.getElem_mem hd) _ hm
theorem Ints_run (v w : AV) (l m : List Int) (hv : IsInts (Old H) H v l) (hw : IsInts (Old H) H w m) (hl : l.length < 9000000000000000000) (k : R (.bool (decide (l = m))) H) : CallQ prog (.func 31 [] []) [v, w] H R := by
  by_cases hlen : l.length = m.length
  · have hlen' : (l.length : Int) = m.length := by omega
    refine CallQ_enter (fn:=c31) rfl (Nat.le_of_ble_eq_true rfl) ?_;simp(maxSteps:=9999999)(disch:=first|omega|(simp only[AN];omega))only[c31,envFrom,hv.len,hw.len,hlen',↓KP,EK,↓reduceIte,reduceCtorEq,Nat.reduceEqDiff,Nat.reduceAdd,Nat.reduceLeDiff,Nat.reduceMul]
    refine K_loop (fun mz ez H1 => ∃ (i : Nat) (b : Bool) (tail : Env), ez = (0, v) :: (1, w) :: (4, .bool false) :: (5, .bool b) :: (6, I i) :: tail ∧ (H1 = H) ∧ (i ≤ m.length) ∧ (b = decide (l.take i = m.take i)) ∧ (b = false → l ≠ m) ∧ mz = m.length - i) _ ⟨0, true, _, rfl, ?_, ?_, ?_, (by intro h; cases h), rfl⟩ ?_
    iterate 3 (focus (first|(with_reducible rfl)|omega|(with_reducible(repeat first|exact Grew.refl _|assumption|apply Grew.alloc|refine Grew.set ?_ _ (by first|omega|(simp only[AN];omega)));done)|(simp(maxSteps:=9999999)(disch:=first|omega|(simp only[AN];omega))only[↓KP,EK,↓reduceIte,reduceCtorEq,Nat.reduceEqDiff,Nat.reduceAdd,Nat.reduceLeDiff,Nat.reduceMul]<;>first|omega|rfl)|(simp;done)|rfl))
    rintro mz ez H1 ⟨i, b, tail, rfl, hH, hi, hb, hb2, hmz⟩; subst mz
    subst H1
    have done : ∀ {b : Bool}, b = decide (l = m) → R (.bool b) H := fun h => by rw [h]; exact k
    cases b with
    | false =>
      simp(maxSteps:=9999999)(disch:=first|omega|(simp only[AN];omega))only[↓KP,EK,↓reduceIte,reduceCtorEq,Nat.reduceEqDiff,Nat.reduceAdd,Nat.reduceLeDiff,Nat.reduceMul]
      exact done (decide_eq_false (hb2 rfl)).symm
    | true =>
      simp(maxSteps:=9999999)(disch:=first|omega|(simp only[AN];omega))only[hv.len,hlen',↓KP,EK,↓reduceIte,reduceCtorEq,Nat.reduceEqDiff,Nat.reduceAdd,Nat.reduceLeDiff,Nat.reduceMul]
      refine C_decide (fun hc => ?_) (fun hc => ?_)
      · have hi' : i < m.length := by omega
        have hi'' : i < l.length := by omega
        obtain ⟨p_b, p_i, p_ro, p_vs, p_lt, p⟩ := hv.rdInt (k := i) rfl hi''
        obtain ⟨q_b, q_i, q_ro, q_vs, q_lt, q⟩ := hw.rdInt (k := i) rfl hi'
        have e1 : IntKind.i64.wrap ((i : Int) + 1) = ((i + 1 : Nat) : Int) := i64_in _ (by omega)
        simp(maxSteps:=9999999)(disch:=first|omega|(simp only[AN];omega))only[↓KP,EK,↓reduceIte,reduceCtorEq,Nat.reduceEqDiff,Nat.reduceAdd,Nat.reduceLeDiff,Nat.reduceMul]
        refine K_draw ?_;simp(maxSteps:=9999999)(disch:=first|omega|(simp only[AN];omega))only[p,q,e1,↓KP,EK,↓reduceIte,reduceCtorEq,Nat.reduceEqDiff,Nat.reduceAdd,Nat.reduceLeDiff,Nat.reduceMul]
        simp only [true_eq_decide_iff] at hb
        have hnew : decide (l[i] = m[i]) = decide (l.take (i + 1) = m.take (i + 1)) := by
          rw [List.take_succ_eq_append_getElem hi', List.take_succ_eq_append_getElem hi'', hb, decide_eq_decide]
          exact ⟨fun e => by rw [e], fun e => by have := List.append_cancel_left e; simpa using this⟩
        exact ⟨_, by omega, i + 1, _, _, rfl, (by first|omega|(with_reducible assumption)|(with_reducible(repeat first|exact Grew.refl _|assumption|apply Grew.alloc|refine Grew.set ?_ _ (by first|omega|(simp only[AN];omega)));done)|(simp(maxSteps:=9999999)(disch:=first|omega|(simp only[AN];omega))only[↓KP,EK,↓reduceIte,reduceCtorEq,Nat.reduceEqDiff,Nat.reduceAdd,Nat.reduceLeDiff,Nat.reduceMul]<;>first|omega|rfl)), (by first|omega|(with_reducible assumption)|(with_reducible(repeat first|exact Grew.refl _|assumption|apply Grew.alloc|refine Grew.set ?_ _ (by first|omega|(simp only[AN];omega)));done)|(simp(maxSteps:=9999999)(disch:=first|omega|(simp only[AN];omega))only[↓KP,EK,↓reduceIte,reduceCtorEq,Nat.reduceEqDiff,Nat.reduceAdd,Nat.reduceLeDiff,Nat.reduceMul]<;>first|omega|rfl)), (by exact hnew), (by intro h e; subst e; simp at h), rfl⟩
      · have hie : i = m.length := by omega
        subst hie
        rw [List.take_length, List.take_of_length_le (by omega)] at hb
        simp(maxSteps:=9999999)(disch:=first|omega|(simp only[AN];omega))only[↓KP,EK,↓reduceIte,reduceCtorEq,Nat.reduceEqDiff,Nat.reduceAdd,Nat.reduceLeDiff,Nat.reduceMul]
        exact done hb
  · have hlen' : ¬ (l.length : Int) = m.length := by omega
    refine CallQ_enter (fn:=c31) rfl (Nat.le_of_ble_eq_true rfl) ?_;simp(maxSteps:=9999999)(disch:=first|omega|(simp only[AN];omega))only[c31,envFrom,hv.len,hw.len,hlen',↓KP,EK,↓reduceIte,reduceCtorEq,Nat.reduceEqDiff,Nat.reduceAdd,Nat.reduceLeDiff,Nat.reduceMul]
    refine K_loop (fun m e H' => e = [(0, v), (1, w), (4, .bool false), (5, .bool false), (6, I 0)] ∧ H' = H) 0 ⟨rfl, rfl⟩ ?_
    rintro _ e H' ⟨rfl, rfl⟩
    simp(maxSteps:=9999999)(disch:=first|omega|(simp only[AN];omega))only[↓KP,EK,↓reduceIte,reduceCtorEq,Nat.reduceEqDiff,Nat.reduceAdd,Nat.reduceLeDiff,Nat.reduceMul]
    have : decide (l = m) = false := by rw [decide_eq_false_iff_not]; intro e; exact hlen (by rw [e])
    rw [this] at k
    exact k
def firstOf (o : List Int) (i : Nat) : Int := if 0 < i then getI o (i - 1) + 1 else 0
def choRow (o : List Int) (i : Nat) (hi : Int) : List (List Int) := (upTo (firstOf o i) hi).map fun f => o ++ [f]
def choStep (below : Nat) (out : List (List Int)) (i : Nat) : List (List Int) := out.flatMap fun o => choRow o i ((below : Int) - 1)
def choicesE (below many : Nat) : List (List Int) := (List.range many).foldl (choStep below) [[]]
theorem choicesE_succ {n m : Nat} : choicesE n (m + 1) = choStep n (choicesE n m) m := by
  simp only [choicesE, List.range_succ, List.foldl_append, List.foldl_cons, List.foldl_nil]
end Go.Proofs.Ytgncpbkedhchfaa
namespace Go.Proofs.Ytgncpbkedhchfaa
open Go.AM Go.IntWalk
set_option maxRecDepth 100000
set_option maxHeartbeats 2000000
set_option linter.unusedSimpArgs false
variable {H : AH} {R : AV → AH → Prop}
def ownOf (all c : List Int) : List Int := c.map fun i => getI all i.toNat
def candE (h : House) (m : Nat) : List (List Int) := (choicesE (countsE h).length m).map (ownOf (countsE h))
def hasTruth (h : House) (l : List Int) : Bool := decide (0 < (truthsE (butE h l)).length)
def wrongList (h : House) : List Int := (((List.range (countsE h).length).flatMap (candE h)).find? (hasTruth h)).getD (countsE h)
def wrongE (h : House) : List Int × Int := if errE h ≠ 0 then ([], errE h) else (wrongList h, 0)
theorem find_pre {α : Type} {p : α → Bool} {a b : List α} (h : ∀ x ∈ a, p x = false) : (a ++ b).find? p = b.find? p := by
  rw [List.find?_append]
  have : a.find? p = none := by
    rw [List.find?_eq_none]
    intro x hx; simp [h x hx]
  rw [this]; rfl
theorem find_here {α : Type} {f : Nat → List α} {p : α → Bool} {n m i : Nat} (hm : m < n) (hi : i < (f m).length) (h1 : ∀ x ∈ (List.range m).flatMap f, p x = false) (h2 : ∀ x ∈ (f m).take i, p x = false) (h3 : p (f m)[i] = true) : ((List.range n).flatMap f).find? p = some (f m)[i] := by
  have e1 : List.range n = List.range m ++ (m :: (List.range n).drop (m + 1)) := by
    have h4 := List.take_append_drop m (List.range n)
    rw [List.drop_eq_getElem_cons (by simpa using hm), List.take_range, Nat.min_eq_left (by omega), List.getElem_range] at h4
    exact h4.symm
  have e2 : ∀ Z : List α, f m ++ Z = (f m).take i ++ ((f m)[i] :: ((f m).drop (i + 1) ++ Z)) := fun Z => by
    have h5 := List.take_append_drop i (f m)
    rw [List.drop_eq_getElem_cons hi] at h5
    calc f m ++ Z = ((f m).take i ++ (f m)[i] :: (f m).drop (i + 1)) ++ Z := by rw [h5]
      _ = _ := by rw [List.append_assoc, List.cons_append]
  rw [e1, List.flatMap_append, find_pre h1, List.flatMap_cons, e2, find_pre h2, List.find?_cons_of_pos h3]
end Go.Proofs.Ytgncpbkedhchfaa
namespace Go.Proofs.Ytgncpbkedhchfaa
open Go.AM Go.IntWalk
set_option maxRecDepth 100000
set_option maxHeartbeats 2000000
set_option linter.unusedSimpArgs false
variable {H : AH} {R : AV → AH → Prop}
theorem out_run (lo hi : Int) (v : AV) (l : List Int) (hv : IsInts (Old H) H v l) (hl : l.length < 1000000) (k : R (.bool (l.any fun n => decide (n < lo) || decide (hi < n))) H) : CallQ prog (.func 105 [] []) [I lo, I hi, v] H R := by
  refine CallQ_enter (fn:=c105) rfl (Nat.le_of_ble_eq_true rfl) ?_;simp(maxSteps:=9999999)(disch:=first|omega|(simp only[AN];omega))only[c105,envFrom,hv.len,↓KP,EK,↓reduceIte,reduceCtorEq,Nat.reduceEqDiff,Nat.reduceAdd,Nat.reduceLeDiff,Nat.reduceMul]
  refine K_loop (fun mz ez H1 => ∃ (i : Nat) (tail : Env), ez = (0, I lo) :: (1, I hi) :: (2, v) :: (6, .bool false) :: (9, v) :: (10, I l.length) :: (11, I i) :: tail ∧ (H1 = H) ∧ (i ≤ l.length) ∧ ((l.take i).any (fun n => decide (n < lo) || decide (hi < n)) = false) ∧ mz = l.length - i) _ ⟨0, _, rfl, ?_, ?_, ?_, rfl⟩ ?_
  iterate 3 (focus (first|(with_reducible rfl)|omega|(with_reducible(repeat first|exact Grew.refl _|assumption|apply Grew.alloc|refine Grew.set ?_ _ (by first|omega|(simp only[AN];omega)));done)|(simp(maxSteps:=9999999)(disch:=first|omega|(simp only[AN];omega))only[↓KP,EK,↓reduceIte,reduceCtorEq,Nat.reduceEqDiff,Nat.reduceAdd,Nat.reduceLeDiff,Nat.reduceMul]<;>first|omega|rfl)|(simp;done)|rfl))
  rintro mz ez H1 ⟨i, tail, rfl, hH, hil, hno, hmz⟩; subst mz
  subst H1
  simp(maxSteps:=9999999)(disch:=first|omega|(simp only[AN];omega))only[↓KP,EK,↓reduceIte,reduceCtorEq,Nat.reduceEqDiff,Nat.reduceAdd,Nat.reduceLeDiff,Nat.reduceMul]
  refine C_decide (fun hc => ?_) (fun hc => ?_)
  · have hi' : i < l.length := by omega
    obtain ⟨p_b, p_i, p_ro, p_vs, p_lt, p⟩ := hv.rdInt rfl hi'
    have e1 : IntKind.i64.wrap ((i : Int) + 1) = ((i + 1 : Nat) : Int) := i64_in _ (by omega)
    have hyes : (l[i] < lo ∨ hi < l[i]) → (l.any fun n => decide (n < lo) || decide (hi < n)) = true := fun h => by
      rw [List.any_eq_true]
      exact ⟨l[i], List.getElem_mem hi', by simpa using h⟩
    by_cases h1 : l[i] < lo
    · simp(maxSteps:=9999999)(disch:=first|omega|(simp only[AN];omega))only[p,h1,↓KP,EK,↓reduceIte,reduceCtorEq,Nat.reduceEqDiff,Nat.reduceAdd,Nat.reduceLeDiff,Nat.reduceMul]
      rw [hyes (.inl h1)] at k; exact k
    · by_cases h2 : hi < l[i]
      · simp(maxSteps:=9999999)(disch:=first|omega|(simp only[AN];omega))only[p,h1,h2,↓KP,EK,↓reduceIte,reduceCtorEq,Nat.reduceEqDiff,Nat.reduceAdd,Nat.reduceLeDiff,Nat.reduceMul]
        rw [hyes (.inr h2)] at k; exact k
      · simp(maxSteps:=9999999)(disch:=first|omega|(simp only[AN];omega))only[p,h1,h2,e1,↓KP,EK,↓reduceIte,reduceCtorEq,Nat.reduceEqDiff,Nat.reduceAdd,Nat.reduceLeDiff,Nat.reduceMul]
        refine ⟨_, ?_, i + 1, _, rfl, ?_, ?_, (by rw [any_take_succ hi', hno]; simp [h1, h2]), rfl⟩ <;> (first|omega|(with_reducible assumption)|(with_reducible(repeat first|exact Grew.refl _|assumption|apply Grew.alloc|refine Grew.set ?_ _ (by first|omega|(simp only[AN];omega)));done)|(simp(maxSteps:=9999999)(disch:=first|omega|(simp only[AN];omega))only[↓KP,EK,↓reduceIte,reduceCtorEq,Nat.reduceEqDiff,Nat.reduceAdd,Nat.reduceLeDiff,Nat.reduceMul]<;>first|omega|rfl))
  · have hie : i = l.length := by omega
    subst hie
    rw [List.take_length] at hno
    rw [hno] at k
    simp(maxSteps:=9999999)(disch:=first|omega|(simp only[AN];omega))only[↓KP,EK,↓reduceIte,reduceCtorEq,Nat.reduceEqDiff,Nat.reduceAdd,Nat.reduceLeDiff,Nat.reduceMul]
    exact k
theorem one_slice (H : AH) (x : Int) : IsInts (Old (H.alloc (.cells false [I x]))) (H.alloc (.cells false [I x])) (.slice H.next 0 1 1) [x] :=
  .inr ⟨_, _, [I x], rfl, (by show H.next < H.next + 1; omega), by simp [AH.read, get_alloc_new, readN], Rows.single rfl rfl⟩
theorem two_slice (H : AH) (x y : Int) : IsInts (Old (H.alloc (.cells false [I x, I y]))) (H.alloc (.cells false [I x, I y])) (.slice H.next 0 2 1) [x, y] :=
  .inr ⟨_, _, [I x, I y], rfl, (by show H.next < H.next + 1; omega), by simp [AH.read, get_alloc_new, readN], Rows.cons (cs := [I x]) rfl rfl (Rows.single rfl rfl)⟩
theorem getElem_toList {s : ByteArray} {k : Nat} (h : k < s.size) : s[k] = s.toList[k]'(by rw [toList_length]; exact h) := by
  simp only [ByteArray.toList_eq]
  rfl
def goodAt (j : Nat) (c : UInt8) : Bool := if j = 0 then isLetter c else isInner c
theorem isName_of {s : ByteArray} (h0 : 1 ≤ s.size) (h1 : s.size ≤ 16) (h : ∀ j (hj : j < s.toList.length), goodAt j s.toList[j] = true) : isName s = true := by
  have hlen := toList_length s
  have hh : 0 < s.toList.length := by omega
  have g0 : s.toList.head? = some s.toList[0] := by rw [List.head?_eq_getElem?, List.getElem?_eq_getElem hh]
  have a := h 0 hh
  have b : s.toList.tail.all isInner = true := all_tail fun j hj h1 => by
    have := h j hj
    unfold goodAt at this
    rw [if_neg (by omega)] at this
    exact this
  unfold goodAt at a
  rw [if_pos rfl] at a
  have c0 : (1 : Int) ≤ s.size := by omega
  have c1 : (s.size : Int) ≤ 16 := by omega
  simp [isName, g0, a, b, c0, c1]
theorem isName_good {s : ByteArray} (h : isName s = true) {j : Nat} (hj : j < s.toList.length) : goodAt j s.toList[j] = true := by
  simp only [isName, Bool.and_eq_true] at h
  obtain ⟨⟨_, h2⟩, h3⟩ := h
  unfold goodAt
  split
  · rename_i h0; subst h0
    rw [List.head?_eq_getElem?, List.getElem?_eq_getElem hj] at h2
    simpa using h2
  · rename_i h0
    rw [List.all_eq_true] at h3
    exact h3 _ (by
      rw [List.mem_iff_getElem]
      exact ⟨j - 1, by rw [List.length_tail]; omega, by rw [List.getElem_tail]; congr 1; omega⟩)
theorem isName_len {s : ByteArray} (h : isName s = true) : 1 ≤ s.size ∧ s.size ≤ 16 := by
  simp only [isName, Bool.and_eq_true, decide_eq_true_eq] at h
  omega
theorem dName_run (s : ByteArray) (k : ∀ H', Grew H H' → R (.bool (isName s)) H') : CallQ prog (.func 90 [] []) [.str s] H R := by
  have hlen := toList_length s
  refine CallQ_enter (fn:=c90) rfl (Nat.le_of_ble_eq_true rfl) ?_;simp(maxSteps:=9999999)(disch:=first|omega|(simp only[AN];omega))only[c90,envFrom,opRangeStr,↓KP,EK,↓reduceIte,reduceCtorEq,Nat.reduceEqDiff,Nat.reduceAdd,Nat.reduceLeDiff,Nat.reduceMul]
  refine K_loop (fun mz ez H1 => ∃ (i : Nat) (tail : Env), ez = (0, .str s) :: (2, .bool false) :: (6, .ptr H.next 0) :: tail ∧ (Grew H H1) ∧ (H.next < H1.next) ∧ (H1.get H.next = some (.strIter s i)) ∧ (i ≤ s.size) ∧ (∀ j (hj : j < s.toList.length), j < i → goodAt j s.toList[j] = true) ∧ mz = s.size - i) _ ⟨0, _, rfl, ?_, ?_, ?_, ?_, ?_, rfl⟩ ?_
  iterate 5 (focus (first|(with_reducible rfl)|omega|(with_reducible(repeat first|exact Grew.refl _|assumption|apply Grew.alloc|refine Grew.set ?_ _ (by first|omega|(simp only[AN];omega)));done)|(simp(maxSteps:=9999999)(disch:=first|omega|(simp only[AN];omega))only[↓KP,EK,↓reduceIte,reduceCtorEq,Nat.reduceEqDiff,Nat.reduceAdd,Nat.reduceLeDiff,Nat.reduceMul]<;>first|omega|rfl)|(simp;done)|rfl))
  rintro mz ez H1 ⟨i, tail, rfl, hG, hlt, hit, hil, hno, hmz⟩; subst mz; have hGn := hG.next
  have hGn := hG.next
  by_cases hi : i < s.size
  · have hi' : i < s.toList.length := by omega
    have hge : s[i] = s.toList[i] := getElem_toList hi
    have hbad : goodAt i s.toList[i] = false → isName s = false := fun hb => by
      cases hn : isName s with
      | false => rfl
      | true => have := isName_good hn hi'; rw [hb] at this; cases this
    have hstep : ∀ {d w : Nat}, Utf8.decode s i = (d, w) → opNextStr (.ptr H.next 0) H1 = some (.tuple [.bool true, I i, .int .i32 d], H1.set H.next (.strIter s (i + w))) := fun {d w} h => by
      simp only [opNextStr, hit, hi, if_true, h]
    by_cases ha : (s[i]).toNat < 128
    · have hn := hstep (decode_ascii s i hi ha)
      rw [hge] at hn ha
      have ok : goodAt i s.toList[i] = true → ∀ j (hj : j < s.toList.length), j < i + 1 → goodAt j s.toList[j] = true := fun hg j hj hlt => by
        by_cases hji : j = i
        · subst hji; exact hg
        · exact hno j hj (by omega)
      generalize hC : s.toList[i] = C at hn ha ok hbad
      have hsame : ∀ b, b < H.next → (H1.set H.next (.strIter s (i + 1))).get b = H.get b := fun b hb => by simp(maxSteps:=9999999)(disch:=first|omega|(simp only[AN];omega))only[hG.get,↓KP,EK,↓reduceIte,reduceCtorEq,Nat.reduceEqDiff,Nat.reduceAdd,Nat.reduceLeDiff,Nat.reduceMul]
      by_cases h97 : 97 ≤ (C.toNat : Int)
      · by_cases h122 : (C.toNat : Int) ≤ 122
        · simp(maxSteps:=9999999)(disch:=first|omega|(simp only[AN];omega))only[hn,h97,h122,↓KP,EK,↓reduceIte,reduceCtorEq,Nat.reduceEqDiff,Nat.reduceAdd,Nat.reduceLeDiff,Nat.reduceMul]
          refine ⟨_, ?_, i + 1, _, rfl, (by exact ⟨by simp(maxSteps:=9999999)(disch:=first|omega|(simp only[AN];omega))only[↓KP,EK,↓reduceIte,reduceCtorEq,Nat.reduceEqDiff,Nat.reduceAdd,Nat.reduceLeDiff,Nat.reduceMul]; omega, hsame⟩), ?_, ?_, ?_, (by exact ok (by simp [goodAt, isInner, isLetter, h97, h122])), rfl⟩ <;> (first|omega|(with_reducible assumption)|(with_reducible(repeat first|exact Grew.refl _|assumption|apply Grew.alloc|refine Grew.set ?_ _ (by first|omega|(simp only[AN];omega)));done)|(simp(maxSteps:=9999999)(disch:=first|omega|(simp only[AN];omega))only[↓KP,EK,↓reduceIte,reduceCtorEq,Nat.reduceEqDiff,Nat.reduceAdd,Nat.reduceLeDiff,Nat.reduceMul]<;>first|omega|rfl))
        · have hlf : isLetter C = false := by simp only [isLetter, Bool.and_eq_false_iff, decide_eq_false_iff_not]; omega
          by_cases hi0 : (0 : Int) < i
          · have hgi : goodAt i C = (isDigit C || decide ((C.toNat : Int) = 46)) := by unfold goodAt; rw [if_neg (by omega)]; simp [isInner, hlf]
            by_cases h46 : (C.toNat : Int) = 46
            · simp(maxSteps:=9999999)(disch:=first|omega|(simp only[AN];omega))only[hn,h97,h122,hi0,eq_true h46,↓KP,EK,↓reduceIte,reduceCtorEq,Nat.reduceEqDiff,Nat.reduceAdd,Nat.reduceLeDiff,Nat.reduceMul]
              refine ⟨_, ?_, i + 1, _, rfl, (by exact ⟨by simp(maxSteps:=9999999)(disch:=first|omega|(simp only[AN];omega))only[↓KP,EK,↓reduceIte,reduceCtorEq,Nat.reduceEqDiff,Nat.reduceAdd,Nat.reduceLeDiff,Nat.reduceMul]; omega, hsame⟩), ?_, ?_, ?_, (by exact ok (by rw [hgi, h46]; simp)), rfl⟩ <;> (first|omega|(with_reducible assumption)|(with_reducible(repeat first|exact Grew.refl _|assumption|apply Grew.alloc|refine Grew.set ?_ _ (by first|omega|(simp only[AN];omega)));done)|(simp(maxSteps:=9999999)(disch:=first|omega|(simp only[AN];omega))only[↓KP,EK,↓reduceIte,reduceCtorEq,Nat.reduceEqDiff,Nat.reduceAdd,Nat.reduceLeDiff,Nat.reduceMul]<;>first|omega|rfl))
            · by_cases h48 : 48 ≤ (C.toNat : Int)
              · by_cases h57 : (C.toNat : Int) ≤ 57
                · simp(maxSteps:=9999999)(disch:=first|omega|(simp only[AN];omega))only[hn,h97,h122,hi0,h46,h48,h57,↓KP,EK,↓reduceIte,reduceCtorEq,Nat.reduceEqDiff,Nat.reduceAdd,Nat.reduceLeDiff,Nat.reduceMul]
                  refine ⟨_, ?_, i + 1, _, rfl, (by exact ⟨by simp(maxSteps:=9999999)(disch:=first|omega|(simp only[AN];omega))only[↓KP,EK,↓reduceIte,reduceCtorEq,Nat.reduceEqDiff,Nat.reduceAdd,Nat.reduceLeDiff,Nat.reduceMul]; omega, hsame⟩), ?_, ?_, ?_, (by exact ok (by rw [hgi]; simp [isDigit, h48, h57])), rfl⟩ <;> (first|omega|(with_reducible assumption)|(with_reducible(repeat first|exact Grew.refl _|assumption|apply Grew.alloc|refine Grew.set ?_ _ (by first|omega|(simp only[AN];omega)));done)|(simp(maxSteps:=9999999)(disch:=first|omega|(simp only[AN];omega))only[↓KP,EK,↓reduceIte,reduceCtorEq,Nat.reduceEqDiff,Nat.reduceAdd,Nat.reduceLeDiff,Nat.reduceMul]<;>first|omega|rfl))
                · simp(maxSteps:=9999999)(disch:=first|omega|(simp only[AN];omega))only[hn,h97,h122,hi0,h46,h48,h57,↓KP,EK,↓reduceIte,reduceCtorEq,Nat.reduceEqDiff,Nat.reduceAdd,Nat.reduceLeDiff,Nat.reduceMul]
                  rw [hbad (by rw [hgi]; simp [isDigit, h46, h57])] at k
                  exact k _ ⟨by simp(maxSteps:=9999999)(disch:=first|omega|(simp only[AN];omega))only[↓KP,EK,↓reduceIte,reduceCtorEq,Nat.reduceEqDiff,Nat.reduceAdd,Nat.reduceLeDiff,Nat.reduceMul]; omega, hsame⟩
              · simp(maxSteps:=9999999)(disch:=first|omega|(simp only[AN];omega))only[hn,h97,h122,hi0,h46,h48,↓KP,EK,↓reduceIte,reduceCtorEq,Nat.reduceEqDiff,Nat.reduceAdd,Nat.reduceLeDiff,Nat.reduceMul]
                rw [hbad (by rw [hgi]; simp [isDigit, h46, h48])] at k
                exact k _ ⟨by simp(maxSteps:=9999999)(disch:=first|omega|(simp only[AN];omega))only[↓KP,EK,↓reduceIte,reduceCtorEq,Nat.reduceEqDiff,Nat.reduceAdd,Nat.reduceLeDiff,Nat.reduceMul]; omega, hsame⟩
          · simp(maxSteps:=9999999)(disch:=first|omega|(simp only[AN];omega))only[hn,h97,h122,hi0,↓KP,EK,↓reduceIte,reduceCtorEq,Nat.reduceEqDiff,Nat.reduceAdd,Nat.reduceLeDiff,Nat.reduceMul]
            rw [hbad (by unfold goodAt; rw [if_pos (by omega)]; exact hlf)] at k
            exact k _ ⟨by simp(maxSteps:=9999999)(disch:=first|omega|(simp only[AN];omega))only[↓KP,EK,↓reduceIte,reduceCtorEq,Nat.reduceEqDiff,Nat.reduceAdd,Nat.reduceLeDiff,Nat.reduceMul]; omega, hsame⟩
      · have hlf : isLetter C = false := by simp only [isLetter, Bool.and_eq_false_iff, decide_eq_false_iff_not]; omega
        by_cases hi0 : (0 : Int) < i
        · have hgi : goodAt i C = (isDigit C || decide ((C.toNat : Int) = 46)) := by unfold goodAt; rw [if_neg (by omega)]; simp [isInner, hlf]
          by_cases h46 : (C.toNat : Int) = 46
          · simp(maxSteps:=9999999)(disch:=first|omega|(simp only[AN];omega))only[hn,h97,hi0,eq_true h46,↓KP,EK,↓reduceIte,reduceCtorEq,Nat.reduceEqDiff,Nat.reduceAdd,Nat.reduceLeDiff,Nat.reduceMul]
            refine ⟨_, ?_, i + 1, _, rfl, (by exact ⟨by simp(maxSteps:=9999999)(disch:=first|omega|(simp only[AN];omega))only[↓KP,EK,↓reduceIte,reduceCtorEq,Nat.reduceEqDiff,Nat.reduceAdd,Nat.reduceLeDiff,Nat.reduceMul]; omega, hsame⟩), ?_, ?_, ?_, (by exact ok (by rw [hgi, h46]; simp)), rfl⟩ <;> (first|omega|(with_reducible assumption)|(with_reducible(repeat first|exact Grew.refl _|assumption|apply Grew.alloc|refine Grew.set ?_ _ (by first|omega|(simp only[AN];omega)));done)|(simp(maxSteps:=9999999)(disch:=first|omega|(simp only[AN];omega))only[↓KP,EK,↓reduceIte,reduceCtorEq,Nat.reduceEqDiff,Nat.reduceAdd,Nat.reduceLeDiff,Nat.reduceMul]<;>first|omega|rfl))
          · by_cases h48 : 48 ≤ (C.toNat : Int)
            · by_cases h57 : (C.toNat : Int) ≤ 57
              · simp(maxSteps:=9999999)(disch:=first|omega|(simp only[AN];omega))only[hn,h97,hi0,h46,h48,h57,↓KP,EK,↓reduceIte,reduceCtorEq,Nat.reduceEqDiff,Nat.reduceAdd,Nat.reduceLeDiff,Nat.reduceMul]
                refine ⟨_, ?_, i + 1, _, rfl, (by exact ⟨by simp(maxSteps:=9999999)(disch:=first|omega|(simp only[AN];omega))only[↓KP,EK,↓reduceIte,reduceCtorEq,Nat.reduceEqDiff,Nat.reduceAdd,Nat.reduceLeDiff,Nat.reduceMul]; omega, hsame⟩), ?_, ?_, ?_, (by exact ok (by rw [hgi]; simp [isDigit, h48, h57])), rfl⟩ <;> (first|omega|(with_reducible assumption)|(with_reducible(repeat first|exact Grew.refl _|assumption|apply Grew.alloc|refine Grew.set ?_ _ (by first|omega|(simp only[AN];omega)));done)|(simp(maxSteps:=9999999)(disch:=first|omega|(simp only[AN];omega))only[↓KP,EK,↓reduceIte,reduceCtorEq,Nat.reduceEqDiff,Nat.reduceAdd,Nat.reduceLeDiff,Nat.reduceMul]<;>first|omega|rfl))
              · simp(maxSteps:=9999999)(disch:=first|omega|(simp only[AN];omega))only[hn,h97,hi0,h46,h48,h57,↓KP,EK,↓reduceIte,reduceCtorEq,Nat.reduceEqDiff,Nat.reduceAdd,Nat.reduceLeDiff,Nat.reduceMul]
                rw [hbad (by rw [hgi]; simp [isDigit, h46, h57])] at k
                exact k _ ⟨by simp(maxSteps:=9999999)(disch:=first|omega|(simp only[AN];omega))only[↓KP,EK,↓reduceIte,reduceCtorEq,Nat.reduceEqDiff,Nat.reduceAdd,Nat.reduceLeDiff,Nat.reduceMul]; omega, hsame⟩
            · simp(maxSteps:=9999999)(disch:=first|omega|(simp only[AN];omega))only[hn,h97,hi0,h46,h48,↓KP,EK,↓reduceIte,reduceCtorEq,Nat.reduceEqDiff,Nat.reduceAdd,Nat.reduceLeDiff,Nat.reduceMul]
              rw [hbad (by rw [hgi]; simp [isDigit, h46, h48])] at k
              exact k _ ⟨by simp(maxSteps:=9999999)(disch:=first|omega|(simp only[AN];omega))only[↓KP,EK,↓reduceIte,reduceCtorEq,Nat.reduceEqDiff,Nat.reduceAdd,Nat.reduceLeDiff,Nat.reduceMul]; omega, hsame⟩
        · simp(maxSteps:=9999999)(disch:=first|omega|(simp only[AN];omega))only[hn,h97,hi0,↓KP,EK,↓reduceIte,reduceCtorEq,Nat.reduceEqDiff,Nat.reduceAdd,Nat.reduceLeDiff,Nat.reduceMul]
          rw [hbad (by unfold goodAt; rw [if_pos (by omega)]; exact hlf)] at k
          exact k _ ⟨by simp(maxSteps:=9999999)(disch:=first|omega|(simp only[AN];omega))only[↓KP,EK,↓reduceIte,reduceCtorEq,Nat.reduceEqDiff,Nat.reduceAdd,Nat.reduceLeDiff,Nat.reduceMul]; omega, hsame⟩
    · obtain ⟨hd, _⟩ := decode_high s i hi (by omega)
      have hn := hstep (d := (Utf8.decode s i).1) (w := (Utf8.decode s i).2) rfl
      have hbad' := hbad (by rw [← hge]; simp only [goodAt, isInner, isLetter, isDigit]; split <;> simp <;> omega)
      generalize (Utf8.decode s i).1 = D at hd hn
      rw [hbad'] at k
      have c1 : 97 ≤ (D : Int) := by omega
      have c2 : ¬ (D : Int) ≤ 122 := by omega
      have c3 : ¬ (D : Int) = 46 := by omega
      have c4 : 48 ≤ (D : Int) := by omega
      have c5 : ¬ (D : Int) ≤ 57 := by omega
      by_cases hi0 : (0 : Int) < i
      · simp(maxSteps:=9999999)(disch:=first|omega|(simp only[AN];omega))only[hn,c1,c2,c3,c4,c5,hi0,↓KP,EK,↓reduceIte,reduceCtorEq,Nat.reduceEqDiff,Nat.reduceAdd,Nat.reduceLeDiff,Nat.reduceMul]
        exact k _ ⟨by simp(maxSteps:=9999999)(disch:=first|omega|(simp only[AN];omega))only[↓KP,EK,↓reduceIte,reduceCtorEq,Nat.reduceEqDiff,Nat.reduceAdd,Nat.reduceLeDiff,Nat.reduceMul]; omega, fun b hb => by simp(maxSteps:=9999999)(disch:=first|omega|(simp only[AN];omega))only[hG.get,↓KP,EK,↓reduceIte,reduceCtorEq,Nat.reduceEqDiff,Nat.reduceAdd,Nat.reduceLeDiff,Nat.reduceMul]⟩
      · simp(maxSteps:=9999999)(disch:=first|omega|(simp only[AN];omega))only[hn,c1,c2,c3,c4,c5,hi0,↓KP,EK,↓reduceIte,reduceCtorEq,Nat.reduceEqDiff,Nat.reduceAdd,Nat.reduceLeDiff,Nat.reduceMul]
        exact k _ ⟨by simp(maxSteps:=9999999)(disch:=first|omega|(simp only[AN];omega))only[↓KP,EK,↓reduceIte,reduceCtorEq,Nat.reduceEqDiff,Nat.reduceAdd,Nat.reduceLeDiff,Nat.reduceMul]; omega, fun b hb => by simp(maxSteps:=9999999)(disch:=first|omega|(simp only[AN];omega))only[hG.get,↓KP,EK,↓reduceIte,reduceCtorEq,Nat.reduceEqDiff,Nat.reduceAdd,Nat.reduceLeDiff,Nat.reduceMul]⟩
  · have hn : opNextStr (.ptr H.next 0) H1 = some (.tuple [.bool false], H1) := by simp only [opNextStr, hit, hi, if_false]
    have hv := one_slice H1 (s.size : Int)
    simp(maxSteps:=9999999)(disch:=first|omega|(simp only[AN];omega))only[hn,↓KP,EK,↓reduceIte,reduceCtorEq,Nat.reduceEqDiff,Nat.reduceAdd,Nat.reduceLeDiff,Nat.reduceMul]
    first|refine C_call ?_|refine C_calld ?_
    refine out_run 1 16 _ _ hv (by simp) ?_
    simp(maxSteps:=9999999)(disch:=first|omega|(simp only[AN];omega))only[↓KP,EK,↓reduceIte,reduceCtorEq,Nat.reduceEqDiff,Nat.reduceAdd,Nat.reduceLeDiff,Nat.reduceMul]
    have : (!([(s.size : Int)].any fun n => decide (n < 1) || decide (16 < n))) = isName s := by
      by_cases h1 : 1 ≤ s.size ∧ s.size ≤ 16
      · rw [isName_of h1.1 h1.2 fun j hj => hno j hj (by omega)]
        have e1 : ¬ (s.size : Int) < 1 := by omega
        have e2 : ¬ 16 < (s.size : Int) := by omega
        simp [e1, e2]
      · have : isName s = false := by
          cases hn : isName s with
          | false => rfl
          | true => exact absurd (isName_len hn) h1
        rw [this]
        simp only [List.any_cons, List.any_nil, Bool.or_false, Bool.not_eq_false', Bool.or_eq_true, decide_eq_true_eq]
        omega
    rw [this]
    exact k _ (hG.alloc _)
def Answers {α : Type} (H : AH) (fv : AV) (enc : α → AV) (l : List α) (p : α → Bool) : Prop :=
  ∀ (H1 : AH) (x : α) (R : AV → AH → Prop), x ∈ l → Grew H H1 → (∀ H2, Grew H1 H2 → R (.bool (p x)) H2) → CallQ prog fv [enc x] H1 R
theorem IndexInt_run (v fv : AV) (l : List Int) (p : Int → Bool) (hv : IsInts (Old H) H v l) (hl : l.length < 1000000) (hf : Answers H fv I l p) (k : ∀ H' (n : Int), Grew H H' → (0 ≤ n ↔ l.any p = true) → R (I n) H') : CallQ prog (.func 107 [] []) [v, fv] H R := by
  refine CallQ_enter (fn:=c107) rfl (Nat.le_of_ble_eq_true rfl) ?_;simp(maxSteps:=9999999)(disch:=first|omega|(simp only[AN];omega))only[c107,envFrom,hv.len,↓KP,EK,↓reduceIte,reduceCtorEq,Nat.reduceEqDiff,Nat.reduceAdd,Nat.reduceLeDiff,Nat.reduceMul]
  refine K_loop (fun mz ez H1 => ∃ (i : Nat) (tail : Env), ez = (0, v) :: (1, fv) :: (4, I 0) :: (7, I l.length) :: (8, I i) :: tail ∧ (Grew H H1) ∧ (i ≤ l.length) ∧ ((l.take i).any p = false) ∧ mz = l.length - i) _ ⟨0, _, rfl, ?_, ?_, ?_, rfl⟩ ?_
  iterate 3 (focus (first|(with_reducible rfl)|omega|(with_reducible(repeat first|exact Grew.refl _|assumption|apply Grew.alloc|refine Grew.set ?_ _ (by first|omega|(simp only[AN];omega)));done)|(simp(maxSteps:=9999999)(disch:=first|omega|(simp only[AN];omega))only[↓KP,EK,↓reduceIte,reduceCtorEq,Nat.reduceEqDiff,Nat.reduceAdd,Nat.reduceLeDiff,Nat.reduceMul]<;>first|omega|rfl)|(simp;done)|rfl))
  rintro mz ez H1 ⟨i, tail, rfl, hG, hil, hno, hmz⟩; subst mz; have hGn := hG.next
  simp(maxSteps:=9999999)(disch:=first|omega|(simp only[AN];omega))only[↓KP,EK,↓reduceIte,reduceCtorEq,Nat.reduceEqDiff,Nat.reduceAdd,Nat.reduceLeDiff,Nat.reduceMul]
  refine C_decide (fun hc => ?_) (fun hc => ?_)
  · have hi' : i < l.length := by omega
    obtain ⟨q_b, q_i, q_ro, q_vs, q_lt, q⟩ := hv.rdInt rfl hi'
    have e1 : IntKind.i64.wrap ((i : Int) + 1) = ((i + 1 : Nat) : Int) := i64_in _ (by omega)
    simp(maxSteps:=9999999)(disch:=first|omega|(simp only[AN];omega))only[hG.get,q,↓KP,EK,↓reduceIte,reduceCtorEq,Nat.reduceEqDiff,Nat.reduceAdd,Nat.reduceLeDiff,Nat.reduceMul]
    refine C_call (hf _ l[i] _ (List.getElem_mem hi') hG fun H2 hg2 => ?_)
    have hg2n := hg2.next
    cases hp : p l[i] with
    | true =>
      simp(maxSteps:=9999999)(disch:=first|omega|(simp only[AN];omega))only[↓KP,EK,↓reduceIte,reduceCtorEq,Nat.reduceEqDiff,Nat.reduceAdd,Nat.reduceLeDiff,Nat.reduceMul]
      refine k _ _ (hG.trans hg2) ⟨fun _ => ?_, fun _ => by omega⟩
      rw [List.any_eq_true]; exact ⟨_, List.getElem_mem hi', hp⟩
    | false =>
      simp(maxSteps:=9999999)(disch:=first|omega|(simp only[AN];omega))only[e1,↓KP,EK,↓reduceIte,reduceCtorEq,Nat.reduceEqDiff,Nat.reduceAdd,Nat.reduceLeDiff,Nat.reduceMul]
      refine ⟨_, ?_, i + 1, _, rfl, ?_, ?_, (by rw [any_take_succ hi', hno, hp]; rfl), rfl⟩ <;> (first|omega|(with_reducible assumption)|(with_reducible(repeat first|exact Grew.refl _|assumption|apply Grew.alloc|refine Grew.set ?_ _ (by first|omega|(simp only[AN];omega))|refine Grew.trans ?_ hg2|refine Grew.trans ?_ hG);done)|(simp(maxSteps:=9999999)(disch:=first|omega|(simp only[AN];omega))only[hg2.get,hG.get,↓KP,EK,↓reduceIte,reduceCtorEq,Nat.reduceEqDiff,Nat.reduceAdd,Nat.reduceLeDiff,Nat.reduceMul]<;>first|omega|rfl))
  · have hie : i = l.length := by omega
    subst hie
    rw [List.take_length] at hno
    simp(maxSteps:=9999999)(disch:=first|omega|(simp only[AN];omega))only[↓KP,EK,↓reduceIte,reduceCtorEq,Nat.reduceEqDiff,Nat.reduceAdd,Nat.reduceLeDiff,Nat.reduceMul]
    exact k _ _ hG ⟨fun h => by omega, fun h => by rw [hno] at h; cases h⟩
theorem ContainsInt_run (v fv : AV) (l : List Int) (p : Int → Bool) (hv : IsInts (Old H) H v l) (hl : l.length < 1000000) (hf : Answers H fv I l p) (k : ∀ H', Grew H H' → R (.bool (l.any p)) H') : CallQ prog (.func 96 [] []) [v, fv] H R := by
  refine CallQ_enter (fn:=c96) rfl (Nat.le_of_ble_eq_true rfl) ?_;simp(maxSteps:=9999999)(disch:=first|omega|(simp only[AN];omega))only[c96,envFrom,↓KP,EK,↓reduceIte,reduceCtorEq,Nat.reduceEqDiff,Nat.reduceAdd,Nat.reduceLeDiff,Nat.reduceMul]
  refine C_call (IndexInt_run v fv l p hv hl hf fun H1 n hg hn => ?_)
  by_cases h0 : 0 ≤ n
  · simp(maxSteps:=9999999)(disch:=first|omega|(simp only[AN];omega))only[h0,↓KP,EK,↓reduceIte,reduceCtorEq,Nat.reduceEqDiff,Nat.reduceAdd,Nat.reduceLeDiff,Nat.reduceMul]
    rw [hn.1 h0] at k; exact k _ hg
  · simp(maxSteps:=9999999)(disch:=first|omega|(simp only[AN];omega))only[h0,↓KP,EK,↓reduceIte,reduceCtorEq,Nat.reduceEqDiff,Nat.reduceAdd,Nat.reduceLeDiff,Nat.reduceMul]
    rw [Bool.eq_false_iff.2 (fun h => h0 (hn.2 h))] at k; exact k _ hg
theorem IndexW_run (v fv : AV) (l : List Watcher) (p : Watcher → Bool) (hv : IsSl 4 EWatcher (Old H) H v l) (hl : l.length < 1000000) (hf : Answers H fv (fun w => .agg w.cells) l p) (k : ∀ H' (n : Int), Grew H H' → (0 ≤ n ↔ l.any p = true) → R (I n) H') : CallQ prog (.func 106 [] []) [v, fv] H R := by
  refine CallQ_enter (fn:=c106) rfl (Nat.le_of_ble_eq_true rfl) ?_;simp(maxSteps:=9999999)(disch:=first|omega|(simp only[AN];omega))only[c106,envFrom,hv.len,↓KP,EK,↓reduceIte,reduceCtorEq,Nat.reduceEqDiff,Nat.reduceAdd,Nat.reduceLeDiff,Nat.reduceMul]
  refine K_loop (fun mz ez H1 => ∃ (i : Nat) (tail : Env), ez = (0, v) :: (1, fv) :: (4, I 0) :: (7, I l.length) :: (8, I i) :: tail ∧ (Grew H H1) ∧ (i ≤ l.length) ∧ ((l.take i).any p = false) ∧ mz = l.length - i) _ ⟨0, _, rfl, ?_, ?_, ?_, rfl⟩ ?_
  iterate 3 (focus (first|(with_reducible rfl)|omega|(with_reducible(repeat first|exact Grew.refl _|assumption|apply Grew.alloc|refine Grew.set ?_ _ (by first|omega|(simp only[AN];omega)));done)|(simp(maxSteps:=9999999)(disch:=first|omega|(simp only[AN];omega))only[↓KP,EK,↓reduceIte,reduceCtorEq,Nat.reduceEqDiff,Nat.reduceAdd,Nat.reduceLeDiff,Nat.reduceMul]<;>first|omega|rfl)|(simp;done)|rfl))
  rintro mz ez H1 ⟨i, tail, rfl, hG, hil, hno, hmz⟩; subst mz; have hGn := hG.next
  simp(maxSteps:=9999999)(disch:=first|omega|(simp only[AN];omega))only[↓KP,EK,↓reduceIte,reduceCtorEq,Nat.reduceEqDiff,Nat.reduceAdd,Nat.reduceLeDiff,Nat.reduceMul]
  refine C_decide (fun hc => ?_) (fun hc => ?_)
  · have hi' : i < l.length := by omega
    obtain ⟨q_b, q_i, q_ro, q_vs, q_lt, q⟩ := rdW hv (k := i) rfl hi'
    have e1 : IntKind.i64.wrap ((i : Int) + 1) = ((i + 1 : Nat) : Int) := i64_in _ (by omega)
    simp(maxSteps:=9999999)(disch:=first|omega|(simp only[AN];omega))only[hG.get,q,↓KP,EK,↓reduceIte,reduceCtorEq,Nat.reduceEqDiff,Nat.reduceAdd,Nat.reduceLeDiff,Nat.reduceMul]
    refine C_call (hf _ l[i] _ (List.getElem_mem hi') hG fun H2 hg2 => ?_)
    have hg2n := hg2.next
    cases hp : p l[i] with
    | true =>
      simp(maxSteps:=9999999)(disch:=first|omega|(simp only[AN];omega))only[↓KP,EK,↓reduceIte,reduceCtorEq,Nat.reduceEqDiff,Nat.reduceAdd,Nat.reduceLeDiff,Nat.reduceMul]
      refine k _ _ (hG.trans hg2) ⟨fun _ => ?_, fun _ => by omega⟩
      rw [List.any_eq_true]; exact ⟨_, List.getElem_mem hi', hp⟩
    | false =>
      simp(maxSteps:=9999999)(disch:=first|omega|(simp only[AN];omega))only[e1,↓KP,EK,↓reduceIte,reduceCtorEq,Nat.reduceEqDiff,Nat.reduceAdd,Nat.reduceLeDiff,Nat.reduceMul]
      refine ⟨_, ?_, i + 1, _, rfl, ?_, ?_, (by rw [any_take_succ hi', hno, hp]; rfl), rfl⟩ <;> (first|omega|(with_reducible assumption)|(with_reducible(repeat first|exact Grew.refl _|assumption|apply Grew.alloc|refine Grew.set ?_ _ (by first|omega|(simp only[AN];omega))|refine Grew.trans ?_ hg2|refine Grew.trans ?_ hG);done)|(simp(maxSteps:=9999999)(disch:=first|omega|(simp only[AN];omega))only[hg2.get,hG.get,↓KP,EK,↓reduceIte,reduceCtorEq,Nat.reduceEqDiff,Nat.reduceAdd,Nat.reduceLeDiff,Nat.reduceMul]<;>first|omega|rfl))
  · have hie : i = l.length := by omega
    subst hie
    rw [List.take_length] at hno
    simp(maxSteps:=9999999)(disch:=first|omega|(simp only[AN];omega))only[↓KP,EK,↓reduceIte,reduceCtorEq,Nat.reduceEqDiff,Nat.reduceAdd,Nat.reduceLeDiff,Nat.reduceMul]
    exact k _ _ hG ⟨fun h => by omega, fun h => by rw [hno] at h; cases h⟩
theorem ContainsW_run (v fv : AV) (l : List Watcher) (p : Watcher → Bool) (hv : IsSl 4 EWatcher (Old H) H v l) (hl : l.length < 1000000) (hf : Answers H fv (fun w => .agg w.cells) l p) (k : ∀ H', Grew H H' → R (.bool (l.any p)) H') : CallQ prog (.func 92 [] []) [v, fv] H R := by
  refine CallQ_enter (fn:=c92) rfl (Nat.le_of_ble_eq_true rfl) ?_;simp(maxSteps:=9999999)(disch:=first|omega|(simp only[AN];omega))only[c92,envFrom,↓KP,EK,↓reduceIte,reduceCtorEq,Nat.reduceEqDiff,Nat.reduceAdd,Nat.reduceLeDiff,Nat.reduceMul]
  refine C_call (IndexW_run v fv l p hv hl hf fun H1 n hg hn => ?_)
  by_cases h0 : 0 ≤ n
  · simp(maxSteps:=9999999)(disch:=first|omega|(simp only[AN];omega))only[h0,↓KP,EK,↓reduceIte,reduceCtorEq,Nat.reduceEqDiff,Nat.reduceAdd,Nat.reduceLeDiff,Nat.reduceMul]
    rw [hn.1 h0] at k; exact k _ hg
  · simp(maxSteps:=9999999)(disch:=first|omega|(simp only[AN];omega))only[h0,↓KP,EK,↓reduceIte,reduceCtorEq,Nat.reduceEqDiff,Nat.reduceAdd,Nat.reduceLeDiff,Nat.reduceMul]
    rw [Bool.eq_false_iff.2 (fun h => h0 (hn.2 h))] at k; exact k _ hg
def offP (lo hi n : Int) : Bool := decide (n < lo) || decide (hi < n)
theorem off1_run (b1 b2 : Nat) (lo hi n : Int) (h1 : H.get b1 = some (.cells false [I lo])) (h2 : H.get b2 = some (.cells false [I hi])) (k : R (.bool (offP lo hi n)) H) : CallQ prog (.func 97 [] [.ptr b1 0, .ptr b2 0]) [I n] H R := by
  by_cases c1 : n < lo
  · refine CallQ_enter (fn:=c97) rfl (Nat.le_of_ble_eq_true rfl) ?_;simp(maxSteps:=9999999)(disch:=first|omega|(simp only[AN];omega))only[c97,envFrom,h1,h2,c1,↓KP,EK,↓reduceIte,reduceCtorEq,Nat.reduceEqDiff,Nat.reduceAdd,Nat.reduceLeDiff,Nat.reduceMul]
    simpa [offP, c1] using k
  · refine CallQ_enter (fn:=c97) rfl (Nat.le_of_ble_eq_true rfl) ?_;simp(maxSteps:=9999999)(disch:=first|omega|(simp only[AN];omega))only[c97,envFrom,h1,h2,c1,↓KP,EK,↓reduceIte,reduceCtorEq,Nat.reduceEqDiff,Nat.reduceAdd,Nat.reduceLeDiff,Nat.reduceMul]
    simpa [offP, c1] using k
theorem off_run (lo hi : Int) (v : AV) (l : List Int) (hv : IsInts (Old H) H v l) (hl : l.length < 1000000) (k : ∀ H', Grew H H' → R (.bool (l.any (offP lo hi))) H') : CallQ prog (.func 60 [] []) [I lo, I hi, v] H R := by
  have hg0 : Grew H ((H.alloc (.cells false [I lo])).alloc (.cells false [I hi])) := GW
  refine CallQ_enter (fn:=c60) rfl (Nat.le_of_ble_eq_true rfl) ?_;simp(maxSteps:=9999999)(disch:=first|omega|(simp only[AN];omega))only[c60,envFrom,↓KP,EK,↓reduceIte,reduceCtorEq,Nat.reduceEqDiff,Nat.reduceAdd,Nat.reduceLeDiff,Nat.reduceMul]
  refine C_call (ContainsInt_run v _ l (offP lo hi) (hv.grow EInt.stays hg0) hl (fun H1 x R hx hg hk => ?_) fun H2 hg2 => ?_)
  · exact off1_run _ _ lo hi x (by simp(maxSteps:=9999999)(disch:=first|omega|(simp only[AN];omega))only[hg.get,↓KP,EK,↓reduceIte,reduceCtorEq,Nat.reduceEqDiff,Nat.reduceAdd,Nat.reduceLeDiff,Nat.reduceMul]) (by simp(maxSteps:=9999999)(disch:=first|omega|(simp only[AN];omega))only[hg.get,↓KP,EK,↓reduceIte,reduceCtorEq,Nat.reduceEqDiff,Nat.reduceAdd,Nat.reduceLeDiff,Nat.reduceMul]) (hk _ (Grew.refl _))
  · simp(maxSteps:=9999999)(disch:=first|omega|(simp only[AN];omega))only[↓KP,EK,↓reduceIte,reduceCtorEq,Nat.reduceEqDiff,Nat.reduceAdd,Nat.reduceLeDiff,Nat.reduceMul]
    exact k _ (hg0.trans hg2)
end Go.Proofs.Ytgncpbkedhchfaa
namespace Go.Proofs.Ytgncpbkedhchfaa
open Go.AM Go.IntWalk
set_option maxRecDepth 100000
set_option maxHeartbeats 2000000
set_option linter.unusedSimpArgs false
variable {H : AH} {R : AV → AH → Prop}
theorem flaws_run (k : R (.slice H.next 0 4 2) (H.alloc (.cells false [I 6, .func 89 [] [], I 5, .func 91 [] [], I 7, .func 94 [] [], I 2, .func 95 [] []]))) : CallQ prog (.func 57 [] []) [] H R := by
  refine CallQ_enter (fn:=c57) rfl (Nat.le_of_ble_eq_true rfl) ?_;simp(maxSteps:=9999999)(disch:=first|omega|(simp only[AN];omega))only[c57,envFrom,↓KP,EK,↓reduceIte,reduceCtorEq,Nat.reduceEqDiff,Nat.reduceAdd,Nat.reduceLeDiff,Nat.reduceMul]
  exact k
theorem flaw1_run (w : Watcher) (v : AV) (k : ∀ H', Grew H H' → R (.bool (!isName w.name)) H') : CallQ prog (.func 89 [] []) [.agg w.cells, v] H R := by
  refine CallQ_enter (fn:=c89) rfl (Nat.le_of_ble_eq_true rfl) ?_;simp(maxSteps:=9999999)(disch:=first|omega|(simp only[AN];omega))only[c89,envFrom,Watcher.cells,↓KP,EK,↓reduceIte,reduceCtorEq,Nat.reduceEqDiff,Nat.reduceAdd,Nat.reduceLeDiff,Nat.reduceMul]
  first|refine C_call ?_|refine C_calld ?_
  refine dName_run w.name fun H1 hg1 => ?_
  have hg1n:=hg1.next;try simp only[AN]at hg1n
  simp(maxSteps:=9999999)(disch:=first|omega|(simp only[AN];omega))only[↓KP,EK,↓reduceIte,reduceCtorEq,Nat.reduceEqDiff,Nat.reduceAdd,Nat.reduceLeDiff,Nat.reduceMul]
  exact k _ (((Grew.refl H).alloc _).trans hg1)
theorem flaw2_run (w : Watcher) (v : AV) (l : List Watcher) (hv : IsSl 4 EWatcher (Old H) H v l) (hl : l.length < 1000000) (k : ∀ H', Grew H H' → R (.bool (l.any fun x => x.name.toList == w.name.toList)) H') : CallQ prog (.func 91 [] []) [.agg w.cells, v] H R := by
  have hg0 : Grew H (H.alloc (.cells false w.cells)) := GW
  refine CallQ_enter (fn:=c91) rfl (Nat.le_of_ble_eq_true rfl) ?_;simp(maxSteps:=9999999)(disch:=first|omega|(simp only[AN];omega))only[c91,envFrom,↓KP,EK,↓reduceIte,reduceCtorEq,Nat.reduceEqDiff,Nat.reduceAdd,Nat.reduceLeDiff,Nat.reduceMul]
  refine C_call (ContainsW_run v _ l (fun x => x.name.toList == w.name.toList) (hv.grow EWatcher.stays hg0) hl (fun H1 x R hx hg hk => ?_) fun H2 hg2 => ?_)
  · have e2 : binA .eql (.str x.name) (.str w.name) = some (.bool (x.name.toList == w.name.toList)) := rfl
    have hb : H1.get H.next = some (.cells false w.cells) := by simp(maxSteps:=9999999)(disch:=first|omega|(simp only[AN];omega))only[hg.get,↓KP,EK,↓reduceIte,reduceCtorEq,Nat.reduceEqDiff,Nat.reduceAdd,Nat.reduceLeDiff,Nat.reduceMul]
    refine CallQ_enter (fn:=c93) rfl (Nat.le_of_ble_eq_true rfl) ?_;simp(maxSteps:=9999999)(disch:=first|omega|(simp only[AN];omega))only[c93,envFrom,Watcher.cells,↓KP,EK,↓reduceIte,reduceCtorEq,Nat.reduceEqDiff,Nat.reduceAdd,Nat.reduceLeDiff,Nat.reduceMul]
    simp only [Watcher.cells] at hb
    have hgn := hg.next; simp only [AH.next_alloc] at hgn
    simp(maxSteps:=9999999)(disch:=first|omega|(simp only[AN];omega))only[hb,e2,↓KP,EK,↓reduceIte,reduceCtorEq,Nat.reduceEqDiff,Nat.reduceAdd,Nat.reduceLeDiff,Nat.reduceMul]
    exact hk _ ((Grew.refl _).alloc _)
  · simp(maxSteps:=9999999)(disch:=first|omega|(simp only[AN];omega))only[↓KP,EK,↓reduceIte,reduceCtorEq,Nat.reduceEqDiff,Nat.reduceAdd,Nat.reduceLeDiff,Nat.reduceMul]
    exact k _ (hg0.trans hg2)
def flaw3 (w : Watcher) : Bool := [w.lo, w.hi].any (offP 1 300) || [w.off].any (offP 0 9)
theorem flaw3_run (w : Watcher) (v : AV) (k : ∀ H', Grew H H' → R (.bool (flaw3 w)) H') : CallQ prog (.func 94 [] []) [.agg w.cells, v] H R := by
  refine CallQ_enter (fn:=c94) rfl (Nat.le_of_ble_eq_true rfl) ?_;simp(maxSteps:=9999999)(disch:=first|omega|(simp only[AN];omega))only[c94,envFrom,Watcher.cells,↓KP,EK,↓reduceIte,reduceCtorEq,Nat.reduceEqDiff,Nat.reduceAdd,Nat.reduceLeDiff,Nat.reduceMul]
  refine C_call (off_run 1 300 _ _ (two_slice _ w.lo w.hi) (by simp) fun H1 hg1 => ?_)
  have hg1' : Grew H H1 := (((Grew.refl H).alloc _).alloc _).trans hg1
  have hgn := hg1.next; simp only [AH.next_alloc] at hgn
  have hb : H1.get H.next = some (.cells false [.str w.name, I w.lo, I w.hi, I w.off]) := by simp(maxSteps:=9999999)(disch:=first|omega|(simp only[AN];omega))only[hg1.get,↓KP,EK,↓reduceIte,reduceCtorEq,Nat.reduceEqDiff,Nat.reduceAdd,Nat.reduceLeDiff,Nat.reduceMul]
  unfold flaw3 at k
  cases h1 : [w.lo, w.hi].any (offP 1 300) with
  | true =>
    rw [h1] at k
    simp(maxSteps:=9999999)(disch:=first|omega|(simp only[AN];omega))only[↓KP,EK,↓reduceIte,reduceCtorEq,Nat.reduceEqDiff,Nat.reduceAdd,Nat.reduceLeDiff,Nat.reduceMul]
    exact k _ hg1'
  | false =>
    rw [h1] at k
    simp(maxSteps:=9999999)(disch:=first|omega|(simp only[AN];omega))only[hb,↓KP,EK,↓reduceIte,reduceCtorEq,Nat.reduceEqDiff,Nat.reduceAdd,Nat.reduceLeDiff,Nat.reduceMul]
    refine C_call (off_run 0 9 _ _ (one_slice _ w.off) (by simp) fun H2 hg2 => ?_)
    simp(maxSteps:=9999999)(disch:=first|omega|(simp only[AN];omega))only[↓KP,EK,↓reduceIte,reduceCtorEq,Nat.reduceEqDiff,Nat.reduceAdd,Nat.reduceLeDiff,Nat.reduceMul]
    exact k _ ((hg1'.alloc _).trans hg2)
theorem flaw4_run (w : Watcher) (v : AV) (hlo : 1 ≤ w.lo ∧ w.lo ≤ 300) (hhi : 1 ≤ w.hi ∧ w.hi ≤ 300) (k : ∀ H', Grew H H' → R (.bool ([w.hi - w.lo].any (offP 0 6))) H') : CallQ prog (.func 95 [] []) [.agg w.cells, v] H R := by
  have e1 : IntKind.i64.wrap (w.hi - w.lo) = w.hi - w.lo := i64_in _ (by omega)
  refine CallQ_enter (fn:=c95) rfl (Nat.le_of_ble_eq_true rfl) ?_;simp(maxSteps:=9999999)(disch:=first|omega|(simp only[AN];omega))only[c95,envFrom,Watcher.cells,e1,↓KP,EK,↓reduceIte,reduceCtorEq,Nat.reduceEqDiff,Nat.reduceAdd,Nat.reduceLeDiff,Nat.reduceMul]
  refine C_call (off_run 0 6 _ _ (one_slice _ (w.hi - w.lo)) (by simp) fun H1 hg1 => ?_)
  simp(maxSteps:=9999999)(disch:=first|omega|(simp only[AN];omega))only[↓KP,EK,↓reduceIte,reduceCtorEq,Nat.reduceEqDiff,Nat.reduceAdd,Nat.reduceLeDiff,Nat.reduceMul]
  exact k _ ((((Grew.refl H).alloc _).alloc _).trans hg1)
theorem wE_cases (h : House) (i : Nat) (w : Watcher) : wE h i w =
    if isName w.name = false then 6 else if ((h.ws.take i).any fun x => x.name.toList == w.name.toList) = true then 5 else if flaw3 w = true then 7 else if [w.hi - w.lo].any (offP 0 6) = true then 2 else 0 := by
  unfold wE freshE
  cases hn : isName w.name with
  | false => simp
  | true =>
    simp only [if_true, List.any_map, Function.comp_def]
    cases ha : ((h.ws.take i).any fun x => x.name.toList == w.name.toList) with
    | true => simp
    | false =>
      simp only [Bool.false_eq_true, if_false, if_true, reduceCtorEq]
      unfold watcherE endsE flaw3 offP
      by_cases h1 : 1 ≤ w.lo ∧ w.lo ≤ 300 ∧ 1 ≤ w.hi ∧ w.hi ≤ 300
      · rw [if_pos h1]
        by_cases h2 : 0 ≤ w.off ∧ w.off ≤ 9
        · have e1 : ¬ w.lo < 1 := by omega
          have e2 : ¬ 300 < w.lo := by omega
          have e3 : ¬ w.hi < 1 := by omega
          have e4 : ¬ 300 < w.hi := by omega
          have e5 : ¬ w.off < 0 := by omega
          have e6 : ¬ 9 < w.off := by omega
          by_cases h3 : w.hi < w.lo
          · have e7 : w.hi - w.lo < 0 := by omega
            simp [e1, e2, e3, e4, e5, e6, h2, h3, e7]
          · have e7 : ¬ w.hi - w.lo < 0 := by omega
            simp [e1, e2, e3, e4, e5, e6, h2, h3, e7]
        · have e5 : w.off < 0 ∨ 9 < w.off := by omega
          rcases e5 with e5 | e5 <;> simp [e5] <;> omega
      · rw [if_neg h1]
        have e5 : w.lo < 1 ∨ 300 < w.lo ∨ w.hi < 1 ∨ 300 < w.hi := by omega
        rcases e5 with e5 | e5 | e5 | e5 <;> simp [e5]
theorem checkW_run (b : Nat) (v1 v2 : AV) (h : House) (i : Nat) (hb : H.get b = some (.cells false [v1, v2])) (hh : IsHouse (Old H) H v1 v2 h) (hi : i < h.ws.length) (hw : h.ws.length ≤ 3) (hblt : b < H.next)
    (k : ∀ H', Grew H H' → R (I (wE h i h.ws[i])) H') : CallQ prog (.func 56 [] [.ptr b 0]) [I i, .agg h.ws[i].cells] H R := by
  obtain ⟨vf, hfs, hvf⟩ := hh.1.front (n := i) (k := i) rfl (by omega)
  rw [wE_cases] at k
  generalize h.ws[i] = w at k ⊢
  have hwl : w.cells.length = 4 := rfl
  have hwt : w.cells.take 4 = w.cells := rfl
  refine CallQ_enter (fn:=c56) rfl (Nat.le_of_ble_eq_true rfl) ?_;simp(maxSteps:=9999999)(disch:=first|omega|(simp only[AN];omega))only[c56,envFrom,↓KP,EK,↓reduceIte,reduceCtorEq,Nat.reduceEqDiff,Nat.reduceAdd,Nat.reduceLeDiff,Nat.reduceMul]
  refine C_call (flaws_run ?_)
  simp(maxSteps:=9999999)(disch:=first|omega|(simp only[AN];omega))only[↓KP,EK,↓reduceIte,reduceCtorEq,Nat.reduceEqDiff,Nat.reduceAdd,Nat.reduceLeDiff,Nat.reduceMul]
  refine K_loop (fun mz ez H1 => ∃ (j : Nat) (tail : Env), ez = (0, I i) :: (1, .agg w.cells) :: (2, .ptr b 0) :: (4, .ptr H.next 0) :: (5, I 0) :: (8, .slice (H.next + 1) 0 4 2) :: (9, I 4) :: (10, I j) :: tail ∧ (Grew H H1) ∧ (H.next + 1 < H1.next) ∧ (H1.get H.next = some (.cells false w.cells)) ∧ (H1.get (H.next + 1) = some (.cells false [I 6, .func 89 [] [], I 5, .func 91 [] [], I 7, .func 94 [] [], I 2, .func 95 [] []])) ∧ (j ≤ 4) ∧ (1 ≤ j → isName w.name = true) ∧ (2 ≤ j → ((h.ws.take i).any fun x => x.name.toList == w.name.toList) = false) ∧ (3 ≤ j → flaw3 w = false) ∧ (4 ≤ j → [w.hi - w.lo].any (offP 0 6) = false) ∧ mz = 4 - j) _ ⟨0, _, rfl, ?_, (by simp(maxSteps:=9999999)(disch:=first|omega|(simp only[AN];omega))only[↓KP,EK,↓reduceIte,reduceCtorEq,Nat.reduceEqDiff,Nat.reduceAdd,Nat.reduceLeDiff,Nat.reduceMul]; omega), ?_, ?_, ?_, (by intro h; omega), (by intro h; omega), (by intro h; omega), (by intro h; omega), rfl⟩ ?_
  iterate 4 (focus (first|(with_reducible rfl)|omega|(with_reducible(repeat first|exact Grew.refl _|assumption|apply Grew.alloc|refine Grew.set ?_ _ (by first|omega|(simp only[AN];omega)));done)|(simp(maxSteps:=9999999)(disch:=first|omega|(simp only[AN];omega))only[↓KP,EK,↓reduceIte,reduceCtorEq,Nat.reduceEqDiff,Nat.reduceAdd,Nat.reduceLeDiff,Nat.reduceMul]<;>first|omega|rfl)|(simp;done)|rfl))
  rintro mz ez H1 ⟨j, tail, rfl, hG, hlt, hb4, hfl, hj, h1, h2, h3, h4, hmz⟩; subst mz; have hGn := hG.next
  have hGn := hG.next
  rcases (show j = 0 ∨ j = 1 ∨ j = 2 ∨ j = 3 ∨ j = 4 by omega) with rfl | rfl | rfl | rfl | rfl
  · have c0 : ((0 : Nat) : Int) = 0 := rfl
    have d0 : (0 : Int) < 4 := by decide
    have q0 : ∀ S, opIdxSl 2 (.slice (H.next + 1) 0 4 2) (I 0) S = some (.ptr (H.next + 1) (0 * 2), S) := fun S => rfl
    have e1 : IntKind.i64.wrap (0 + 1) = ((0 + 1 : Nat) : Int) := rfl
    simp(maxSteps:=9999999)(disch:=first|omega|(simp only[AN];omega))only[c0,d0,q0,hfl,↓KP,EK,↓reduceIte,reduceCtorEq,Nat.reduceEqDiff,Nat.reduceAdd,Nat.reduceLeDiff,Nat.reduceMul]
    refine K_draw ?_;simp(maxSteps:=9999999)(disch:=first|omega|(simp only[AN];omega))only[hb4,hfl,hfs,hb,hG.get,hwl,hwt,↓KP,EK,↓reduceIte,reduceCtorEq,Nat.reduceEqDiff,Nat.reduceAdd,Nat.reduceLeDiff,Nat.reduceMul]
    refine C_calld (flaw1_run w vf fun H2 hg2 => ?_)
    have hg2n := hg2.next; simp only [AH.next_alloc, AH.next_set] at hg2n
    have hg2' : Grew H H2 := Grew.trans GW hg2
    simp(maxSteps:=9999999)(disch:=first|omega|(simp only[AN];omega))only[hg2.get,↓KP,EK,↓reduceIte,reduceCtorEq,Nat.reduceEqDiff,Nat.reduceAdd,Nat.reduceLeDiff,Nat.reduceMul]
    refine C_bool (fun hx => ?_) (fun hx => ?_)
    · simp(maxSteps:=9999999)(disch:=first|omega|(simp only[AN];omega))only[hg2.get,↓KP,EK,↓reduceIte,reduceCtorEq,Nat.reduceEqDiff,Nat.reduceAdd,Nat.reduceLeDiff,Nat.reduceMul]
      rw [if_pos (by simpa using hx)] at k
      exact k _ hg2'
    · simp(maxSteps:=9999999)(disch:=first|omega|(simp only[AN];omega))only[hg2.get,e1,↓KP,EK,↓reduceIte,reduceCtorEq,Nat.reduceEqDiff,Nat.reduceAdd,Nat.reduceLeDiff,Nat.reduceMul]
      refine ⟨_, ?_, 0 + 1, _, rfl, ?_, ?_, ?_, ?_, ?_, (by exact fun _ => by simpa using hx), (by intro h; omega), (by intro h; omega), (by intro h; omega), rfl⟩ <;> (first|omega|(with_reducible assumption)|(with_reducible(repeat first|exact Grew.refl _|assumption|apply Grew.alloc|refine Grew.set ?_ _ (by first|omega|(simp only[AN];omega))|refine Grew.trans ?_ hg2|refine Grew.trans ?_ hG);done)|(simp(maxSteps:=9999999)(disch:=first|omega|(simp only[AN];omega))only[hb4,hfl,hg2.get,hG.get,↓KP,EK,↓reduceIte,reduceCtorEq,Nat.reduceEqDiff,Nat.reduceAdd,Nat.reduceLeDiff,Nat.reduceMul]<;>first|omega|rfl))
  · have c0 : ((1 : Nat) : Int) = 1 := rfl
    have d0 : (1 : Int) < 4 := by decide
    have q0 : ∀ S, opIdxSl 2 (.slice (H.next + 1) 0 4 2) (I 1) S = some (.ptr (H.next + 1) (1 * 2), S) := fun S => rfl
    have e1 : IntKind.i64.wrap (1 + 1) = ((1 + 1 : Nat) : Int) := rfl
    simp(maxSteps:=9999999)(disch:=first|omega|(simp only[AN];omega))only[c0,d0,q0,hfl,↓KP,EK,↓reduceIte,reduceCtorEq,Nat.reduceEqDiff,Nat.reduceAdd,Nat.reduceLeDiff,Nat.reduceMul]
    refine K_draw ?_;simp(maxSteps:=9999999)(disch:=first|omega|(simp only[AN];omega))only[hb4,hfl,hfs,hb,hG.get,hwl,hwt,↓KP,EK,↓reduceIte,reduceCtorEq,Nat.reduceEqDiff,Nat.reduceAdd,Nat.reduceLeDiff,Nat.reduceMul]
    refine C_calld (flaw2_run w vf _ (hvf.move EWatcher.stays (F' := Old _) fun b hb => ⟨(by show b < H1.next + 1; have : b < H.next := hb; omega), (by have : b < H.next := hb; simp(maxSteps:=9999999)(disch:=first|omega|(simp only[AN];omega))only[hG.get,↓KP,EK,↓reduceIte,reduceCtorEq,Nat.reduceEqDiff,Nat.reduceAdd,Nat.reduceLeDiff,Nat.reduceMul])⟩) (by rw [List.length_take]; omega) fun H2 hg2 => ?_)
    have hg2n := hg2.next; simp only [AH.next_alloc, AH.next_set] at hg2n
    have hg2' : Grew H H2 := Grew.trans GW hg2
    simp(maxSteps:=9999999)(disch:=first|omega|(simp only[AN];omega))only[hg2.get,↓KP,EK,↓reduceIte,reduceCtorEq,Nat.reduceEqDiff,Nat.reduceAdd,Nat.reduceLeDiff,Nat.reduceMul]
    refine C_bool (fun hx => ?_) (fun hx => ?_)
    · simp(maxSteps:=9999999)(disch:=first|omega|(simp only[AN];omega))only[hg2.get,↓KP,EK,↓reduceIte,reduceCtorEq,Nat.reduceEqDiff,Nat.reduceAdd,Nat.reduceLeDiff,Nat.reduceMul]
      rw [if_neg (by simp [h1]), if_pos hx] at k
      exact k _ hg2'
    · simp(maxSteps:=9999999)(disch:=first|omega|(simp only[AN];omega))only[hg2.get,e1,↓KP,EK,↓reduceIte,reduceCtorEq,Nat.reduceEqDiff,Nat.reduceAdd,Nat.reduceLeDiff,Nat.reduceMul]
      refine ⟨_, ?_, 1 + 1, _, rfl, ?_, ?_, ?_, ?_, ?_, (by exact fun _ => h1 (by omega)), (by exact fun _ => hx), (by intro h; omega), (by intro h; omega), rfl⟩ <;> (first|omega|(with_reducible assumption)|(with_reducible(repeat first|exact Grew.refl _|assumption|apply Grew.alloc|refine Grew.set ?_ _ (by first|omega|(simp only[AN];omega))|refine Grew.trans ?_ hg2|refine Grew.trans ?_ hG);done)|(simp(maxSteps:=9999999)(disch:=first|omega|(simp only[AN];omega))only[hb4,hfl,hg2.get,hG.get,↓KP,EK,↓reduceIte,reduceCtorEq,Nat.reduceEqDiff,Nat.reduceAdd,Nat.reduceLeDiff,Nat.reduceMul]<;>first|omega|rfl))
  · have c0 : ((2 : Nat) : Int) = 2 := rfl
    have d0 : (2 : Int) < 4 := by decide
    have q0 : ∀ S, opIdxSl 2 (.slice (H.next + 1) 0 4 2) (I 2) S = some (.ptr (H.next + 1) (2 * 2), S) := fun S => rfl
    have e1 : IntKind.i64.wrap (2 + 1) = ((2 + 1 : Nat) : Int) := rfl
    simp(maxSteps:=9999999)(disch:=first|omega|(simp only[AN];omega))only[c0,d0,q0,hfl,↓KP,EK,↓reduceIte,reduceCtorEq,Nat.reduceEqDiff,Nat.reduceAdd,Nat.reduceLeDiff,Nat.reduceMul]
    refine K_draw ?_;simp(maxSteps:=9999999)(disch:=first|omega|(simp only[AN];omega))only[hb4,hfl,hfs,hb,hG.get,hwl,hwt,↓KP,EK,↓reduceIte,reduceCtorEq,Nat.reduceEqDiff,Nat.reduceAdd,Nat.reduceLeDiff,Nat.reduceMul]
    refine C_calld (flaw3_run w vf fun H2 hg2 => ?_)
    have hg2n := hg2.next; simp only [AH.next_alloc, AH.next_set] at hg2n
    have hg2' : Grew H H2 := Grew.trans GW hg2
    simp(maxSteps:=9999999)(disch:=first|omega|(simp only[AN];omega))only[hg2.get,↓KP,EK,↓reduceIte,reduceCtorEq,Nat.reduceEqDiff,Nat.reduceAdd,Nat.reduceLeDiff,Nat.reduceMul]
    refine C_bool (fun hx => ?_) (fun hx => ?_)
    · simp(maxSteps:=9999999)(disch:=first|omega|(simp only[AN];omega))only[hg2.get,↓KP,EK,↓reduceIte,reduceCtorEq,Nat.reduceEqDiff,Nat.reduceAdd,Nat.reduceLeDiff,Nat.reduceMul]
      rw [if_neg (by simp [h1]), if_neg (by simp [h2]), if_pos hx] at k
      exact k _ hg2'
    · simp(maxSteps:=9999999)(disch:=first|omega|(simp only[AN];omega))only[hg2.get,e1,↓KP,EK,↓reduceIte,reduceCtorEq,Nat.reduceEqDiff,Nat.reduceAdd,Nat.reduceLeDiff,Nat.reduceMul]
      refine ⟨_, ?_, 2 + 1, _, rfl, ?_, ?_, ?_, ?_, ?_, (by exact fun _ => h1 (by omega)), (by exact fun _ => h2 (by omega)), (by exact fun _ => hx), (by intro h; omega), rfl⟩ <;> (first|omega|(with_reducible assumption)|(with_reducible(repeat first|exact Grew.refl _|assumption|apply Grew.alloc|refine Grew.set ?_ _ (by first|omega|(simp only[AN];omega))|refine Grew.trans ?_ hg2|refine Grew.trans ?_ hG);done)|(simp(maxSteps:=9999999)(disch:=first|omega|(simp only[AN];omega))only[hb4,hfl,hg2.get,hG.get,↓KP,EK,↓reduceIte,reduceCtorEq,Nat.reduceEqDiff,Nat.reduceAdd,Nat.reduceLeDiff,Nat.reduceMul]<;>first|omega|rfl))
  · have hf3 := h3 (by omega)
    have hf3' : (1 ≤ w.lo ∧ w.lo ≤ 300) ∧ (1 ≤ w.hi ∧ w.hi ≤ 300) := by
      simp [flaw3, offP] at hf3; omega
    · have c0 : ((3 : Nat) : Int) = 3 := rfl
      have d0 : (3 : Int) < 4 := by decide
      have q0 : ∀ S, opIdxSl 2 (.slice (H.next + 1) 0 4 2) (I 3) S = some (.ptr (H.next + 1) (3 * 2), S) := fun S => rfl
      have e1 : IntKind.i64.wrap (3 + 1) = ((3 + 1 : Nat) : Int) := rfl
      simp(maxSteps:=9999999)(disch:=first|omega|(simp only[AN];omega))only[c0,d0,q0,hfl,↓KP,EK,↓reduceIte,reduceCtorEq,Nat.reduceEqDiff,Nat.reduceAdd,Nat.reduceLeDiff,Nat.reduceMul]
      refine K_draw ?_;simp(maxSteps:=9999999)(disch:=first|omega|(simp only[AN];omega))only[hb4,hfl,hfs,hb,hG.get,hwl,hwt,↓KP,EK,↓reduceIte,reduceCtorEq,Nat.reduceEqDiff,Nat.reduceAdd,Nat.reduceLeDiff,Nat.reduceMul]
      refine C_calld (flaw4_run w vf hf3'.1 hf3'.2 fun H2 hg2 => ?_)
      have hg2n := hg2.next; simp only [AH.next_alloc, AH.next_set] at hg2n
      have hg2' : Grew H H2 := Grew.trans GW hg2
      simp(maxSteps:=9999999)(disch:=first|omega|(simp only[AN];omega))only[hg2.get,↓KP,EK,↓reduceIte,reduceCtorEq,Nat.reduceEqDiff,Nat.reduceAdd,Nat.reduceLeDiff,Nat.reduceMul]
      refine C_bool (fun hx => ?_) (fun hx => ?_)
      · simp(maxSteps:=9999999)(disch:=first|omega|(simp only[AN];omega))only[hg2.get,↓KP,EK,↓reduceIte,reduceCtorEq,Nat.reduceEqDiff,Nat.reduceAdd,Nat.reduceLeDiff,Nat.reduceMul]
        rw [if_neg (by simp [h1]), if_neg (by simp [h2]), if_neg (by simp [h3]), if_pos hx] at k
        exact k _ hg2'
      · simp(maxSteps:=9999999)(disch:=first|omega|(simp only[AN];omega))only[hg2.get,e1,↓KP,EK,↓reduceIte,reduceCtorEq,Nat.reduceEqDiff,Nat.reduceAdd,Nat.reduceLeDiff,Nat.reduceMul]
        refine ⟨_, ?_, 3 + 1, _, rfl, ?_, ?_, ?_, ?_, ?_, (by exact fun _ => h1 (by omega)), (by exact fun _ => h2 (by omega)), (by exact fun _ => hf3), (by exact fun _ => hx), rfl⟩ <;> (first|omega|(with_reducible assumption)|(with_reducible(repeat first|exact Grew.refl _|assumption|apply Grew.alloc|refine Grew.set ?_ _ (by first|omega|(simp only[AN];omega))|refine Grew.trans ?_ hg2|refine Grew.trans ?_ hG);done)|(simp(maxSteps:=9999999)(disch:=first|omega|(simp only[AN];omega))only[hb4,hfl,hg2.get,hG.get,↓KP,EK,↓reduceIte,reduceCtorEq,Nat.reduceEqDiff,Nat.reduceAdd,Nat.reduceLeDiff,Nat.reduceMul]<;>first|omega|rfl))
  · have c0 : ((4 : Nat) : Int) = 4 := rfl
    have d0 : ¬ (4 : Int) < 4 := by decide
    simp(maxSteps:=9999999)(disch:=first|omega|(simp only[AN];omega))only[c0,d0,↓KP,EK,↓reduceIte,reduceCtorEq,Nat.reduceEqDiff,Nat.reduceAdd,Nat.reduceLeDiff,Nat.reduceMul]
    rw [if_neg (by simp [h1]), if_neg (by simp [h2]), if_neg (by simp [h3]), if_neg (by simp [h4])] at k
    exact k _ hG
end Go.Proofs.Ytgncpbkedhchfaa
namespace Go.Proofs.Ytgncpbkedhchfaa
open Go.AM Go.IntWalk
set_option maxRecDepth 100000
set_option maxHeartbeats 2000000
set_option linter.unusedSimpArgs false
variable {H : AH} {R : AV → AH → Prop}
theorem IsHouse.grow {H H' : AH} {v1 v2 : AV} {h : House} (hg : Grew H H') (hh : IsHouse (Old H) H v1 v2 h) : IsHouse (Old H') H' v1 v2 h := hh.move hg.keeps
def failE {α : Type} (f : Nat → α → Int) (l : List α) (most : Nat) : Int × Int :=
  if most < l.length then (0, 3) else match firstErr f 0 l with
    | some (i, e) => (i, e)
    | none => (0, 0)
theorem failW_run (b : Nat) (v1 v2 : AV) (h : House) (hb : H.get b = some (.cells false [v1, v2])) (hh : IsHouse (Old H) H v1 v2 h) (hblt : b < H.next)
    (k : ∀ H', Grew H H' → R (.tuple [I (failE (wE h) h.ws 3).1, I (failE (wE h) h.ws 3).2]) H') : CallQ prog (.func 55 [] []) [v1, I 3, .func 56 [] [.ptr b 0]] H R := by
  refine CallQ_enter (fn:=c55) rfl (Nat.le_of_ble_eq_true rfl) ?_;simp(maxSteps:=9999999)(disch:=first|omega|(simp only[AN];omega))only[c55,envFrom,hh.1.len,↓KP,EK,↓reduceIte,reduceCtorEq,Nat.reduceEqDiff,Nat.reduceAdd,Nat.reduceLeDiff,Nat.reduceMul]
  refine C_decide (fun hc => ?_) (fun hc => ?_)
  · simp(maxSteps:=9999999)(disch:=first|omega|(simp only[AN];omega))only[↓KP,EK,↓reduceIte,reduceCtorEq,Nat.reduceEqDiff,Nat.reduceAdd,Nat.reduceLeDiff,Nat.reduceMul]
    rw [failE, if_pos (by omega)] at k
    exact k _ (Grew.refl _)
  · have hw3 : h.ws.length ≤ 3 := by omega
    simp(maxSteps:=9999999)(disch:=first|omega|(simp only[AN];omega))only[hh.1.len,↓KP,EK,↓reduceIte,reduceCtorEq,Nat.reduceEqDiff,Nat.reduceAdd,Nat.reduceLeDiff,Nat.reduceMul]
    refine K_loop (fun mz ez H1 => ∃ (i : Nat) (tail : Env), ez = (0, v1) :: (1, I 3) :: (2, .func 56 [] [.ptr b 0]) :: (6, I 0) :: (7, I 0) :: (14, .bool (decide ((3 : Int) < h.ws.length))) :: (15, v1) :: (16, I h.ws.length) :: (17, I i) :: tail ∧ (Grew H H1) ∧ (i ≤ h.ws.length) ∧ (∀ j (hj : j < h.ws.length), j < i → wE h j h.ws[j] = 0) ∧ mz = h.ws.length - i) _ ⟨0, _, rfl, ?_, ?_, (by intro j hj h0; omega), rfl⟩ ?_
    iterate 2 (focus (first|(with_reducible rfl)|omega|(with_reducible(repeat first|exact Grew.refl _|assumption|apply Grew.alloc|refine Grew.set ?_ _ (by first|omega|(simp only[AN];omega)));done)|(simp(maxSteps:=9999999)(disch:=first|omega|(simp only[AN];omega))only[↓KP,EK,↓reduceIte,reduceCtorEq,Nat.reduceEqDiff,Nat.reduceAdd,Nat.reduceLeDiff,Nat.reduceMul]<;>first|omega|rfl)|(simp;done)|rfl))
    rintro mz ez H1 ⟨i, tail, rfl, hG, hil, hno, hmz⟩; subst mz; have hGn := hG.next
    simp(maxSteps:=9999999)(disch:=first|omega|(simp only[AN];omega))only[↓KP,EK,↓reduceIte,reduceCtorEq,Nat.reduceEqDiff,Nat.reduceAdd,Nat.reduceLeDiff,Nat.reduceMul]
    refine C_decide (fun hc1 => ?_) (fun hc1 => ?_)
    · have hi' : i < h.ws.length := by omega
      obtain ⟨q_b, q_i, q_ro, q_vs, q_lt, q⟩ := rdW hh.1 (k := i) rfl hi'
      have e1 : IntKind.i64.wrap ((i : Int) + 1) = ((i + 1 : Nat) : Int) := i64_in _ (by omega)
      simp(maxSteps:=9999999)(disch:=first|omega|(simp only[AN];omega))only[hG.get,q,Watcher.cells,↓KP,EK,↓reduceIte,reduceCtorEq,Nat.reduceEqDiff,Nat.reduceAdd,Nat.reduceLeDiff,Nat.reduceMul]
      first|refine C_call ?_|refine C_calld ?_
      refine checkW_run b v1 v2 h i (by simp(maxSteps:=9999999)(disch:=first|omega|(simp only[AN];omega))only[hG.get,hb,↓KP,EK,↓reduceIte,reduceCtorEq,Nat.reduceEqDiff,Nat.reduceAdd,Nat.reduceLeDiff,Nat.reduceMul]) (hh.grow GW) hi' hw3 (by have := hG.next; show b < H1.next + 1; omega) fun H2 hg2 => ?_
      have hg2n:=hg2.next;try simp only[AN]at hg2n
      have hg2' : Grew H H2 := Grew.trans GW hg2
      simp(maxSteps:=9999999)(disch:=first|omega|(simp only[AN];omega))only[↓KP,EK,↓reduceIte,reduceCtorEq,Nat.reduceEqDiff,Nat.reduceAdd,Nat.reduceLeDiff,Nat.reduceMul]
      refine C_ndecide (fun hz => ?_) (fun hz => ?_)
      rotate_left
      · simp(maxSteps:=9999999)(disch:=first|omega|(simp only[AN];omega))only[e1,↓KP,EK,↓reduceIte,reduceCtorEq,Nat.reduceEqDiff,Nat.reduceAdd,Nat.reduceLeDiff,Nat.reduceMul]
        refine ⟨_, ?_, i + 1, _, rfl, ?_, ?_, (by intro j hj hjn; by_cases hji : j = i; (subst hji; exact hz); exact hno j hj (by omega)), rfl⟩ <;> (first|omega|(with_reducible assumption)|(with_reducible(repeat first|exact Grew.refl _|assumption|apply Grew.alloc|refine Grew.set ?_ _ (by first|omega|(simp only[AN];omega)));done)|(simp(maxSteps:=9999999)(disch:=first|omega|(simp only[AN];omega))only[↓KP,EK,↓reduceIte,reduceCtorEq,Nat.reduceEqDiff,Nat.reduceAdd,Nat.reduceLeDiff,Nat.reduceMul]<;>first|omega|rfl))
      · simp(maxSteps:=9999999)(disch:=first|omega|(simp only[AN];omega))only[↓KP,EK,↓reduceIte,reduceCtorEq,Nat.reduceEqDiff,Nat.reduceAdd,Nat.reduceLeDiff,Nat.reduceMul]
        have hz' : (wE h) (0 + i) h.ws[i] ≠ 0 := by simpa using hz
        have hf := firstErr_some (f := wE h) (l := h.ws) (i := 0) (k := i) hi' (fun j hj hjn => by simpa using hno j hj hjn) hz'
        rw [failE, if_neg (by omega), hf] at k
        simp only [Nat.zero_add] at k
        exact k _ hg2'
    · simp(maxSteps:=9999999)(disch:=first|omega|(simp only[AN];omega))only[↓KP,EK,↓reduceIte,reduceCtorEq,Nat.reduceEqDiff,Nat.reduceAdd,Nat.reduceLeDiff,Nat.reduceMul]
      have hf : firstErr (wE h) 0 h.ws = none := firstErr_none fun j hj => by simpa using hno j hj (by omega)
      rw [failE, if_neg (by omega), hf] at k
      exact k _ hG
theorem checkD_run (b : Nat) (v1 v2 vd : AV) (h : House) (i : Nat) (n : Int) (day : List Int) (hb : H.get b = some (.cells false [v1, v2])) (hh : IsHouse (Old H) H v1 v2 h) (hd : IsInts (Old H) H vd day) (hw : h.ws.length ≤ 3)
    (k : ∀ H', Grew H H' → R (I (dE h i day)) H') : CallQ prog (.func 59 [] [.ptr b 0]) [I n, vd] H R := by
  by_cases hl : (day.length : Int) = h.ws.length
  · refine CallQ_enter (fn:=c59) rfl (Nat.le_of_ble_eq_true rfl) ?_;simp(maxSteps:=9999999)(disch:=first|omega|(simp only[AN];omega))only[c59,envFrom,hd.len,hb,hh.1.len,hl,↓KP,EK,↓reduceIte,reduceCtorEq,Nat.reduceEqDiff,Nat.reduceAdd,Nat.reduceLeDiff,Nat.reduceMul]
    refine C_call (off_run (-1) 120 vd day hd (by omega) fun H1 hg1 => ?_)
    have hdE : dE h i day = if day.any (offP (-1) 120) = true then 7 else 0 := by
      rw [dE, if_neg (by omega)]
      have : (day.all fun n => decide (-1 ≤ n) && decide (n ≤ 120)) = !day.any (offP (-1) 120) := by
        rw [List.all_eq_not_any_not]
        congr 2
        funext n
        simp only [offP, Bool.not_and]
        by_cases h1 : -1 ≤ n <;> by_cases h2 : n ≤ 120 <;> simp [h1, h2] <;> omega
      rw [this]
      cases day.any (offP (-1) 120) <;> rfl
    rw [hdE] at k
    simp(maxSteps:=9999999)(disch:=first|omega|(simp only[AN];omega))only[↓KP,EK,↓reduceIte,reduceCtorEq,Nat.reduceEqDiff,Nat.reduceAdd,Nat.reduceLeDiff,Nat.reduceMul]
    refine C_bool (fun hx => ?_) (fun hx => ?_)
    · simp(maxSteps:=9999999)(disch:=first|omega|(simp only[AN];omega))only[↓KP,EK,↓reduceIte,reduceCtorEq,Nat.reduceEqDiff,Nat.reduceAdd,Nat.reduceLeDiff,Nat.reduceMul]
      rw [if_pos hx] at k; exact k _ hg1
    · simp(maxSteps:=9999999)(disch:=first|omega|(simp only[AN];omega))only[↓KP,EK,↓reduceIte,reduceCtorEq,Nat.reduceEqDiff,Nat.reduceAdd,Nat.reduceLeDiff,Nat.reduceMul]
      rw [if_neg (by simp [hx])] at k; exact k _ hg1
  · refine CallQ_enter (fn:=c59) rfl (Nat.le_of_ble_eq_true rfl) ?_;simp(maxSteps:=9999999)(disch:=first|omega|(simp only[AN];omega))only[c59,envFrom,hd.len,hb,hh.1.len,hl,↓KP,EK,↓reduceIte,reduceCtorEq,Nat.reduceEqDiff,Nat.reduceAdd,Nat.reduceLeDiff,Nat.reduceMul]
    have : dE h i day = 3 := by rw [dE, if_pos (by omega)]
    rw [this] at k
    exact k _ (Grew.refl _)
theorem failD_run (b : Nat) (v1 v2 : AV) (h : House) (hb : H.get b = some (.cells false [v1, v2])) (hh : IsHouse (Old H) H v1 v2 h) (hblt : b < H.next) (hw : h.ws.length ≤ 3)
    (k : ∀ H', Grew H H' → R (.tuple [I (failE (dE h) h.days 4).1, I (failE (dE h) h.days 4).2]) H') : CallQ prog (.func 58 [] []) [v2, I 4, .func 59 [] [.ptr b 0]] H R := by
  refine CallQ_enter (fn:=c58) rfl (Nat.le_of_ble_eq_true rfl) ?_;simp(maxSteps:=9999999)(disch:=first|omega|(simp only[AN];omega))only[c58,envFrom,hh.2.len,↓KP,EK,↓reduceIte,reduceCtorEq,Nat.reduceEqDiff,Nat.reduceAdd,Nat.reduceLeDiff,Nat.reduceMul]
  refine C_decide (fun hc => ?_) (fun hc => ?_)
  · simp(maxSteps:=9999999)(disch:=first|omega|(simp only[AN];omega))only[↓KP,EK,↓reduceIte,reduceCtorEq,Nat.reduceEqDiff,Nat.reduceAdd,Nat.reduceLeDiff,Nat.reduceMul]
    rw [failE, if_pos (by omega)] at k
    exact k _ (Grew.refl _)
  · have hw4 : h.days.length ≤ 4 := by omega
    simp(maxSteps:=9999999)(disch:=first|omega|(simp only[AN];omega))only[hh.2.len,↓KP,EK,↓reduceIte,reduceCtorEq,Nat.reduceEqDiff,Nat.reduceAdd,Nat.reduceLeDiff,Nat.reduceMul]
    refine K_loop (fun mz ez H1 => ∃ (i : Nat) (tail : Env), ez = (0, v2) :: (1, I 4) :: (2, .func 59 [] [.ptr b 0]) :: (6, I 0) :: (7, I 0) :: (14, .bool (decide ((4 : Int) < h.days.length))) :: (15, v2) :: (16, I h.days.length) :: (17, I i) :: tail ∧ (Grew H H1) ∧ (i ≤ h.days.length) ∧ (∀ j (hj : j < h.days.length), j < i → dE h j h.days[j] = 0) ∧ mz = h.days.length - i) _ ⟨0, _, rfl, ?_, ?_, (by intro j hj h0; omega), rfl⟩ ?_
    iterate 2 (focus (first|(with_reducible rfl)|omega|(with_reducible(repeat first|exact Grew.refl _|assumption|apply Grew.alloc|refine Grew.set ?_ _ (by first|omega|(simp only[AN];omega)));done)|(simp(maxSteps:=9999999)(disch:=first|omega|(simp only[AN];omega))only[↓KP,EK,↓reduceIte,reduceCtorEq,Nat.reduceEqDiff,Nat.reduceAdd,Nat.reduceLeDiff,Nat.reduceMul]<;>first|omega|rfl)|(simp;done)|rfl))
    rintro mz ez H1 ⟨i, tail, rfl, hG, hil, hno, hmz⟩; subst mz; have hGn := hG.next
    simp(maxSteps:=9999999)(disch:=first|omega|(simp only[AN];omega))only[↓KP,EK,↓reduceIte,reduceCtorEq,Nat.reduceEqDiff,Nat.reduceAdd,Nat.reduceLeDiff,Nat.reduceMul]
    refine C_decide (fun hc1 => ?_) (fun hc1 => ?_)
    · have hi' : i < h.days.length := by omega
      obtain ⟨q_b, q_i, q_ro, q_vs, vo, q_lt, hvo, q⟩ := hh.2.rdSl rfl hi'
      have e1 : IntKind.i64.wrap ((i : Int) + 1) = ((i + 1 : Nat) : Int) := i64_in _ (by omega)
      simp(maxSteps:=9999999)(disch:=first|omega|(simp only[AN];omega))only[hG.get,q,↓KP,EK,↓reduceIte,reduceCtorEq,Nat.reduceEqDiff,Nat.reduceAdd,Nat.reduceLeDiff,Nat.reduceMul]
      first|refine C_call ?_|refine C_calld ?_
      refine checkD_run b v1 v2 vo h i i h.days[i] (by simp(maxSteps:=9999999)(disch:=first|omega|(simp only[AN];omega))only[hG.get,hb,↓KP,EK,↓reduceIte,reduceCtorEq,Nat.reduceEqDiff,Nat.reduceAdd,Nat.reduceLeDiff,Nat.reduceMul]) (hh.grow hG) (hvo.grow EInt.stays hG) hw fun H2 hg2 => ?_
      have hg2n:=hg2.next;try simp only[AN]at hg2n
      simp(maxSteps:=9999999)(disch:=first|omega|(simp only[AN];omega))only[↓KP,EK,↓reduceIte,reduceCtorEq,Nat.reduceEqDiff,Nat.reduceAdd,Nat.reduceLeDiff,Nat.reduceMul]
      refine C_ndecide (fun hz => ?_) (fun hz => ?_)
      rotate_left
      · simp(maxSteps:=9999999)(disch:=first|omega|(simp only[AN];omega))only[e1,↓KP,EK,↓reduceIte,reduceCtorEq,Nat.reduceEqDiff,Nat.reduceAdd,Nat.reduceLeDiff,Nat.reduceMul]
        refine ⟨_, ?_, i + 1, _, rfl, ?_, ?_, (by intro j hj hjn; by_cases hji : j = i; (subst hji; exact hz); exact hno j hj (by omega)), rfl⟩ <;> (first|omega|(with_reducible assumption)|(with_reducible(repeat first|exact Grew.refl _|assumption|apply Grew.alloc|refine Grew.set ?_ _ (by first|omega|(simp only[AN];omega))|refine Grew.trans ?_ hg2|refine Grew.trans ?_ hG);done)|(simp(maxSteps:=9999999)(disch:=first|omega|(simp only[AN];omega))only[hg2.get,hG.get,↓KP,EK,↓reduceIte,reduceCtorEq,Nat.reduceEqDiff,Nat.reduceAdd,Nat.reduceLeDiff,Nat.reduceMul]<;>first|omega|rfl))
      · simp(maxSteps:=9999999)(disch:=first|omega|(simp only[AN];omega))only[↓KP,EK,↓reduceIte,reduceCtorEq,Nat.reduceEqDiff,Nat.reduceAdd,Nat.reduceLeDiff,Nat.reduceMul]
        have hz' : (dE h) (0 + i) h.days[i] ≠ 0 := by simpa using hz
        have hf := firstErr_some (f := dE h) (l := h.days) (i := 0) (k := i) hi' (fun j hj hjn => by simpa using hno j hj hjn) hz'
        rw [failE, if_neg (by omega), hf] at k
        simp only [Nat.zero_add] at k
        exact k _ (hG.trans hg2)
    · simp(maxSteps:=9999999)(disch:=first|omega|(simp only[AN];omega))only[↓KP,EK,↓reduceIte,reduceCtorEq,Nat.reduceEqDiff,Nat.reduceAdd,Nat.reduceLeDiff,Nat.reduceMul]
      have hf : firstErr (dE h) 0 h.days = none := firstErr_none fun j hj => by simpa using hno j hj (by omega)
      rw [failE, if_neg (by omega), hf] at k
      exact k _ hG
theorem Check_run (v1 v2 : AV) (h : House) (hh : IsHouse (Old H) H v1 v2 h)
    (k : ∀ H', Grew H H' → R (.tuple [I (checkE h).1, I (checkE h).2.1, I (checkE h).2.2]) H') : CallQ prog (.func 16 [] []) [.agg [v1, v2]] H R := by
  refine CallQ_enter (fn:=c16) rfl (Nat.le_of_ble_eq_true rfl) ?_;simp(maxSteps:=9999999)(disch:=first|omega|(simp only[AN];omega))only[c16,envFrom,↓KP,EK,↓reduceIte,reduceCtorEq,Nat.reduceEqDiff,Nat.reduceAdd,Nat.reduceLeDiff,Nat.reduceMul]
  first|refine C_call ?_|refine C_calld ?_
  refine failW_run H.next v1 v2 h (by simp(maxSteps:=9999999)(disch:=first|omega|(simp only[AN];omega))only[↓KP,EK,↓reduceIte,reduceCtorEq,Nat.reduceEqDiff,Nat.reduceAdd,Nat.reduceLeDiff,Nat.reduceMul]) (hh.grow GW) (by simp(maxSteps:=9999999)(disch:=first|omega|(simp only[AN];omega))only[↓KP,EK,↓reduceIte,reduceCtorEq,Nat.reduceEqDiff,Nat.reduceAdd,Nat.reduceLeDiff,Nat.reduceMul]; omega) fun H1 hg1 => ?_
  have hg1n:=hg1.next;try simp only[AN]at hg1n
  have hg1' : Grew H H1 := ((Grew.refl H).alloc _).trans hg1
  have hb : H1.get H.next = some (.cells false [v1, v2]) := by simp(maxSteps:=9999999)(disch:=first|omega|(simp only[AN];omega))only[hg1.get,↓KP,EK,↓reduceIte,reduceCtorEq,Nat.reduceEqDiff,Nat.reduceAdd,Nat.reduceLeDiff,Nat.reduceMul]
  by_cases h3 : 3 < h.ws.length
  · have hf : failE (wE h) h.ws 3 = (0, 3) := by rw [failE, if_pos h3]
    rw [checkE, if_pos h3] at k
    have e3 : ¬ (3 : Int) = 0 := by decide
    simp(maxSteps:=9999999)(disch:=first|omega|(simp only[AN];omega))only[hf,e3,↓KP,EK,↓reduceIte,reduceCtorEq,Nat.reduceEqDiff,Nat.reduceAdd,Nat.reduceLeDiff,Nat.reduceMul]
    exact k _ hg1'
  · cases hf : firstErr (wE h) 0 h.ws with
    | some x =>
      obtain ⟨i, e⟩ := x
      have hf' : failE (wE h) h.ws 3 = ((i : Int), e) := by rw [failE, if_neg h3, hf]
      have he := firstErr_ne hf
      rw [checkE, if_neg h3, hf] at k
      simp(maxSteps:=9999999)(disch:=first|omega|(simp only[AN];omega))only[hf',he,↓KP,EK,↓reduceIte,reduceCtorEq,Nat.reduceEqDiff,Nat.reduceAdd,Nat.reduceLeDiff,Nat.reduceMul]
      exact k _ hg1'
    | none =>
      have hf' : failE (wE h) h.ws 3 = (0, 0) := by rw [failE, if_neg h3, hf]
      rw [checkE, if_neg h3, hf] at k
      simp(maxSteps:=9999999)(disch:=first|omega|(simp only[AN];omega))only[hf',hb,↓KP,EK,↓reduceIte,reduceCtorEq,Nat.reduceEqDiff,Nat.reduceAdd,Nat.reduceLeDiff,Nat.reduceMul]
      first|refine C_call ?_|refine C_calld ?_
      refine failD_run H.next v1 v2 h hb (hh.grow hg1') (by omega) (by omega) fun H2 hg2 => ?_
      have hg2n:=hg2.next;try simp only[AN]at hg2n
      have hg2' := hg1'.trans hg2
      simp only at k
      by_cases h4 : 4 < h.days.length
      · have hq : failE (dE h) h.days 4 = (0, 3) := by rw [failE, if_pos h4]
        rw [if_pos h4] at k
        have e3 : ¬ (3 : Int) = 0 := by decide
        simp(maxSteps:=9999999)(disch:=first|omega|(simp only[AN];omega))only[hq,e3,↓KP,EK,↓reduceIte,reduceCtorEq,Nat.reduceEqDiff,Nat.reduceAdd,Nat.reduceLeDiff,Nat.reduceMul]
        exact k _ hg2'
      · cases hd : firstErr (dE h) 0 h.days with
        | some x =>
          obtain ⟨i, e⟩ := x
          have hq : failE (dE h) h.days 4 = ((i : Int), e) := by rw [failE, if_neg h4, hd]
          have he := firstErr_ne hd
          rw [if_neg h4, hd] at k
          simp(maxSteps:=9999999)(disch:=first|omega|(simp only[AN];omega))only[hq,he,↓KP,EK,↓reduceIte,reduceCtorEq,Nat.reduceEqDiff,Nat.reduceAdd,Nat.reduceLeDiff,Nat.reduceMul]
          exact k _ hg2'
        | none =>
          have hq : failE (dE h) h.days 4 = (0, 0) := by rw [failE, if_neg h4, hd]
          rw [if_neg h4, hd] at k
          simp(maxSteps:=9999999)(disch:=first|omega|(simp only[AN];omega))only[hq,↓KP,EK,↓reduceIte,reduceCtorEq,Nat.reduceEqDiff,Nat.reduceAdd,Nat.reduceLeDiff,Nat.reduceMul]
          exact k _ hg2'
end Go.Proofs.Ytgncpbkedhchfaa
namespace Go.AM
def Kept (K : Nat → Prop) (l : Nat) (H1 H2 : AH) : Prop := H1.next ≤ H2.next ∧ ∀ b, b < H1.next → (K b ∨ l < b) → H2.get b = H1.get b
theorem Kept.refl {K : Nat → Prop} {l : Nat} {H : AH} : Kept K l H H := ⟨Nat.le_refl _, fun _ _ _ => rfl⟩
theorem Kept.trans {K : Nat → Prop} {l : Nat} {H1 H2 H3 : AH} (h : Kept K l H1 H2) (h' : Kept K l H2 H3) : Kept K l H1 H3 := ⟨Nat.le_trans h.1 h'.1, fun b hb hc => (h'.2 b (Nat.lt_of_lt_of_le hb h.1) hc).trans (h.2 b hb hc)⟩
def On (K : Nat → Prop) (M : Nat) (P : AH → Prop) : Prop := ∀ H1 H2 : AH, H1.next ≤ H2.next → (∀ b, ¬ K b → b < M → H2.get b = H1.get b) → P H1 → P H2
def Below (K : Nat → Prop) (P : AH → Prop) : Prop := ∀ H1 H2 : AH, H1.next ≤ H2.next → (∀ b, K b → H2.get b = H1.get b) → P H1 → P H2
def Iter (prog : Nat → Option AFunc) (g : AV) (L : List (List AV)) (K : Nat → Prop) (Inv : AH → Prop) : Prop :=
  Below K Inv ∧ (∀ H, Inv H → ∀ b, K b → b < H.next) ∧ ∀ (H : AH) (l : Nat) (Y : List (List AV) → AH → Prop) (S : AH → Prop) (R : AV → AH → Prop), (∀ b, K b → b < l) → l < H.next → Inv H →
    (∀ done, On K (l + 1) (Y done)) → On K (l + 1) S →
    (∀ done a rest H1, L = done ++ a :: rest → l < H1.next → Inv H1 → Y done H1 → CallQ prog (.yield l) a H1 fun v H2 => Kept K l H1 H2 ∧ ((v = .bool true ∧ Y (done ++ [a]) H2) ∨ (v = .bool false ∧ S H2))) →
    (∀ H2, H.next ≤ H2.next → Inv H2 → (Y L H2 ∨ S H2) → R (.tuple []) H2) →
    Y [] H → CallQ prog g [.yield l] H R
def AsgQ (prog : Nat → Option AFunc) (l : Nat) (bd : ACode) (Q : AExit → Env → AH → Prop) : AExit → Env → AH → Prop
  | .normal, e, H => ∃ L, H.get l = some (.loop L) ∧ L.state = .ready ∧ WpK prog bd e (H.set l (.loop { L with state := .busy })) [] Q
  | _, _, _ => False
def BodQ (P : AExit → AH → Prop) : AExit → Env → AH → Prop := fun x _ H => P x H
def BodE (x : Option AObj) (prog : Nat → Option AFunc) (l : Nat) (bd : ACode) (e : Env) (H : AH) (Q : AExit → Env → AH → Prop) : Prop := match x with
  | some (.loop L) => L.state = .ready ∧ WpK prog bd e (H.set l (.loop { L with state := .busy })) [] Q
  | _ => False
theorem K7 :
    (∀ {prog : Nat → Option AFunc} {l : Nat} {bd : ACode} {Q : AExit → Env → AH → Prop} {e : Env} {H : AH}, EndK prog .normal e H [] (AsgQ prog l bd Q) ↔ BodE (H.get l) prog l bd e H Q) ∧
    (∀ {prog : Nat → Option AFunc} {l : Nat} {bd : ACode} {Q : AExit → Env → AH → Prop} {e : Env} {H : AH} {L : ALoop}, BodE (some (.loop L)) prog l bd e H Q ↔ L.state = .ready ∧ WpK prog bd e (H.set l (.loop { L with state := .busy })) [] Q) ∧
    (∀ {prog : Nat → Option AFunc} {P : AExit → AH → Prop} {x : AExit} {e : Env} {H : AH}, EndK prog x e H [] (BodQ P) ↔ P x H) ∧
    (∀ {e : Env} {ts : List Nat} {vs : List AV} {t : Nat} {v : AV}, bindAll e (t :: ts) (v :: vs) = bindAll (e.put t v) ts vs) ∧
    (∀ {e : Env} {vs : List AV}, bindAll e [] vs = e) := by
  refine ⟨?_, Iff.rfl, Iff.rfl, rfl, ?_⟩
  · intro prog l bd Q e H
    constructor
    · rintro ⟨L, h1, h2, h3⟩
      unfold BodE; rw [h1]; exact ⟨h2, h3⟩
    · intro h
      unfold BodE at h
      split at h
      · rename_i L hL; exact ⟨L, hL, h⟩
      · exact h.elim
  · intro e vs; unfold bindAll; rfl
theorem K8 :
    (∀ {prog : Nat → Option AFunc} {l : Nat} {bd : ACode} {Q : AExit → Env → AH → Prop} {e : Env} {H : AH}, EndK prog .normal e H [] (AsgQ prog l bd Q) ↔ BodE (H.get l) prog l bd e H Q) ∧
    (∀ {prog : Nat → Option AFunc} {l : Nat} {bd : ACode} {Q : AExit → Env → AH → Prop} {e : Env} {H : AH} {L : ALoop}, BodE (some (.loop L)) prog l bd e H Q ↔ L.state = .ready ∧ WpK prog bd e (H.set l (.loop { L with state := .busy })) [] Q) ∧
    (∀ {e : Env} {ts : List Nat} {vs : List AV} {t : Nat} {v : AV}, bindAll e (t :: ts) (v :: vs) = bindAll (e.put t v) ts vs) ∧
    (∀ {e : Env} {vs : List AV}, bindAll e [] vs = e) := ⟨K7.1, K7.2.1, K7.2.2.2.1, K7.2.2.2.2⟩
theorem K_bod {prog : Nat → Option AFunc} {P : AExit → AH → Prop} {x : AExit} {e : Env} {H : AH} (h : P x H) : EndK prog x e H [] (BodQ P) := h
section
variable {prog : Nat → Option AFunc} {e : Env} {H : AH} {ks : List Kont} {Q : AExit → Env → AH → Prop}
theorem K_range {f : AOpd} {ps : List Nat} {as bd : ACode} {g : Nat} {fs cs : List AV} (hf : f.val e = some (.func g fs cs))
    (h : CallQ prog (.func g fs cs) [.yield H.next] (H.alloc (.loop { state := .ready, pending := .normal, env := e, params := ps, assign := as, body := bd })) fun _ H2 =>
      ∃ L, H2.get H.next = some (.loop L) ∧ L.state ≠ .busy ∧ EndK prog L.pending e (H2.set H.next (.loop { L with state := .over })) ks Q) : WpK prog (.range f ps as bd) e H ks Q := Wp_range hf h
theorem K_iter {f : AOpd} {ps : List Nat} {as bd : ACode} {g : Nat} {fs cs : List AV} {L : List (List AV)} {K : Nat → Prop} {Inv : AH → Prop} (hf : f.val e = some (.func g fs cs)) (hI : Iter prog (.func g fs cs) L K Inv) (hi : Inv H) (hps : ∀ a ∈ L, a.length = ps.length)
    (Y : List (List AV) → AH → Prop) (S : AExit → AH → Prop) (hY : ∀ done, On K H.next (Y done)) (hS : ∀ x, On K H.next (S x)) (h0 : Y [] H)
    (step : ∀ done a rest H1, L = done ++ a :: rest → H.next < H1.next → Inv H1 → Y done H1 → H1.get H.next = some (.loop { state := .ready, pending := .normal, env := e, params := ps, assign := as, body := bd }) →
      WpK prog as (bindAll e ps a) H1 [] (AsgQ prog H.next bd (BodQ fun x H3 => H3.get H.next = some (.loop { state := .busy, pending := .normal, env := e, params := ps, assign := as, body := bd }) ∧ Kept K H.next H1 H3 ∧ match x with
        | .normal => Y (done ++ [a]) H3
        | x => S x H3)))
    (fin : ∀ H2, H.next < H2.next → Inv H2 → Y L H2 → EndK prog .normal e H2 ks Q)
    (stop : ∀ x H2, x ≠ .normal → H.next < H2.next → Inv H2 → S x H2 → EndK prog x e H2 ks Q) : WpK prog (.range f ps as bd) e H ks Q := by
  obtain ⟨hB, hN, hI⟩ := hI
  have hNH := hN H hi
  let L0 : ALoop := { state := .ready, pending := .normal, env := e, params := ps, assign := as, body := bd }
  have old : ∀ {H1 : AH} {o : AObj} {b : Nat}, b < H.next → (H1.set H.next o).get b = H1.get b := fun hb => get_set_other (by omega)
  have st : ∀ {P : AH → Prop}, On K H.next P → ∀ (H3 : AH) (o : AObj), P H3 → P (H3.set H.next o) := fun hP H3 o h => hP H3 (H3.set H.next o) (Nat.le_refl _) (fun b _ hb => old hb) h
  have sb : ∀ (H3 : AH) (o : AObj), Inv H3 → Inv (H3.set H.next o) := fun H3 o h => hB H3 (H3.set H.next o) (Nat.le_refl _) (fun b hb => get_set_other (by have := hNH b hb; omega)) h
  refine K_range hf (hI (H.alloc (.loop L0)) H.next (fun done H' => Y done H' ∧ H'.get H.next = some (.loop L0)) (fun H' => ∃ x, x ≠ .normal ∧ S x H' ∧ H'.get H.next = some (.loop { L0 with state := .done, pending := x })) _ hNH (by simp) (hB _ _ (by simp) (fun b hb => get_alloc_old (hNH b hb)) hi) ?_ ?_ ?_ ?_ ?_)
  · rintro done H1 H2 hn hs ⟨h1, h2⟩
    exact ⟨hY done H1 H2 hn (fun b h3 h4 => hs b h3 (by omega)) h1, by rw [hs _ (fun hk => by have := hNH _ hk; omega) (by omega)]; exact h2⟩
  · rintro H1 H2 hn hs ⟨x, hx, h1, h2⟩
    exact ⟨x, hx, hS x H1 H2 hn (fun b h3 h4 => hs b h3 (by omega)) h1, by rw [hs _ (fun hk => by have := hNH _ hk; omega) (by omega)]; exact h2⟩
  · rintro done a rest H1 hL hl hi1 ⟨hy, hlo⟩
    have ha := hps a (by rw [hL]; simp)
    have hst := step done a rest H1 hL hl hi1 hy hlo
    refine CallQ_yield hlo (by simpa using ha) (hst.mono fun x e1 H2 hx => ?_)
    have hx : AsgQ prog H.next bd _ x e1 H2 := hx
    cases x with
    | exit i => exact hx.elim
    | ret => exact hx.elim
    | normal =>
      obtain ⟨L1, q1, q2, q3⟩ := hx
      refine ⟨rfl, L1, q1, q2, Wp.mono q3 fun y e3 H3 hy3 => ?_⟩
      obtain ⟨r1, r2, r3⟩ : H3.get H.next = _ ∧ Kept K H.next H1 H3 ∧ _ := hy3
      refine ⟨_, r1, ?_⟩
      have hk : ∀ o, Kept K H.next H1 (H3.set H.next o) := fun o => ⟨r2.1, fun b hb hc => by rw [get_set_other (by rcases hc with h | h; have := hNH b h; omega; omega)]; exact r2.2 b hb hc⟩
      cases y with
      | normal => exact ⟨hk _, .inl ⟨rfl, st (hY _) _ _ r3, get_set_same _ _ _⟩⟩
      | exit i => exact ⟨hk _, .inr ⟨rfl, .exit i, by simp, st (hS _) _ _ r3, get_set_same _ _ _⟩⟩
      | ret => exact ⟨hk _, .inr ⟨rfl, .ret, by simp, st (hS _) _ _ r3, get_set_same _ _ _⟩⟩
  · intro H2 hn hi2 hor
    simp only [AH.next_alloc] at hn
    rcases hor with ⟨hy, hlo⟩ | ⟨x, hx, hs, hlo⟩
    · exact ⟨L0, hlo, by simp [L0], fin _ (by simp; omega) (sb _ _ hi2) (st (hY _) _ _ hy)⟩
    · exact ⟨_, hlo, by simp, stop x _ hx (by simp; omega) (sb _ _ hi2) (st (hS _) _ _ hs)⟩
  · exact ⟨hY _ _ _ (by simp) (fun b _ hb => get_alloc_old hb) h0, get_alloc_new _ _⟩
end
end Go.AM
namespace Go.Proofs.Ytgncpbkedhchfaa
open Go.AM Go.IntWalk
set_option maxRecDepth 100000
set_option maxHeartbeats 2000000
set_option linter.unusedSimpArgs false
variable {H : AH} {R : AV → AH → Prop}
theorem shr_nat (b k : Nat) (hk : k < 64) : binA .shr (I b) (I k) = some (I (b / 2 ^ k : Nat)) := by
  have h1 : ¬ (k : Int) < 0 := by omega
  have h2 : min ((k : Int).toNat) IntKind.i64.bits = k := by simp only [IntKind.bits, Int.toNat_natCast]; omega
  show (if (k : Int) < 0 then none else some (I ((b : Int).fdiv (2 ^ (min ((k : Int).toNat) IntKind.i64.bits))))) = _
  rw [if_neg h1, h2]
  congr 2
  have : ((2 : Int) ^ k) = ((2 ^ k : Nat) : Int) := by simp
  rw [this, Int.fdiv_eq_ediv_of_nonneg _ (Int.natCast_nonneg _)]
  rfl
theorem and_one (x : Nat) (hx : x < 9223372036854775808) : binA .and (I x) (I 1) = some (I (x % 2 : Nat)) := by
  show (if IntKind.i64 = IntKind.i64 then some (I (IntKind.i64.wrap (BitVec.ofInt IntKind.i64.bits (x : Int) &&& BitVec.ofInt IntKind.i64.bits 1).toNat)) else none) = _
  rw [if_pos rfl]
  have h1 : (BitVec.ofInt IntKind.i64.bits (x : Int) &&& BitVec.ofInt IntKind.i64.bits 1).toNat = x % 2 := by
    have e : BitVec.ofInt 64 (x : Int) = BitVec.ofNat 64 x := BitVec.ofInt_natCast 64 x
    show (BitVec.ofInt 64 (x : Int) &&& BitVec.ofInt 64 1).toNat = x % 2
    rw [e, BitVec.toNat_and]
    have : (BitVec.ofInt 64 1).toNat = 1 := by decide
    rw [this, BitVec.toNat_ofNat, Nat.and_one_is_mod]
    omega
  rw [h1, i64_in _ (by omega)]
structure Looked (N p m : Nat) (v1 v2 : AV) (h : House) (but : Nat) (H : AH) : Prop where
  box : H.get p = some (.cells false [v1, v2, I but, .map m])
  hs : IsHouse (fun b => b < N ∧ b ≠ m) H v1 v2 h
  plt : p < N
  mlt : m < N
  pm : p ≠ m
  nle : N ≤ H.next
theorem Looked.old {N p m : Nat} {v1 v2 : AV} {h : House} {but : Nat} (hl : Looked N p m v1 v2 h but H) : IsHouse (Old H) H v1 v2 h := hl.hs.move fun b hb => ⟨Nat.lt_of_lt_of_le hb.1 hl.nle, rfl⟩
theorem Looked.up {N p m : Nat} {v1 v2 : AV} {h : House} {but : Nat} {H H' : AH} (hl : Looked N p m v1 v2 h but H) (hg : Grew H H') : Looked N p m v1 v2 h but H' := by
  have := hg.next
  have hn := hl.nle
  exact ⟨by rw [hg.get _ (by have := hl.plt; omega)]; exact hl.box, hl.hs.move fun b hb => ⟨hb, hg.get _ (by omega)⟩, hl.plt, hl.mlt, hl.pm, by omega⟩
theorem maskRow_get {p : Nat → Bool} {row : List Int} {base n : Nat} (hn : n < row.length) : (maskRow p row base row.length)[n]'(by rw [maskRow_length]; exact hn) = if p (base + n) = true then -1 else row[n] := by
  simp only [maskRow, List.getElem_map, List.getElem_range, hn, true_and, getI_eq hn]
theorem three_get (a b c : Int) {n : Nat} (hn : n < 3) : [I a, I b, I c][n]? = some (I ([a, b, c][n]'(by simpa using hn))) := by
  match n, hn with
  | 0, _ => rfl
  | 1, _ => rfl
  | 2, _ => rfl
theorem max_times {lo f x : Int} (hlo : 0 ≤ lo) (hf : 0 ≤ f) : max lo (f * max 0 x) = max lo (f * x) := by
  by_cases hx : 0 ≤ x
  · rw [show max 0 x = x from by omega]
  · rw [show max 0 x = 0 from by omega]
    have h1 : f * x ≤ 0 := Int.mul_nonpos_of_nonneg_of_nonpos hf (by omega)
    have h2 : f * 0 = 0 := Int.mul_zero f
    omega
theorem narrowAll_short : ∀ {ws : List Watcher} {cs fs : List Int} {s : Int × Int} {k : Nat}, ws.length ≤ k → narrowAll s (ws.take k) cs (fs.take k) = narrowAll s ws cs fs
  | [], _, _, _, _, _ => by simp [narrowAll]
  | w :: ws, cs, fs, s, 0, h => by simp at h
  | w :: ws, [], fs, s, k + 1, _ => by simp [narrowAll]
  | w :: ws, c :: cs, [], s, k + 1, _ => by simp [narrowAll]
  | w :: ws, c :: cs, f :: fs, s, k + 1, h => by
    simp only [List.take_succ_cons, narrowAll]
    exact narrowAll_short (by simpa using h)
theorem day_run {N p m : Nat} {v1 v2 : AV} {h : House} {but : Nat} (a b c : Int) (d : Nat) (hl : Looked N p m v1 v2 h but H) (hfine : Fine h) (hbut : but < 4096) (hd : d < h.days.length) (ha : 0 ≤ a ∧ a ≤ 1000) (hb : 0 ≤ b ∧ b ≤ 1000) (hc : 0 ≤ c ∧ c ≤ 1000)
    (k : ∀ H', Grew H H' → R (.agg [I (numbersE (maskE h but.testBit) d [a, b, c]).1, I (numbersE (maskE h but.testBit) d [a, b, c]).2]) H') : CallQ prog (.func 102 [.ptr p 0] []) [I d, .agg [I a, I b, I c]] H R := by
  have hbox := hl.box
  have hp := hl.plt
  have hN := hl.nle
  have hh := hl.old
  have hw3 := hfine.ws
  have hd4 := hfine.days
  have hdl := hfine.len _ (List.getElem_mem hd)
  obtain ⟨q_b, q_i, q_ro, q_vs, vo, q_lt, hvo, q⟩ := hh.2.rdSl rfl hd
  refine CallQ_enter (fn:=c102) rfl (Nat.le_of_ble_eq_true rfl) ?_;simp(maxSteps:=9999999)(disch:=first|omega|(simp only[AN];omega))only[c102,envFrom,hbox,q,hvo.len,↓KP,EK,↓reduceIte,reduceCtorEq,Nat.reduceEqDiff,Nat.reduceAdd,Nat.reduceLeDiff,Nat.reduceMul]
  refine K_loop (fun mz ez H1 => ∃ (n : Nat) (lo hi : Int) (tail : Env), ez = (0, .ptr p 0) :: (1, I d) :: (2, .agg [I a, I b, I c]) :: (5, .ptr H.next 0) :: (6, .ptr (H.next + 1) 0) :: (18, vo) :: (19, I h.days[d].length) :: (20, I n) :: tail ∧ (Grew H H1) ∧ (H.next + 1 < H1.next) ∧ (H1.get H.next = some (.cells false [I a, I b, I c])) ∧ (H1.get (H.next + 1) = some (.cells false [I lo, I hi])) ∧ (n ≤ h.ws.length) ∧ (0 ≤ lo) ∧ ((lo, hi) = narrowAll (0, 39999) (h.ws.take n) ((maskRow but.testBit h.days[d] (d * h.ws.length) h.ws.length).take n) ([a, b, c].take n)) ∧ mz = h.ws.length - n) _ ⟨0, 0, 39999, _, rfl, ?_, (by simp(maxSteps:=9999999)(disch:=first|omega|(simp only[AN];omega))only[↓KP,EK,↓reduceIte,reduceCtorEq,Nat.reduceEqDiff,Nat.reduceAdd,Nat.reduceLeDiff,Nat.reduceMul]; omega), ?_, ?_, ?_, ?_, ?_, rfl⟩ ?_
  iterate 6 (focus (first|(with_reducible rfl)|omega|(with_reducible(repeat first|exact Grew.refl _|assumption|apply Grew.alloc|refine Grew.set ?_ _ (by first|omega|(simp only[AN];omega)));done)|(simp(maxSteps:=9999999)(disch:=first|omega|(simp only[AN];omega))only[↓KP,EK,↓reduceIte,reduceCtorEq,Nat.reduceEqDiff,Nat.reduceAdd,Nat.reduceLeDiff,Nat.reduceMul]<;>first|omega|rfl)|(simp;done)|rfl))
  rintro mz ez H1 ⟨n, lo, hi, tail, rfl, hG, hlt, h5, h6, hn, hlo, hs, hmz⟩; subst mz; have hGn := hG.next
  simp(maxSteps:=9999999)(disch:=first|omega|(simp only[AN];omega))only[hdl,↓KP,EK,↓reduceIte,reduceCtorEq,Nat.reduceEqDiff,Nat.reduceAdd,Nat.reduceLeDiff,Nat.reduceMul]
  refine C_decide (fun hc1 => ?_) (fun hc1 => ?_)
  · have hn' : n < h.ws.length := by omega
    obtain ⟨r_b, r_i, r_ro, r_vs, r_lt, r⟩ := hvo.rdInt (k := n) rfl (by omega)
    obtain ⟨t_b, t_i, t_ro, t_vs, t_lt, t⟩ := rdW hh.1 (k := n) rfl hn'
    have hwf := hfine.w hn'
    have hcf := hfine.count _ (List.getElem_mem hd) _ (List.getElem_mem (l := h.days[d]) (n := n) (by omega))
    have e1 : IntKind.i64.wrap ((n : Int) + 1) = ((n + 1 : Nat) : Int) := i64_in _ (by omega)
    have hmul : d * h.ws.length ≤ 3 * 3 := Nat.mul_le_mul (by omega) (by omega)
    have hstep := narrowAll_take (s := (0, 39999)) hn' (show n < (maskRow but.testBit h.days[d] (d * h.ws.length) h.ws.length).length by rw [maskRow_length]; omega) (show n < [a, b, c].length by simp; omega)
    rw [← hs] at hstep
    have hmg : (maskRow but.testBit h.days[d] (d * h.ws.length) h.ws.length)[n]'(by rw [maskRow_length]; omega) = if but.testBit (d * h.ws.length + n) = true then -1 else h.days[d][n]'(by omega) := by
      rw [← maskRow_get (by omega)]; simp only [hdl]
    rw [hmg] at hstep
    have hf3 := three_get a b c (n := n) (by omega)
    have hix : ∀ S, opIdxArr 3 1 (.ptr H.next 0) (I n) S = some (.ptr H.next n, S) := fun S => by
      have : n < 3 := by omega
      simp [opIdxArr, natOf, this]
    have hfb : 0 ≤ [a, b, c][n]'(by simp; omega) ∧ [a, b, c][n]'(by simp; omega) ≤ 1000 := by
      rcases (show n = 0 ∨ n = 1 ∨ n = 2 by omega) with rfl | rfl | rfl <;> assumption
    generalize [a, b, c][n]'(by simp; omega) = f at hstep hf3 hfb
    generalize h.days[d][n]'(by omega) = x at r hcf hstep
    by_cases hx : x = -1
    · have hst : narrow (lo, hi) h.ws[n] (if but.testBit (d * h.ws.length + n) = true then -1 else x) f = (lo, hi) := by rw [narrow, if_pos (by split <;> omega)]
      rw [hst] at hstep
      simp(maxSteps:=9999999)(disch:=first|omega|(simp only[AN];omega))only[hG.get,r,↓KP,EK,↓reduceIte,reduceCtorEq,Nat.reduceEqDiff,Nat.reduceAdd,Nat.reduceLeDiff,Nat.reduceMul]
      refine K_draw ?_;simp(maxSteps:=9999999)(disch:=first|omega|(simp only[AN];omega))only[eq_true hx,e1,↓KP,EK,↓reduceIte,reduceCtorEq,Nat.reduceEqDiff,Nat.reduceAdd,Nat.reduceLeDiff,Nat.reduceMul]
      refine ⟨_, ?_, n + 1, lo, hi, _, rfl, ?_, ?_, ?_, ?_, ?_, ?_, (by exact hstep.symm), rfl⟩ <;> (first|omega|(with_reducible assumption)|(with_reducible(repeat first|exact Grew.refl _|assumption|apply Grew.alloc|refine Grew.set ?_ _ (by first|omega|(simp only[AN];omega)));done)|(simp(maxSteps:=9999999)(disch:=first|omega|(simp only[AN];omega))only[↓KP,EK,↓reduceIte,reduceCtorEq,Nat.reduceEqDiff,Nat.reduceAdd,Nat.reduceLeDiff,Nat.reduceMul]<;>first|omega|rfl))
    · have hk : d * h.ws.length + n < 64 := by omega
      have hdm : (d : Int) * h.ws.length = ((d * h.ws.length : Nat) : Int) := by simp
      have e2 : IntKind.i64.wrap ((d : Int) * h.ws.length) = ((d * h.ws.length : Nat) : Int) := by rw [hdm, i64_in _ (by omega)]
      have e3 : IntKind.i64.wrap (((d * h.ws.length : Nat) : Int) + n) = ((d * h.ws.length + n : Nat) : Int) := i64_in _ (by omega)
      have s1 := shr_nat but (d * h.ws.length + n) hk
      have hdiv : but / 2 ^ (d * h.ws.length + n) ≤ but := Nat.div_le_self _ _
      have s2 := and_one (but / 2 ^ (d * h.ws.length + n)) (by omega)
      have hbit : but.testBit (d * h.ws.length + n) = decide (((but / 2 ^ (d * h.ws.length + n) % 2 : Nat) : Int) = 1) := by
        rw [Nat.testBit_eq_decide_div_mod_eq, decide_eq_decide]; omega
      by_cases hbt : ((but / 2 ^ (d * h.ws.length + n) % 2 : Nat) : Int) = 1
      · have hst : narrow (lo, hi) h.ws[n] (if but.testBit (d * h.ws.length + n) = true then -1 else x) f = (lo, hi) := by rw [narrow, if_pos (by rw [hbit, decide_eq_true hbt]; rfl)]
        rw [hst] at hstep
        simp(maxSteps:=9999999)(disch:=first|omega|(simp only[AN];omega))only[hG.get,r,↓KP,EK,↓reduceIte,reduceCtorEq,Nat.reduceEqDiff,Nat.reduceAdd,Nat.reduceLeDiff,Nat.reduceMul]
        refine K_draw ?_;simp(maxSteps:=9999999)(disch:=first|omega|(simp only[AN];omega))only[hx,hG.get,hbox,hh.1.len,e1,e2,e3,s1,s2,hbt,↓KP,EK,↓reduceIte,reduceCtorEq,Nat.reduceEqDiff,Nat.reduceAdd,Nat.reduceLeDiff,Nat.reduceMul]
        refine ⟨_, ?_, n + 1, lo, hi, _, rfl, ?_, ?_, ?_, ?_, ?_, ?_, (by exact hstep.symm), rfl⟩ <;> (first|omega|(with_reducible assumption)|(with_reducible(repeat first|exact Grew.refl _|assumption|apply Grew.alloc|refine Grew.set ?_ _ (by first|omega|(simp only[AN];omega)));done)|(simp(maxSteps:=9999999)(disch:=first|omega|(simp only[AN];omega))only[↓KP,EK,↓reduceIte,reduceCtorEq,Nat.reduceEqDiff,Nat.reduceAdd,Nat.reduceLeDiff,Nat.reduceMul]<;>first|omega|rfl))
      · have hst : narrow (lo, hi) h.ws[n] (if but.testBit (d * h.ws.length + n) = true then -1 else x) f = (max lo (f * (x - h.ws[n].off)), min hi (f * (x + h.ws[n].off))) := by
          rw [if_neg (by rw [hbit, decide_eq_false hbt]; decide), narrow, if_neg hx, max_times hlo hfb.1]
        rw [hst] at hstep
        have e4 : IntKind.i64.wrap (x - h.ws[n].off) = x - h.ws[n].off := i64_in _ (by omega)
        have e5 : IntKind.i64.wrap (x + h.ws[n].off) = x + h.ws[n].off := i64_in _ (by omega)
        have b1 := abs_mul_le f (x - h.ws[n].off) 1000 1000 (by omega) (by omega)
        have b2 := abs_mul_le f (x + h.ws[n].off) 1000 1000 (by omega) (by omega)
        have e6 : IntKind.i64.wrap (f * (x - h.ws[n].off)) = f * (x - h.ws[n].off) := i64_in _ (by omega)
        have e7 : IntKind.i64.wrap (f * (x + h.ws[n].off)) = f * (x + h.ws[n].off) := i64_in _ (by omega)
        simp(maxSteps:=9999999)(disch:=first|omega|(simp only[AN];omega))only[hG.get,r,↓KP,EK,↓reduceIte,reduceCtorEq,Nat.reduceEqDiff,Nat.reduceAdd,Nat.reduceLeDiff,Nat.reduceMul]
        refine K_draw ?_;simp(maxSteps:=9999999)(disch:=first|omega|(simp only[AN];omega))only[hx,hG.get,hbox,hh.1.len,e1,e2,e3,s1,s2,hbt,↓KP,EK,↓reduceIte,reduceCtorEq,Nat.reduceEqDiff,Nat.reduceAdd,Nat.reduceLeDiff,Nat.reduceMul]
        simp(maxSteps:=9999999)(disch:=first|omega|(simp only[AN];omega))only[hG.get,hbox,t,Watcher.cells,↓KP,EK,↓reduceIte,reduceCtorEq,Nat.reduceEqDiff,Nat.reduceAdd,Nat.reduceLeDiff,Nat.reduceMul]
        refine K_draw ?_;simp(maxSteps:=9999999)(disch:=first|omega|(simp only[AN];omega))only[h5,h6,hix,hf3,e1,e4,e5,e6,e7,↓KP,EK,↓reduceIte,reduceCtorEq,Nat.reduceEqDiff,Nat.reduceAdd,Nat.reduceLeDiff,Nat.reduceMul]
        exact ⟨_, by omega, n + 1, _, _, _, rfl, (by first|omega|(with_reducible assumption)|(with_reducible(repeat first|exact Grew.refl _|assumption|apply Grew.alloc|refine Grew.set ?_ _ (by first|omega|(simp only[AN];omega)));done)|(simp(maxSteps:=9999999)(disch:=first|omega|(simp only[AN];omega))only[h5,h6,↓KP,EK,↓reduceIte,reduceCtorEq,Nat.reduceEqDiff,Nat.reduceAdd,Nat.reduceLeDiff,Nat.reduceMul]<;>first|omega|rfl)), (by first|omega|(with_reducible assumption)|(with_reducible(repeat first|exact Grew.refl _|assumption|apply Grew.alloc|refine Grew.set ?_ _ (by first|omega|(simp only[AN];omega)));done)|(simp(maxSteps:=9999999)(disch:=first|omega|(simp only[AN];omega))only[h5,h6,↓KP,EK,↓reduceIte,reduceCtorEq,Nat.reduceEqDiff,Nat.reduceAdd,Nat.reduceLeDiff,Nat.reduceMul]<;>first|omega|rfl)), (by first|omega|(with_reducible assumption)|(with_reducible(repeat first|exact Grew.refl _|assumption|apply Grew.alloc|refine Grew.set ?_ _ (by first|omega|(simp only[AN];omega)));done)|(simp(maxSteps:=9999999)(disch:=first|omega|(simp only[AN];omega))only[h5,h6,↓KP,EK,↓reduceIte,reduceCtorEq,Nat.reduceEqDiff,Nat.reduceAdd,Nat.reduceLeDiff,Nat.reduceMul]<;>first|omega|rfl)), (by first|omega|(with_reducible assumption)|(with_reducible(repeat first|exact Grew.refl _|assumption|apply Grew.alloc|refine Grew.set ?_ _ (by first|omega|(simp only[AN];omega)));done)|(simp(maxSteps:=9999999)(disch:=first|omega|(simp only[AN];omega))only[h5,h6,↓KP,EK,↓reduceIte,reduceCtorEq,Nat.reduceEqDiff,Nat.reduceAdd,Nat.reduceLeDiff,Nat.reduceMul]<;>first|omega|rfl)), (by first|omega|(with_reducible assumption)|(with_reducible(repeat first|exact Grew.refl _|assumption|apply Grew.alloc|refine Grew.set ?_ _ (by first|omega|(simp only[AN];omega)));done)|(simp(maxSteps:=9999999)(disch:=first|omega|(simp only[AN];omega))only[h5,h6,↓KP,EK,↓reduceIte,reduceCtorEq,Nat.reduceEqDiff,Nat.reduceAdd,Nat.reduceLeDiff,Nat.reduceMul]<;>first|omega|rfl)), (by first|omega|(with_reducible assumption)|(with_reducible(repeat first|exact Grew.refl _|assumption|apply Grew.alloc|refine Grew.set ?_ _ (by first|omega|(simp only[AN];omega)));done)|(simp(maxSteps:=9999999)(disch:=first|omega|(simp only[AN];omega))only[h5,h6,↓KP,EK,↓reduceIte,reduceCtorEq,Nat.reduceEqDiff,Nat.reduceAdd,Nat.reduceLeDiff,Nat.reduceMul]<;>first|omega|rfl)), (by exact hstep.symm), rfl⟩
  · have hne : n = h.ws.length := by omega
    subst hne
    have hend : narrowAll (0, 39999) (h.ws.take h.ws.length) ((maskRow but.testBit h.days[d] (d * h.ws.length) h.ws.length).take h.ws.length) ([a, b, c].take h.ws.length) = numbersE (maskE h but.testBit) d [a, b, c] := by
      rw [numbersE, narrowAll_short (Nat.le_refl _), getD_eq (by rw [maskE_length]; exact hd), maskE_day hd, List.take_of_length_le (by rw [maskRow_length]; omega), hdl]
      rfl
    rw [hend] at hs
    simp(maxSteps:=9999999)(disch:=first|omega|(simp only[AN];omega))only[h6,↓KP,EK,↓reduceIte,reduceCtorEq,Nat.reduceEqDiff,Nat.reduceAdd,Nat.reduceLeDiff,Nat.reduceMul]
    rw [← hs] at k
    refine k _ ?_
    exact GW
end Go.Proofs.Ytgncpbkedhchfaa
