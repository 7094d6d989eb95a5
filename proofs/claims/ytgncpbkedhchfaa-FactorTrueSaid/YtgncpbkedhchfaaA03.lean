/- The row FactorTrue: counts as any past makes them deny nothing of that past, for every house and past. -/
import Derived.Test.YtgncpbkedhchfaaA01
import Derived.Test.YtgncpbkedhchfaaA02
set_option linter.unusedVariables false
set_option linter.unusedSimpArgs false
namespace Go.Proofs.Ytgncpbkedhchfaa
open Go.AM
def bs (l : List UInt8) : ByteArray := ⟨l.toArray⟩
def c8 : AFunc :=
  let k:List Nat:=[0,1,2,3,4,6,7,8,9,10,11,12,13,14,15,16,17,18,19,20,21,24,53,57,76,80,99,103,140]
  {nt := 142,body := (.seq (.reg [⟨.some 2,.box (.s 0),.none,0,[]⟩,⟨.some 3,.box (.s 1),.none,1,[]⟩,⟨.some 4,.move (.c (.bool false)),.none,2,[]⟩] k) (.seq (.seq (.reg [⟨.some 22,.loadN 2 (.s 2),.none,0,[]⟩,⟨.some 23,.call (.c (.func 35 [] [])) [.s 22],.none,1,[]⟩,⟨.some 24,.un .not (.s 23),.none,2,[]⟩] k) (.cond (.s 24) (.seq (.reg [⟨.some 26,.loadN 2 (.s 2),.none,0,[]⟩,⟨.some 27,.call (.c (.func 29 [] [])) [.s 26],.none,1,[]⟩,⟨.some 25,.move (.s 27),.none,2,[]⟩,⟨.some 28,.extract 0 (.s 25),.none,3,[]⟩,⟨.some 29,.extract 1 (.s 25),.none,4,[]⟩,⟨.some 5,.move (.s 28),.none,5,[]⟩,⟨.some 6,.move (.s 29),.none,6,[]⟩] k) (.seq (.reg [⟨.some 30,.move (.s 6),.none,0,[]⟩,⟨.some 31,.bin .neq (.s 30) (.c (.int .i64 0)),.none,1,[]⟩,⟨.some 32,.move (.s 31),.none,2,[]⟩,⟨.some 33,.call (.c (.func 22 [] [])) [],.some (32,true),3,[]⟩,⟨.some 34,.pick (.s 32) (.s 33) (.c (.bool false)),.none,4,[]⟩,⟨.some 4,.move (.s 34),.none,5,[]⟩] k) .ret)) .skip)) (.seq (.reg [⟨.some 36,.loadN 2 (.s 2),.none,0,[]⟩,⟨.some 37,.loadN 3 (.s 3),.none,1,[]⟩,⟨.some 38,.call (.c (.func 36 [] [])) [.s 36,.s 37],.none,2,[]⟩,⟨.some 35,.move (.s 38),.none,3,[]⟩,⟨.some 39,.extract 0 (.s 35),.none,4,[]⟩,⟨.some 40,.extract 1 (.s 35),.none,5,[]⟩,⟨.some 41,.extract 2 (.s 35),.none,6,[]⟩,⟨.some 7,.alloc [.nilslice,.nilslice],.none,7,[]⟩,⟨.none,.store 2 (.s 7) (.s 39),.none,8,[]⟩,⟨.some 8,.move (.s 40),.none,9,[]⟩,⟨.some 9,.move (.s 41),.none,10,[]⟩] k) (.seq (.reg [⟨.some 43,.loadN 2 (.s 7),.none,0,[]⟩,⟨.some 44,.call (.c (.func 29 [] [])) [.s 43],.none,1,[]⟩,⟨.some 42,.move (.s 44),.none,2,[]⟩,⟨.some 45,.extract 0 (.s 42),.none,3,[]⟩,⟨.some 46,.extract 1 (.s 42),.none,4,[]⟩,⟨.some 10,.move (.s 45),.none,5,[]⟩,⟨.some 11,.move (.s 46),.none,6,[]⟩] k) (.seq (.seq (.reg [⟨.some 47,.move (.s 11),.none,0,[]⟩,⟨.some 48,.bin .neq (.s 47) (.c (.int .i64 0)),.none,1,[]⟩,⟨.some 49,.move (.s 48),.none,2,[]⟩,⟨.some 50,.move (.s 10),.some (49,false),3,[]⟩,⟨.some 51,.len false (.s 50),.some (49,false),4,[]⟩,⟨.some 52,.bin .gtr
    (.s 51) (.c (.int .i64 0)),.some (49,false),5,[]⟩,⟨.some 53,.pick (.s 49) (.c (.bool true)) (.s 52),.none,6,[]⟩] k) (.cond (.s 53) (.seq (.reg [⟨.some 4,.move (.c (.bool false)),.none,0,[]⟩] k) .ret) .skip)) (.seq (.seq (.reg [⟨.some 12,.move (.c (.int .i64 0)),.none,0,[]⟩] k) (.block 0 (.loop (.seq (.seq (.reg [⟨.some 54,.move (.s 12),.none,0,[]⟩,⟨.some 55,.move (.s 9),.none,1,[]⟩,⟨.some 56,.len false (.s 55),.none,2,[]⟩,⟨.some 57,.bin .lss (.s 54) (.s 56),.none,3,[]⟩] k) (.cond (.s 57) .skip (.exit 0))) (.seq (.block 1 (.seq (.reg [⟨.some 61,.loadN 2 (.s 7),.none,0,[]⟩,⟨.some 62,.move (.s 12),.none,1,[]⟩,⟨.some 63,.call (.c (.func 20 [] [])) [.s 61,.s 62],.none,2,[]⟩,⟨.some 60,.move (.s 63),.none,3,[]⟩,⟨.some 64,.extract 0 (.s 60),.none,4,[]⟩,⟨.some 65,.extract 1 (.s 60),.none,5,[]⟩,⟨.some 13,.alloc [.int .i64 0,.int .i64 0],.none,6,[]⟩,⟨.none,.store 2 (.s 13) (.s 64),.none,7,[]⟩,⟨.some 14,.move (.s 65),.none,8,[]⟩] k) (.seq (.draw [⟨.some 66,.move (.s 14),.none,0,[]⟩,⟨.some 67,.bin .neq (.s 66) (.c (.int .i64 0)),.none,1,[0]⟩,⟨.some 68,.move (.s 67),.none,2,[0,1]⟩,⟨.some 69,.move (.s 9),.some (68,false),3,[1,0,2]⟩,⟨.some 70,.move (.s 12),.some (68,false),4,[1,0,2]⟩,⟨.some 71,.idxSl 1 (.s 69) (.s 70),.some (68,false),5,[4,2,0,1,3]⟩,⟨.some 72,.load (.s 71),.some (68,false),6,[3,1,0,2,4,5]⟩,⟨.some 73,.loadN 2 (.s 13),.some (68,false),7,[1,0,2]⟩,⟨.some 74,.call (.c (.func 37 [] [])) [.s 72,.s 73],.some (68,false),8,[7,5,4,2,0,1,3,6]⟩,⟨.some 75,.un .not (.s 74),.some (68,false),9,[6,3,1,0,2,4,5,7,8]⟩,⟨.some 76,.pick (.s 68) (.c (.bool true)) (.s 75),.none,10,[8,7,5,4,3,6,9,1,0,2]⟩] k) (.cond (.s 76) (.seq (.reg [⟨.some 4,.move (.c (.bool false)),.none,0,[]⟩] k) .ret) .skip)))) (.reg [⟨.some 58,.move (.s 12),.none,0,[]⟩,⟨.some 59,.bin .add (.s 58) (.c (.int .i64 1)),.none,1,[]⟩,⟨.some 12,.move (.s 59),.none,2,[]⟩] k)))))) (.seq (.seq (.reg [⟨.some 15,.move (.c (.int .i64 0)),.none,0,[]⟩] k) (.block 2 (.loop (.seq (.seq (.reg [⟨.some 77,.move (.s
    15),.none,0,[]⟩,⟨.some 78,.move (.s 8),.none,1,[]⟩,⟨.some 79,.len false (.s 78),.none,2,[]⟩,⟨.some 80,.bin .lss (.s 77) (.s 79),.none,3,[]⟩] k) (.cond (.s 80) .skip (.exit 2))) (.seq (.block 3 (.seq (.reg [⟨.some 84,.loadN 2 (.s 7),.none,0,[]⟩,⟨.some 85,.move (.s 15),.none,1,[]⟩,⟨.some 86,.call (.c (.func 18 [] [])) [.s 84,.s 85],.none,2,[]⟩,⟨.some 83,.move (.s 86),.none,3,[]⟩,⟨.some 87,.extract 0 (.s 83),.none,4,[]⟩,⟨.some 88,.extract 1 (.s 83),.none,5,[]⟩,⟨.some 16,.alloc [.int .i64 0,.int .i64 0],.none,6,[]⟩,⟨.none,.store 2 (.s 16) (.s 87),.none,7,[]⟩,⟨.some 17,.move (.s 88),.none,8,[]⟩] k) (.seq (.seq (.draw [⟨.some 89,.move (.s 17),.none,0,[]⟩,⟨.some 90,.bin .neq (.s 89) (.c (.int .i64 0)),.none,1,[0]⟩,⟨.some 91,.move (.s 90),.none,2,[0,1]⟩,⟨.some 92,.move (.s 8),.some (91,false),3,[1,0,2]⟩,⟨.some 93,.move (.s 15),.some (91,false),4,[1,0,2]⟩,⟨.some 94,.idxSl 1 (.s 92) (.s 93),.some (91,false),5,[4,2,0,1,3]⟩,⟨.some 95,.load (.s 94),.some (91,false),6,[3,1,0,2,4,5]⟩,⟨.some 96,.loadN 2 (.s 16),.some (91,false),7,[1,0,2]⟩,⟨.some 97,.call (.c (.func 37 [] [])) [.s 95,.s 96],.some (91,false),8,[7,5,4,2,0,1,3,6]⟩,⟨.some 98,.un .not (.s 97),.some (91,false),9,[6,3,1,0,2,4,5,7,8]⟩,⟨.some 99,.pick (.s 91) (.c (.bool true)) (.s 98),.none,10,[8,7,5,4,3,6,9,1,0,2]⟩] k) (.cond (.s 99) (.seq (.reg [⟨.some 4,.move (.c (.bool false)),.none,0,[]⟩] k) .ret) .skip)) (.seq (.reg [⟨.some 18,.move (.c (.int .i64 0)),.none,0,[]⟩] k) (.block 4 (.loop (.seq (.seq (.reg [⟨.some 100,.move (.s 18),.none,0,[]⟩,⟨.some 101,.move (.s 8),.none,1,[]⟩,⟨.some 102,.len false (.s 101),.none,2,[]⟩,⟨.some 103,.bin .lss (.s 100) (.s 102),.none,3,[]⟩] k) (.cond (.s 103) .skip (.exit 4))) (.seq (.block 5 (.seq (.reg [⟨.some 107,.loadN 2 (.s 7),.none,0,[]⟩,⟨.some 108,.move (.s 15),.none,1,[]⟩,⟨.some 109,.move (.s 18),.none,2,[]⟩,⟨.some 110,.call (.c (.func 25 [] [])) [.s 107,.s 108,.s 109],.none,3,[]⟩,⟨.some 106,.move (.s 110),.none,4,[]⟩,⟨.some 111,.extract 0 (.s 106),.none,5,[]⟩,⟨.some 112,.extract
    1 (.s 106),.none,6,[]⟩,⟨.some 113,.extract 2 (.s 106),.none,7,[]⟩,⟨.some 19,.alloc [.int .i64 0,.int .i64 0],.none,8,[]⟩,⟨.some 20,.alloc [.int .i64 0,.int .i64 0],.none,9,[]⟩,⟨.none,.store 2 (.s 19) (.s 111),.none,10,[]⟩,⟨.none,.store 2 (.s 20) (.s 112),.none,11,[]⟩,⟨.some 21,.move (.s 113),.none,12,[]⟩] k) (.seq (.draw [⟨.some 114,.move (.s 21),.none,0,[]⟩,⟨.some 115,.bin .neq (.s 114) (.c (.int .i64 0)),.none,1,[0]⟩,⟨.some 116,.move (.s 115),.none,2,[0,1]⟩,⟨.some 117,.loadN 2 (.s 19),.some (116,false),3,[1,0,2]⟩,⟨.some 118,.call (.c (.func 38 [] [])) [.s 117],.some (116,false),4,[2,0,1,3]⟩,⟨.some 119,.un .not (.s 118),.some (116,false),5,[3,1,0,2,4]⟩,⟨.some 120,.pick (.s 116) (.c (.bool true)) (.s 119),.none,6,[4,3,5,1,0,2]⟩,⟨.some 121,.move (.s 120),.none,7,[2,0,1,5,3,4,6]⟩,⟨.some 122,.loadN 2 (.s 20),.some (121,false),8,[6,4,3,5,1,0,2,7]⟩,⟨.some 123,.call (.c (.func 38 [] [])) [.s 122],.some (121,false),9,[7,2,0,1,5,3,4,6,8]⟩,⟨.some 124,.un .not (.s 123),.some (121,false),10,[8,6,4,3,5,1,0,2,7,9]⟩,⟨.some 125,.pick (.s 121) (.c (.bool true)) (.s 124),.none,11,[9,8,10,6,4,3,5,1,0,2,7]⟩,⟨.some 126,.move (.s 125),.none,12,[7,2,0,1,5,3,4,6,10,8,9,11]⟩,⟨.some 127,.move (.s 8),.some (126,false),13,[11,9,8,10,6,4,3,5,1,0,2,7,12]⟩,⟨.some 128,.move (.s 15),.some (126,false),14,[11,9,8,10,6,4,3,5,1,0,2,7,12]⟩,⟨.some 129,.idxSl 1 (.s 127) (.s 128),.some (126,false),15,[14,12,7,2,0,1,5,3,4,6,10,8,9,11,13]⟩,⟨.some 130,.load (.s 129),.some (126,false),16,[13,11,9,8,10,6,4,3,5,1,0,2,7,12,14,15]⟩,⟨.some 131,.move (.s 8),.some (126,false),17,[11,9,8,10,6,4,3,5,1,0,2,7,12]⟩,⟨.some 132,.move (.s 18),.some (126,false),18,[11,9,8,10,6,4,3,5,1,0,2,7,12]⟩,⟨.some 133,.idxSl 1 (.s 131) (.s 132),.some (126,false),19,[18,12,7,2,0,1,5,3,4,6,10,8,9,11,17]⟩,⟨.some 134,.load (.s 133),.some (126,false),20,[17,11,9,8,10,6,4,3,5,1,0,2,7,12,18,19]⟩,⟨.some 136,.loadN 2 (.s 19),.some (126,false),22,[11,9,8,10,6,4,3,5,1,0,2,7,12]⟩,⟨.some 137,.loadN 2 (.s 20),.some
    (126,false),23,[11,9,8,10,6,4,3,5,1,0,2,7,12]⟩,⟨.some 135,.call (.c (.func 40 [] [])) [.s 130,.s 134],.some (126,false),21,[19,18,17,20,15,14,12,7,2,0,1,5,3,4,6,10,8,9,11,13,16]⟩,⟨.some 138,.call (.c (.func 39 [] [])) [.s 135,.s 136,.s 137],.some (126,false),24,[23,22,16,13,11,9,8,10,6,4,3,5,1,0,2,7,12,14,15,20,17,18,19,21]⟩,⟨.some 139,.un .not (.s 138),.some (126,false),25,[21,19,18,17,20,15,14,12,7,2,0,1,5,3,4,6,10,8,9,11,13,16,22,23,24]⟩,⟨.some 140,.pick (.s 126) (.c (.bool true)) (.s 139),.none,26,[24,23,22,16,13,14,15,20,17,18,19,21,25,11,9,8,10,6,4,3,5,1,0,2,7,12]⟩] k) (.cond (.s 140) (.seq (.reg [⟨.some 4,.move (.c (.bool false)),.none,0,[]⟩] k) .ret) .skip)))) (.reg [⟨.some 104,.move (.s 18),.none,0,[]⟩,⟨.some 105,.bin .add (.s 104) (.c (.int .i64 1)),.none,1,[]⟩,⟨.some 18,.move (.s 105),.none,2,[]⟩] k))))))))) (.reg [⟨.some 81,.move (.s 15),.none,0,[]⟩,⟨.some 82,.bin .add (.s 81) (.c (.int .i64 1)),.none,1,[]⟩,⟨.some 15,.move (.s 82),.none,2,[]⟩] k)))))) (.seq (.reg [⟨.some 141,.call (.c (.func 22 [] [])) [],.none,0,[]⟩,⟨.some 4,.move (.s 141),.none,1,[]⟩] k) .ret)))))))),res := [.slot 4]}
def c16 : AFunc :=
  let k:List Nat:=[0,1,2,3,4,13,24]
  {nt := 27,body := (.seq (.reg [⟨.some 1,.box (.s 0),.none,0,[]⟩,⟨.some 2,.move (.c (.int .i64 0)),.none,1,[]⟩,⟨.some 3,.move (.c (.int .i64 0)),.none,2,[]⟩,⟨.some 4,.move (.c (.int .i64 0)),.none,3,[]⟩] k) (.seq (.reg [⟨.some 6,.off 0 (.s 1),.none,0,[]⟩,⟨.some 7,.load (.s 6),.none,1,[]⟩,⟨.some 8,.func 56 [] [.s 1],.none,2,[]⟩,⟨.some 9,.call (.c (.func 55 [] [])) [.s 7,.c (.int .i64 3),.s 8],.none,3,[]⟩,⟨.some 5,.move (.s 9),.none,4,[]⟩,⟨.some 10,.extract 0 (.s 5),.none,5,[]⟩,⟨.some 11,.extract 1 (.s 5),.none,6,[]⟩,⟨.some 3,.move (.s 10),.none,7,[]⟩,⟨.some 4,.move (.s 11),.none,8,[]⟩] k) (.seq (.seq (.reg [⟨.some 12,.move (.s 4),.none,0,[]⟩,⟨.some 13,.bin .neq (.s 12) (.c (.int .i64 0)),.none,1,[]⟩] k) (.cond (.s 13) (.seq (.reg [⟨.some 14,.move (.s 3),.none,0,[]⟩,⟨.some 15,.move (.s 4),.none,1,[]⟩,⟨.some 2,.move (.c (.int .i64 1)),.none,2,[]⟩,⟨.some 3,.move (.s 14),.none,3,[]⟩,⟨.some 4,.move (.s 15),.none,4,[]⟩] k) .ret) .skip)) (.seq (.reg [⟨.some 17,.off 1 (.s 1),.none,0,[]⟩,⟨.some 18,.load (.s 17),.none,1,[]⟩,⟨.some 19,.func 59 [] [.s 1],.none,2,[]⟩,⟨.some 20,.call (.c (.func 58 [] [])) [.s 18,.c (.int .i64 4),.s 19],.none,3,[]⟩,⟨.some 16,.move (.s 20),.none,4,[]⟩,⟨.some 21,.extract 0 (.s 16),.none,5,[]⟩,⟨.some 22,.extract 1 (.s 16),.none,6,[]⟩,⟨.some 3,.move (.s 21),.none,7,[]⟩,⟨.some 4,.move (.s 22),.none,8,[]⟩] k) (.seq (.seq (.reg [⟨.some 23,.move (.s 4),.none,0,[]⟩,⟨.some 24,.bin .neq (.s 23) (.c (.int .i64 0)),.none,1,[]⟩] k) (.cond (.s 24) (.seq (.reg [⟨.some 25,.move (.s 3),.none,0,[]⟩,⟨.some 26,.move (.s 4),.none,1,[]⟩,⟨.some 2,.move (.c (.int .i64 2)),.none,2,[]⟩,⟨.some 3,.move (.s 25),.none,3,[]⟩,⟨.some 4,.move (.s 26),.none,4,[]⟩] k) .ret) .skip)) (.seq (.reg [⟨.some 2,.move (.c (.int .i64 0)),.none,0,[]⟩,⟨.some 3,.move (.c (.int .i64 0)),.none,1,[]⟩,⟨.some 4,.move (.c (.int .i64 0)),.none,2,[]⟩] k) .ret)))))),res := [.slot 2,.slot 3,.slot 4]}
def c17 : AFunc :=
  let k:List Nat:=[0,1,2,3,4,5,6,7,8,9,13,18,39,47,53,58,70,79,91]
  {nt := 93,body := (.seq (.reg [⟨.some 1,.box (.s 0),.none,0,[]⟩,⟨.some 2,.move (.c (.int .i64 0)),.none,1,[]⟩,⟨.some 3,.move (.c (.int .i64 0)),.none,2,[]⟩,⟨.some 4,.move (.c (.int .i64 0)),.none,3,[]⟩] k) (.seq (.seq (.reg [⟨.some 10,.off 0 (.s 1),.none,0,[]⟩,⟨.some 11,.load (.s 10),.none,1,[]⟩,⟨.some 12,.len false (.s 11),.none,2,[]⟩,⟨.some 13,.bin .gtr (.s 12) (.c (.int .i64 3)),.none,3,[]⟩] k) (.cond (.s 13) (.seq (.reg [⟨.some 2,.move (.c (.int .i64 1)),.none,0,[]⟩,⟨.some 3,.move (.c (.int .i64 0)),.none,1,[]⟩,⟨.some 4,.move (.c (.int .i64 3)),.none,2,[]⟩] k) .ret) .skip)) (.seq (.reg [⟨.some 5,.move (.c .nilslice),.none,0,[]⟩] k) (.seq (.seq (.reg [⟨.some 6,.move (.c (.int .i64 0)),.none,0,[]⟩] k) (.block 0 (.loop (.seq (.seq (.reg [⟨.some 14,.move (.s 6),.none,0,[]⟩,⟨.some 15,.off 0 (.s 1),.none,1,[]⟩,⟨.some 16,.load (.s 15),.none,2,[]⟩,⟨.some 17,.len false (.s 16),.none,3,[]⟩,⟨.some 18,.bin .lss (.s 14) (.s 17),.none,4,[]⟩] k) (.cond (.s 18) .skip (.exit 0))) (.seq (.block 1 (.seq (.reg [⟨.some 21,.off 0 (.s 1),.none,0,[]⟩,⟨.some 22,.load (.s 21),.none,1,[]⟩,⟨.some 23,.move (.s 6),.none,2,[]⟩,⟨.some 24,.idxSl 4 (.s 22) (.s 23),.none,3,[]⟩,⟨.some 25,.off 0 (.s 24),.none,4,[]⟩,⟨.some 26,.load (.s 25),.none,5,[]⟩,⟨.some 27,.move (.s 5),.none,6,[]⟩,⟨.some 28,.call (.c (.func 61 [] [])) [.s 26,.s 27],.none,7,[]⟩,⟨.some 7,.move (.s 28),.none,8,[]⟩] k) (.seq (.reg [⟨.some 29,.move (.s 5),.none,0,[]⟩,⟨.some 30,.off 0 (.s 1),.none,1,[]⟩,⟨.some 31,.load (.s 30),.none,2,[]⟩,⟨.some 32,.move (.s 6),.none,3,[]⟩,⟨.some 33,.idxSl 4 (.s 31) (.s 32),.none,4,[]⟩,⟨.some 34,.off 0 (.s 33),.none,5,[]⟩,⟨.some 35,.load (.s 34),.none,6,[]⟩,⟨.some 36,.mkslice 1 1 [.str (bs [])] [(0,(1,(.s 35)))],.none,7,[]⟩,⟨.some 37,.append 1 16 (.s 29) (.s 36),.none,8,[]⟩,⟨.some 5,.move (.s 37),.none,9,[]⟩] k) (.seq (.seq (.reg [⟨.some 38,.move (.s 7),.none,0,[]⟩,⟨.some 39,.bin .eql (.s 38) (.c (.int .i64 0)),.none,1,[]⟩] k) (.cond (.s 39) (.reg [⟨.some 40,.off 0 (.s 1),.none,0,[]⟩,⟨.some
    41,.load (.s 40),.none,1,[]⟩,⟨.some 42,.move (.s 6),.none,2,[]⟩,⟨.some 43,.idxSl 4 (.s 41) (.s 42),.none,3,[]⟩,⟨.some 44,.loadN 4 (.s 43),.none,4,[]⟩,⟨.some 45,.call (.c (.func 62 [] [])) [.s 44],.none,5,[]⟩,⟨.some 7,.move (.s 45),.none,6,[]⟩] k) .skip)) (.seq (.reg [⟨.some 46,.move (.s 7),.none,0,[]⟩,⟨.some 47,.bin .neq (.s 46) (.c (.int .i64 0)),.none,1,[]⟩] k) (.cond (.s 47) (.seq (.reg [⟨.some 48,.move (.s 6),.none,0,[]⟩,⟨.some 49,.move (.s 7),.none,1,[]⟩,⟨.some 2,.move (.c (.int .i64 1)),.none,2,[]⟩,⟨.some 3,.move (.s 48),.none,3,[]⟩,⟨.some 4,.move (.s 49),.none,4,[]⟩] k) .ret) .skip)))))) (.reg [⟨.some 19,.move (.s 6),.none,0,[]⟩,⟨.some 20,.bin .add (.s 19) (.c (.int .i64 1)),.none,1,[]⟩,⟨.some 6,.move (.s 20),.none,2,[]⟩] k)))))) (.seq (.seq (.reg [⟨.some 50,.off 1 (.s 1),.none,0,[]⟩,⟨.some 51,.load (.s 50),.none,1,[]⟩,⟨.some 52,.len false (.s 51),.none,2,[]⟩,⟨.some 53,.bin .gtr (.s 52) (.c (.int .i64 4)),.none,3,[]⟩] k) (.cond (.s 53) (.seq (.reg [⟨.some 2,.move (.c (.int .i64 2)),.none,0,[]⟩,⟨.some 3,.move (.c (.int .i64 0)),.none,1,[]⟩,⟨.some 4,.move (.c (.int .i64 3)),.none,2,[]⟩] k) .ret) .skip)) (.seq (.seq (.reg [⟨.some 8,.move (.c (.int .i64 0)),.none,0,[]⟩] k) (.block 2 (.loop (.seq (.seq (.reg [⟨.some 54,.move (.s 8),.none,0,[]⟩,⟨.some 55,.off 1 (.s 1),.none,1,[]⟩,⟨.some 56,.load (.s 55),.none,2,[]⟩,⟨.some 57,.len false (.s 56),.none,3,[]⟩,⟨.some 58,.bin .lss (.s 54) (.s 57),.none,4,[]⟩] k) (.cond (.s 58) .skip (.exit 2))) (.seq (.block 3 (.seq (.seq (.draw [⟨.some 61,.off 1 (.s 1),.none,0,[]⟩,⟨.some 62,.load (.s 61),.none,1,[0]⟩,⟨.some 63,.move (.s 8),.none,2,[]⟩,⟨.some 64,.idxSl 1 (.s 62) (.s 63),.none,3,[2,0,1]⟩,⟨.some 65,.load (.s 64),.none,4,[1,0,2,3]⟩,⟨.some 66,.len false (.s 65),.none,5,[3,2,0,1,4]⟩,⟨.some 67,.off 0 (.s 1),.none,6,[]⟩,⟨.some 68,.load (.s 67),.none,7,[6]⟩,⟨.some 69,.len false (.s 68),.none,8,[6,7]⟩,⟨.some 70,.bin .neq (.s 66) (.s 69),.none,9,[7,6,8,4,1,0,2,3,5]⟩] k) (.cond (.s 70) (.seq (.reg [⟨.some 71,.move (.s
    8),.none,0,[]⟩,⟨.some 2,.move (.c (.int .i64 2)),.none,1,[]⟩,⟨.some 3,.move (.s 71),.none,2,[]⟩,⟨.some 4,.move (.c (.int .i64 3)),.none,3,[]⟩] k) .ret) .skip)) (.seq (.reg [⟨.some 9,.move (.c (.int .i64 0)),.none,0,[]⟩] k) (.block 4 (.loop (.seq (.seq (.reg [⟨.some 72,.move (.s 9),.none,0,[]⟩,⟨.some 73,.off 1 (.s 1),.none,1,[]⟩,⟨.some 74,.load (.s 73),.none,2,[]⟩,⟨.some 75,.move (.s 8),.none,3,[]⟩,⟨.some 76,.idxSl 1 (.s 74) (.s 75),.none,4,[]⟩,⟨.some 77,.load (.s 76),.none,5,[]⟩,⟨.some 78,.len false (.s 77),.none,6,[]⟩,⟨.some 79,.bin .lss (.s 72) (.s 78),.none,7,[]⟩] k) (.cond (.s 79) .skip (.exit 4))) (.seq (.block 5 (.seq (.reg [⟨.some 82,.off 1 (.s 1),.none,0,[]⟩,⟨.some 83,.load (.s 82),.none,1,[]⟩,⟨.some 84,.move (.s 8),.none,2,[]⟩,⟨.some 85,.idxSl 1 (.s 83) (.s 84),.none,3,[]⟩,⟨.some 86,.load (.s 85),.none,4,[]⟩,⟨.some 87,.move (.s 9),.none,5,[]⟩,⟨.some 88,.idxSl 1 (.s 86) (.s 87),.none,6,[]⟩,⟨.some 89,.load (.s 88),.none,7,[]⟩,⟨.some 90,.call (.c (.func 53 [] [])) [.s 89,.c (.int .i64 (-1)),.c (.int .i64 120)],.none,8,[]⟩,⟨.some 91,.un .not (.s 90),.none,9,[]⟩] k) (.cond (.s 91) (.seq (.reg [⟨.some 92,.move (.s 8),.none,0,[]⟩,⟨.some 2,.move (.c (.int .i64 2)),.none,1,[]⟩,⟨.some 3,.move (.s 92),.none,2,[]⟩,⟨.some 4,.move (.c (.int .i64 7)),.none,3,[]⟩] k) .ret) .skip))) (.reg [⟨.some 80,.move (.s 9),.none,0,[]⟩,⟨.some 81,.bin .add (.s 80) (.c (.int .i64 1)),.none,1,[]⟩,⟨.some 9,.move (.s 81),.none,2,[]⟩] k)))))))) (.reg [⟨.some 59,.move (.s 8),.none,0,[]⟩,⟨.some 60,.bin .add (.s 59) (.c (.int .i64 1)),.none,1,[]⟩,⟨.some 8,.move (.s 60),.none,2,[]⟩] k)))))) (.seq (.reg [⟨.some 2,.move (.c (.int .i64 0)),.none,0,[]⟩,⟨.some 3,.move (.c (.int .i64 0)),.none,1,[]⟩,⟨.some 4,.move (.c (.int .i64 0)),.none,2,[]⟩] k) .ret))))))),res := [.slot 2,.slot 3,.slot 4]}
def c18 : AFunc :=
  let k:List Nat:=[0,1,2,3,4,5,6,7,19]
  {nt := 24,body := (.seq (.reg [⟨.some 2,.box (.s 0),.none,0,[]⟩,⟨.some 3,.box (.s 1),.none,1,[]⟩,⟨.some 4,.alloc [.int .i64 0,.int .i64 0],.none,2,[]⟩,⟨.some 5,.move (.c (.int .i64 0)),.none,3,[]⟩] k) (.seq (.reg [⟨.some 9,.loadN 2 (.s 2),.none,0,[]⟩,⟨.some 10,.load (.s 3),.none,1,[]⟩,⟨.some 11,.off 0 (.s 2),.none,2,[]⟩,⟨.some 12,.load (.s 11),.none,3,[]⟩,⟨.some 13,.len false (.s 12),.none,4,[]⟩,⟨.some 14,.mkslice 2 1 [.int .i64 0,.int .i64 0] [(0,(1,(.s 10))),(1,(1,(.s 13)))],.none,5,[]⟩,⟨.some 15,.call (.c (.func 63 [] [])) [.s 9,.c (.func 64 [] []),.s 14],.none,6,[]⟩,⟨.some 8,.move (.s 15),.none,7,[]⟩,⟨.some 16,.extract 0 (.s 8),.none,8,[]⟩,⟨.some 17,.extract 1 (.s 8),.none,9,[]⟩,⟨.some 6,.alloc [.nilptr],.none,10,[]⟩,⟨.none,.store 1 (.s 6) (.s 16),.none,11,[]⟩,⟨.some 7,.move (.s 17),.none,12,[]⟩] k) (.seq (.seq (.reg [⟨.some 18,.move (.s 7),.none,0,[]⟩,⟨.some 19,.bin .neq (.s 18) (.c (.int .i64 0)),.none,1,[]⟩] k) (.cond (.s 19) (.seq (.reg [⟨.some 20,.build [.int .i64 0,.int .i64 0] [],.none,0,[]⟩,⟨.some 21,.move (.s 7),.none,1,[]⟩,⟨.none,.store 2 (.s 4) (.s 20),.none,2,[]⟩,⟨.some 5,.move (.s 21),.none,3,[]⟩] k) .ret) .skip)) (.seq (.reg [⟨.some 22,.func 66 [] [.s 6,.s 3],.none,0,[]⟩,⟨.some 23,.call (.c (.func 65 [] [])) [.s 22],.none,1,[]⟩,⟨.none,.store 2 (.s 4) (.s 23),.none,2,[]⟩,⟨.some 5,.move (.c (.int .i64 0)),.none,3,[]⟩] k) .ret)))),res := [.cellN 2 4,.slot 5]}
def c20 : AFunc :=
  let k:List Nat:=[0,1,2,3,4,5,6,7,19]
  {nt := 24,body := (.seq (.reg [⟨.some 2,.box (.s 0),.none,0,[]⟩,⟨.some 3,.box (.s 1),.none,1,[]⟩,⟨.some 4,.alloc [.int .i64 0,.int .i64 0],.none,2,[]⟩,⟨.some 5,.move (.c (.int .i64 0)),.none,3,[]⟩] k) (.seq (.reg [⟨.some 9,.loadN 2 (.s 2),.none,0,[]⟩,⟨.some 10,.load (.s 3),.none,1,[]⟩,⟨.some 11,.off 1 (.s 2),.none,2,[]⟩,⟨.some 12,.load (.s 11),.none,3,[]⟩,⟨.some 13,.len false (.s 12),.none,4,[]⟩,⟨.some 14,.mkslice 2 1 [.int .i64 0,.int .i64 0] [(0,(1,(.s 10))),(1,(1,(.s 13)))],.none,5,[]⟩,⟨.some 15,.call (.c (.func 63 [] [])) [.s 9,.c (.func 64 [] []),.s 14],.none,6,[]⟩,⟨.some 8,.move (.s 15),.none,7,[]⟩,⟨.some 16,.extract 0 (.s 8),.none,8,[]⟩,⟨.some 17,.extract 1 (.s 8),.none,9,[]⟩,⟨.some 6,.alloc [.nilptr],.none,10,[]⟩,⟨.none,.store 1 (.s 6) (.s 16),.none,11,[]⟩,⟨.some 7,.move (.s 17),.none,12,[]⟩] k) (.seq (.seq (.reg [⟨.some 18,.move (.s 7),.none,0,[]⟩,⟨.some 19,.bin .neq (.s 18) (.c (.int .i64 0)),.none,1,[]⟩] k) (.cond (.s 19) (.seq (.reg [⟨.some 20,.build [.int .i64 0,.int .i64 0] [],.none,0,[]⟩,⟨.some 21,.move (.s 7),.none,1,[]⟩,⟨.none,.store 2 (.s 4) (.s 20),.none,2,[]⟩,⟨.some 5,.move (.s 21),.none,3,[]⟩] k) .ret) .skip)) (.seq (.reg [⟨.some 22,.func 71 [] [.s 6,.s 3],.none,0,[]⟩,⟨.some 23,.call (.c (.func 65 [] [])) [.s 22],.none,1,[]⟩,⟨.none,.store 2 (.s 4) (.s 23),.none,2,[]⟩,⟨.some 5,.move (.c (.int .i64 0)),.none,3,[]⟩] k) .ret)))),res := [.cellN 2 4,.slot 5]}
def c22 : AFunc :=
  let k:List Nat:=[0,1,2,3,4,5,6,7,8,9,10,11,12,13,14,15,16,18,20]
  {nt := 135,body := (.seq (.reg [⟨.some 0,.move (.c (.bool false)),.none,0,[]⟩] k) (.seq (.reg [⟨.some 21,.call (.c (.func 32 [] [])) [.c .nilslice],.none,0,[]⟩,⟨.some 22,.mkslice 3 1 [.int .i64 0,.int .i64 0,.int .i64 0] [(0,(1,(.c (.int .i64 50)))),(1,(1,(.c (.int .i64 (-1))))),(2,(1,(.c (.int .i64 60))))],.none,1,[]⟩,⟨.some 23,.mkslice 1 1 [.nilslice] [(0,(1,(.s 22)))],.none,2,[]⟩,⟨.some 24,.call (.c (.func 32 [] [])) [.s 23],.none,3,[]⟩,⟨.some 1,.alloc [.nilslice,.nilslice],.none,4,[]⟩,⟨.some 2,.alloc [.nilslice,.nilslice],.none,5,[]⟩,⟨.none,.store 2 (.s 1) (.s 21),.none,6,[]⟩,⟨.none,.store 2 (.s 2) (.s 24),.none,7,[]⟩] k) (.seq (.reg [⟨.some 26,.loadN 2 (.s 1),.none,0,[]⟩,⟨.some 27,.call (.c (.func 18 [] [])) [.s 26,.c (.int .i64 2)],.none,1,[]⟩,⟨.some 25,.move (.s 27),.none,2,[]⟩,⟨.some 28,.extract 0 (.s 25),.none,3,[]⟩,⟨.some 29,.extract 1 (.s 25),.none,4,[]⟩,⟨.some 3,.alloc [.int .i64 0,.int .i64 0],.none,5,[]⟩,⟨.none,.store 2 (.s 3) (.s 28),.none,6,[]⟩,⟨.some 4,.move (.s 29),.none,7,[]⟩] k) (.seq (.reg [⟨.some 31,.loadN 2 (.s 1),.none,0,[]⟩,⟨.some 32,.call (.c (.func 20 [] [])) [.s 31,.c (.int .i64 1)],.none,1,[]⟩,⟨.some 30,.move (.s 32),.none,2,[]⟩,⟨.some 33,.extract 0 (.s 30),.none,3,[]⟩,⟨.some 34,.extract 1 (.s 30),.none,4,[]⟩,⟨.some 5,.alloc [.int .i64 0,.int .i64 0],.none,5,[]⟩,⟨.none,.store 2 (.s 5) (.s 33),.none,6,[]⟩,⟨.some 6,.move (.s 34),.none,7,[]⟩] k) (.seq (.reg [⟨.some 36,.loadN 2 (.s 1),.none,0,[]⟩,⟨.some 37,.call (.c (.func 23 [] [])) [.s 36,.c (.int .i64 0),.c (.int .i64 2)],.none,1,[]⟩,⟨.some 35,.move (.s 37),.none,2,[]⟩,⟨.some 38,.extract 0 (.s 35),.none,3,[]⟩,⟨.some 39,.extract 1 (.s 35),.none,4,[]⟩,⟨.some 7,.alloc [.int .i64 0,.int .i64 0],.none,5,[]⟩,⟨.none,.store 2 (.s 7) (.s 38),.none,6,[]⟩,⟨.some 8,.move (.s 39),.none,7,[]⟩] k) (.seq (.reg [⟨.some 41,.loadN 2 (.s 1),.none,0,[]⟩,⟨.some 42,.call (.c (.func 25 [] [])) [.s 41,.c (.int .i64 1),.c (.int .i64 2)],.none,1,[]⟩,⟨.some 40,.move (.s 42),.none,2,[]⟩,⟨.some 43,.extract 0 (.s
    40),.none,3,[]⟩,⟨.some 44,.extract 1 (.s 40),.none,4,[]⟩,⟨.some 45,.extract 2 (.s 40),.none,5,[]⟩,⟨.some 9,.alloc [.int .i64 0,.int .i64 0],.none,6,[]⟩,⟨.some 10,.alloc [.int .i64 0,.int .i64 0],.none,7,[]⟩,⟨.none,.store 2 (.s 9) (.s 43),.none,8,[]⟩,⟨.none,.store 2 (.s 10) (.s 44),.none,9,[]⟩,⟨.some 11,.move (.s 45),.none,10,[]⟩] k) (.seq (.reg [⟨.some 47,.loadN 2 (.s 1),.none,0,[]⟩,⟨.some 48,.call (.c (.func 27 [] [])) [.s 47],.none,1,[]⟩,⟨.some 46,.move (.s 48),.none,2,[]⟩,⟨.some 49,.extract 0 (.s 46),.none,3,[]⟩,⟨.some 50,.extract 1 (.s 46),.none,4,[]⟩,⟨.some 51,.extract 2 (.s 46),.none,5,[]⟩,⟨.some 12,.move (.s 49),.none,6,[]⟩,⟨.some 13,.move (.s 50),.none,7,[]⟩,⟨.some 14,.move (.s 51),.none,8,[]⟩] k) (.seq (.reg [⟨.some 53,.loadN 2 (.s 2),.none,0,[]⟩,⟨.some 54,.call (.c (.func 29 [] [])) [.s 53],.none,1,[]⟩,⟨.some 52,.move (.s 54),.none,2,[]⟩,⟨.some 55,.extract 0 (.s 52),.none,3,[]⟩,⟨.some 56,.extract 1 (.s 52),.none,4,[]⟩,⟨.some 15,.move (.s 55),.none,5,[]⟩,⟨.some 16,.move (.s 56),.none,6,[]⟩] k) (.seq (.reg [⟨.some 58,.loadN 2 (.s 2),.none,0,[]⟩,⟨.some 59,.call (.c (.func 18 [] [])) [.s 58,.c (.int .i64 0)],.none,1,[]⟩,⟨.some 57,.move (.s 59),.none,2,[]⟩,⟨.some 60,.extract 0 (.s 57),.none,3,[]⟩,⟨.some 61,.extract 1 (.s 57),.none,4,[]⟩,⟨.some 17,.alloc [.int .i64 0,.int .i64 0],.none,5,[]⟩,⟨.none,.store 2 (.s 17) (.s 60),.none,6,[]⟩,⟨.some 18,.move (.s 61),.none,7,[]⟩] k) (.seq (.reg [⟨.some 63,.loadN 2 (.s 1),.none,0,[]⟩,⟨.some 64,.call (.c (.func 23 [] [])) [.s 63,.c (.int .i64 0),.c (.int .i64 0)],.none,1,[]⟩,⟨.some 62,.move (.s 64),.none,2,[]⟩,⟨.some 65,.extract 0 (.s 62),.none,3,[]⟩,⟨.some 66,.extract 1 (.s 62),.none,4,[]⟩,⟨.some 19,.alloc [.int .i64 0,.int .i64 0],.none,5,[]⟩,⟨.none,.store 2 (.s 19) (.s 65),.none,6,[]⟩,⟨.some 20,.move (.s 66),.none,7,[]⟩] k) (.seq (.draw [⟨.some 67,.move (.s 4),.none,0,[]⟩,⟨.some 68,.bin .eql (.s 67) (.c (.int .i64 0)),.none,1,[0]⟩,⟨.some 69,.move (.s 68),.none,2,[0,1]⟩,⟨.some 70,.move (.s 6),.some
    (69,true),3,[1,0,2]⟩,⟨.some 71,.bin .eql (.s 70) (.c (.int .i64 0)),.some (69,true),4,[2,0,1,3]⟩,⟨.some 72,.pick (.s 69) (.s 71) (.c (.bool false)),.none,5,[3,4,1,0,2]⟩,⟨.some 73,.move (.s 72),.none,6,[2,0,1,4,3,5]⟩,⟨.some 74,.move (.s 8),.some (73,true),7,[5,3,4,1,0,2,6]⟩,⟨.some 75,.bin .eql (.s 74) (.c (.int .i64 0)),.some (73,true),8,[6,2,0,1,4,3,5,7]⟩,⟨.some 76,.pick (.s 73) (.s 75) (.c (.bool false)),.none,9,[7,8,5,3,4,1,0,2,6]⟩,⟨.some 77,.move (.s 76),.none,10,[6,2,0,1,4,3,5,8,7,9]⟩,⟨.some 78,.move (.s 11),.some (77,true),11,[9,7,8,5,3,4,1,0,2,6,10]⟩,⟨.some 79,.bin .eql (.s 78) (.c (.int .i64 0)),.some (77,true),12,[10,6,2,0,1,4,3,5,8,7,9,11]⟩,⟨.some 80,.pick (.s 77) (.s 79) (.c (.bool false)),.none,13,[11,12,9,7,8,5,3,4,1,0,2,6,10]⟩,⟨.some 81,.move (.s 80),.none,14,[10,6,2,0,1,4,3,5,8,7,9,12,11,13]⟩,⟨.some 82,.move (.s 14),.some (81,true),15,[13,11,12,9,7,8,5,3,4,1,0,2,6,10,14]⟩,⟨.some 83,.bin .eql (.s 82) (.c (.int .i64 0)),.some (81,true),16,[14,10,6,2,0,1,4,3,5,8,7,9,12,11,13,15]⟩,⟨.some 84,.pick (.s 81) (.s 83) (.c (.bool false)),.none,17,[15,16,13,11,12,9,7,8,5,3,4,1,0,2,6,10,14]⟩,⟨.some 85,.move (.s 84),.none,18,[14,10,6,2,0,1,4,3,5,8,7,9,12,11,13,16,15,17]⟩,⟨.some 86,.move (.s 16),.some (85,true),19,[17,15,16,13,11,12,9,7,8,5,3,4,1,0,2,6,10,14,18]⟩,⟨.some 87,.bin .eql (.s 86) (.c (.int .i64 0)),.some (85,true),20,[18,14,10,6,2,0,1,4,3,5,8,7,9,12,11,13,16,15,17,19]⟩,⟨.some 88,.pick (.s 85) (.s 87) (.c (.bool false)),.none,21,[19,20,17,15,16,13,11,12,9,7,8,5,3,4,1,0,2,6,10,14,18]⟩,⟨.some 89,.move (.s 88),.none,22,[18,14,10,6,2,0,1,4,3,5,8,7,9,12,11,13,16,15,17,20,19,21]⟩,⟨.some 90,.move (.s 18),.some (89,true),23,[21,19,20,17,15,16,13,11,12,9,7,8,5,3,4,1,0,2,6,10,14,18,22]⟩,⟨.some 91,.bin .eql (.s 90) (.c (.int .i64 8)),.some (89,true),24,[22,18,14,10,6,2,0,1,4,3,5,8,7,9,12,11,13,16,15,17,20,19,21,23]⟩,⟨.some 92,.pick (.s 89) (.s 91) (.c (.bool false)),.none,25,[23,24,21,19,20,17,15,16,13,11,12,9,7,8,5,3,4,1,0,2,6,10,14,18,22]⟩,⟨.some 93,.move (.s
    92),.none,26,[22,18,14,10,6,2,0,1,4,3,5,8,7,9,12,11,13,16,15,17,20,19,21,24,23,25]⟩,⟨.some 94,.move (.s 20),.some (93,true),27,[25,23,24,21,19,20,17,15,16,13,11,12,9,7,8,5,3,4,1,0,2,6,10,14,18,22,26]⟩,⟨.some 95,.bin .eql (.s 94) (.c (.int .i64 5)),.some (93,true),28,[26,22,18,14,10,6,2,0,1,4,3,5,8,7,9,12,11,13,16,15,17,20,19,21,24,23,25,27]⟩,⟨.some 96,.pick (.s 93) (.s 95) (.c (.bool false)),.none,29,[27,28,25,23,24,21,19,20,17,15,16,13,11,12,9,7,8,5,3,4,1,0,2,6,10,14,18,22,26]⟩,⟨.some 97,.move (.s 96),.none,30,[26,22,18,14,10,6,2,0,1,4,3,5,8,7,9,12,11,13,16,15,17,20,19,21,24,23,25,28,27,29]⟩,⟨.some 98,.loadN 2 (.s 3),.some (97,true),31,[29,27,28,25,23,24,21,19,20,17,15,16,13,11,12,9,7,8,5,3,4,1,0,2,6,10,14,18,22,26,30]⟩,⟨.some 99,.call (.c (.func 33 [] [])) [.c (.int .i64 95),.c (.int .i64 100)],.some (97,true),32,[29,27,28,25,23,24,21,19,20,17,15,16,13,11,12,9,7,8,5,3,4,1,0,2,6,10,14,18,22,26,30]⟩,⟨.some 100,.eqFlat true [.i,.i] false (.s 98) (.s 99),.some (97,true),33,[32,30,26,22,18,14,10,6,2,0,1,4,3,5,8,7,9,12,11,13,16,15,17,20,19,21,24,23,25,28,27,29,31]⟩,⟨.some 101,.pick (.s 97) (.s 100) (.c (.bool false)),.none,34,[31,32,33,29,27,28,25,23,24,21,19,20,17,15,16,13,11,12,9,7,8,5,3,4,1,0,2,6,10,14,18,22,26,30]⟩,⟨.some 102,.move (.s 101),.none,35,[30,26,22,18,14,10,6,2,0,1,4,3,5,8,7,9,12,11,13,16,15,17,20,19,21,24,23,25,28,27,29,33,32,31,34]⟩,⟨.some 103,.loadN 2 (.s 5),.some (102,true),36,[34,31,32,33,29,27,28,25,23,24,21,19,20,17,15,16,13,11,12,9,7,8,5,3,4,1,0,2,6,10,14,18,22,26,30,35]⟩,⟨.some 104,.call (.c (.func 33 [] [])) [.c (.int .i64 9968),.c (.int .i64 10465)],.some (102,true),37,[34,31,32,33,29,27,28,25,23,24,21,19,20,17,15,16,13,11,12,9,7,8,5,3,4,1,0,2,6,10,14,18,22,26,30,35]⟩,⟨.some 105,.eqFlat true [.i,.i] false (.s 103) (.s 104),.some (102,true),38,[37,35,30,26,22,18,14,10,6,2,0,1,4,3,5,8,7,9,12,11,13,16,15,17,20,19,21,24,23,25,28,27,29,33,32,31,34,36]⟩,⟨.some 106,.pick (.s 102) (.s 105) (.c (.bool
    false)),.none,39,[36,37,38,34,31,32,33,29,27,28,25,23,24,21,19,20,17,15,16,13,11,12,9,7,8,5,3,4,1,0,2,6,10,14,18,22,26,30,35]⟩,⟨.some 107,.move (.s 106),.none,40,[35,30,26,22,18,14,10,6,2,0,1,4,3,5,8,7,9,12,11,13,16,15,17,20,19,21,24,23,25,28,27,29,33,32,31,34,38,37,36,39]⟩,⟨.some 108,.loadN 2 (.s 7),.some (107,true),41,[39,36,37,38,34,31,32,33,29,27,28,25,23,24,21,19,20,17,15,16,13,11,12,9,7,8,5,3,4,1,0,2,6,10,14,18,22,26,30,35,40]⟩,⟨.some 109,.call (.c (.func 33 [] [])) [.c (.int .i64 59),.c (.int .i64 64)],.some (107,true),42,[39,36,37,38,34,31,32,33,29,27,28,25,23,24,21,19,20,17,15,16,13,11,12,9,7,8,5,3,4,1,0,2,6,10,14,18,22,26,30,35,40]⟩,⟨.some 110,.eqFlat true [.i,.i] false (.s 108) (.s 109),.some (107,true),43,[42,40,35,30,26,22,18,14,10,6,2,0,1,4,3,5,8,7,9,12,11,13,16,15,17,20,19,21,24,23,25,28,27,29,33,32,31,34,38,37,36,39,41]⟩,⟨.some 111,.pick (.s 107) (.s 110) (.c (.bool false)),.none,44,[41,42,43,39,36,37,38,34,31,32,33,29,27,28,25,23,24,21,19,20,17,15,16,13,11,12,9,7,8,5,3,4,1,0,2,6,10,14,18,22,26,30,35,40]⟩,⟨.some 112,.move (.s 111),.none,45,[40,35,30,26,22,18,14,10,6,2,0,1,4,3,5,8,7,9,12,11,13,16,15,17,20,19,21,24,23,25,28,27,29,33,32,31,34,38,37,36,39,43,42,41,44]⟩,⟨.some 113,.loadN 2 (.s 9),.some (112,true),46,[44,41,42,43,39,36,37,38,34,31,32,33,29,27,28,25,23,24,21,19,20,17,15,16,13,11,12,9,7,8,5,3,4,1,0,2,6,10,14,18,22,26,30,35,40,45]⟩,⟨.some 114,.call (.c (.func 34 [] [])) [.c (.int .i64 57),.c (.int .i64 50)],.some (112,true),47,[44,41,42,43,39,36,37,38,34,31,32,33,29,27,28,25,23,24,21,19,20,17,15,16,13,11,12,9,7,8,5,3,4,1,0,2,6,10,14,18,22,26,30,35,40,45]⟩,⟨.some 115,.eqFlat true [.i,.i] false (.s 113) (.s 114),.some (112,true),48,[47,45,40,35,30,26,22,18,14,10,6,2,0,1,4,3,5,8,7,9,12,11,13,16,15,17,20,19,21,24,23,25,28,27,29,33,32,31,34,38,37,36,39,43,42,41,44,46]⟩,⟨.some 116,.pick (.s 112) (.s 115) (.c (.bool
    false)),.none,49,[46,47,48,44,41,42,43,39,36,37,38,34,31,32,33,29,27,28,25,23,24,21,19,20,17,15,16,13,11,12,9,7,8,5,3,4,1,0,2,6,10,14,18,22,26,30,35,40,45]⟩,⟨.some 117,.move (.s 116),.none,50,[45,40,35,30,26,22,18,14,10,6,2,0,1,4,3,5,8,7,9,12,11,13,16,15,17,20,19,21,24,23,25,28,27,29,33,32,31,34,38,37,36,39,43,42,41,44,48,47,46,49]⟩,⟨.some 118,.loadN 2 (.s 10),.some (117,true),51,[49,46,47,48,44,41,42,43,39,36,37,38,34,31,32,33,29,27,28,25,23,24,21,19,20,17,15,16,13,11,12,9,7,8,5,3,4,1,0,2,6,10,14,18,22,26,30,35,40,45,50]⟩,⟨.some 119,.call (.c (.func 34 [] [])) [.c (.int .i64 112),.c (.int .i64 95)],.some (117,true),52,[49,46,47,48,44,41,42,43,39,36,37,38,34,31,32,33,29,27,28,25,23,24,21,19,20,17,15,16,13,11,12,9,7,8,5,3,4,1,0,2,6,10,14,18,22,26,30,35,40,45,50]⟩,⟨.some 120,.eqFlat true [.i,.i] false (.s 118) (.s 119),.some (117,true),53,[52,50,45,40,35,30,26,22,18,14,10,6,2,0,1,4,3,5,8,7,9,12,11,13,16,15,17,20,19,21,24,23,25,28,27,29,33,32,31,34,38,37,36,39,43,42,41,44,48,47,46,49,51]⟩,⟨.some 121,.pick (.s 117) (.s 120) (.c (.bool false)),.none,54,[51,52,53,49,46,47,48,44,41,42,43,39,36,37,38,34,31,32,33,29,27,28,25,23,24,21,19,20,17,15,16,13,11,12,9,7,8,5,3,4,1,0,2,6,10,14,18,22,26,30,35,40,45,50]⟩,⟨.some 122,.move (.s 121),.none,55,[50,45,40,35,30,26,22,18,14,10,6,2,0,1,4,3,5,8,7,9,12,11,13,16,15,17,20,19,21,24,23,25,28,27,29,33,32,31,34,38,37,36,39,43,42,41,44,48,47,46,49,53,52,51,54]⟩,⟨.some 123,.move (.s 12),.some (122,true),56,[54,51,52,53,49,46,47,48,44,41,42,43,39,36,37,38,34,31,32,33,29,27,28,25,23,24,21,19,20,17,15,16,13,11,12,9,7,8,5,3,4,1,0,2,6,10,14,18,22,26,30,35,40,45,50,55]⟩,⟨.some 124,.bin .eql (.s 123) (.c (.int .i64 0)),.some (122,true),57,[55,50,45,40,35,30,26,22,18,14,10,6,2,0,1,4,3,5,8,7,9,12,11,13,16,15,17,20,19,21,24,23,25,28,27,29,33,32,31,34,38,37,36,39,43,42,41,44,48,47,46,49,53,52,51,54,56]⟩,⟨.some 125,.pick (.s 122) (.s 124) (.c (.bool
    false)),.none,58,[56,57,54,51,52,53,49,46,47,48,44,41,42,43,39,36,37,38,34,31,32,33,29,27,28,25,23,24,21,19,20,17,15,16,13,11,12,9,7,8,5,3,4,1,0,2,6,10,14,18,22,26,30,35,40,45,50,55]⟩,⟨.some 126,.move (.s 125),.none,59,[55,50,45,40,35,30,26,22,18,14,10,6,2,0,1,4,3,5,8,7,9,12,11,13,16,15,17,20,19,21,24,23,25,28,27,29,33,32,31,34,38,37,36,39,43,42,41,44,48,47,46,49,53,52,51,54,57,56,58]⟩,⟨.some 127,.move (.s 13),.some (126,true),60,[58,56,57,54,51,52,53,49,46,47,48,44,41,42,43,39,36,37,38,34,31,32,33,29,27,28,25,23,24,21,19,20,17,15,16,13,11,12,9,7,8,5,3,4,1,0,2,6,10,14,18,22,26,30,35,40,45,50,55,59]⟩,⟨.some 128,.bin .eql (.s 127) (.c (.int .i64 2)),.some (126,true),61,[59,55,50,45,40,35,30,26,22,18,14,10,6,2,0,1,4,3,5,8,7,9,12,11,13,16,15,17,20,19,21,24,23,25,28,27,29,33,32,31,34,38,37,36,39,43,42,41,44,48,47,46,49,53,52,51,54,57,56,58,60]⟩,⟨.some 129,.pick (.s 126) (.s 128) (.c (.bool false)),.none,62,[60,61,58,56,57,54,51,52,53,49,46,47,48,44,41,42,43,39,36,37,38,34,31,32,33,29,27,28,25,23,24,21,19,20,17,15,16,13,11,12,9,7,8,5,3,4,1,0,2,6,10,14,18,22,26,30,35,40,45,50,55,59]⟩,⟨.some 130,.move (.s 129),.none,63,[59,55,50,45,40,35,30,26,22,18,14,10,6,2,0,1,4,3,5,8,7,9,12,11,13,16,15,17,20,19,21,24,23,25,28,27,29,33,32,31,34,38,37,36,39,43,42,41,44,48,47,46,49,53,52,51,54,57,56,58,61,60,62]⟩,⟨.some 131,.move (.s 15),.some (130,true),64,[62,60,61,58,56,57,54,51,52,53,49,46,47,48,44,41,42,43,39,36,37,38,34,31,32,33,29,27,28,25,23,24,21,19,20,17,15,16,13,11,12,9,7,8,5,3,4,1,0,2,6,10,14,18,22,26,30,35,40,45,50,55,59,63]⟩,⟨.some 132,.mkslice 1 1 [.int .i64 0] [(0,(1,(.c (.int .i64 6))))],.some (130,true),65,[62,60,61,58,56,57,54,51,52,53,49,46,47,48,44,41,42,43,39,36,37,38,34,31,32,33,29,27,28,25,23,24,21,19,20,17,15,16,13,11,12,9,7,8,5,3,4,1,0,2,6,10,14,18,22,26,30,35,40,45,50,55,59,63]⟩,⟨.some 133,.call (.c (.func 31 [] [])) [.s 131,.s 132],.some
    (130,true),66,[65,63,59,55,50,45,40,35,30,26,22,18,14,10,6,2,0,1,4,3,5,8,7,9,12,11,13,16,15,17,20,19,21,24,23,25,28,27,29,33,32,31,34,38,37,36,39,43,42,41,44,48,47,46,49,53,52,51,54,57,56,58,61,60,62,64]⟩,⟨.some 134,.pick (.s 130) (.s 133) (.c (.bool false)),.none,67,[64,65,66,62,60,61,58,56,57,54,51,52,53,49,46,47,48,44,41,42,43,39,36,37,38,34,31,32,33,29,27,28,25,23,24,21,19,20,17,15,16,13,11,12,9,7,8,5,3,4,1,0,2,6,10,14,18,22,26,30,35,40,45,50,55,59,63]⟩,⟨.some 0,.move (.s 134),.none,68,[63,59,55,50,45,40,35,30,26,22,18,14,10,6,2,0,1,4,3,5,8,7,9,12,11,13,16,15,17,20,19,21,24,23,25,28,27,29,33,32,31,34,38,37,36,39,43,42,41,44,48,47,46,49,53,52,51,54,57,56,58,61,60,62,66,65,64,67]⟩] k) .ret))))))))))),res := [.slot 0]}
def c23 : AFunc :=
  let k:List Nat:=[0,1,2,3,4,5,6,7,8,9,10,27,34]
  {nt := 37,body := (.seq (.reg [⟨.some 3,.box (.s 0),.none,0,[]⟩,⟨.some 4,.box (.s 1),.none,1,[]⟩,⟨.some 5,.box (.s 2),.none,2,[]⟩,⟨.some 6,.alloc [.int .i64 0,.int .i64 0],.none,3,[]⟩,⟨.some 7,.move (.c (.int .i64 0)),.none,4,[]⟩] k) (.seq (.reg [⟨.some 12,.loadN 2 (.s 3),.none,0,[]⟩,⟨.some 13,.func 73 [] [.s 3,.s 4,.s 5],.none,1,[]⟩,⟨.some 14,.load (.s 4),.none,2,[]⟩,⟨.some 15,.off 1 (.s 3),.none,3,[]⟩,⟨.some 16,.load (.s 15),.none,4,[]⟩,⟨.some 17,.len false (.s 16),.none,5,[]⟩,⟨.some 18,.load (.s 5),.none,6,[]⟩,⟨.some 19,.off 0 (.s 3),.none,7,[]⟩,⟨.some 20,.load (.s 19),.none,8,[]⟩,⟨.some 21,.len false (.s 20),.none,9,[]⟩,⟨.some 22,.mkslice 4 1 [.int .i64 0,.int .i64 0,.int .i64 0,.int .i64 0] [(0,(1,(.s 14))),(1,(1,(.s 17))),(2,(1,(.s 18))),(3,(1,(.s 21)))],.none,10,[]⟩,⟨.some 23,.call (.c (.func 63 [] [])) [.s 12,.s 13,.s 22],.none,11,[]⟩,⟨.some 11,.move (.s 23),.none,12,[]⟩,⟨.some 24,.extract 0 (.s 11),.none,13,[]⟩,⟨.some 25,.extract 1 (.s 11),.none,14,[]⟩,⟨.some 8,.alloc [.nilptr],.none,15,[]⟩,⟨.none,.store 1 (.s 8) (.s 24),.none,16,[]⟩,⟨.some 9,.move (.s 25),.none,17,[]⟩] k) (.seq (.seq (.reg [⟨.some 26,.move (.s 9),.none,0,[]⟩,⟨.some 27,.bin .neq (.s 26) (.c (.int .i64 0)),.none,1,[]⟩] k) (.cond (.s 27) (.seq (.reg [⟨.some 28,.build [.int .i64 0,.int .i64 0] [],.none,0,[]⟩,⟨.some 29,.move (.s 9),.none,1,[]⟩,⟨.none,.store 2 (.s 6) (.s 28),.none,2,[]⟩,⟨.some 7,.move (.s 29),.none,3,[]⟩] k) .ret) .skip)) (.seq (.reg [⟨.some 30,.func 74 [] [.s 3,.s 5,.s 8,.s 4],.none,0,[]⟩,⟨.some 31,.call (.c (.func 65 [] [])) [.s 30],.none,1,[]⟩,⟨.some 10,.alloc [.int .i64 0,.int .i64 0],.none,2,[]⟩,⟨.none,.store 2 (.s 10) (.s 31),.none,3,[]⟩] k) (.seq (.seq (.reg [⟨.some 32,.off 1 (.s 10),.none,0,[]⟩,⟨.some 33,.load (.s 32),.none,1,[]⟩,⟨.some 34,.bin .lss (.s 33) (.c (.int .i64 0)),.none,2,[]⟩] k) (.cond (.s 34) (.seq (.reg [⟨.some 35,.build [.int .i64 0,.int .i64 0] [],.none,0,[]⟩,⟨.none,.store 2 (.s 6) (.s 35),.none,1,[]⟩,⟨.some 7,.move (.c (.int .i64 9)),.none,2,[]⟩] k)
    .ret) .skip)) (.seq (.reg [⟨.some 36,.loadN 2 (.s 10),.none,0,[]⟩,⟨.none,.store 2 (.s 6) (.s 36),.none,1,[]⟩,⟨.some 7,.move (.c (.int .i64 0)),.none,2,[]⟩] k) .ret)))))),res := [.cellN 2 6,.slot 7]}
def c25 : AFunc :=
  let k:List Nat:=[0,1,2,3,6,7,8,9,25]
  {nt := 38,body := (.seq (.reg [⟨.some 3,.box (.s 0),.none,0,[]⟩,⟨.some 6,.alloc [.int .i64 0,.int .i64 0],.none,1,[]⟩,⟨.some 7,.alloc [.int .i64 0,.int .i64 0],.none,2,[]⟩,⟨.some 8,.move (.c (.int .i64 0)),.none,3,[]⟩] k) (.seq (.reg [⟨.some 11,.loadN 2 (.s 3),.none,0,[]⟩,⟨.some 12,.move (.s 1),.none,1,[]⟩,⟨.some 13,.off 0 (.s 3),.none,2,[]⟩,⟨.some 14,.load (.s 13),.none,3,[]⟩,⟨.some 15,.len false (.s 14),.none,4,[]⟩,⟨.some 16,.move (.s 2),.none,5,[]⟩,⟨.some 17,.off 0 (.s 3),.none,6,[]⟩,⟨.some 18,.load (.s 17),.none,7,[]⟩,⟨.some 19,.len false (.s 18),.none,8,[]⟩,⟨.some 20,.mkslice 4 1 [.int .i64 0,.int .i64 0,.int .i64 0,.int .i64 0] [(0,(1,(.s 12))),(1,(1,(.s 15))),(2,(1,(.s 16))),(3,(1,(.s 19)))],.none,9,[]⟩,⟨.some 21,.call (.c (.func 63 [] [])) [.s 11,.c (.func 64 [] []),.s 20],.none,10,[]⟩,⟨.some 10,.move (.s 21),.none,11,[]⟩,⟨.some 22,.extract 0 (.s 10),.none,12,[]⟩,⟨.some 23,.extract 1 (.s 10),.none,13,[]⟩,⟨.some 9,.move (.s 22),.none,14,[]⟩,⟨.some 8,.move (.s 23),.none,15,[]⟩] k) (.seq (.seq (.reg [⟨.some 24,.move (.s 8),.none,0,[]⟩,⟨.some 25,.bin .neq (.s 24) (.c (.int .i64 0)),.none,1,[]⟩] k) (.cond (.s 25) (.seq (.draw [⟨.some 26,.loadN 2 (.s 6),.none,0,[]⟩,⟨.some 27,.loadN 2 (.s 7),.none,1,[]⟩,⟨.some 28,.move (.s 8),.none,2,[]⟩,⟨.none,.store 2 (.s 6) (.s 26),.none,3,[0]⟩,⟨.none,.store 2 (.s 7) (.s 27),.none,4,[0,3,1]⟩,⟨.some 8,.move (.s 28),.none,5,[1,3,0,4,2]⟩] k) .ret) .skip)) (.seq (.reg [⟨.some 30,.move (.s 9),.none,0,[]⟩,⟨.some 31,.move (.s 1),.none,1,[]⟩,⟨.some 32,.move (.s 2),.none,2,[]⟩,⟨.some 33,.call (.c (.func 75 [] [])) [.s 30,.s 31,.s 32],.none,3,[]⟩,⟨.some 29,.move (.s 33),.none,4,[]⟩,⟨.some 34,.extract 0 (.s 29),.none,5,[]⟩,⟨.some 35,.extract 1 (.s 29),.none,6,[]⟩,⟨.none,.store 2 (.s 6) (.s 34),.none,7,[]⟩,⟨.none,.store 2 (.s 7) (.s 35),.none,8,[]⟩] k) (.seq (.draw [⟨.some 36,.loadN 2 (.s 6),.none,0,[]⟩,⟨.some 37,.loadN 2 (.s 7),.none,1,[]⟩,⟨.none,.store 2 (.s 6) (.s 36),.none,2,[0]⟩,⟨.none,.store 2 (.s 7) (.s 37),.none,3,[0,2,1]⟩,⟨.some
    8,.move (.c (.int .i64 0)),.none,4,[1,2,0,3]⟩] k) .ret))))),res := [.cellN 2 6,.cellN 2 7,.slot 8]}
def c27 : AFunc :=
  let k:List Nat:=[0,1,2,3,4,5,6,7,8,9,10,11,12,19,24,25,26,28,29,30,75,82]
  {nt := 85,body := (.seq (.reg [⟨.some 1,.box (.s 0),.none,0,[]⟩,⟨.some 2,.move (.c (.int .i64 0)),.none,1,[]⟩,⟨.some 3,.move (.c (.int .i64 0)),.none,2,[]⟩,⟨.some 4,.move (.c (.int .i64 0)),.none,3,[]⟩] k) (.seq (.reg [⟨.some 14,.loadN 2 (.s 1),.none,0,[]⟩,⟨.some 15,.call (.c (.func 63 [] [])) [.s 14,.c (.func 64 [] []),.c .nilslice],.none,1,[]⟩,⟨.some 13,.move (.s 15),.none,2,[]⟩,⟨.some 16,.extract 0 (.s 13),.none,3,[]⟩,⟨.some 17,.extract 1 (.s 13),.none,4,[]⟩,⟨.some 5,.move (.s 16),.none,5,[]⟩,⟨.some 4,.move (.s 17),.none,6,[]⟩] k) (.seq (.seq (.reg [⟨.some 18,.move (.s 4),.none,0,[]⟩,⟨.some 19,.bin .neq (.s 18) (.c (.int .i64 0)),.none,1,[]⟩] k) (.cond (.s 19) (.seq (.reg [⟨.some 20,.move (.s 4),.none,0,[]⟩,⟨.some 2,.move (.c (.int .i64 0)),.none,1,[]⟩,⟨.some 3,.move (.c (.int .i64 0)),.none,2,[]⟩,⟨.some 4,.move (.s 20),.none,3,[]⟩] k) .ret) .skip)) (.seq (.reg [⟨.some 21,.build [.int .i64 0,.int .i64 0] [(0,(1,(.c (.int .i64 1)))),(1,(1,(.c (.int .i64 1))))],.none,0,[]⟩,⟨.some 6,.alloc [.int .i64 0,.int .i64 0],.none,1,[]⟩,⟨.none,.store 2 (.s 6) (.s 21),.none,2,[]⟩] k) (.seq (.reg [⟨.some 7,.move (.c (.bool false)),.none,0,[]⟩] k) (.seq (.seq (.reg [⟨.some 22,.off 0 (.s 1),.none,0,[]⟩,⟨.some 23,.load (.s 22),.none,1,[]⟩,⟨.some 24,.len false (.s 23),.none,2,[]⟩,⟨.some 25,.move (.c (.int .i64 0)),.none,3,[]⟩] k) (.block 0 (.loop (.seq (.reg [⟨.some 26,.bin .lss (.s 25) (.s 24),.none,0,[]⟩] k) (.seq (.cond (.s 26) .skip (.exit 0)) (.seq (.block 1 (.seq (.reg [⟨.some 27,.move (.s 25),.none,0,[]⟩,⟨.some 8,.move (.s 27),.none,1,[]⟩] k) (.seq (.reg [⟨.some 28,.move (.s 8),.none,0,[]⟩,⟨.some 29,.move (.c (.int .i64 0)),.none,1,[]⟩] k) (.block 2 (.loop (.seq (.reg [⟨.some 30,.bin .lss (.s 29) (.s 28),.none,0,[]⟩] k) (.seq (.cond (.s 30) .skip (.exit 2)) (.seq (.block 3 (.seq (.reg [⟨.some 31,.move (.s 29),.none,0,[]⟩,⟨.some 9,.move (.s 31),.none,1,[]⟩] k) (.seq (.reg [⟨.some 33,.move (.s 5),.none,0,[]⟩,⟨.some 34,.move (.s 9),.none,1,[]⟩,⟨.some 35,.move (.s
    8),.none,2,[]⟩,⟨.some 36,.call (.c (.func 75 [] [])) [.s 33,.s 34,.s 35],.none,3,[]⟩,⟨.some 32,.move (.s 36),.none,4,[]⟩,⟨.some 37,.extract 0 (.s 32),.none,5,[]⟩,⟨.some 38,.extract 1 (.s 32),.none,6,[]⟩,⟨.some 10,.alloc [.int .i64 0,.int .i64 0],.none,7,[]⟩,⟨.some 11,.alloc [.int .i64 0,.int .i64 0],.none,8,[]⟩,⟨.none,.store 2 (.s 10) (.s 37),.none,9,[]⟩,⟨.none,.store 2 (.s 11) (.s 38),.none,10,[]⟩] k) (.seq (.reg [⟨.some 39,.off 0 (.s 11),.none,0,[]⟩,⟨.some 40,.load (.s 39),.none,1,[]⟩,⟨.some 41,.off 1 (.s 10),.none,2,[]⟩,⟨.some 42,.load (.s 41),.none,3,[]⟩,⟨.some 43,.bin .mul (.s 40) (.s 42),.none,4,[]⟩,⟨.some 44,.off 1 (.s 11),.none,5,[]⟩,⟨.some 45,.load (.s 44),.none,6,[]⟩,⟨.some 46,.off 0 (.s 10),.none,7,[]⟩,⟨.some 47,.load (.s 46),.none,8,[]⟩,⟨.some 48,.bin .mul (.s 45) (.s 47),.none,9,[]⟩,⟨.some 49,.call (.c (.func 77 [] [])) [.s 43,.s 48],.none,10,[]⟩,⟨.some 12,.alloc [.int .i64 0,.int .i64 0],.none,11,[]⟩,⟨.none,.store 2 (.s 12) (.s 49),.none,12,[]⟩] k) (.seq (.reg [⟨.some 50,.loadN 2 (.s 6),.none,0,[]⟩,⟨.some 51,.loadN 2 (.s 12),.none,1,[]⟩,⟨.some 52,.call (.c (.func 78 [] [])) [.s 50,.s 51],.none,2,[]⟩,⟨.some 53,.move (.s 52),.none,3,[]⟩,⟨.some 54,.move (.s 7),.some (53,false),4,[]⟩,⟨.some 55,.move (.s 54),.some (53,false),5,[]⟩,⟨.some 56,.loadN 2 (.s 12),.some (55,true),6,[]⟩,⟨.some 57,.loadN 2 (.s 6),.some (55,true),7,[]⟩,⟨.some 58,.eqFlat true [.i,.i] false (.s 56) (.s 57),.some (55,true),8,[]⟩,⟨.some 59,.pick (.s 55) (.s 58) (.c (.bool false)),.some (53,false),9,[]⟩,⟨.some 60,.move (.s 59),.some (53,false),10,[]⟩,⟨.some 61,.move (.s 9),.some (60,true),11,[]⟩,⟨.some 62,.move (.s 2),.some (60,true),12,[]⟩,⟨.some 63,.bin .lss (.s 61) (.s 62),.some (60,true),13,[]⟩,⟨.some 64,.move (.s 63),.some (60,true),14,[]⟩,⟨.some 65,.move (.s 9),.some (64,false),15,[]⟩,⟨.some 66,.move (.s 2),.some (64,false),16,[]⟩,⟨.some 67,.bin .eql (.s 65) (.s 66),.some (64,false),17,[]⟩,⟨.some 68,.move (.s 67),.some (64,false),18,[]⟩,⟨.some 69,.move (.s 8),.some
    (68,true),19,[]⟩,⟨.some 70,.move (.s 3),.some (68,true),20,[]⟩,⟨.some 71,.bin .lss (.s 69) (.s 70),.some (68,true),21,[]⟩,⟨.some 72,.pick (.s 68) (.s 71) (.c (.bool false)),.some (64,false),22,[]⟩,⟨.some 73,.pick (.s 64) (.c (.bool true)) (.s 72),.some (60,true),23,[]⟩,⟨.some 74,.pick (.s 60) (.s 73) (.c (.bool false)),.some (53,false),24,[]⟩,⟨.some 75,.pick (.s 53) (.c (.bool true)) (.s 74),.none,25,[]⟩] k) (.cond (.s 75) (.draw [⟨.some 76,.move (.s 9),.none,0,[]⟩,⟨.some 77,.move (.s 8),.none,1,[]⟩,⟨.some 78,.loadN 2 (.s 12),.none,2,[]⟩,⟨.some 2,.move (.s 76),.none,3,[0]⟩,⟨.some 3,.move (.s 77),.none,4,[0,3,1]⟩,⟨.none,.store 2 (.s 6) (.s 78),.none,5,[1,3,0,4,2]⟩,⟨.some 7,.move (.c (.bool true)),.none,6,[2,4,0,3,1,5]⟩] k) .skip)))))) (.reg [⟨.some 79,.bin .add (.s 29) (.c (.int .i64 1)),.none,0,[]⟩,⟨.some 29,.move (.s 79),.none,1,[]⟩] k))))))))) (.reg [⟨.some 80,.bin .add (.s 25) (.c (.int .i64 1)),.none,0,[]⟩,⟨.some 25,.move (.s 80),.none,1,[]⟩] k))))))) (.seq (.seq (.reg [⟨.some 81,.move (.s 7),.none,0,[]⟩,⟨.some 82,.un .not (.s 81),.none,1,[]⟩] k) (.cond (.s 82) (.seq (.reg [⟨.some 2,.move (.c (.int .i64 0)),.none,0,[]⟩,⟨.some 3,.move (.c (.int .i64 0)),.none,1,[]⟩,⟨.some 4,.move (.c (.int .i64 9)),.none,2,[]⟩] k) .ret) .skip)) (.seq (.reg [⟨.some 83,.move (.s 2),.none,0,[]⟩,⟨.some 84,.move (.s 3),.none,1,[]⟩,⟨.some 2,.move (.s 83),.none,2,[]⟩,⟨.some 3,.move (.s 84),.none,3,[]⟩,⟨.some 4,.move (.c (.int .i64 0)),.none,4,[]⟩] k) .ret)))))))),res := [.slot 2,.slot 3,.slot 4]}
def c29 : AFunc :=
  let k:List Nat:=[0,1,2,3,4,5,6,7,8,9,10,11,19,22,23,24,25,29,30,31,32,37,58,59,60,76]
  {nt := 80,body := (.seq (.reg [⟨.some 1,.box (.s 0),.none,0,[]⟩,⟨.some 2,.move (.c .nilslice),.none,1,[]⟩,⟨.some 3,.move (.c (.int .i64 0)),.none,2,[]⟩] k) (.seq (.seq (.reg [⟨.some 13,.loadN 2 (.s 1),.none,0,[]⟩,⟨.some 14,.call (.c (.func 16 [] [])) [.s 13],.none,1,[]⟩,⟨.some 12,.move (.s 14),.none,2,[]⟩,⟨.some 15,.extract 0 (.s 12),.none,3,[]⟩,⟨.some 16,.extract 1 (.s 12),.none,4,[]⟩,⟨.some 17,.extract 2 (.s 12),.none,5,[]⟩,⟨.some 3,.move (.s 17),.none,6,[]⟩] k) (.seq (.reg [⟨.some 18,.move (.s 3),.none,0,[]⟩,⟨.some 19,.bin .neq (.s 18) (.c (.int .i64 0)),.none,1,[]⟩] k) (.cond (.s 19) (.seq (.reg [⟨.some 20,.move (.s 3),.none,0,[]⟩,⟨.some 2,.move (.c .nilslice),.none,1,[]⟩,⟨.some 3,.move (.s 20),.none,2,[]⟩] k) .ret) .skip))) (.seq (.reg [⟨.some 4,.move (.c .nilslice),.none,0,[]⟩] k) (.seq (.seq (.reg [⟨.some 21,.off 1 (.s 1),.none,0,[]⟩,⟨.some 22,.load (.s 21),.none,1,[]⟩,⟨.some 23,.len false (.s 22),.none,2,[]⟩,⟨.some 24,.move (.c (.int .i64 0)),.none,3,[]⟩] k) (.block 0 (.loop (.seq (.reg [⟨.some 25,.bin .lss (.s 24) (.s 23),.none,0,[]⟩] k) (.seq (.cond (.s 25) .skip (.exit 0)) (.seq (.block 1 (.seq (.reg [⟨.some 26,.move (.s 24),.none,0,[]⟩,⟨.some 27,.idxSl 1 (.s 22) (.s 24),.none,1,[]⟩,⟨.some 28,.load (.s 27),.none,2,[]⟩,⟨.some 5,.move (.s 26),.none,3,[]⟩,⟨.some 6,.move (.s 28),.none,4,[]⟩] k) (.seq (.reg [⟨.some 29,.move (.s 6),.none,0,[]⟩,⟨.some 30,.len false (.s 29),.none,1,[]⟩,⟨.some 31,.move (.c (.int .i64 0)),.none,2,[]⟩] k) (.block 2 (.loop (.seq (.reg [⟨.some 32,.bin .lss (.s 31) (.s 30),.none,0,[]⟩] k) (.seq (.cond (.s 32) .skip (.exit 2)) (.seq (.block 3 (.seq (.reg [⟨.some 33,.move (.s 31),.none,0,[]⟩,⟨.some 34,.idxSl 1 (.s 29) (.s 31),.none,1,[]⟩,⟨.some 35,.load (.s 34),.none,2,[]⟩,⟨.some 7,.move (.s 33),.none,3,[]⟩,⟨.some 8,.move (.s 35),.none,4,[]⟩] k) (.seq (.reg [⟨.some 36,.move (.s 8),.none,0,[]⟩,⟨.some 37,.bin .neq (.s 36) (.c (.int .i64 (-1))),.none,1,[]⟩] k) (.cond (.s 37) (.reg [⟨.some 38,.move (.s 4),.none,0,[]⟩,⟨.some 39,.move (.s
    5),.none,1,[]⟩,⟨.some 40,.off 0 (.s 1),.none,2,[]⟩,⟨.some 41,.load (.s 40),.none,3,[]⟩,⟨.some 42,.len false (.s 41),.none,4,[]⟩,⟨.some 43,.bin .mul (.s 39) (.s 42),.none,5,[]⟩,⟨.some 44,.move (.s 7),.none,6,[]⟩,⟨.some 45,.bin .add (.s 43) (.s 44),.none,7,[]⟩,⟨.some 46,.mkslice 1 1 [.int .i64 0] [(0,(1,(.s 45)))],.none,8,[]⟩,⟨.some 47,.append 1 8 (.s 38) (.s 46),.none,9,[]⟩,⟨.some 4,.move (.s 47),.none,10,[]⟩] k) .skip)))) (.reg [⟨.some 48,.bin .add (.s 31) (.c (.int .i64 1)),.none,0,[]⟩,⟨.some 31,.move (.s 48),.none,1,[]⟩] k))))))))) (.reg [⟨.some 49,.bin .add (.s 24) (.c (.int .i64 1)),.none,0,[]⟩,⟨.some 24,.move (.s 49),.none,1,[]⟩] k))))))) (.seq (.reg [⟨.some 50,.move (.s 4),.none,0,[]⟩,⟨.some 51,.len false (.s 50),.none,1,[]⟩,⟨.some 52,.makeSlice 1 8 [.int .i64 0] (.s 51) (.s 51),.none,2,[]⟩,⟨.some 9,.move (.s 52),.none,3,[]⟩] k) (.seq (.reg [⟨.some 53,.move (.s 9),.none,0,[]⟩,⟨.some 54,.move (.s 4),.none,1,[]⟩,⟨.some 55,.copy 1 (.s 53) (.s 54),.none,2,[]⟩] k) (.seq (.seq (.reg [⟨.some 56,.move (.s 9),.none,0,[]⟩,⟨.some 57,.len false (.s 56),.none,1,[]⟩,⟨.some 58,.bin .add (.s 57) (.c (.int .i64 1)),.none,2,[]⟩,⟨.some 59,.move (.c (.int .i64 0)),.none,3,[]⟩] k) (.block 4 (.loop (.seq (.reg [⟨.some 60,.bin .lss (.s 59) (.s 58),.none,0,[]⟩] k) (.seq (.cond (.s 60) .skip (.exit 4)) (.seq (.block 5 (.seq (.reg [⟨.some 61,.move (.s 59),.none,0,[]⟩,⟨.some 10,.move (.s 61),.none,1,[]⟩] k) (.seq (.reg [⟨.some 62,.move (.s 9),.none,0,[]⟩,⟨.some 63,.move (.s 10),.none,1,[]⟩,⟨.some 64,.func 80 [] [.s 1],.none,2,[]⟩,⟨.some 65,.call (.c (.func 79 [] [])) [.s 62,.s 63,.s 64],.none,3,[]⟩,⟨.some 11,.move (.s 65),.none,4,[]⟩] k) (.seq (.reg [⟨.some 66,.move (.s 11),.none,0,[]⟩,⟨.some 67,.eqNil .slice true (.s 66) (.c .nilslice),.none,1,[]⟩,⟨.some 68,.move (.s 67),.none,2,[]⟩,⟨.some 69,.move (.s 10),.some (68,false),3,[]⟩,⟨.some 70,.bin .eql (.s 69) (.c (.int .i64 0)),.some (68,false),4,[]⟩,⟨.some 71,.move (.s 70),.some (68,false),5,[]⟩,⟨.some 72,.loadN 2 (.s 1),.some
    (71,true),6,[]⟩,⟨.some 73,.call (.c (.func 81 [] [])) [.s 72,.c (.int .i64 0)],.some (71,true),7,[]⟩,⟨.some 74,.call (.c (.func 82 [] [])) [.s 73],.some (71,true),8,[]⟩,⟨.some 75,.pick (.s 71) (.s 74) (.c (.bool false)),.some (68,false),9,[]⟩,⟨.some 76,.pick (.s 68) (.c (.bool true)) (.s 75),.none,10,[]⟩] k) (.cond (.s 76) (.seq (.reg [⟨.some 77,.move (.s 11),.none,0,[]⟩,⟨.some 2,.move (.s 77),.none,1,[]⟩,⟨.some 3,.move (.c (.int .i64 0)),.none,2,[]⟩] k) .ret) .skip))))) (.reg [⟨.some 78,.bin .add (.s 59) (.c (.int .i64 1)),.none,0,[]⟩,⟨.some 59,.move (.s 78),.none,1,[]⟩] k))))))) (.seq (.reg [⟨.some 79,.move (.s 9),.none,0,[]⟩,⟨.some 2,.move (.s 79),.none,1,[]⟩,⟨.some 3,.move (.c (.int .i64 0)),.none,2,[]⟩] k) .ret)))))))),res := [.slot 2,.slot 3]}
def c31 : AFunc :=
  let k:List Nat:=[0,1,4,5,6,18]
  {nt := 31,body := (.seq (.reg [⟨.some 4,.move (.c (.bool false)),.none,0,[]⟩] k) (.seq (.reg [⟨.some 7,.move (.s 0),.none,0,[]⟩,⟨.some 8,.len false (.s 7),.none,1,[]⟩,⟨.some 9,.move (.s 1),.none,2,[]⟩,⟨.some 10,.len false (.s 9),.none,3,[]⟩,⟨.some 11,.bin .eql (.s 8) (.s 10),.none,4,[]⟩,⟨.some 5,.move (.s 11),.none,5,[]⟩] k) (.seq (.seq (.reg [⟨.some 6,.move (.c (.int .i64 0)),.none,0,[]⟩] k) (.block 0 (.loop (.seq (.seq (.reg [⟨.some 12,.move (.s 5),.none,0,[]⟩,⟨.some 13,.move (.s 12),.none,1,[]⟩,⟨.some 14,.move (.s 6),.some (13,true),2,[]⟩,⟨.some 15,.move (.s 0),.some (13,true),3,[]⟩,⟨.some 16,.len false (.s 15),.some (13,true),4,[]⟩,⟨.some 17,.bin .lss (.s 14) (.s 16),.some (13,true),5,[]⟩,⟨.some 18,.pick (.s 13) (.s 17) (.c (.bool false)),.none,6,[]⟩] k) (.cond (.s 18) .skip (.exit 0))) (.seq (.block 1 (.draw [⟨.some 21,.move (.s 0),.none,0,[]⟩,⟨.some 22,.move (.s 6),.none,1,[]⟩,⟨.some 23,.idxSl 1 (.s 21) (.s 22),.none,2,[1,0]⟩,⟨.some 24,.load (.s 23),.none,3,[0,1,2]⟩,⟨.some 25,.move (.s 1),.none,4,[]⟩,⟨.some 26,.move (.s 6),.none,5,[]⟩,⟨.some 27,.idxSl 1 (.s 25) (.s 26),.none,6,[5,4]⟩,⟨.some 28,.load (.s 27),.none,7,[4,5,6]⟩,⟨.some 29,.bin .eql (.s 24) (.s 28),.none,8,[6,5,4,7,2,1,0,3]⟩,⟨.some 5,.move (.s 29),.none,9,[3,0,1,2,7,4,5,6,8]⟩] k)) (.reg [⟨.some 19,.move (.s 6),.none,0,[]⟩,⟨.some 20,.bin .add (.s 19) (.c (.int .i64 1)),.none,1,[]⟩,⟨.some 6,.move (.s 20),.none,2,[]⟩] k)))))) (.seq (.reg [⟨.some 30,.move (.s 5),.none,0,[]⟩,⟨.some 4,.move (.s 30),.none,1,[]⟩] k) .ret)))),res := [.slot 4]}
def c32 : AFunc :=
  {nt := 16,body := (.seq (.reg [⟨.some 2,.alloc [.nilslice,.nilslice],.none,0,[]⟩] [0,2]) (.seq (.reg [⟨.some 3,.call (.c (.func 33 [] [])) [.c (.int .i64 100),.c (.int .i64 100)],.none,0,[]⟩,⟨.some 4,.build [.str (bs []),.int .i64 0,.int .i64 0,.int .i64 0] [(0,(1,(.c (.str (bs [119,111,108,102]))))),(1,(2,(.s 3)))],.none,1,[]⟩,⟨.some 5,.call (.c (.func 33 [] [])) [.c (.int .i64 110),.c (.int .i64 116)],.none,2,[]⟩,⟨.some 6,.build [.str (bs []),.int .i64 0,.int .i64 0,.int .i64 0] [(0,(1,(.c (.str (bs [98,101,114,116,97]))))),(1,(2,(.s 5))),(3,(1,(.c (.int .i64 1))))],.none,3,[]⟩,⟨.some 7,.call (.c (.func 33 [] [])) [.c (.int .i64 94),.c (.int .i64 100)],.none,4,[]⟩,⟨.some 8,.build [.str (bs []),.int .i64 0,.int .i64 0,.int .i64 0] [(0,(1,(.c (.str (bs [99,97,114,108]))))),(1,(2,(.s 7))),(3,(1,(.c (.int .i64 1))))],.none,5,[]⟩,⟨.some 9,.mkslice 3 4 [.str (bs []),.int .i64 0,.int .i64 0,.int .i64 0,.str (bs []),.int .i64 0,.int .i64 0,.int .i64 0,.str (bs []),.int .i64 0,.int .i64 0,.int .i64 0] [(0,(4,(.s 4))),(4,(4,(.s 6))),(8,(4,(.s 8)))],.none,6,[]⟩,⟨.some 10,.mkslice 3 1 [.int .i64 0,.int .i64 0,.int .i64 0] [(0,(1,(.c (.int .i64 60)))),(1,(1,(.c (.int .i64 53)))),(2,(1,(.c (.int .i64 (-1)))))],.none,7,[]⟩,⟨.some 11,.mkslice 3 1 [.int .i64 0,.int .i64 0,.int .i64 0] [(0,(1,(.c (.int .i64 (-1))))),(1,(1,(.c (.int .i64 90)))),(2,(1,(.c (.int .i64 104))))],.none,8,[]⟩,⟨.some 12,.mkslice 2 1 [.nilslice,.nilslice] [(0,(1,(.s 10))),(1,(1,(.s 11)))],.none,9,[]⟩,⟨.some 13,.move (.s 0),.none,10,[]⟩,⟨.some 14,.append 1 24 (.s 12) (.s 13),.none,11,[]⟩,⟨.some 15,.build [.nilslice,.nilslice] [(0,(1,(.s 9))),(1,(1,(.s 14)))],.none,12,[]⟩,⟨.none,.store 2 (.s 2) (.s 15),.none,13,[]⟩] [0,2]) .ret)),res := [.cellN 2 2]}
def c33 : AFunc :=
  {nt := 8,body := (.seq (.reg [⟨.some 4,.alloc [.int .i64 0,.int .i64 0],.none,0,[]⟩] [0,1,4]) (.seq (.reg [⟨.some 5,.move (.s 0),.none,0,[]⟩,⟨.some 6,.move (.s 1),.none,1,[]⟩,⟨.some 7,.build [.int .i64 0,.int .i64 0] [(0,(1,(.s 5))),(1,(1,(.s 6)))],.none,2,[]⟩,⟨.none,.store 2 (.s 4) (.s 7),.none,3,[]⟩] [0,1,4]) .ret)),res := [.cellN 2 4]}
def c34 : AFunc :=
  {nt := 8,body := (.seq (.reg [⟨.some 4,.alloc [.int .i64 0,.int .i64 0],.none,0,[]⟩] [0,1,4]) (.seq (.reg [⟨.some 5,.move (.s 0),.none,0,[]⟩,⟨.some 6,.move (.s 1),.none,1,[]⟩,⟨.some 7,.build [.int .i64 0,.int .i64 0] [(0,(1,(.s 5))),(1,(1,(.s 6)))],.none,2,[]⟩,⟨.none,.store 2 (.s 4) (.s 7),.none,3,[]⟩] [0,1,4]) .ret)),res := [.cellN 2 4]}
def c35 : AFunc :=
  let k:List Nat:=[0,1,2,5]
  {nt := 14,body := (.seq (.reg [⟨.some 1,.box (.s 0),.none,0,[]⟩,⟨.some 2,.move (.c (.bool false)),.none,1,[]⟩] k) (.seq (.reg [⟨.some 7,.loadN 2 (.s 1),.none,0,[]⟩,⟨.some 8,.call (.c (.func 17 [] [])) [.s 7],.none,1,[]⟩,⟨.some 6,.move (.s 8),.none,2,[]⟩,⟨.some 9,.extract 0 (.s 6),.none,3,[]⟩,⟨.some 10,.extract 1 (.s 6),.none,4,[]⟩,⟨.some 11,.extract 2 (.s 6),.none,5,[]⟩,⟨.some 3,.move (.s 9),.none,6,[]⟩,⟨.some 4,.move (.s 10),.none,7,[]⟩,⟨.some 5,.move (.s 11),.none,8,[]⟩] k) (.seq (.reg [⟨.some 12,.move (.s 5),.none,0,[]⟩,⟨.some 13,.bin .eql (.s 12) (.c (.int .i64 0)),.none,1,[]⟩,⟨.some 2,.move (.s 13),.none,2,[]⟩] k) .ret))),res := [.slot 2]}
def c36 : AFunc :=
  let k:List Nat:=[0,1,2,3,4,5,6,7,8,9,10,11,12,13,14,15,16,17,22,54,60,85,92,137]
  {nt := 153,body := (.seq (.reg [⟨.some 2,.box (.s 0),.none,0,[]⟩,⟨.some 3,.box (.s 1),.none,1,[]⟩,⟨.some 4,.alloc [.nilslice,.nilslice],.none,2,[]⟩,⟨.some 5,.move (.c .nilslice),.none,3,[]⟩,⟨.some 6,.move (.c .nilslice),.none,4,[]⟩] k) (.seq (.reg [⟨.some 7,.move (.c .nilslice),.none,0,[]⟩,⟨.some 8,.move (.c .nilslice),.none,1,[]⟩] k) (.seq (.seq (.reg [⟨.some 9,.move (.c (.int .i64 0)),.none,0,[]⟩] k) (.block 0 (.loop (.seq (.seq (.reg [⟨.some 18,.move (.s 9),.none,0,[]⟩,⟨.some 19,.off 0 (.s 2),.none,1,[]⟩,⟨.some 20,.load (.s 19),.none,2,[]⟩,⟨.some 21,.len false (.s 20),.none,3,[]⟩,⟨.some 22,.bin .lss (.s 18) (.s 21),.none,4,[]⟩] k) (.cond (.s 22) .skip (.exit 0))) (.seq (.block 1 (.seq (.reg [⟨.some 25,.off 0 (.s 2),.none,0,[]⟩,⟨.some 26,.load (.s 25),.none,1,[]⟩,⟨.some 27,.move (.s 9),.none,2,[]⟩,⟨.some 28,.idxSl 4 (.s 26) (.s 27),.none,3,[]⟩,⟨.some 29,.off 1 (.s 28),.none,4,[]⟩,⟨.some 30,.loadN 2 (.s 29),.none,5,[]⟩,⟨.some 10,.alloc [.int .i64 0,.int .i64 0],.none,6,[]⟩,⟨.none,.store 2 (.s 10) (.s 30),.none,7,[]⟩] k) (.draw [⟨.some 31,.move (.s 7),.none,0,[]⟩,⟨.some 32,.off 0 (.s 10),.none,1,[]⟩,⟨.some 33,.load (.s 32),.none,2,[1]⟩,⟨.some 34,.off 0 (.s 3),.none,3,[]⟩,⟨.some 35,.load (.s 34),.none,4,[3]⟩,⟨.some 36,.move (.s 9),.none,5,[]⟩,⟨.some 38,.off 1 (.s 10),.none,7,[]⟩,⟨.some 39,.load (.s 38),.none,8,[7]⟩,⟨.some 40,.off 0 (.s 10),.none,9,[]⟩,⟨.some 41,.load (.s 40),.none,10,[9]⟩,⟨.some 42,.bin .sub (.s 39) (.s 41),.none,11,[9,10,7,8]⟩,⟨.some 43,.bin .add (.s 42) (.c (.int .i64 1)),.none,12,[8,7,10,9,11]⟩,⟨.some 37,.call (.c (.func 84 [] [])) [.s 35,.s 36],.none,6,[5,3,4]⟩,⟨.some 44,.bin .rem (.s 37) (.s 43),.none,13,[11,9,10,7,8,12,4,3,5,6]⟩,⟨.some 45,.bin .add (.s 33) (.s 44),.none,14,[6,5,3,4,12,8,7,10,9,11,13,1,2]⟩,⟨.some 46,.mkslice 1 1 [.int .i64 0] [(0,(1,(.s 45)))],.none,15,[2,1,13,11,9,10,7,8,12,4,3,5,6,14]⟩,⟨.some 47,.append 1 8 (.s 31) (.s 46),.none,16,[14,6,5,3,4,12,8,7,10,9,11,13,1,2,15,0]⟩,⟨.some 7,.move (.s
    47),.none,17,[0,15,2,1,13,11,9,10,7,8,12,4,3,5,6,14,16]⟩] k))) (.reg [⟨.some 23,.move (.s 9),.none,0,[]⟩,⟨.some 24,.bin .add (.s 23) (.c (.int .i64 1)),.none,1,[]⟩,⟨.some 9,.move (.s 24),.none,2,[]⟩] k)))))) (.seq (.reg [⟨.some 48,.off 1 (.s 2),.none,0,[]⟩,⟨.some 49,.load (.s 48),.none,1,[]⟩,⟨.some 11,.move (.s 49),.none,2,[]⟩] k) (.seq (.reg [⟨.some 50,.off 1 (.s 2),.none,0,[]⟩,⟨.none,.store 1 (.s 50) (.c .nilslice),.none,1,[]⟩] k) (.seq (.seq (.reg [⟨.some 12,.move (.c (.int .i64 0)),.none,0,[]⟩] k) (.block 2 (.loop (.seq (.seq (.reg [⟨.some 51,.move (.s 12),.none,0,[]⟩,⟨.some 52,.move (.s 11),.none,1,[]⟩,⟨.some 53,.len false (.s 52),.none,2,[]⟩,⟨.some 54,.bin .lss (.s 51) (.s 53),.none,3,[]⟩] k) (.cond (.s 54) .skip (.exit 2))) (.seq (.block 3 (.seq (.reg [⟨.some 13,.move (.c (.int .i64 0)),.none,0,[]⟩] k) (.seq (.seq (.reg [⟨.some 57,.off 1 (.s 3),.none,0,[]⟩,⟨.some 58,.load (.s 57),.none,1,[]⟩,⟨.some 59,.len false (.s 58),.none,2,[]⟩,⟨.some 60,.bin .gtr (.s 59) (.c (.int .i64 0)),.none,3,[]⟩] k) (.cond (.s 60) (.draw [⟨.some 61,.off 1 (.s 3),.none,0,[]⟩,⟨.some 62,.load (.s 61),.none,1,[0]⟩,⟨.some 63,.move (.s 12),.none,2,[]⟩,⟨.some 64,.off 1 (.s 3),.none,3,[]⟩,⟨.some 65,.load (.s 64),.none,4,[3]⟩,⟨.some 66,.len false (.s 65),.none,5,[3,4]⟩,⟨.some 67,.bin .rem (.s 63) (.s 66),.none,6,[4,3,5,2]⟩,⟨.some 68,.idxSl 1 (.s 62) (.s 67),.none,7,[2,5,3,4,6,0,1]⟩,⟨.some 69,.load (.s 68),.none,8,[1,0,6,4,3,5,2,7]⟩,⟨.some 70,.toInt .i64 (.s 69),.none,9,[7,2,5,3,4,6,0,1,8]⟩,⟨.some 71,.bin .rem (.s 70) (.c (.int .i64 40000)),.none,10,[8,1,0,6,4,3,5,2,7,9]⟩,⟨.some 13,.move (.s 71),.none,11,[9,7,2,5,3,4,6,0,1,8,10]⟩] k) .skip)) (.seq (.reg [⟨.some 72,.move (.s 8),.none,0,[]⟩,⟨.some 73,.move (.s 13),.none,1,[]⟩,⟨.some 74,.mkslice 1 1 [.int .i64 0] [(0,(1,(.s 73)))],.none,2,[]⟩,⟨.some 75,.append 1 8 (.s 72) (.s 74),.none,3,[]⟩,⟨.some 8,.move (.s 75),.none,4,[]⟩] k) (.seq (.reg [⟨.some 76,.mkslice 0 1 [] [],.none,0,[]⟩,⟨.some 77,.move (.s 11),.none,1,[]⟩,⟨.some 78,.move (.s
    12),.none,2,[]⟩,⟨.some 79,.idxSl 1 (.s 77) (.s 78),.none,3,[]⟩,⟨.some 80,.load (.s 79),.none,4,[]⟩,⟨.some 81,.append 1 8 (.s 76) (.s 80),.none,5,[]⟩,⟨.some 14,.move (.s 81),.none,6,[]⟩] k) (.seq (.seq (.reg [⟨.some 15,.move (.c (.int .i64 0)),.none,0,[]⟩] k) (.block 4 (.loop (.seq (.seq (.reg [⟨.some 82,.move (.s 15),.none,0,[]⟩,⟨.some 83,.move (.s 14),.none,1,[]⟩,⟨.some 84,.len false (.s 83),.none,2,[]⟩,⟨.some 85,.bin .lss (.s 82) (.s 84),.none,3,[]⟩] k) (.cond (.s 85) .skip (.exit 4))) (.seq (.block 5 (.seq (.seq (.reg [⟨.some 88,.move (.s 14),.none,0,[]⟩,⟨.some 89,.move (.s 15),.none,1,[]⟩,⟨.some 90,.idxSl 1 (.s 88) (.s 89),.none,2,[]⟩,⟨.some 91,.load (.s 90),.none,3,[]⟩,⟨.some 92,.bin .eql (.s 91) (.c (.int .i64 (-1))),.none,4,[]⟩] k) (.cond (.s 92) (.exit 5) .skip)) (.seq (.reg [⟨.some 93,.off 0 (.s 2),.none,0,[]⟩,⟨.some 94,.load (.s 93),.none,1,[]⟩,⟨.some 95,.move (.s 15),.none,2,[]⟩,⟨.some 96,.idxSl 4 (.s 94) (.s 95),.none,3,[]⟩,⟨.some 97,.loadN 4 (.s 96),.none,4,[]⟩,⟨.some 16,.alloc [.str (bs []),.int .i64 0,.int .i64 0,.int .i64 0],.none,5,[]⟩,⟨.none,.store 4 (.s 16) (.s 97),.none,6,[]⟩] k) (.seq (.draw [⟨.some 98,.move (.s 13),.none,0,[]⟩,⟨.some 99,.move (.s 7),.none,1,[]⟩,⟨.some 100,.move (.s 15),.none,2,[]⟩,⟨.some 101,.idxSl 1 (.s 99) (.s 100),.none,3,[2,1]⟩,⟨.some 102,.load (.s 101),.none,4,[1,2,3]⟩,⟨.some 103,.bin .quo (.s 98) (.s 102),.none,5,[3,2,1,4,0]⟩,⟨.some 104,.off 2 (.s 3),.none,6,[]⟩,⟨.some 105,.load (.s 104),.none,7,[6]⟩,⟨.some 106,.move (.s 12),.none,8,[]⟩,⟨.some 107,.move (.s 14),.none,9,[]⟩,⟨.some 108,.len false (.s 107),.none,10,[9]⟩,⟨.some 109,.bin .mul (.s 106) (.s 108),.none,11,[9,10,8]⟩,⟨.some 110,.move (.s 15),.none,12,[]⟩,⟨.some 111,.bin .add (.s 109) (.s 110),.none,13,[12,8,10,9,11]⟩,⟨.some 113,.off 3 (.s 16),.none,15,[]⟩,⟨.some 114,.load (.s 113),.none,16,[15]⟩,⟨.some 115,.bin .mul (.c (.int .i64 2)) (.s 114),.none,17,[15,16]⟩,⟨.some 116,.bin .add (.s 115) (.c (.int .i64 1)),.none,18,[16,15,17]⟩,⟨.some 119,.off 3 (.s
    16),.none,21,[]⟩,⟨.some 120,.load (.s 119),.none,22,[21]⟩,⟨.some 112,.call (.c (.func 84 [] [])) [.s 105,.s 111],.none,14,[11,9,10,8,12,13,6,7]⟩,⟨.some 117,.bin .rem (.s 112) (.s 116),.none,19,[17,15,16,18,7,6,13,12,8,10,9,11,14]⟩,⟨.some 118,.bin .add (.s 103) (.s 117),.none,20,[14,11,9,10,8,12,13,6,7,18,16,15,17,19,0,4,1,2,3,5]⟩,⟨.some 121,.bin .sub (.s 118) (.s 120),.none,23,[21,22,5,3,2,1,4,0,19,17,15,16,18,7,6,13,12,8,10,9,11,14,20]⟩,⟨.some 17,.move (.s 121),.none,24,[20,14,11,9,10,8,12,13,6,7,18,16,15,17,19,0,4,1,2,3,5,22,21,23]⟩] k) (.seq (.reg [⟨.some 122,.move (.s 14),.none,0,[]⟩,⟨.some 123,.move (.s 15),.none,1,[]⟩,⟨.some 124,.idxSl 1 (.s 122) (.s 123),.none,2,[]⟩,⟨.none,.store 1 (.s 124) (.c (.int .i64 (-1))),.none,3,[]⟩] k) (.seq (.draw [⟨.some 125,.move (.s 17),.none,0,[]⟩,⟨.some 126,.call (.c (.func 53 [] [])) [.s 125,.c (.int .i64 0),.c (.int .i64 120)],.none,1,[0]⟩,⟨.some 127,.move (.s 126),.none,2,[0,1]⟩,⟨.some 128,.move (.s 13),.some (127,true),3,[1,0,2]⟩,⟨.some 129,.loadN 4 (.s 16),.some (127,true),4,[1,0,2]⟩,⟨.some 130,.move (.s 7),.some (127,true),5,[1,0,2]⟩,⟨.some 131,.move (.s 15),.some (127,true),6,[1,0,2]⟩,⟨.some 132,.idxSl 1 (.s 130) (.s 131),.some (127,true),7,[6,2,0,1,5]⟩,⟨.some 133,.load (.s 132),.some (127,true),8,[5,1,0,2,6,7]⟩,⟨.some 134,.move (.s 17),.some (127,true),9,[1,0,2]⟩,⟨.some 135,.call (.c (.func 85 [] [])) [.s 129,.s 133,.s 134],.some (127,true),10,[9,7,6,5,8,2,0,1,4]⟩,⟨.some 136,.call (.c (.func 37 [] [])) [.s 128,.s 135],.some (127,true),11,[4,8,5,6,7,9,10,2,0,1,3]⟩,⟨.some 137,.pick (.s 127) (.s 136) (.c (.bool false)),.none,12,[3,10,9,7,6,5,8,4,11,1,0,2]⟩] k) (.cond (.s 137) (.reg [⟨.some 138,.move (.s 14),.none,0,[]⟩,⟨.some 139,.move (.s 15),.none,1,[]⟩,⟨.some 140,.move (.s 17),.none,2,[]⟩,⟨.some 141,.idxSl 1 (.s 138) (.s 139),.none,3,[]⟩,⟨.none,.store 1 (.s 141) (.s 140),.none,4,[]⟩] k) .skip))))))) (.reg [⟨.some 86,.move (.s 15),.none,0,[]⟩,⟨.some 87,.bin .add (.s 86) (.c (.int .i64 1)),.none,1,[]⟩,⟨.some 15,.move
    (.s 87),.none,2,[]⟩] k)))))) (.reg [⟨.some 142,.mkslice 0 1 [] [],.none,0,[]⟩,⟨.some 143,.off 1 (.s 2),.none,1,[]⟩,⟨.some 144,.load (.s 143),.none,2,[]⟩,⟨.some 145,.append 1 24 (.s 142) (.s 144),.none,3,[]⟩,⟨.some 146,.move (.s 14),.none,4,[]⟩,⟨.some 147,.mkslice 1 1 [.nilslice] [(0,(1,(.s 146)))],.none,5,[]⟩,⟨.some 148,.append 1 24 (.s 145) (.s 147),.none,6,[]⟩,⟨.some 149,.off 1 (.s 2),.none,7,[]⟩,⟨.none,.store 1 (.s 149) (.s 148),.none,8,[]⟩] k))))))) (.reg [⟨.some 55,.move (.s 12),.none,0,[]⟩,⟨.some 56,.bin .add (.s 55) (.c (.int .i64 1)),.none,1,[]⟩,⟨.some 12,.move (.s 56),.none,2,[]⟩] k)))))) (.seq (.reg [⟨.some 150,.loadN 2 (.s 2),.none,0,[]⟩,⟨.some 151,.move (.s 7),.none,1,[]⟩,⟨.some 152,.move (.s 8),.none,2,[]⟩,⟨.none,.store 2 (.s 4) (.s 150),.none,3,[]⟩,⟨.some 5,.move (.s 151),.none,4,[]⟩,⟨.some 6,.move (.s 152),.none,5,[]⟩] k) .ret))))))),res := [.cellN 2 4,.slot 5,.slot 6]}
def c37 : AFunc :=
  {nt := 11,body := (.seq (.reg [⟨.some 3,.box (.s 1),.none,0,[]⟩,⟨.some 4,.move (.c (.bool false)),.none,1,[]⟩] [0,1,3,4]) (.seq (.reg [⟨.some 5,.move (.s 0),.none,0,[]⟩,⟨.some 6,.off 0 (.s 3),.none,1,[]⟩,⟨.some 7,.load (.s 6),.none,2,[]⟩,⟨.some 8,.off 1 (.s 3),.none,3,[]⟩,⟨.some 9,.load (.s 8),.none,4,[]⟩,⟨.some 10,.call (.c (.func 53 [] [])) [.s 5,.s 7,.s 9],.none,5,[]⟩,⟨.some 4,.move (.s 10),.none,6,[]⟩] [0,1,3,4]) .ret)),res := [.slot 4]}
def c38 : AFunc :=
  {nt := 11,body := (.seq (.reg [⟨.some 1,.box (.s 0),.none,0,[]⟩,⟨.some 2,.move (.c (.bool false)),.none,1,[]⟩] [0,1,2]) (.seq (.reg [⟨.some 3,.off 0 (.s 1),.none,0,[]⟩,⟨.some 4,.load (.s 3),.none,1,[]⟩,⟨.some 5,.call (.c (.func 53 [] [])) [.s 4,.c (.int .i64 1),.c (.int .i64 300)],.none,2,[]⟩,⟨.some 6,.move (.s 5),.none,3,[]⟩,⟨.some 7,.off 1 (.s 1),.some (6,true),4,[]⟩,⟨.some 8,.load (.s 7),.some (6,true),5,[]⟩,⟨.some 9,.call (.c (.func 53 [] [])) [.s 8,.c (.int .i64 1),.c (.int .i64 300)],.some (6,true),6,[]⟩,⟨.some 10,.pick (.s 6) (.s 9) (.c (.bool false)),.none,7,[]⟩,⟨.some 2,.move (.s 10),.none,8,[]⟩] [0,1,2]) .ret)),res := [.slot 2]}
def c39 : AFunc :=
  {nt := 17,body := (.seq (.reg [⟨.some 3,.box (.s 0),.none,0,[]⟩,⟨.some 4,.box (.s 1),.none,1,[]⟩,⟨.some 5,.box (.s 2),.none,2,[]⟩,⟨.some 6,.move (.c (.bool false)),.none,3,[]⟩] [0,1,2,3,4,5,6]) (.seq (.reg [⟨.some 7,.loadN 2 (.s 3),.none,0,[]⟩,⟨.some 8,.loadN 2 (.s 4),.none,1,[]⟩,⟨.some 9,.call (.c (.func 42 [] [])) [.s 7,.s 8],.none,2,[]⟩,⟨.some 10,.un .not (.s 9),.none,3,[]⟩,⟨.some 11,.move (.s 10),.none,4,[]⟩,⟨.some 12,.loadN 2 (.s 5),.some (11,true),5,[]⟩,⟨.some 13,.loadN 2 (.s 3),.some (11,true),6,[]⟩,⟨.some 14,.call (.c (.func 42 [] [])) [.s 12,.s 13],.some (11,true),7,[]⟩,⟨.some 15,.un .not (.s 14),.some (11,true),8,[]⟩,⟨.some 16,.pick (.s 11) (.s 15) (.c (.bool false)),.none,9,[]⟩,⟨.some 6,.move (.s 16),.none,10,[]⟩] [0,1,2,3,4,5,6]) .ret)),res := [.slot 6]}
def c40 : AFunc :=
  let k:List Nat:=[0,1,4,5]
  {nt := 19,body := (.seq (.reg [⟨.some 4,.alloc [.int .i64 0,.int .i64 0],.none,0,[]⟩] k) (.seq (.reg [⟨.some 6,.move (.s 0),.none,0,[]⟩,⟨.some 7,.move (.s 0),.none,1,[]⟩,⟨.some 8,.bin .sub (.c (.int .i64 0)) (.s 7),.none,2,[]⟩,⟨.some 9,.maxInt (.s 6) [.s 8],.none,3,[]⟩,⟨.some 10,.move (.s 1),.none,4,[]⟩,⟨.some 11,.call (.c (.func 86 [] [])) [.s 9,.s 10],.none,5,[]⟩,⟨.some 5,.move (.s 11),.none,6,[]⟩] k) (.seq (.draw [⟨.some 12,.move (.s 0),.none,0,[]⟩,⟨.some 13,.move (.s 5),.none,1,[]⟩,⟨.some 14,.bin .quo (.s 12) (.s 13),.none,2,[1,0]⟩,⟨.some 15,.move (.s 1),.none,3,[]⟩,⟨.some 16,.move (.s 5),.none,4,[]⟩,⟨.some 17,.bin .quo (.s 15) (.s 16),.none,5,[4,3]⟩,⟨.some 18,.build [.int .i64 0,.int .i64 0] [(0,(1,(.s 14))),(1,(1,(.s 17)))],.none,6,[3,4,5,0,1,2]⟩,⟨.none,.store 2 (.s 4) (.s 18),.none,7,[2,1,0,5,4,3,6]⟩] k) .ret))),res := [.cellN 2 4]}
def c42 : AFunc :=
  {nt := 16,body := (.seq (.reg [⟨.some 2,.box (.s 0),.none,0,[]⟩,⟨.some 3,.box (.s 1),.none,1,[]⟩,⟨.some 4,.move (.c (.bool false)),.none,2,[]⟩] [0,1,2,3,4]) (.seq (.reg [⟨.some 5,.off 0 (.s 2),.none,0,[]⟩,⟨.some 6,.load (.s 5),.none,1,[]⟩,⟨.some 7,.off 1 (.s 3),.none,2,[]⟩,⟨.some 8,.load (.s 7),.none,3,[]⟩,⟨.some 9,.bin .mul (.s 6) (.s 8),.none,4,[]⟩,⟨.some 10,.off 0 (.s 3),.none,5,[]⟩,⟨.some 11,.load (.s 10),.none,6,[]⟩,⟨.some 12,.off 1 (.s 2),.none,7,[]⟩,⟨.some 13,.load (.s 12),.none,8,[]⟩,⟨.some 14,.bin .mul (.s 11) (.s 13),.none,9,[]⟩,⟨.some 15,.bin .lss (.s 9) (.s 14),.none,10,[]⟩,⟨.some 4,.move (.s 15),.none,11,[]⟩] [0,1,2,3,4]) .ret)),res := [.slot 4]}
def c53 : AFunc :=
  {nt := 15,body := (.seq (.reg [⟨.some 6,.move (.c (.bool false)),.none,0,[]⟩] [0,1,2,6]) (.seq (.reg [⟨.some 7,.move (.s 1),.none,0,[]⟩,⟨.some 8,.move (.s 0),.none,1,[]⟩,⟨.some 9,.bin .leq (.s 7) (.s 8),.none,2,[]⟩,⟨.some 10,.move (.s 9),.none,3,[]⟩,⟨.some 11,.move (.s 0),.some (10,true),4,[]⟩,⟨.some 12,.move (.s 2),.some (10,true),5,[]⟩,⟨.some 13,.bin .leq (.s 11) (.s 12),.some (10,true),6,[]⟩,⟨.some 14,.pick (.s 10) (.s 13) (.c (.bool false)),.none,7,[]⟩,⟨.some 6,.move (.s 14),.none,8,[]⟩] [0,1,2,6]) .ret)),res := [.slot 6]}
def c55 : AFunc :=
  let k:List Nat:=[0,1,2,6,7,8,9,10,14,15,16,17,18,27]
  {nt := 31,body := (.seq (.reg [⟨.some 6,.move (.c (.int .i64 0)),.none,0,[]⟩,⟨.some 7,.move (.c (.int .i64 0)),.none,1,[]⟩] k) (.seq (.seq (.reg [⟨.some 11,.move (.s 0),.none,0,[]⟩,⟨.some 12,.len false (.s 11),.none,1,[]⟩,⟨.some 13,.move (.s 1),.none,2,[]⟩,⟨.some 14,.bin .gtr (.s 12) (.s 13),.none,3,[]⟩] k) (.cond (.s 14) (.seq (.reg [⟨.some 6,.move (.c (.int .i64 0)),.none,0,[]⟩,⟨.some 7,.move (.c (.int .i64 3)),.none,1,[]⟩] k) .ret) .skip)) (.seq (.seq (.reg [⟨.some 15,.move (.s 0),.none,0,[]⟩,⟨.some 16,.len false (.s 15),.none,1,[]⟩,⟨.some 17,.move (.c (.int .i64 0)),.none,2,[]⟩] k) (.block 0 (.loop (.seq (.reg [⟨.some 18,.bin .lss (.s 17) (.s 16),.none,0,[]⟩] k) (.seq (.cond (.s 18) .skip (.exit 0)) (.seq (.block 1 (.seq (.reg [⟨.some 19,.move (.s 17),.none,0,[]⟩,⟨.some 20,.idxSl 4 (.s 15) (.s 17),.none,1,[]⟩,⟨.some 21,.loadN 4 (.s 20),.none,2,[]⟩,⟨.some 9,.alloc [.str (bs []),.int .i64 0,.int .i64 0,.int .i64 0],.none,3,[]⟩,⟨.some 8,.move (.s 19),.none,4,[]⟩,⟨.none,.store 4 (.s 9) (.s 21),.none,5,[]⟩] k) (.seq (.reg [⟨.some 22,.move (.s 2),.none,0,[]⟩,⟨.some 23,.move (.s 8),.none,1,[]⟩,⟨.some 24,.loadN 4 (.s 9),.none,2,[]⟩,⟨.some 25,.call (.s 22) [.s 23,.s 24],.none,3,[]⟩,⟨.some 10,.move (.s 25),.none,4,[]⟩] k) (.seq (.reg [⟨.some 26,.move (.s 10),.none,0,[]⟩,⟨.some 27,.bin .neq (.s 26) (.c (.int .i64 0)),.none,1,[]⟩] k) (.cond (.s 27) (.seq (.reg [⟨.some 28,.move (.s 8),.none,0,[]⟩,⟨.some 29,.move (.s 10),.none,1,[]⟩,⟨.some 6,.move (.s 28),.none,2,[]⟩,⟨.some 7,.move (.s 29),.none,3,[]⟩] k) .ret) .skip))))) (.reg [⟨.some 30,.bin .add (.s 17) (.c (.int .i64 1)),.none,0,[]⟩,⟨.some 17,.move (.s 30),.none,1,[]⟩] k))))))) (.seq (.reg [⟨.some 6,.move (.c (.int .i64 0)),.none,0,[]⟩,⟨.some 7,.move (.c (.int .i64 0)),.none,1,[]⟩] k) .ret)))),res := [.slot 6,.slot 7]}
def c56 : AFunc :=
  let k:List Nat:=[0,1,2,4,5,7,8,9,10,11,21]
  {nt := 25,body := (.seq (.reg [⟨.some 4,.box (.s 1),.none,0,[]⟩,⟨.some 5,.move (.c (.int .i64 0)),.none,1,[]⟩] k) (.seq (.seq (.reg [⟨.some 8,.call (.c (.func 57 [] [])) [],.none,0,[]⟩,⟨.some 9,.len false (.s 8),.none,1,[]⟩,⟨.some 10,.move (.c (.int .i64 0)),.none,2,[]⟩] k) (.block 0 (.loop (.seq (.reg [⟨.some 11,.bin .lss (.s 10) (.s 9),.none,0,[]⟩] k) (.seq (.cond (.s 11) .skip (.exit 0)) (.seq (.block 1 (.seq (.reg [⟨.some 12,.idxSl 2 (.s 8) (.s 10),.none,0,[]⟩,⟨.some 13,.loadN 2 (.s 12),.none,1,[]⟩,⟨.some 7,.alloc [.int .i64 0,.nilfunc],.none,2,[]⟩,⟨.none,.store 2 (.s 7) (.s 13),.none,3,[]⟩] k) (.seq (.draw [⟨.some 14,.off 1 (.s 7),.none,0,[]⟩,⟨.some 15,.load (.s 14),.none,1,[0]⟩,⟨.some 16,.loadN 4 (.s 4),.none,2,[]⟩,⟨.some 17,.off 0 (.s 2),.none,3,[]⟩,⟨.some 18,.load (.s 17),.none,4,[3]⟩,⟨.some 19,.move (.s 0),.none,5,[]⟩,⟨.some 20,.sliceSl 4 (.s 18) .none (.some (.s 19)),.none,6,[5,3,4]⟩,⟨.some 21,.call (.s 15) [.s 16,.s 20],.none,7,[4,3,5,6,2,0,1]⟩] k) (.cond (.s 21) (.seq (.reg [⟨.some 22,.off 0 (.s 7),.none,0,[]⟩,⟨.some 23,.load (.s 22),.none,1,[]⟩,⟨.some 5,.move (.s 23),.none,2,[]⟩] k) .ret) .skip)))) (.reg [⟨.some 24,.bin .add (.s 10) (.c (.int .i64 1)),.none,0,[]⟩,⟨.some 10,.move (.s 24),.none,1,[]⟩] k))))))) (.seq (.reg [⟨.some 5,.move (.c (.int .i64 0)),.none,0,[]⟩] k) .ret))),res := [.slot 5]}
def c57 : AFunc :=
  {nt := 6,body := (.seq (.reg [⟨.some 0,.move (.c .nilslice),.none,0,[]⟩] [0]) (.seq (.reg [⟨.some 1,.build [.int .i64 0,.nilfunc] [(0,(1,(.c (.int .i64 6)))),(1,(1,(.c (.func 89 [] []))))],.none,0,[]⟩,⟨.some 2,.build [.int .i64 0,.nilfunc] [(0,(1,(.c (.int .i64 5)))),(1,(1,(.c (.func 91 [] []))))],.none,1,[]⟩,⟨.some 3,.build [.int .i64 0,.nilfunc] [(0,(1,(.c (.int .i64 7)))),(1,(1,(.c (.func 94 [] []))))],.none,2,[]⟩,⟨.some 4,.build [.int .i64 0,.nilfunc] [(0,(1,(.c (.int .i64 2)))),(1,(1,(.c (.func 95 [] []))))],.none,3,[]⟩,⟨.some 5,.mkslice 4 2 [.int .i64 0,.nilfunc,.int .i64 0,.nilfunc,.int .i64 0,.nilfunc,.int .i64 0,.nilfunc] [(0,(2,(.s 1))),(2,(2,(.s 2))),(4,(2,(.s 3))),(6,(2,(.s 4)))],.none,4,[]⟩,⟨.some 0,.move (.s 5),.none,5,[]⟩] [0]) .ret)),res := [.slot 0]}
def c58 : AFunc :=
  let k:List Nat:=[0,1,2,6,7,8,9,10,14,15,16,17,18,27]
  {nt := 31,body := (.seq (.reg [⟨.some 6,.move (.c (.int .i64 0)),.none,0,[]⟩,⟨.some 7,.move (.c (.int .i64 0)),.none,1,[]⟩] k) (.seq (.seq (.reg [⟨.some 11,.move (.s 0),.none,0,[]⟩,⟨.some 12,.len false (.s 11),.none,1,[]⟩,⟨.some 13,.move (.s 1),.none,2,[]⟩,⟨.some 14,.bin .gtr (.s 12) (.s 13),.none,3,[]⟩] k) (.cond (.s 14) (.seq (.reg [⟨.some 6,.move (.c (.int .i64 0)),.none,0,[]⟩,⟨.some 7,.move (.c (.int .i64 3)),.none,1,[]⟩] k) .ret) .skip)) (.seq (.seq (.reg [⟨.some 15,.move (.s 0),.none,0,[]⟩,⟨.some 16,.len false (.s 15),.none,1,[]⟩,⟨.some 17,.move (.c (.int .i64 0)),.none,2,[]⟩] k) (.block 0 (.loop (.seq (.reg [⟨.some 18,.bin .lss (.s 17) (.s 16),.none,0,[]⟩] k) (.seq (.cond (.s 18) .skip (.exit 0)) (.seq (.block 1 (.seq (.reg [⟨.some 19,.move (.s 17),.none,0,[]⟩,⟨.some 20,.idxSl 1 (.s 15) (.s 17),.none,1,[]⟩,⟨.some 21,.load (.s 20),.none,2,[]⟩,⟨.some 8,.move (.s 19),.none,3,[]⟩,⟨.some 9,.move (.s 21),.none,4,[]⟩] k) (.seq (.reg [⟨.some 22,.move (.s 2),.none,0,[]⟩,⟨.some 23,.move (.s 8),.none,1,[]⟩,⟨.some 24,.move (.s 9),.none,2,[]⟩,⟨.some 25,.call (.s 22) [.s 23,.s 24],.none,3,[]⟩,⟨.some 10,.move (.s 25),.none,4,[]⟩] k) (.seq (.reg [⟨.some 26,.move (.s 10),.none,0,[]⟩,⟨.some 27,.bin .neq (.s 26) (.c (.int .i64 0)),.none,1,[]⟩] k) (.cond (.s 27) (.seq (.reg [⟨.some 28,.move (.s 8),.none,0,[]⟩,⟨.some 29,.move (.s 10),.none,1,[]⟩,⟨.some 6,.move (.s 28),.none,2,[]⟩,⟨.some 7,.move (.s 29),.none,3,[]⟩] k) .ret) .skip))))) (.reg [⟨.some 30,.bin .add (.s 17) (.c (.int .i64 1)),.none,0,[]⟩,⟨.some 17,.move (.s 30),.none,1,[]⟩] k))))))) (.seq (.reg [⟨.some 6,.move (.c (.int .i64 0)),.none,0,[]⟩,⟨.some 7,.move (.c (.int .i64 0)),.none,1,[]⟩] k) .ret)))),res := [.slot 6,.slot 7]}
def c59 : AFunc :=
  let k:List Nat:=[1,2,5,6,13]
  {nt := 16,body := (.seq (.reg [⟨.some 5,.move (.c (.int .i64 0)),.none,0,[]⟩] k) (.seq (.block 0 (.seq (.reg [⟨.some 7,.move (.s 1),.none,0,[]⟩,⟨.some 8,.len false (.s 7),.none,1,[]⟩,⟨.some 9,.off 0 (.s 2),.none,2,[]⟩,⟨.some 10,.load (.s 9),.none,3,[]⟩,⟨.some 11,.len false (.s 10),.none,4,[]⟩,⟨.some 12,.bin .neq (.s 8) (.s 11),.none,5,[]⟩,⟨.some 6,.move (.s 12),.none,6,[]⟩] k) (.cond (.s 6) (.seq (.reg [⟨.some 5,.move (.c (.int .i64 3)),.none,0,[]⟩] k) .ret) (.seq (.reg [⟨.some 14,.move (.s 1),.none,0,[]⟩,⟨.some 15,.call (.c (.func 60 [] [])) [.c (.int .i64 (-1)),.c (.int .i64 120),.s 14],.none,1,[]⟩,⟨.some 13,.move (.s 15),.none,2,[]⟩] k) (.cond (.s 13) (.seq (.reg [⟨.some 5,.move (.c (.int .i64 7)),.none,0,[]⟩] k) .ret) .skip))))) (.seq (.reg [⟨.some 5,.move (.c (.int .i64 0)),.none,0,[]⟩] k) .ret))),res := [.slot 5]}
def c60 : AFunc :=
  {nt := 10,body := (.seq (.reg [⟨.some 3,.box (.s 0),.none,0,[]⟩,⟨.some 4,.box (.s 1),.none,1,[]⟩,⟨.some 6,.move (.c (.bool false)),.none,2,[]⟩] [0,1,2,3,4,6]) (.seq (.reg [⟨.some 7,.move (.s 2),.none,0,[]⟩,⟨.some 8,.func 97 [] [.s 3,.s 4],.none,1,[]⟩,⟨.some 9,.call (.c (.func 96 [] [])) [.s 7,.s 8],.none,2,[]⟩,⟨.some 6,.move (.s 9),.none,3,[]⟩] [0,1,2,3,4,6]) .ret)),res := [.slot 6]}
def c61 : AFunc :=
  let k:List Nat:=[0,1,4,7,11]
  {nt := 12,body := (.seq (.reg [⟨.some 4,.move (.c (.int .i64 0)),.none,0,[]⟩] k) (.seq (.seq (.reg [⟨.some 5,.move (.s 0),.none,0,[]⟩,⟨.some 6,.call (.c (.func 98 [] [])) [.s 5],.none,1,[]⟩,⟨.some 7,.un .not (.s 6),.none,2,[]⟩] k) (.cond (.s 7) (.seq (.reg [⟨.some 4,.move (.c (.int .i64 6)),.none,0,[]⟩] k) .ret) .skip)) (.seq (.seq (.reg [⟨.some 8,.move (.s 1),.none,0,[]⟩,⟨.some 9,.move (.s 0),.none,1,[]⟩,⟨.some 10,.call (.c (.func 99 [] [])) [.s 8,.s 9],.none,2,[]⟩,⟨.some 11,.bin .geq (.s 10) (.c (.int .i64 0)),.none,3,[]⟩] k) (.cond (.s 11) (.seq (.reg [⟨.some 4,.move (.c (.int .i64 5)),.none,0,[]⟩] k) .ret) .skip)) (.seq (.reg [⟨.some 4,.move (.c (.int .i64 0)),.none,0,[]⟩] k) .ret)))),res := [.slot 4]}
def c62 : AFunc :=
  let k:List Nat:=[0,1,2,3,14,26]
  {nt := 27,body := (.seq (.reg [⟨.some 1,.box (.s 0),.none,0,[]⟩,⟨.some 2,.move (.c (.int .i64 0)),.none,1,[]⟩] k) (.seq (.reg [⟨.some 4,.off 1 (.s 1),.none,0,[]⟩,⟨.some 5,.loadN 2 (.s 4),.none,1,[]⟩,⟨.some 6,.call (.c (.func 100 [] [])) [.s 5,.c (.int .i64 1),.c (.int .i64 300)],.none,2,[]⟩,⟨.some 3,.move (.s 6),.none,3,[]⟩] k) (.seq (.seq (.reg [⟨.some 7,.move (.s 3),.none,0,[]⟩,⟨.some 8,.bin .eql (.s 7) (.c (.int .i64 7)),.none,1,[]⟩,⟨.some 9,.move (.s 8),.none,2,[]⟩,⟨.some 10,.off 3 (.s 1),.some (9,false),3,[]⟩,⟨.some 11,.load (.s 10),.some (9,false),4,[]⟩,⟨.some 12,.call (.c (.func 53 [] [])) [.s 11,.c (.int .i64 0),.c (.int .i64 9)],.some (9,false),5,[]⟩,⟨.some 13,.un .not (.s 12),.some (9,false),6,[]⟩,⟨.some 14,.pick (.s 9) (.c (.bool true)) (.s 13),.none,7,[]⟩] k) (.cond (.s 14) (.seq (.reg [⟨.some 2,.move (.c (.int .i64 7)),.none,0,[]⟩] k) .ret) .skip)) (.seq (.seq (.reg [⟨.some 15,.move (.s 3),.none,0,[]⟩,⟨.some 16,.bin .neq (.s 15) (.c (.int .i64 0)),.none,1,[]⟩,⟨.some 17,.move (.s 16),.none,2,[]⟩,⟨.some 18,.off 1 (.s 1),.some (17,false),3,[]⟩,⟨.some 19,.off 1 (.s 18),.some (17,false),4,[]⟩,⟨.some 20,.load (.s 19),.some (17,false),5,[]⟩,⟨.some 21,.off 1 (.s 1),.some (17,false),6,[]⟩,⟨.some 22,.off 0 (.s 21),.some (17,false),7,[]⟩,⟨.some 23,.load (.s 22),.some (17,false),8,[]⟩,⟨.some 24,.bin .sub (.s 20) (.s 23),.some (17,false),9,[]⟩,⟨.some 25,.bin .gtr (.s 24) (.c (.int .i64 6)),.some (17,false),10,[]⟩,⟨.some 26,.pick (.s 17) (.c (.bool true)) (.s 25),.none,11,[]⟩] k) (.cond (.s 26) (.seq (.reg [⟨.some 2,.move (.c (.int .i64 2)),.none,0,[]⟩] k) .ret) .skip)) (.seq (.reg [⟨.some 2,.move (.c (.int .i64 0)),.none,0,[]⟩] k) .ret))))),res := [.slot 2]}
def c63 : AFunc :=
  let k:List Nat:=[0,1,2,3,6,7,10,11,12,13,21,27,41,45,51]
  {nt := 53,body := (.seq (.reg [⟨.some 3,.box (.s 0),.none,0,[]⟩,⟨.some 6,.move (.c .nilptr),.none,1,[]⟩,⟨.some 7,.move (.c (.int .i64 0)),.none,2,[]⟩] k) (.seq (.seq (.reg [⟨.some 15,.loadN 2 (.s 3),.none,0,[]⟩,⟨.some 16,.call (.c (.func 16 [] [])) [.s 15],.none,1,[]⟩,⟨.some 14,.move (.s 16),.none,2,[]⟩,⟨.some 17,.extract 0 (.s 14),.none,3,[]⟩,⟨.some 18,.extract 1 (.s 14),.none,4,[]⟩,⟨.some 19,.extract 2 (.s 14),.none,5,[]⟩,⟨.some 8,.move (.s 17),.none,6,[]⟩,⟨.some 9,.move (.s 18),.none,7,[]⟩,⟨.some 10,.move (.s 19),.none,8,[]⟩] k) (.seq (.reg [⟨.some 20,.move (.s 10),.none,0,[]⟩,⟨.some 21,.bin .neq (.s 20) (.c (.int .i64 0)),.none,1,[]⟩] k) (.cond (.s 21) (.seq (.reg [⟨.some 22,.move (.s 10),.none,0,[]⟩,⟨.some 6,.move (.c .nilptr),.none,1,[]⟩,⟨.some 7,.move (.s 22),.none,2,[]⟩] k) .ret) .skip))) (.seq (.seq (.reg [⟨.some 11,.move (.c (.int .i64 0)),.none,0,[]⟩] k) (.block 0 (.loop (.seq (.seq (.reg [⟨.some 23,.move (.s 11),.none,0,[]⟩,⟨.some 24,.bin .add (.s 23) (.c (.int .i64 1)),.none,1,[]⟩,⟨.some 25,.move (.s 2),.none,2,[]⟩,⟨.some 26,.len false (.s 25),.none,3,[]⟩,⟨.some 27,.bin .lss (.s 24) (.s 26),.none,4,[]⟩] k) (.cond (.s 27) .skip (.exit 0))) (.seq (.block 1 (.seq (.draw [⟨.some 30,.move (.s 2),.none,0,[]⟩,⟨.some 31,.move (.s 11),.none,1,[]⟩,⟨.some 32,.bin .add (.s 31) (.c (.int .i64 1)),.none,2,[1]⟩,⟨.some 33,.idxSl 1 (.s 30) (.s 32),.none,3,[1,2,0]⟩,⟨.some 34,.load (.s 33),.none,4,[0,2,1,3]⟩,⟨.some 35,.bin .sub (.s 34) (.c (.int .i64 1)),.none,5,[3,1,2,0,4]⟩,⟨.some 36,.move (.s 2),.none,6,[]⟩,⟨.some 37,.move (.s 11),.none,7,[]⟩,⟨.some 38,.idxSl 1 (.s 36) (.s 37),.none,8,[7,6]⟩,⟨.some 39,.load (.s 38),.none,9,[6,7,8]⟩,⟨.some 40,.mkslice 1 1 [.int .i64 0] [(0,(1,(.s 39)))],.none,10,[8,7,6,9]⟩,⟨.some 41,.call (.c (.func 60 [] [])) [.c (.int .i64 0),.s 35,.s 40],.none,11,[9,6,7,8,10,4,0,2,1,3,5]⟩] k) (.cond (.s 41) (.seq (.reg [⟨.some 6,.move (.c .nilptr),.none,0,[]⟩,⟨.some 7,.move (.c (.int .i64 4)),.none,1,[]⟩] k) .ret) .skip))) (.reg [⟨.some 28,.move
    (.s 11),.none,0,[]⟩,⟨.some 29,.bin .add (.s 28) (.c (.int .i64 2)),.none,1,[]⟩,⟨.some 11,.move (.s 29),.none,2,[]⟩] k)))))) (.seq (.seq (.reg [⟨.some 42,.move (.s 1),.none,0,[]⟩,⟨.some 43,.call (.s 42) [],.none,1,[]⟩,⟨.some 12,.move (.s 43),.none,2,[]⟩] k) (.seq (.reg [⟨.some 44,.move (.s 12),.none,0,[]⟩,⟨.some 45,.bin .neq (.s 44) (.c (.int .i64 0)),.none,1,[]⟩] k) (.cond (.s 45) (.seq (.reg [⟨.some 46,.move (.s 12),.none,0,[]⟩,⟨.some 6,.move (.c .nilptr),.none,1,[]⟩,⟨.some 7,.move (.s 46),.none,2,[]⟩] k) .ret) .skip))) (.seq (.reg [⟨.some 47,.loadN 2 (.s 3),.none,0,[]⟩,⟨.some 48,.call (.c (.func 81 [] [])) [.s 47,.c (.int .i64 0)],.none,1,[]⟩,⟨.some 13,.move (.s 48),.none,2,[]⟩] k) (.seq (.seq (.reg [⟨.some 49,.move (.s 13),.none,0,[]⟩,⟨.some 50,.call (.c (.func 82 [] [])) [.s 49],.none,1,[]⟩,⟨.some 51,.un .not (.s 50),.none,2,[]⟩] k) (.cond (.s 51) (.seq (.reg [⟨.some 6,.move (.c .nilptr),.none,0,[]⟩,⟨.some 7,.move (.c (.int .i64 8)),.none,1,[]⟩] k) .ret) .skip)) (.seq (.reg [⟨.some 52,.move (.s 13),.none,0,[]⟩,⟨.some 6,.move (.s 52),.none,1,[]⟩,⟨.some 7,.move (.c (.int .i64 0)),.none,2,[]⟩] k) .ret))))))),res := [.slot 6,.slot 7]}
def c64 : AFunc :=
  {nt := 1,body := (.seq (.reg [⟨.some 0,.move (.c (.int .i64 0)),.none,0,[]⟩] [0]) (.seq (.reg [⟨.some 0,.move (.c (.int .i64 0)),.none,0,[]⟩] [0]) .ret)),res := [.slot 0]}
def c65 : AFunc :=
  let k:List Nat:=[0,2,3,5,6]
  {nt := 19,body := (.seq (.reg [⟨.some 2,.alloc [.int .i64 0,.int .i64 0],.none,0,[]⟩] k) (.seq (.reg [⟨.some 4,.build [.int .i64 0,.int .i64 0] [(0,(1,(.c (.int .i64 9223372036854775807)))),(1,(1,(.c (.int .i64 (-1)))))],.none,0,[]⟩,⟨.none,.store 2 (.s 2) (.s 4),.none,1,[]⟩] k) (.seq (.seq (.reg [⟨.some 5,.move (.s 0),.none,0,[]⟩] k) (.block 0 (.range (.s 5) [6] (.reg [⟨.some 3,.alloc [.int .i64 0,.int .i64 0],.none,0,[]⟩,⟨.none,.store 2 (.s 3) (.s 6),.none,1,[]⟩] k) (.block 1 (.reg [⟨.some 7,.off 0 (.s 2),.none,0,[]⟩,⟨.some 8,.load (.s 7),.none,1,[]⟩,⟨.some 9,.off 0 (.s 3),.none,2,[]⟩,⟨.some 10,.load (.s 9),.none,3,[]⟩,⟨.some 11,.minInt (.s 8) [.s 10],.none,4,[]⟩,⟨.some 12,.off 1 (.s 2),.none,5,[]⟩,⟨.some 13,.load (.s 12),.none,6,[]⟩,⟨.some 14,.off 1 (.s 3),.none,7,[]⟩,⟨.some 15,.load (.s 14),.none,8,[]⟩,⟨.some 16,.maxInt (.s 13) [.s 15],.none,9,[]⟩,⟨.some 17,.build [.int .i64 0,.int .i64 0] [(0,(1,(.s 11))),(1,(1,(.s 16)))],.none,10,[]⟩,⟨.none,.store 2 (.s 2) (.s 17),.none,11,[]⟩] k))))) (.seq (.reg [⟨.some 18,.loadN 2 (.s 2),.none,0,[]⟩,⟨.none,.store 2 (.s 2) (.s 18),.none,1,[]⟩] k) .ret)))),res := [.cellN 2 2]}
def c66 : AFunc :=
  let k:List Nat:=[0,1,2,3,4,6,7,18]
  {nt := 19,body := (.seq (.reg [⟨.some 3,.box (.s 0),.none,0,[]⟩] k) (.seq (.reg [⟨.some 5,.load (.s 1),.none,0,[]⟩,⟨.some 6,.call (.c (.func 67 [] [])) [.s 5],.none,1,[]⟩] k) (.block 0 (.range (.s 6) [7,8] (.reg [⟨.some 4,.alloc [.int .i64 0,.int .i64 0,.int .i64 0],.none,0,[]⟩,⟨.none,.store 3 (.s 4) (.s 7),.none,1,[]⟩] k) (.block 1 (.seq (.draw [⟨.some 9,.load (.s 3),.none,0,[]⟩,⟨.some 10,.load (.s 2),.none,1,[]⟩,⟨.some 11,.idxArr 3 1 (.s 4) (.s 10),.none,2,[1]⟩,⟨.some 12,.load (.s 11),.none,3,[1,2]⟩,⟨.some 13,.load (.s 2),.none,4,[]⟩,⟨.some 14,.idxArr 3 1 (.s 4) (.s 13),.none,5,[4]⟩,⟨.some 15,.load (.s 14),.none,6,[4,5]⟩,⟨.some 16,.build [.int .i64 0,.int .i64 0] [(0,(1,(.s 12))),(1,(1,(.s 15)))],.none,7,[5,4,6,2,1,3]⟩,⟨.some 17,.call (.s 9) [.s 16],.none,8,[3,1,2,6,4,5,7,0]⟩,⟨.some 18,.un .not (.s 17),.none,9,[0,7,5,4,6,2,1,3,8]⟩] k) (.cond (.s 18) .ret .skip))))))),res := []}
def c67 : AFunc :=
  {nt := 4,body := (.seq (.reg [⟨.some 1,.box (.s 0),.none,0,[]⟩,⟨.some 2,.move (.c .nilfunc),.none,1,[]⟩] [0,1,2]) (.seq (.reg [⟨.some 3,.func 101 [] [.s 1],.none,0,[]⟩,⟨.some 2,.move (.s 3),.none,1,[]⟩] [0,1,2]) .ret)),res := [.slot 2]}
def c71 : AFunc :=
  let k:List Nat:=[0,1,2,3,5,7,9,15]
  {nt := 16,body := (.seq (.reg [⟨.some 3,.box (.s 0),.none,0,[]⟩] k) (.seq (.reg [⟨.some 6,.load (.s 1),.none,0,[]⟩,⟨.some 7,.call (.c (.func 67 [] [])) [.s 6],.none,1,[]⟩] k) (.block 0 (.range (.s 7) [8,9] (.reg [⟨.some 5,.alloc [.int .i64 0,.int .i64 0,.int .i64 0,.int .i64 0,.int .i64 0,.int .i64 0,.int .i64 0,.int .i64 0],.none,0,[]⟩,⟨.none,.store 8 (.s 5) (.s 9),.none,1,[]⟩] k) (.block 1 (.seq (.draw [⟨.some 10,.load (.s 3),.none,0,[]⟩,⟨.some 11,.load (.s 2),.none,1,[]⟩,⟨.some 12,.idxArr 4 2 (.s 5) (.s 11),.none,2,[1]⟩,⟨.some 13,.loadN 2 (.s 12),.none,3,[1,2]⟩,⟨.some 14,.call (.s 10) [.s 13],.none,4,[2,1,3,0]⟩,⟨.some 15,.un .not (.s 14),.none,5,[0,3,1,2,4]⟩] k) (.cond (.s 15) .ret .skip))))))),res := []}
def c73 : AFunc :=
  let k:List Nat:=[0,1,2,3,12]
  {nt := 13,body := (.seq (.reg [⟨.some 3,.move (.c (.int .i64 0)),.none,0,[]⟩] k) (.seq (.seq (.draw [⟨.some 4,.off 1 (.s 0),.none,0,[]⟩,⟨.some 5,.load (.s 4),.none,1,[0]⟩,⟨.some 6,.load (.s 1),.none,2,[]⟩,⟨.some 7,.idxSl 1 (.s 5) (.s 6),.none,3,[2,0,1]⟩,⟨.some 8,.load (.s 7),.none,4,[1,0,2,3]⟩,⟨.some 9,.load (.s 2),.none,5,[]⟩,⟨.some 10,.idxSl 1 (.s 8) (.s 9),.none,6,[5,3,2,0,1,4]⟩,⟨.some 11,.load (.s 10),.none,7,[4,1,0,2,3,5,6]⟩,⟨.some 12,.bin .neq (.s 11) (.c (.int .i64 (-1))),.none,8,[6,5,3,2,0,1,4,7]⟩] k) (.cond (.s 12) (.seq (.reg [⟨.some 3,.move (.c (.int .i64 5)),.none,0,[]⟩] k) .ret) .skip)) (.seq (.reg [⟨.some 3,.move (.c (.int .i64 0)),.none,0,[]⟩] k) .ret))),res := [.slot 3]}
def c74 : AFunc :=
  let k:List Nat:=[0,1,2,3,4,5,6,7,8,9,16,17,18,59]
  {nt := 60,body := (.seq (.reg [⟨.some 5,.box (.s 0),.none,0,[]⟩] k) (.seq (.reg [⟨.some 10,.off 0 (.s 1),.none,0,[]⟩,⟨.some 11,.load (.s 10),.none,1,[]⟩,⟨.some 12,.load (.s 2),.none,2,[]⟩,⟨.some 13,.idxSl 4 (.s 11) (.s 12),.none,3,[]⟩,⟨.some 14,.loadN 4 (.s 13),.none,4,[]⟩,⟨.some 6,.alloc [.str (bs []),.int .i64 0,.int .i64 0,.int .i64 0],.none,5,[]⟩,⟨.none,.store 4 (.s 6) (.s 14),.none,6,[]⟩] k) (.seq (.reg [⟨.some 15,.load (.s 3),.none,0,[]⟩,⟨.some 16,.call (.c (.func 67 [] [])) [.s 15],.none,1,[]⟩] k) (.block 0 (.range (.s 16) [17,18] (.seq (.reg [⟨.some 7,.alloc [.int .i64 0,.int .i64 0,.int .i64 0],.none,0,[]⟩,⟨.none,.store 3 (.s 7) (.s 17),.none,1,[]⟩] k) (.reg [⟨.some 8,.alloc [.int .i64 0,.int .i64 0,.int .i64 0,.int .i64 0,.int .i64 0,.int .i64 0,.int .i64 0,.int .i64 0],.none,0,[]⟩,⟨.none,.store 8 (.s 8) (.s 18),.none,1,[]⟩] k)) (.block 1 (.seq (.draw [⟨.some 19,.load (.s 4),.none,0,[]⟩,⟨.some 20,.idxArr 4 2 (.s 8) (.s 19),.none,1,[0]⟩,⟨.some 21,.off 0 (.s 20),.none,2,[0,1]⟩,⟨.some 22,.load (.s 21),.none,3,[1,0,2]⟩,⟨.some 23,.load (.s 2),.none,4,[]⟩,⟨.some 24,.idxArr 3 1 (.s 7) (.s 23),.none,5,[4]⟩,⟨.some 25,.load (.s 24),.none,6,[4,5]⟩,⟨.some 26,.bin .add (.s 22) (.s 25),.none,7,[5,4,6,2,0,1,3]⟩,⟨.some 27,.bin .sub (.s 26) (.c (.int .i64 1)),.none,8,[3,1,0,2,6,4,5,7]⟩,⟨.some 28,.load (.s 2),.none,9,[]⟩,⟨.some 29,.idxArr 3 1 (.s 7) (.s 28),.none,10,[9]⟩,⟨.some 30,.load (.s 29),.none,11,[9,10]⟩,⟨.some 31,.bin .quo (.s 27) (.s 30),.none,12,[10,9,11,7,5,4,6,2,0,1,3,8]⟩,⟨.some 32,.off 3 (.s 6),.none,13,[]⟩,⟨.some 33,.load (.s 32),.none,14,[13]⟩,⟨.some 34,.bin .sub (.s 31) (.s 33),.none,15,[13,14,8,3,1,0,2,6,4,5,7,11,9,10,12]⟩,⟨.some 35,.maxInt (.c (.int .i64 0)) [.s 34],.none,16,[12,10,9,11,7,5,4,6,2,0,1,3,8,14,13,15]⟩,⟨.some 36,.load (.s 4),.none,17,[]⟩,⟨.some 37,.idxArr 4 2 (.s 8) (.s 36),.none,18,[17]⟩,⟨.some 38,.off 1 (.s 37),.none,19,[17,18]⟩,⟨.some 39,.load (.s 38),.none,20,[18,17,19]⟩,⟨.some 40,.load (.s 2),.none,21,[]⟩,⟨.some 41,.idxArr 3 1 (.s 7)
    (.s 40),.none,22,[21]⟩,⟨.some 42,.load (.s 41),.none,23,[21,22]⟩,⟨.some 43,.bin .quo (.s 39) (.s 42),.none,24,[22,21,23,19,17,18,20]⟩,⟨.some 44,.off 3 (.s 6),.none,25,[]⟩,⟨.some 45,.load (.s 44),.none,26,[25]⟩,⟨.some 46,.bin .add (.s 43) (.s 45),.none,27,[25,26,20,18,17,19,23,21,22,24]⟩,⟨.some 47,.minInt (.c (.int .i64 120)) [.s 46],.none,28,[24,22,21,23,19,17,18,20,26,25,27]⟩,⟨.some 48,.build [.int .i64 0,.int .i64 0] [(0,(1,(.s 35))),(1,(1,(.s 47)))],.none,29,[27,25,26,20,18,17,19,23,21,22,24,28,15,13,14,8,3,1,0,2,6,4,5,7,11,9,10,12,16]⟩,⟨.some 9,.alloc [.int .i64 0,.int .i64 0],.none,30,[]⟩,⟨.none,.store 2 (.s 9) (.s 48),.none,31,[16,12,10,9,11,7,5,4,6,2,0,1,3,8,14,13,15,28,24,22,21,23,19,17,18,20,26,25,27,29,30]⟩] k) (.seq (.reg [⟨.some 49,.off 0 (.s 9),.none,0,[]⟩,⟨.some 50,.load (.s 49),.none,1,[]⟩,⟨.some 51,.off 1 (.s 9),.none,2,[]⟩,⟨.some 52,.load (.s 51),.none,3,[]⟩,⟨.some 53,.bin .leq (.s 50) (.s 52),.none,4,[]⟩,⟨.some 54,.move (.s 53),.none,5,[]⟩,⟨.some 55,.load (.s 5),.some (54,true),6,[]⟩,⟨.some 56,.loadN 2 (.s 9),.some (54,true),7,[]⟩,⟨.some 57,.call (.s 55) [.s 56],.some (54,true),8,[]⟩,⟨.some 58,.un .not (.s 57),.some (54,true),9,[]⟩,⟨.some 59,.pick (.s 54) (.s 58) (.c (.bool false)),.none,10,[]⟩] k) (.cond (.s 59) .ret .skip))))))))),res := []}
def c75 : AFunc :=
  let k:List Nat:=[0,1,2,4,5,6,7,8,9,11,12,28,37]
  {nt := 41,body := (.seq (.reg [⟨.some 4,.box (.s 1),.none,0,[]⟩,⟨.some 5,.box (.s 2),.none,1,[]⟩,⟨.some 6,.alloc [.int .i64 0,.int .i64 0],.none,2,[]⟩,⟨.some 7,.alloc [.int .i64 0,.int .i64 0],.none,3,[]⟩] k) (.seq (.seq (.reg [⟨.some 10,.move (.s 0),.none,0,[]⟩,⟨.some 11,.call (.c (.func 67 [] [])) [.s 10],.none,1,[]⟩] k) (.block 0 (.range (.s 11) [12,13] (.reg [⟨.some 8,.alloc [.int .i64 0,.int .i64 0,.int .i64 0],.none,0,[]⟩,⟨.none,.store 3 (.s 8) (.s 12),.none,1,[]⟩] k) (.block 1 (.seq (.draw [⟨.some 14,.load (.s 4),.none,0,[]⟩,⟨.some 15,.idxArr 3 1 (.s 8) (.s 14),.none,1,[0]⟩,⟨.some 16,.load (.s 15),.none,2,[0,1]⟩,⟨.some 17,.load (.s 5),.none,3,[]⟩,⟨.some 18,.idxArr 3 1 (.s 8) (.s 17),.none,4,[3]⟩,⟨.some 19,.load (.s 18),.none,5,[3,4]⟩,⟨.some 9,.alloc [.int .i64 0,.int .i64 0],.none,7,[]⟩,⟨.some 20,.call (.c (.func 77 [] [])) [.s 16,.s 19],.none,6,[4,3,5,1,0,2]⟩,⟨.none,.store 2 (.s 9) (.s 20),.none,8,[2,0,1,5,3,4,6,7]⟩] k) (.seq (.seq (.reg [⟨.some 21,.off 1 (.s 6),.none,0,[]⟩,⟨.some 22,.load (.s 21),.none,1,[]⟩,⟨.some 23,.bin .eql (.s 22) (.c (.int .i64 0)),.none,2,[]⟩,⟨.some 24,.move (.s 23),.none,3,[]⟩,⟨.some 25,.loadN 2 (.s 9),.some (24,false),4,[]⟩,⟨.some 26,.loadN 2 (.s 6),.some (24,false),5,[]⟩,⟨.some 27,.call (.c (.func 78 [] [])) [.s 25,.s 26],.some (24,false),6,[]⟩,⟨.some 28,.pick (.s 24) (.c (.bool true)) (.s 27),.none,7,[]⟩] k) (.cond (.s 28) (.reg [⟨.some 29,.loadN 2 (.s 9),.none,0,[]⟩,⟨.none,.store 2 (.s 6) (.s 29),.none,1,[]⟩] k) .skip)) (.seq (.reg [⟨.some 30,.off 1 (.s 7),.none,0,[]⟩,⟨.some 31,.load (.s 30),.none,1,[]⟩,⟨.some 32,.bin .eql (.s 31) (.c (.int .i64 0)),.none,2,[]⟩,⟨.some 33,.move (.s 32),.none,3,[]⟩,⟨.some 34,.loadN 2 (.s 7),.some (33,false),4,[]⟩,⟨.some 35,.loadN 2 (.s 9),.some (33,false),5,[]⟩,⟨.some 36,.call (.c (.func 78 [] [])) [.s 34,.s 35],.some (33,false),6,[]⟩,⟨.some 37,.pick (.s 33) (.c (.bool true)) (.s 36),.none,7,[]⟩] k) (.cond (.s 37) (.reg [⟨.some 38,.loadN 2 (.s 9),.none,0,[]⟩,⟨.none,.store 2 (.s 7) (.s
    38),.none,1,[]⟩] k) .skip)))))))) (.seq (.draw [⟨.some 39,.loadN 2 (.s 6),.none,0,[]⟩,⟨.some 40,.loadN 2 (.s 7),.none,1,[]⟩,⟨.none,.store 2 (.s 6) (.s 39),.none,2,[0]⟩,⟨.none,.store 2 (.s 7) (.s 40),.none,3,[0,2,1]⟩] k) .ret))),res := [.cellN 2 6,.cellN 2 7]}
def c77 : AFunc :=
  let k:List Nat:=[0,1,4,5,6,10]
  {nt := 22,body := (.seq (.reg [⟨.some 4,.alloc [.int .i64 0,.int .i64 0],.none,0,[]⟩] k) (.seq (.reg [⟨.some 7,.move (.s 0),.none,0,[]⟩,⟨.some 8,.move (.s 1),.none,1,[]⟩,⟨.some 5,.move (.s 7),.none,2,[]⟩,⟨.some 6,.move (.s 8),.none,3,[]⟩] k) (.seq (.block 0 (.loop (.seq (.seq (.reg [⟨.some 9,.move (.s 6),.none,0,[]⟩,⟨.some 10,.bin .neq (.s 9) (.c (.int .i64 0)),.none,1,[]⟩] k) (.cond (.s 10) .skip (.exit 0))) (.block 1 (.draw [⟨.some 11,.move (.s 6),.none,0,[]⟩,⟨.some 12,.move (.s 5),.none,1,[]⟩,⟨.some 13,.move (.s 6),.none,2,[]⟩,⟨.some 14,.bin .rem (.s 12) (.s 13),.none,3,[2,1]⟩,⟨.some 5,.move (.s 11),.none,4,[1,0]⟩,⟨.some 6,.move (.s 14),.none,5,[0,4,1,2,3]⟩] k))))) (.seq (.draw [⟨.some 15,.move (.s 0),.none,0,[]⟩,⟨.some 16,.move (.s 5),.none,1,[]⟩,⟨.some 17,.bin .quo (.s 15) (.s 16),.none,2,[1,0]⟩,⟨.some 18,.move (.s 1),.none,3,[]⟩,⟨.some 19,.move (.s 5),.none,4,[]⟩,⟨.some 20,.bin .quo (.s 18) (.s 19),.none,5,[4,3]⟩,⟨.some 21,.build [.int .i64 0,.int .i64 0] [(0,(1,(.s 17))),(1,(1,(.s 20)))],.none,6,[3,4,5,0,1,2]⟩,⟨.none,.store 2 (.s 4) (.s 21),.none,7,[2,1,0,5,4,3,6]⟩] k) .ret)))),res := [.cellN 2 4]}
def c78 : AFunc :=
  {nt := 16,body := (.seq (.reg [⟨.some 2,.box (.s 0),.none,0,[]⟩,⟨.some 3,.box (.s 1),.none,1,[]⟩,⟨.some 4,.move (.c (.bool false)),.none,2,[]⟩] [0,1,2,3,4]) (.seq (.reg [⟨.some 5,.off 0 (.s 2),.none,0,[]⟩,⟨.some 6,.load (.s 5),.none,1,[]⟩,⟨.some 7,.off 1 (.s 3),.none,2,[]⟩,⟨.some 8,.load (.s 7),.none,3,[]⟩,⟨.some 9,.bin .mul (.s 6) (.s 8),.none,4,[]⟩,⟨.some 10,.off 0 (.s 3),.none,5,[]⟩,⟨.some 11,.load (.s 10),.none,6,[]⟩,⟨.some 12,.off 1 (.s 2),.none,7,[]⟩,⟨.some 13,.load (.s 12),.none,8,[]⟩,⟨.some 14,.bin .mul (.s 11) (.s 13),.none,9,[]⟩,⟨.some 15,.bin .lss (.s 9) (.s 14),.none,10,[]⟩,⟨.some 4,.move (.s 15),.none,11,[]⟩] [0,1,2,3,4]) .ret)),res := [.slot 4]}
def c79 : AFunc :=
  let k:List Nat:=[0,1,2,3,4,5,6,7,8,16]
  {nt := 18,body := (.seq (.reg [⟨.some 3,.box (.s 0),.none,0,[]⟩,⟨.some 4,.box (.s 1),.none,1,[]⟩,⟨.some 5,.box (.s 2),.none,2,[]⟩,⟨.some 6,.move (.c .nilslice),.none,3,[]⟩] k) (.seq (.reg [⟨.some 7,.alloc [.nilslice],.none,0,[]⟩] k) (.seq (.reg [⟨.some 8,.alloc [.nilfunc],.none,0,[]⟩] k) (.seq (.reg [⟨.some 9,.func 104 [] [.s 7,.s 4,.s 5,.s 3,.s 8],.none,0,[]⟩,⟨.none,.store 1 (.s 8) (.s 9),.none,1,[]⟩] k) (.seq (.seq (.reg [⟨.some 10,.load (.s 4),.none,0,[]⟩,⟨.some 11,.bin .eql (.s 10) (.c (.int .i64 0)),.none,1,[]⟩,⟨.some 12,.move (.s 11),.none,2,[]⟩,⟨.some 13,.load (.s 8),.some (12,false),3,[]⟩,⟨.some 14,.call (.s 13) [.c (.int .i64 0),.c (.int .i64 0)],.some (12,false),4,[]⟩,⟨.some 15,.un .not (.s 14),.some (12,false),5,[]⟩,⟨.some 16,.pick (.s 12) (.c (.bool true)) (.s 15),.none,6,[]⟩] k) (.cond (.s 16) (.seq (.reg [⟨.some 6,.move (.c .nilslice),.none,0,[]⟩] k) .ret) .skip)) (.seq (.reg [⟨.some 17,.load (.s 7),.none,0,[]⟩,⟨.some 6,.move (.s 17),.none,1,[]⟩] k) .ret)))))),res := [.slot 6]}
def c80 : AFunc :=
  {nt := 8,body := (.seq (.reg [⟨.some 3,.move (.c (.bool false)),.none,0,[]⟩] [0,1,3]) (.seq (.reg [⟨.some 4,.loadN 2 (.s 1),.none,0,[]⟩,⟨.some 5,.move (.s 0),.none,1,[]⟩,⟨.some 6,.call (.c (.func 81 [] [])) [.s 4,.s 5],.none,2,[]⟩,⟨.some 7,.call (.c (.func 82 [] [])) [.s 6],.none,3,[]⟩,⟨.some 3,.move (.s 7),.none,4,[]⟩] [0,1,3]) .ret)),res := [.slot 3]}
def c81 : AFunc :=
  {nt := 10,body := (.seq (.reg [⟨.some 2,.box (.s 0),.none,0,[]⟩,⟨.some 4,.move (.c .nilptr),.none,1,[]⟩] [0,1,2,4]) (.seq (.reg [⟨.some 5,.loadN 2 (.s 2),.none,0,[]⟩,⟨.some 6,.move (.s 1),.none,1,[]⟩,⟨.some 7,.makeMap,.none,2,[]⟩,⟨.some 8,.build [.nilslice,.nilslice,.int .i64 0,.nilmap] [(0,(2,(.s 5))),(2,(1,(.s 6))),(3,(1,(.s 7)))],.none,3,[]⟩,⟨.some 9,.box (.s 8),.none,4,[]⟩,⟨.some 4,.move (.s 9),.none,5,[]⟩] [0,1,2,4]) .ret)),res := [.slot 4]}
def c82 : AFunc :=
  let k:List Nat:=[0,2,4]
  {nt := 7,body := (.seq (.reg [⟨.some 2,.alloc [.bool false],.none,0,[]⟩] k) (.seq (.seq (.reg [⟨.some 3,.move (.s 0),.none,0,[]⟩,⟨.some 4,.call (.c (.func 67 [] [])) [.s 3],.none,1,[]⟩] k) (.block 0 (.range (.s 4) [5,6] .skip (.block 1 (.seq (.reg [⟨.none,.store 1 (.s 2) (.c (.bool true)),.none,0,[]⟩] k) .ret))))) (.seq (.reg [⟨.none,.store 1 (.s 2) (.c (.bool false)),.none,0,[]⟩] k) .ret))),res := [.cell 2]}
def c84 : AFunc :=
  let k:List Nat:=[0,1,4,7]
  {nt := 16,body := (.seq (.reg [⟨.some 4,.move (.c (.int .i64 0)),.none,0,[]⟩] k) (.seq (.seq (.reg [⟨.some 5,.move (.s 0),.none,0,[]⟩,⟨.some 6,.len false (.s 5),.none,1,[]⟩,⟨.some 7,.bin .eql (.s 6) (.c (.int .i64 0)),.none,2,[]⟩] k) (.cond (.s 7) (.seq (.reg [⟨.some 4,.move (.c (.int .i64 0)),.none,0,[]⟩] k) .ret) .skip)) (.seq (.reg [⟨.some 8,.move (.s 0),.none,0,[]⟩,⟨.some 9,.move (.s 1),.none,1,[]⟩,⟨.some 10,.move (.s 0),.none,2,[]⟩,⟨.some 11,.len false (.s 10),.none,3,[]⟩,⟨.some 12,.bin .rem (.s 9) (.s 11),.none,4,[]⟩,⟨.some 13,.idxSl 1 (.s 8) (.s 12),.none,5,[]⟩,⟨.some 14,.load (.s 13),.none,6,[]⟩,⟨.some 15,.toInt .i64 (.s 14),.none,7,[]⟩,⟨.some 4,.move (.s 15),.none,8,[]⟩] k) .ret))),res := [.slot 4]}
def c85 : AFunc :=
  {nt := 21,body := (.seq (.reg [⟨.some 3,.box (.s 0),.none,0,[]⟩,⟨.some 6,.alloc [.int .i64 0,.int .i64 0],.none,1,[]⟩] [0,1,2,3,6]) (.seq (.reg [⟨.some 7,.move (.s 1),.none,0,[]⟩,⟨.some 8,.move (.s 2),.none,1,[]⟩,⟨.some 9,.off 3 (.s 3),.none,2,[]⟩,⟨.some 10,.load (.s 9),.none,3,[]⟩,⟨.some 11,.bin .sub (.s 8) (.s 10),.none,4,[]⟩,⟨.some 12,.maxInt (.c (.int .i64 0)) [.s 11],.none,5,[]⟩,⟨.some 13,.bin .mul (.s 7) (.s 12),.none,6,[]⟩,⟨.some 14,.move (.s 1),.none,7,[]⟩,⟨.some 15,.move (.s 2),.none,8,[]⟩,⟨.some 16,.off 3 (.s 3),.none,9,[]⟩,⟨.some 17,.load (.s 16),.none,10,[]⟩,⟨.some 18,.bin .add (.s 15) (.s 17),.none,11,[]⟩,⟨.some 19,.bin .mul (.s 14) (.s 18),.none,12,[]⟩,⟨.some 20,.build [.int .i64 0,.int .i64 0] [(0,(1,(.s 13))),(1,(1,(.s 19)))],.none,13,[]⟩,⟨.none,.store 2 (.s 6) (.s 20),.none,14,[]⟩] [0,1,2,3,6]) .ret)),res := [.cellN 2 6]}
def c86 : AFunc :=
  let k:List Nat:=[0,1,4,5,7]
  {nt := 14,body := (.seq (.reg [⟨.some 4,.move (.c (.int .i64 0)),.none,0,[]⟩] k) (.seq (.block 0 (.loop (.seq (.seq (.reg [⟨.some 6,.move (.s 1),.none,0,[]⟩,⟨.some 7,.bin .neq (.s 6) (.c (.int .i64 0)),.none,1,[]⟩] k) (.cond (.s 7) .skip (.exit 0))) (.block 1 (.seq (.reg [⟨.some 8,.move (.s 0),.none,0,[]⟩,⟨.some 9,.move (.s 1),.none,1,[]⟩,⟨.some 10,.bin .rem (.s 8) (.s 9),.none,2,[]⟩,⟨.some 5,.move (.s 10),.none,3,[]⟩] k) (.seq (.reg [⟨.some 11,.move (.s 1),.none,0,[]⟩,⟨.some 0,.move (.s 11),.none,1,[]⟩] k) (.reg [⟨.some 12,.move (.s 5),.none,0,[]⟩,⟨.some 1,.move (.s 12),.none,1,[]⟩] k))))))) (.seq (.reg [⟨.some 13,.move (.s 0),.none,0,[]⟩,⟨.some 4,.move (.s 13),.none,1,[]⟩] k) .ret))),res := [.slot 4]}
def c89 : AFunc :=
  {nt := 9,body := (.seq (.reg [⟨.some 2,.box (.s 0),.none,0,[]⟩,⟨.some 4,.move (.c (.bool false)),.none,1,[]⟩] [0,2,4]) (.seq (.reg [⟨.some 5,.off 0 (.s 2),.none,0,[]⟩,⟨.some 6,.load (.s 5),.none,1,[]⟩,⟨.some 7,.call (.c (.func 90 [] [])) [.s 6],.none,2,[]⟩,⟨.some 8,.un .not (.s 7),.none,3,[]⟩,⟨.some 4,.move (.s 8),.none,4,[]⟩] [0,2,4]) .ret)),res := [.slot 4]}
def c90 : AFunc :=
  let k:List Nat:=[0,2,3,4,6,7,8,11,18]
  {nt := 38,body := (.seq (.reg [⟨.some 2,.move (.c (.bool false)),.none,0,[]⟩] k) (.seq (.seq (.reg [⟨.some 5,.move (.s 0),.none,0,[]⟩,⟨.some 6,.rangeStr (.s 5),.none,1,[]⟩] k) (.block 0 (.loop (.seq (.reg [⟨.some 7,.nextStr (.s 6),.none,0,[]⟩,⟨.some 8,.extract 0 (.s 7),.none,1,[]⟩] k) (.seq (.cond (.s 8) .skip (.exit 0)) (.block 1 (.seq (.reg [⟨.some 9,.extract 1 (.s 7),.none,0,[]⟩,⟨.some 10,.extract 2 (.s 7),.none,1,[]⟩,⟨.some 3,.move (.s 9),.none,2,[]⟩,⟨.some 4,.move (.s 10),.none,3,[]⟩] k) (.block 2 (.seq (.reg [⟨.some 12,.move (.s 4),.none,0,[]⟩,⟨.some 13,.bin .geq (.s 12) (.c (.int .i32 97)),.none,1,[]⟩,⟨.some 14,.move (.s 13),.none,2,[]⟩,⟨.some 15,.move (.s 4),.some (14,true),3,[]⟩,⟨.some 16,.bin .leq (.s 15) (.c (.int .i32 122)),.some (14,true),4,[]⟩,⟨.some 17,.pick (.s 14) (.s 16) (.c (.bool false)),.none,5,[]⟩,⟨.some 11,.move (.s 17),.none,6,[]⟩] k) (.cond (.s 11) .skip (.seq (.reg [⟨.some 19,.move (.s 3),.none,0,[]⟩,⟨.some 20,.bin .gtr (.s 19) (.c (.int .i64 0)),.none,1,[]⟩,⟨.some 21,.move (.s 20),.none,2,[]⟩,⟨.some 22,.move (.s 4),.some (21,true),3,[]⟩,⟨.some 23,.bin .eql (.s 22) (.c (.int .i32 46)),.some (21,true),4,[]⟩,⟨.some 24,.move (.s 23),.some (21,true),5,[]⟩,⟨.some 25,.move (.s 4),.some (24,false),6,[]⟩,⟨.some 26,.bin .geq (.s 25) (.c (.int .i32 48)),.some (24,false),7,[]⟩,⟨.some 27,.move (.s 26),.some (24,false),8,[]⟩,⟨.some 28,.move (.s 4),.some (27,true),9,[]⟩,⟨.some 29,.bin .leq (.s 28) (.c (.int .i32 57)),.some (27,true),10,[]⟩,⟨.some 30,.pick (.s 27) (.s 29) (.c (.bool false)),.some (24,false),11,[]⟩,⟨.some 31,.pick (.s 24) (.c (.bool true)) (.s 30),.some (21,true),12,[]⟩,⟨.some 32,.pick (.s 21) (.s 31) (.c (.bool false)),.none,13,[]⟩,⟨.some 18,.move (.s 32),.none,14,[]⟩] k) (.cond (.s 18) .skip (.seq (.reg [⟨.some 2,.move (.c (.bool false)),.none,0,[]⟩] k) .ret))))))))))))) (.seq (.reg [⟨.some 33,.move (.s 0),.none,0,[]⟩,⟨.some 34,.len true (.s 33),.none,1,[]⟩,⟨.some 35,.mkslice 1 1 [.int .i64 0] [(0,(1,(.s 34)))],.none,2,[]⟩,⟨.some
    36,.call (.c (.func 105 [] [])) [.c (.int .i64 1),.c (.int .i64 16),.s 35],.none,3,[]⟩,⟨.some 37,.un .not (.s 36),.none,4,[]⟩,⟨.some 2,.move (.s 37),.none,5,[]⟩] k) .ret))),res := [.slot 2]}
def c91 : AFunc :=
  {nt := 8,body := (.seq (.reg [⟨.some 2,.box (.s 0),.none,0,[]⟩,⟨.some 4,.move (.c (.bool false)),.none,1,[]⟩] [0,1,2,4]) (.seq (.reg [⟨.some 5,.move (.s 1),.none,0,[]⟩,⟨.some 6,.func 93 [] [.s 2],.none,1,[]⟩,⟨.some 7,.call (.c (.func 92 [] [])) [.s 5,.s 6],.none,2,[]⟩,⟨.some 4,.move (.s 7),.none,3,[]⟩] [0,1,2,4]) .ret)),res := [.slot 4]}
def c92 : AFunc :=
  {nt := 9,body := (.seq (.reg [⟨.some 4,.move (.c (.bool false)),.none,0,[]⟩] [0,1,4]) (.seq (.reg [⟨.some 5,.move (.s 0),.none,0,[]⟩,⟨.some 6,.move (.s 1),.none,1,[]⟩,⟨.some 7,.call (.c (.func 106 [] [])) [.s 5,.s 6],.none,2,[]⟩,⟨.some 8,.bin .geq (.s 7) (.c (.int .i64 0)),.none,3,[]⟩,⟨.some 4,.move (.s 8),.none,4,[]⟩] [0,1,4]) .ret)),res := [.slot 4]}
def c93 : AFunc :=
  {nt := 9,body := (.seq (.reg [⟨.some 2,.box (.s 0),.none,0,[]⟩,⟨.some 3,.move (.c (.bool false)),.none,1,[]⟩] [0,1,2,3]) (.seq (.reg [⟨.some 4,.off 0 (.s 2),.none,0,[]⟩,⟨.some 5,.load (.s 4),.none,1,[]⟩,⟨.some 6,.off 0 (.s 1),.none,2,[]⟩,⟨.some 7,.load (.s 6),.none,3,[]⟩,⟨.some 8,.bin .eql (.s 5) (.s 7),.none,4,[]⟩,⟨.some 3,.move (.s 8),.none,5,[]⟩] [0,1,2,3]) .ret)),res := [.slot 3]}
def c94 : AFunc :=
  {nt := 19,body := (.seq (.reg [⟨.some 2,.box (.s 0),.none,0,[]⟩,⟨.some 4,.move (.c (.bool false)),.none,1,[]⟩] [0,2,4]) (.seq (.reg [⟨.some 5,.off 1 (.s 2),.none,0,[]⟩,⟨.some 6,.off 0 (.s 5),.none,1,[]⟩,⟨.some 7,.load (.s 6),.none,2,[]⟩,⟨.some 8,.off 1 (.s 2),.none,3,[]⟩,⟨.some 9,.off 1 (.s 8),.none,4,[]⟩,⟨.some 10,.load (.s 9),.none,5,[]⟩,⟨.some 11,.mkslice 2 1 [.int .i64 0,.int .i64 0] [(0,(1,(.s 7))),(1,(1,(.s 10)))],.none,6,[]⟩,⟨.some 12,.call (.c (.func 60 [] [])) [.c (.int .i64 1),.c (.int .i64 300),.s 11],.none,7,[]⟩,⟨.some 13,.move (.s 12),.none,8,[]⟩,⟨.some 14,.off 3 (.s 2),.some (13,false),9,[]⟩,⟨.some 15,.load (.s 14),.some (13,false),10,[]⟩,⟨.some 16,.mkslice 1 1 [.int .i64 0] [(0,(1,(.s 15)))],.some (13,false),11,[]⟩,⟨.some 17,.call (.c (.func 60 [] [])) [.c (.int .i64 0),.c (.int .i64 9),.s 16],.some (13,false),12,[]⟩,⟨.some 18,.pick (.s 13) (.c (.bool true)) (.s 17),.none,13,[]⟩,⟨.some 4,.move (.s 18),.none,14,[]⟩] [0,2,4]) .ret)),res := [.slot 4]}
def c95 : AFunc :=
  {nt := 14,body := (.seq (.reg [⟨.some 2,.box (.s 0),.none,0,[]⟩,⟨.some 4,.move (.c (.bool false)),.none,1,[]⟩] [0,2,4]) (.seq (.reg [⟨.some 5,.off 1 (.s 2),.none,0,[]⟩,⟨.some 6,.off 1 (.s 5),.none,1,[]⟩,⟨.some 7,.load (.s 6),.none,2,[]⟩,⟨.some 8,.off 1 (.s 2),.none,3,[]⟩,⟨.some 9,.off 0 (.s 8),.none,4,[]⟩,⟨.some 10,.load (.s 9),.none,5,[]⟩,⟨.some 11,.bin .sub (.s 7) (.s 10),.none,6,[]⟩,⟨.some 12,.mkslice 1 1 [.int .i64 0] [(0,(1,(.s 11)))],.none,7,[]⟩,⟨.some 13,.call (.c (.func 60 [] [])) [.c (.int .i64 0),.c (.int .i64 6),.s 12],.none,8,[]⟩,⟨.some 4,.move (.s 13),.none,9,[]⟩] [0,2,4]) .ret)),res := [.slot 4]}
def c96 : AFunc :=
  {nt := 9,body := (.seq (.reg [⟨.some 4,.move (.c (.bool false)),.none,0,[]⟩] [0,1,4]) (.seq (.reg [⟨.some 5,.move (.s 0),.none,0,[]⟩,⟨.some 6,.move (.s 1),.none,1,[]⟩,⟨.some 7,.call (.c (.func 107 [] [])) [.s 5,.s 6],.none,2,[]⟩,⟨.some 8,.bin .geq (.s 7) (.c (.int .i64 0)),.none,3,[]⟩,⟨.some 4,.move (.s 8),.none,4,[]⟩] [0,1,4]) .ret)),res := [.slot 4]}
def c97 : AFunc :=
  {nt := 13,body := (.seq (.reg [⟨.some 4,.move (.c (.bool false)),.none,0,[]⟩] [0,1,2,4]) (.seq (.reg [⟨.some 5,.move (.s 0),.none,0,[]⟩,⟨.some 6,.load (.s 1),.none,1,[]⟩,⟨.some 7,.bin .lss (.s 5) (.s 6),.none,2,[]⟩,⟨.some 8,.move (.s 7),.none,3,[]⟩,⟨.some 9,.move (.s 0),.some (8,false),4,[]⟩,⟨.some 10,.load (.s 2),.some (8,false),5,[]⟩,⟨.some 11,.bin .gtr (.s 9) (.s 10),.some (8,false),6,[]⟩,⟨.some 12,.pick (.s 8) (.c (.bool true)) (.s 11),.none,7,[]⟩,⟨.some 4,.move (.s 12),.none,8,[]⟩] [0,1,2,4]) .ret)),res := [.slot 4]}
def c98 : AFunc :=
  let k:List Nat:=[0,2,3,13,17,37]
  {nt := 38,body := (.seq (.reg [⟨.some 2,.move (.c (.bool false)),.none,0,[]⟩] k) (.seq (.seq (.reg [⟨.some 4,.move (.s 0),.none,0,[]⟩,⟨.some 5,.len true (.s 4),.none,1,[]⟩,⟨.some 6,.call (.c (.func 53 [] [])) [.s 5,.c (.int .i64 1),.c (.int .i64 16)],.none,2,[]⟩,⟨.some 7,.un .not (.s 6),.none,3,[]⟩,⟨.some 8,.move (.s 7),.none,4,[]⟩,⟨.some 9,.move (.s 0),.some (8,false),5,[]⟩,⟨.some 10,.byteAt (.s 9) (.c (.int .i64 0)),.some (8,false),6,[]⟩,⟨.some 11,.call (.c (.func 108 [] [])) [.s 10],.some (8,false),7,[]⟩,⟨.some 12,.un .not (.s 11),.some (8,false),8,[]⟩,⟨.some 13,.pick (.s 8) (.c (.bool true)) (.s 12),.none,9,[]⟩] k) (.cond (.s 13) (.seq (.reg [⟨.some 2,.move (.c (.bool false)),.none,0,[]⟩] k) .ret) .skip)) (.seq (.seq (.reg [⟨.some 3,.move (.c (.int .i64 1)),.none,0,[]⟩] k) (.block 0 (.loop (.seq (.seq (.reg [⟨.some 14,.move (.s 3),.none,0,[]⟩,⟨.some 15,.move (.s 0),.none,1,[]⟩,⟨.some 16,.len true (.s 15),.none,2,[]⟩,⟨.some 17,.bin .lss (.s 14) (.s 16),.none,3,[]⟩] k) (.cond (.s 17) .skip (.exit 0))) (.seq (.block 1 (.seq (.reg [⟨.some 20,.move (.s 0),.none,0,[]⟩,⟨.some 21,.move (.s 3),.none,1,[]⟩,⟨.some 22,.byteAt (.s 20) (.s 21),.none,2,[]⟩,⟨.some 23,.call (.c (.func 108 [] [])) [.s 22],.none,3,[]⟩,⟨.some 24,.un .not (.s 23),.none,4,[]⟩,⟨.some 25,.move (.s 24),.none,5,[]⟩,⟨.some 26,.move (.s 0),.some (25,true),6,[]⟩,⟨.some 27,.move (.s 3),.some (25,true),7,[]⟩,⟨.some 28,.byteAt (.s 26) (.s 27),.some (25,true),8,[]⟩,⟨.some 29,.call (.c (.func 109 [] [])) [.s 28],.some (25,true),9,[]⟩,⟨.some 30,.un .not (.s 29),.some (25,true),10,[]⟩,⟨.some 31,.pick (.s 25) (.s 30) (.c (.bool false)),.none,11,[]⟩,⟨.some 32,.move (.s 31),.none,12,[]⟩,⟨.some 33,.move (.s 0),.some (32,true),13,[]⟩,⟨.some 34,.move (.s 3),.some (32,true),14,[]⟩,⟨.some 35,.byteAt (.s 33) (.s 34),.some (32,true),15,[]⟩,⟨.some 36,.bin .neq (.s 35) (.c (.int .u8 46)),.some (32,true),16,[]⟩,⟨.some 37,.pick (.s 32) (.s 36) (.c (.bool false)),.none,17,[]⟩] k) (.cond (.s 37) (.seq (.reg [⟨.some 2,.move (.c
    (.bool false)),.none,0,[]⟩] k) .ret) .skip))) (.reg [⟨.some 18,.move (.s 3),.none,0,[]⟩,⟨.some 19,.bin .add (.s 18) (.c (.int .i64 1)),.none,1,[]⟩,⟨.some 3,.move (.s 19),.none,2,[]⟩] k)))))) (.seq (.reg [⟨.some 2,.move (.c (.bool true)),.none,0,[]⟩] k) .ret)))),res := [.slot 2]}
def c99 : AFunc :=
  let k:List Nat:=[0,1,4,5,9,17]
  {nt := 19,body := (.seq (.reg [⟨.some 4,.move (.c (.int .i64 0)),.none,0,[]⟩] k) (.seq (.seq (.reg [⟨.some 5,.move (.c (.int .i64 0)),.none,0,[]⟩] k) (.block 0 (.loop (.seq (.seq (.reg [⟨.some 6,.move (.s 5),.none,0,[]⟩,⟨.some 7,.move (.s 0),.none,1,[]⟩,⟨.some 8,.len false (.s 7),.none,2,[]⟩,⟨.some 9,.bin .lss (.s 6) (.s 8),.none,3,[]⟩] k) (.cond (.s 9) .skip (.exit 0))) (.seq (.block 1 (.seq (.reg [⟨.some 12,.move (.s 0),.none,0,[]⟩,⟨.some 13,.move (.s 5),.none,1,[]⟩,⟨.some 14,.idxSl 1 (.s 12) (.s 13),.none,2,[]⟩,⟨.some 15,.load (.s 14),.none,3,[]⟩,⟨.some 16,.move (.s 1),.none,4,[]⟩,⟨.some 17,.bin .eql (.s 15) (.s 16),.none,5,[]⟩] k) (.cond (.s 17) (.seq (.reg [⟨.some 18,.move (.s 5),.none,0,[]⟩,⟨.some 4,.move (.s 18),.none,1,[]⟩] k) .ret) .skip))) (.reg [⟨.some 10,.move (.s 5),.none,0,[]⟩,⟨.some 11,.bin .add (.s 10) (.c (.int .i64 1)),.none,1,[]⟩,⟨.some 5,.move (.s 11),.none,2,[]⟩] k)))))) (.seq (.reg [⟨.some 4,.move (.c (.int .i64 (-1))),.none,0,[]⟩] k) .ret))),res := [.slot 4]}
def c100 : AFunc :=
  let k:List Nat:=[0,1,2,3,6,7,22]
  {nt := 28,body := (.seq (.reg [⟨.some 3,.box (.s 0),.none,0,[]⟩,⟨.some 6,.move (.c (.int .i64 0)),.none,1,[]⟩] k) (.seq (.block 0 (.seq (.reg [⟨.some 8,.off 0 (.s 3),.none,0,[]⟩,⟨.some 9,.load (.s 8),.none,1,[]⟩,⟨.some 10,.move (.s 1),.none,2,[]⟩,⟨.some 11,.move (.s 2),.none,3,[]⟩,⟨.some 12,.call (.c (.func 53 [] [])) [.s 9,.s 10,.s 11],.none,4,[]⟩,⟨.some 13,.un .not (.s 12),.none,5,[]⟩,⟨.some 14,.move (.s 13),.none,6,[]⟩,⟨.some 15,.off 1 (.s 3),.some (14,false),7,[]⟩,⟨.some 16,.load (.s 15),.some (14,false),8,[]⟩,⟨.some 17,.move (.s 1),.some (14,false),9,[]⟩,⟨.some 18,.move (.s 2),.some (14,false),10,[]⟩,⟨.some 19,.call (.c (.func 53 [] [])) [.s 16,.s 17,.s 18],.some (14,false),11,[]⟩,⟨.some 20,.un .not (.s 19),.some (14,false),12,[]⟩,⟨.some 21,.pick (.s 14) (.c (.bool true)) (.s 20),.none,13,[]⟩,⟨.some 7,.move (.s 21),.none,14,[]⟩] k) (.cond (.s 7) (.seq (.reg [⟨.some 6,.move (.c (.int .i64 7)),.none,0,[]⟩] k) .ret) (.seq (.reg [⟨.some 23,.off 0 (.s 3),.none,0,[]⟩,⟨.some 24,.load (.s 23),.none,1,[]⟩,⟨.some 25,.off 1 (.s 3),.none,2,[]⟩,⟨.some 26,.load (.s 25),.none,3,[]⟩,⟨.some 27,.bin .gtr (.s 24) (.s 26),.none,4,[]⟩,⟨.some 22,.move (.s 27),.none,5,[]⟩] k) (.cond (.s 22) (.seq (.reg [⟨.some 6,.move (.c (.int .i64 2)),.none,0,[]⟩] k) .ret) .skip))))) (.seq (.reg [⟨.some 6,.move (.c (.int .i64 0)),.none,0,[]⟩] k) .ret))),res := [.slot 6]}
def c101 : AFunc :=
  let k:List Nat:=[0,1,2,3,4,5]
  {nt := 11,body := (.seq (.reg [⟨.some 2,.box (.s 0),.none,0,[]⟩] k) (.seq (.reg [⟨.some 6,.load (.s 1),.none,0,[]⟩,⟨.some 7,.func 102 [.s 6] [],.none,1,[]⟩,⟨.some 3,.alloc [.nilfunc],.none,2,[]⟩,⟨.none,.store 1 (.s 3) (.s 7),.none,3,[]⟩] k) (.seq (.reg [⟨.some 4,.alloc [.int .i64 0,.int .i64 0,.int .i64 0],.none,0,[]⟩] k) (.seq (.reg [⟨.some 5,.alloc [.nilfunc],.none,0,[]⟩] k) (.seq (.reg [⟨.some 8,.func 103 [] [.s 1,.s 4,.s 5,.s 3,.s 2],.none,0,[]⟩,⟨.none,.store 1 (.s 5) (.s 8),.none,1,[]⟩] k) (.reg [⟨.some 9,.load (.s 5),.none,0,[]⟩,⟨.some 10,.call (.s 9) [.c (.int .i64 0)],.none,1,[]⟩] k)))))),res := []}
def c102 : AFunc :=
  let k:List Nat:=[0,1,2,5,6,7,8,9,18,19,20,21,45]
  {nt := 79,body := (.seq (.reg [⟨.some 5,.box (.s 2),.none,0,[]⟩,⟨.some 6,.alloc [.int .i64 0,.int .i64 0],.none,1,[]⟩] k) (.seq (.reg [⟨.some 10,.off 1 (.s 6),.none,0,[]⟩,⟨.none,.store 1 (.s 10) (.c (.int .i64 39999)),.none,1,[]⟩] k) (.seq (.seq (.reg [⟨.some 11,.move (.s 0),.none,0,[]⟩,⟨.some 12,.nilCheck (.s 11),.none,1,[]⟩,⟨.some 13,.off 0 (.s 12),.none,2,[]⟩,⟨.some 14,.off 1 (.s 13),.none,3,[]⟩,⟨.some 15,.load (.s 14),.none,4,[]⟩,⟨.some 16,.move (.s 1),.none,5,[]⟩,⟨.some 17,.idxSl 1 (.s 15) (.s 16),.none,6,[]⟩,⟨.some 18,.load (.s 17),.none,7,[]⟩,⟨.some 19,.len false (.s 18),.none,8,[]⟩,⟨.some 20,.move (.c (.int .i64 0)),.none,9,[]⟩] k) (.block 0 (.loop (.seq (.reg [⟨.some 21,.bin .lss (.s 20) (.s 19),.none,0,[]⟩] k) (.seq (.cond (.s 21) .skip (.exit 0)) (.seq (.block 1 (.seq (.reg [⟨.some 22,.move (.s 20),.none,0,[]⟩,⟨.some 23,.idxSl 1 (.s 18) (.s 20),.none,1,[]⟩,⟨.some 24,.load (.s 23),.none,2,[]⟩,⟨.some 7,.move (.s 22),.none,3,[]⟩,⟨.some 8,.move (.s 24),.none,4,[]⟩] k) (.seq (.seq (.draw [⟨.some 25,.move (.s 8),.none,0,[]⟩,⟨.some 26,.bin .eql (.s 25) (.c (.int .i64 (-1))),.none,1,[0]⟩,⟨.some 27,.move (.s 26),.none,2,[0,1]⟩,⟨.some 28,.move (.s 0),.some (27,false),3,[1,0,2]⟩,⟨.some 29,.nilCheck (.s 28),.some (27,false),4,[2,0,1,3]⟩,⟨.some 30,.off 2 (.s 29),.some (27,false),5,[3,1,0,2,4]⟩,⟨.some 31,.load (.s 30),.some (27,false),6,[4,2,0,1,3,5]⟩,⟨.some 32,.move (.s 1),.some (27,false),7,[1,0,2]⟩,⟨.some 33,.move (.s 0),.some (27,false),8,[1,0,2]⟩,⟨.some 34,.nilCheck (.s 33),.some (27,false),9,[2,0,1,8]⟩,⟨.some 35,.off 0 (.s 34),.some (27,false),10,[8,1,0,2,9]⟩,⟨.some 36,.off 0 (.s 35),.some (27,false),11,[9,2,0,1,8,10]⟩,⟨.some 37,.load (.s 36),.some (27,false),12,[10,8,1,0,2,9,11]⟩,⟨.some 38,.len false (.s 37),.some (27,false),13,[11,9,2,0,1,8,10,12]⟩,⟨.some 39,.bin .mul (.s 32) (.s 38),.some (27,false),14,[12,10,8,9,11,13,2,0,1,7]⟩,⟨.some 40,.move (.s 7),.some (27,false),15,[1,0,2]⟩,⟨.some 41,.bin .add (.s 39) (.s 40),.some
    (27,false),16,[15,7,1,0,2,13,11,9,8,10,12,14]⟩,⟨.some 42,.bin .shr (.s 31) (.s 41),.some (27,false),17,[14,12,10,8,9,11,13,7,15,16,5,3,1,0,2,4,6]⟩,⟨.some 43,.bin .and (.s 42) (.c (.int .i64 1)),.some (27,false),18,[6,4,2,0,1,3,5,16,15,7,13,11,9,8,10,12,14,17]⟩,⟨.some 44,.bin .eql (.s 43) (.c (.int .i64 1)),.some (27,false),19,[17,14,12,10,8,9,11,13,7,15,16,5,3,1,0,2,4,6,18]⟩,⟨.some 45,.pick (.s 27) (.c (.bool true)) (.s 44),.none,20,[18,6,4,3,5,16,15,7,13,11,9,8,10,12,14,17,19,1,0,2]⟩] k) (.cond (.s 45) (.exit 1) .skip)) (.seq (.reg [⟨.some 46,.move (.s 0),.none,0,[]⟩,⟨.some 47,.nilCheck (.s 46),.none,1,[]⟩,⟨.some 48,.off 0 (.s 47),.none,2,[]⟩,⟨.some 49,.off 0 (.s 48),.none,3,[]⟩,⟨.some 50,.load (.s 49),.none,4,[]⟩,⟨.some 51,.move (.s 7),.none,5,[]⟩,⟨.some 52,.idxSl 4 (.s 50) (.s 51),.none,6,[]⟩,⟨.some 53,.loadN 4 (.s 52),.none,7,[]⟩,⟨.some 9,.alloc [.str (bs []),.int .i64 0,.int .i64 0,.int .i64 0],.none,8,[]⟩,⟨.none,.store 4 (.s 9) (.s 53),.none,9,[]⟩] k) (.draw [⟨.some 54,.off 0 (.s 6),.none,0,[]⟩,⟨.some 55,.load (.s 54),.none,1,[0]⟩,⟨.some 56,.move (.s 7),.none,2,[]⟩,⟨.some 57,.idxArr 3 1 (.s 5) (.s 56),.none,3,[2]⟩,⟨.some 58,.load (.s 57),.none,4,[2,3]⟩,⟨.some 59,.move (.s 8),.none,5,[]⟩,⟨.some 60,.off 3 (.s 9),.none,6,[]⟩,⟨.some 61,.load (.s 60),.none,7,[6]⟩,⟨.some 62,.bin .sub (.s 59) (.s 61),.none,8,[6,7,5]⟩,⟨.some 63,.bin .mul (.s 58) (.s 62),.none,9,[5,7,6,8,3,2,4]⟩,⟨.some 64,.maxInt (.s 55) [.s 63],.none,10,[4,2,3,8,6,7,5,9,0,1]⟩,⟨.some 65,.off 1 (.s 6),.none,11,[]⟩,⟨.some 66,.load (.s 65),.none,12,[11]⟩,⟨.some 67,.move (.s 7),.none,13,[]⟩,⟨.some 68,.idxArr 3 1 (.s 5) (.s 67),.none,14,[13]⟩,⟨.some 69,.load (.s 68),.none,15,[13,14]⟩,⟨.some 70,.move (.s 8),.none,16,[]⟩,⟨.some 71,.off 3 (.s 9),.none,17,[]⟩,⟨.some 72,.load (.s 71),.none,18,[17]⟩,⟨.some 73,.bin .add (.s 70) (.s 72),.none,19,[17,18,16]⟩,⟨.some 74,.bin .mul (.s 69) (.s 73),.none,20,[16,18,17,19,14,13,15]⟩,⟨.some 75,.minInt (.s 66) [.s 74],.none,21,[15,13,14,19,17,18,16,20,11,12]⟩,⟨.some
    76,.build [.int .i64 0,.int .i64 0] [(0,(1,(.s 64))),(1,(1,(.s 75)))],.none,22,[12,11,20,16,18,17,19,14,13,15,21,1,0,9,5,7,6,8,3,2,4,10]⟩,⟨.none,.store 2 (.s 6) (.s 76),.none,23,[10,4,2,3,8,6,7,5,9,0,1,21,15,13,14,19,17,18,16,20,11,12,22]⟩] k))))) (.reg [⟨.some 77,.bin .add (.s 20) (.c (.int .i64 1)),.none,0,[]⟩,⟨.some 20,.move (.s 77),.none,1,[]⟩] k))))))) (.seq (.reg [⟨.some 78,.loadN 2 (.s 6),.none,0,[]⟩,⟨.none,.store 2 (.s 6) (.s 78),.none,1,[]⟩] k) .ret)))),res := [.cellN 2 6]}
def c103 : AFunc :=
  let k:List Nat:=[0,1,2,3,4,5,7,8,9,10,11,12,20,35,45,56,62,63,64,80]
  {nt := 109,body := (.seq (.reg [⟨.some 7,.move (.c (.bool false)),.none,0,[]⟩] k) (.seq (.seq (.reg [⟨.some 13,.move (.s 0),.none,0,[]⟩,⟨.some 14,.load (.s 1),.none,1,[]⟩,⟨.some 15,.nilCheck (.s 14),.none,2,[]⟩,⟨.some 16,.off 0 (.s 15),.none,3,[]⟩,⟨.some 17,.off 0 (.s 16),.none,4,[]⟩,⟨.some 18,.load (.s 17),.none,5,[]⟩,⟨.some 19,.len false (.s 18),.none,6,[]⟩,⟨.some 20,.bin .lss (.s 13) (.s 19),.none,7,[]⟩] k) (.cond (.s 20) (.seq (.reg [⟨.some 21,.load (.s 1),.none,0,[]⟩,⟨.some 22,.nilCheck (.s 21),.none,1,[]⟩,⟨.some 23,.off 0 (.s 22),.none,2,[]⟩,⟨.some 24,.off 0 (.s 23),.none,3,[]⟩,⟨.some 25,.load (.s 24),.none,4,[]⟩,⟨.some 26,.move (.s 0),.none,5,[]⟩,⟨.some 27,.idxSl 4 (.s 25) (.s 26),.none,6,[]⟩,⟨.some 28,.off 1 (.s 27),.none,7,[]⟩,⟨.some 29,.loadN 2 (.s 28),.none,8,[]⟩,⟨.some 8,.alloc [.int .i64 0,.int .i64 0],.none,9,[]⟩,⟨.none,.store 2 (.s 8) (.s 29),.none,10,[]⟩] k) (.seq (.seq (.reg [⟨.some 30,.off 0 (.s 8),.none,0,[]⟩,⟨.some 31,.load (.s 30),.none,1,[]⟩,⟨.some 9,.move (.s 31),.none,2,[]⟩] k) (.block 0 (.loop (.seq (.seq (.reg [⟨.some 32,.move (.s 9),.none,0,[]⟩,⟨.some 33,.off 1 (.s 8),.none,1,[]⟩,⟨.some 34,.load (.s 33),.none,2,[]⟩,⟨.some 35,.bin .leq (.s 32) (.s 34),.none,3,[]⟩] k) (.cond (.s 35) .skip (.exit 0))) (.seq (.block 1 (.seq (.reg [⟨.some 38,.move (.s 0),.none,0,[]⟩,⟨.some 39,.move (.s 9),.none,1,[]⟩,⟨.some 40,.idxArr 3 1 (.s 2) (.s 38),.none,2,[]⟩,⟨.none,.store 1 (.s 40) (.s 39),.none,3,[]⟩] k) (.seq (.reg [⟨.some 41,.load (.s 3),.none,0,[]⟩,⟨.some 42,.move (.s 0),.none,1,[]⟩,⟨.some 43,.bin .add (.s 42) (.c (.int .i64 1)),.none,2,[]⟩,⟨.some 44,.call (.s 41) [.s 43],.none,3,[]⟩,⟨.some 45,.un .not (.s 44),.none,4,[]⟩] k) (.cond (.s 45) (.seq (.reg [⟨.some 7,.move (.c (.bool false)),.none,0,[]⟩] k) .ret) .skip)))) (.reg [⟨.some 36,.move (.s 9),.none,0,[]⟩,⟨.some 37,.bin .add (.s 36) (.c (.int .i64 1)),.none,1,[]⟩,⟨.some 9,.move (.s 37),.none,2,[]⟩] k)))))) (.seq (.reg [⟨.some 7,.move (.c (.bool true)),.none,0,[]⟩] k) .ret))) .skip)) (.seq
    (.draw [⟨.some 47,.load (.s 1),.none,0,[]⟩,⟨.some 48,.nilCheck (.s 47),.none,1,[0]⟩,⟨.some 49,.off 3 (.s 48),.none,2,[0,1]⟩,⟨.some 50,.load (.s 49),.none,3,[1,0,2]⟩,⟨.some 51,.loadN 3 (.s 2),.none,4,[]⟩,⟨.some 52,.lookup true [.i,.i,.i] (.agg [.int .i64 0,.int .i64 0,.int .i64 0,.int .i64 0,.int .i64 0,.int .i64 0,.int .i64 0,.int .i64 0]) true (.s 50) (.s 51),.none,5,[4,2,0,1,3]⟩,⟨.some 46,.move (.s 52),.none,6,[3,1,0,2,4,5]⟩,⟨.some 53,.extract 0 (.s 46),.none,7,[5,4,2,0,1,3,6]⟩,⟨.some 54,.extract 1 (.s 46),.none,8,[5,4,2,0,1,3,6]⟩,⟨.some 10,.alloc [.int .i64 0,.int .i64 0,.int .i64 0,.int .i64 0,.int .i64 0,.int .i64 0,.int .i64 0,.int .i64 0],.none,9,[]⟩,⟨.none,.store 8 (.s 10) (.s 53),.none,10,[6,3,1,0,2,4,5,7,9]⟩,⟨.some 11,.move (.s 54),.none,11,[9,7,10,6,3,1,0,2,4,5,8]⟩] k) (.seq (.seq (.reg [⟨.some 55,.move (.s 11),.none,0,[]⟩,⟨.some 56,.un .not (.s 55),.none,1,[]⟩] k) (.cond (.s 56) (.seq .skip (.seq (.seq (.reg [⟨.some 57,.load (.s 1),.none,0,[]⟩,⟨.some 58,.nilCheck (.s 57),.none,1,[]⟩,⟨.some 59,.off 0 (.s 58),.none,2,[]⟩,⟨.some 60,.off 1 (.s 59),.none,3,[]⟩,⟨.some 61,.load (.s 60),.none,4,[]⟩,⟨.some 62,.len false (.s 61),.none,5,[]⟩,⟨.some 63,.move (.c (.int .i64 0)),.none,6,[]⟩] k) (.block 2 (.loop (.seq (.reg [⟨.some 64,.bin .lss (.s 63) (.s 62),.none,0,[]⟩] k) (.seq (.cond (.s 64) .skip (.exit 2)) (.seq (.block 3 (.seq (.reg [⟨.some 65,.move (.s 63),.none,0,[]⟩,⟨.some 12,.move (.s 65),.none,1,[]⟩] k) (.seq (.reg [⟨.some 66,.move (.s 12),.none,0,[]⟩,⟨.some 67,.load (.s 4),.none,1,[]⟩,⟨.some 68,.move (.s 12),.none,2,[]⟩,⟨.some 69,.loadN 3 (.s 2),.none,3,[]⟩,⟨.some 70,.call (.s 67) [.s 68,.s 69],.none,4,[]⟩,⟨.some 71,.idxArr 4 2 (.s 10) (.s 66),.none,5,[]⟩,⟨.none,.store 2 (.s 71) (.s 70),.none,6,[]⟩] k) (.seq (.draw [⟨.some 72,.move (.s 12),.none,0,[]⟩,⟨.some 73,.idxArr 4 2 (.s 10) (.s 72),.none,1,[0]⟩,⟨.some 74,.off 0 (.s 73),.none,2,[0,1]⟩,⟨.some 75,.load (.s 74),.none,3,[1,0,2]⟩,⟨.some 76,.move (.s 12),.none,4,[]⟩,⟨.some 77,.idxArr 4 2 (.s 10) (.s
    76),.none,5,[4]⟩,⟨.some 78,.off 1 (.s 77),.none,6,[4,5]⟩,⟨.some 79,.load (.s 78),.none,7,[5,4,6]⟩,⟨.some 80,.bin .gtr (.s 75) (.s 79),.none,8,[6,4,5,7,2,0,1,3]⟩] k) (.cond (.s 80) (.seq (.reg [⟨.some 81,.build [.int .i64 0,.int .i64 0] [(0,(1,(.c (.int .i64 1))))],.none,0,[]⟩,⟨.some 82,.idxArr 4 2 (.s 10) (.c (.int .i64 0)),.none,1,[]⟩,⟨.none,.store 2 (.s 82) (.s 81),.none,2,[]⟩] k) (.exit 2)) .skip))))) (.reg [⟨.some 83,.bin .add (.s 63) (.c (.int .i64 1)),.none,0,[]⟩,⟨.some 63,.move (.s 83),.none,1,[]⟩] k))))))) (.draw [⟨.some 84,.load (.s 1),.none,0,[]⟩,⟨.some 85,.nilCheck (.s 84),.none,1,[0]⟩,⟨.some 86,.off 3 (.s 85),.none,2,[0,1]⟩,⟨.some 87,.load (.s 86),.none,3,[1,0,2]⟩,⟨.some 88,.loadN 3 (.s 2),.none,4,[]⟩,⟨.some 89,.loadN 8 (.s 10),.none,5,[]⟩,⟨.none,.update true [.i,.i,.i] (.s 87) (.s 88) (.s 89),.none,6,[5,4,2,0,1,3]⟩] k))) .skip)) (.seq (.reg [⟨.some 90,.load (.s 1),.none,0,[]⟩,⟨.some 91,.nilCheck (.s 90),.none,1,[]⟩,⟨.some 92,.off 0 (.s 91),.none,2,[]⟩,⟨.some 93,.off 1 (.s 92),.none,3,[]⟩,⟨.some 94,.load (.s 93),.none,4,[]⟩,⟨.some 95,.len false (.s 94),.none,5,[]⟩,⟨.some 96,.bin .gtr (.s 95) (.c (.int .i64 0)),.none,6,[]⟩,⟨.some 97,.move (.s 96),.none,7,[]⟩,⟨.some 98,.idxArr 4 2 (.s 10) (.c (.int .i64 0)),.some (97,true),8,[]⟩,⟨.some 99,.loadN 2 (.s 98),.some (97,true),9,[]⟩,⟨.some 100,.build [.int .i64 0,.int .i64 0] [(0,(1,(.c (.int .i64 1))))],.some (97,true),10,[]⟩,⟨.some 101,.eqFlat true [.i,.i] false (.s 99) (.s 100),.some (97,true),11,[]⟩,⟨.some 102,.pick (.s 97) (.s 101) (.c (.bool false)),.none,12,[]⟩,⟨.some 103,.move (.s 102),.none,13,[]⟩,⟨.some 104,.load (.s 5),.some (103,false),14,[]⟩,⟨.some 105,.loadN 3 (.s 2),.some (103,false),15,[]⟩,⟨.some 106,.loadN 8 (.s 10),.some (103,false),16,[]⟩,⟨.some 107,.call (.s 104) [.s 105,.s 106],.some (103,false),17,[]⟩,⟨.some 108,.pick (.s 103) (.c (.bool true)) (.s 107),.none,18,[]⟩,⟨.some 7,.move (.s 108),.none,19,[]⟩] k) .ret))))),res := [.slot 7]}
def c104 : AFunc :=
  let k:List Nat:=[0,1,2,3,4,5,6,9,10,14,22,42]
  {nt := 48,body := (.seq (.reg [⟨.some 9,.move (.c (.bool false)),.none,0,[]⟩] k) (.seq (.seq (.reg [⟨.some 11,.load (.s 2),.none,0,[]⟩,⟨.some 12,.len false (.s 11),.none,1,[]⟩,⟨.some 13,.load (.s 3),.none,2,[]⟩,⟨.some 14,.bin .eql (.s 12) (.s 13),.none,3,[]⟩] k) (.cond (.s 14) (.seq (.reg [⟨.some 15,.load (.s 4),.none,0,[]⟩,⟨.some 16,.move (.s 1),.none,1,[]⟩,⟨.some 17,.call (.s 15) [.s 16],.none,2,[]⟩,⟨.some 9,.move (.s 17),.none,3,[]⟩] k) .ret) .skip)) (.seq (.seq (.reg [⟨.some 18,.move (.s 0),.none,0,[]⟩,⟨.some 10,.move (.s 18),.none,1,[]⟩] k) (.block 0 (.loop (.seq (.seq (.reg [⟨.some 19,.move (.s 10),.none,0,[]⟩,⟨.some 20,.load (.s 5),.none,1,[]⟩,⟨.some 21,.len false (.s 20),.none,2,[]⟩,⟨.some 22,.bin .lss (.s 19) (.s 21),.none,3,[]⟩] k) (.cond (.s 22) .skip (.exit 0))) (.seq (.block 1 (.seq (.draw [⟨.some 25,.load (.s 2),.none,0,[]⟩,⟨.some 26,.load (.s 5),.none,1,[]⟩,⟨.some 27,.move (.s 10),.none,2,[]⟩,⟨.some 28,.idxSl 1 (.s 26) (.s 27),.none,3,[2,1]⟩,⟨.some 29,.load (.s 28),.none,4,[1,2,3]⟩,⟨.some 30,.mkslice 1 1 [.int .i64 0] [(0,(1,(.s 29)))],.none,5,[3,2,1,4]⟩,⟨.some 31,.append 1 8 (.s 25) (.s 30),.none,6,[4,1,2,3,5,0]⟩,⟨.none,.store 1 (.s 2) (.s 31),.none,7,[0,5,3,2,1,4,6]⟩] k) (.seq (.seq (.draw [⟨.some 32,.load (.s 6),.none,0,[]⟩,⟨.some 33,.move (.s 10),.none,1,[]⟩,⟨.some 34,.bin .add (.s 33) (.c (.int .i64 1)),.none,2,[1]⟩,⟨.some 35,.move (.s 1),.none,3,[]⟩,⟨.some 36,.load (.s 5),.none,4,[]⟩,⟨.some 37,.move (.s 10),.none,5,[]⟩,⟨.some 38,.idxSl 1 (.s 36) (.s 37),.none,6,[5,4]⟩,⟨.some 39,.load (.s 38),.none,7,[4,5,6]⟩,⟨.some 40,.bin .shl (.c (.int .i64 1)) (.s 39),.none,8,[6,5,4,7]⟩,⟨.some 41,.bin .or (.s 35) (.s 40),.none,9,[7,4,5,6,8,3]⟩,⟨.some 42,.call (.s 32) [.s 34,.s 41],.none,10,[3,8,6,5,4,7,9,1,2,0]⟩] k) (.cond (.s 42) (.seq (.reg [⟨.some 9,.move (.c (.bool true)),.none,0,[]⟩] k) .ret) .skip)) (.reg [⟨.some 43,.load (.s 2),.none,0,[]⟩,⟨.some 44,.load (.s 2),.none,1,[]⟩,⟨.some 45,.len false (.s 44),.none,2,[]⟩,⟨.some 46,.bin .sub (.s 45) (.c
    (.int .i64 1)),.none,3,[]⟩,⟨.some 47,.sliceSl 1 (.s 43) .none (.some (.s 46)),.none,4,[]⟩,⟨.none,.store 1 (.s 2) (.s 47),.none,5,[]⟩] k)))) (.reg [⟨.some 23,.move (.s 10),.none,0,[]⟩,⟨.some 24,.bin .add (.s 23) (.c (.int .i64 1)),.none,1,[]⟩,⟨.some 10,.move (.s 24),.none,2,[]⟩] k)))))) (.seq (.reg [⟨.some 9,.move (.c (.bool false)),.none,0,[]⟩] k) .ret)))),res := [.slot 9]}
def c105 : AFunc :=
  let k:List Nat:=[0,1,2,6,8,9,10,11,12,22]
  {nt := 24,body := (.seq (.reg [⟨.some 6,.move (.c (.bool false)),.none,0,[]⟩] k) (.seq (.seq (.reg [⟨.some 9,.move (.s 2),.none,0,[]⟩,⟨.some 10,.len false (.s 9),.none,1,[]⟩,⟨.some 11,.move (.c (.int .i64 0)),.none,2,[]⟩] k) (.block 0 (.loop (.seq (.reg [⟨.some 12,.bin .lss (.s 11) (.s 10),.none,0,[]⟩] k) (.seq (.cond (.s 12) .skip (.exit 0)) (.seq (.block 1 (.seq (.reg [⟨.some 13,.idxSl 1 (.s 9) (.s 11),.none,0,[]⟩,⟨.some 14,.load (.s 13),.none,1,[]⟩,⟨.some 8,.move (.s 14),.none,2,[]⟩] k) (.seq (.reg [⟨.some 15,.move (.s 8),.none,0,[]⟩,⟨.some 16,.move (.s 0),.none,1,[]⟩,⟨.some 17,.bin .lss (.s 15) (.s 16),.none,2,[]⟩,⟨.some 18,.move (.s 17),.none,3,[]⟩,⟨.some 19,.move (.s 8),.some (18,false),4,[]⟩,⟨.some 20,.move (.s 1),.some (18,false),5,[]⟩,⟨.some 21,.bin .gtr (.s 19) (.s 20),.some (18,false),6,[]⟩,⟨.some 22,.pick (.s 18) (.c (.bool true)) (.s 21),.none,7,[]⟩] k) (.cond (.s 22) (.seq (.reg [⟨.some 6,.move (.c (.bool true)),.none,0,[]⟩] k) .ret) .skip)))) (.reg [⟨.some 23,.bin .add (.s 11) (.c (.int .i64 1)),.none,0,[]⟩,⟨.some 11,.move (.s 23),.none,1,[]⟩] k))))))) (.seq (.reg [⟨.some 6,.move (.c (.bool false)),.none,0,[]⟩] k) .ret))),res := [.slot 6]}
def c106 : AFunc :=
  let k:List Nat:=[0,1,4,5,7,8,9,16]
  {nt := 19,body := (.seq (.reg [⟨.some 4,.move (.c (.int .i64 0)),.none,0,[]⟩] k) (.seq (.seq (.reg [⟨.some 6,.move (.s 0),.none,0,[]⟩,⟨.some 7,.len false (.s 6),.none,1,[]⟩,⟨.some 8,.move (.c (.int .i64 0)),.none,2,[]⟩] k) (.block 0 (.loop (.seq (.reg [⟨.some 9,.bin .lss (.s 8) (.s 7),.none,0,[]⟩] k) (.seq (.cond (.s 9) .skip (.exit 0)) (.seq (.block 1 (.seq (.reg [⟨.some 10,.move (.s 8),.none,0,[]⟩,⟨.some 5,.move (.s 10),.none,1,[]⟩] k) (.seq (.reg [⟨.some 11,.move (.s 1),.none,0,[]⟩,⟨.some 12,.move (.s 0),.none,1,[]⟩,⟨.some 13,.move (.s 5),.none,2,[]⟩,⟨.some 14,.idxSl 4 (.s 12) (.s 13),.none,3,[]⟩,⟨.some 15,.loadN 4 (.s 14),.none,4,[]⟩,⟨.some 16,.call (.s 11) [.s 15],.none,5,[]⟩] k) (.cond (.s 16) (.seq (.reg [⟨.some 17,.move (.s 5),.none,0,[]⟩,⟨.some 4,.move (.s 17),.none,1,[]⟩] k) .ret) .skip)))) (.reg [⟨.some 18,.bin .add (.s 8) (.c (.int .i64 1)),.none,0,[]⟩,⟨.some 8,.move (.s 18),.none,1,[]⟩] k))))))) (.seq (.reg [⟨.some 4,.move (.c (.int .i64 (-1))),.none,0,[]⟩] k) .ret))),res := [.slot 4]}
def c107 : AFunc :=
  let k:List Nat:=[0,1,4,5,7,8,9,16]
  {nt := 19,body := (.seq (.reg [⟨.some 4,.move (.c (.int .i64 0)),.none,0,[]⟩] k) (.seq (.seq (.reg [⟨.some 6,.move (.s 0),.none,0,[]⟩,⟨.some 7,.len false (.s 6),.none,1,[]⟩,⟨.some 8,.move (.c (.int .i64 0)),.none,2,[]⟩] k) (.block 0 (.loop (.seq (.reg [⟨.some 9,.bin .lss (.s 8) (.s 7),.none,0,[]⟩] k) (.seq (.cond (.s 9) .skip (.exit 0)) (.seq (.block 1 (.seq (.reg [⟨.some 10,.move (.s 8),.none,0,[]⟩,⟨.some 5,.move (.s 10),.none,1,[]⟩] k) (.seq (.reg [⟨.some 11,.move (.s 1),.none,0,[]⟩,⟨.some 12,.move (.s 0),.none,1,[]⟩,⟨.some 13,.move (.s 5),.none,2,[]⟩,⟨.some 14,.idxSl 1 (.s 12) (.s 13),.none,3,[]⟩,⟨.some 15,.load (.s 14),.none,4,[]⟩,⟨.some 16,.call (.s 11) [.s 15],.none,5,[]⟩] k) (.cond (.s 16) (.seq (.reg [⟨.some 17,.move (.s 5),.none,0,[]⟩,⟨.some 4,.move (.s 17),.none,1,[]⟩] k) .ret) .skip)))) (.reg [⟨.some 18,.bin .add (.s 8) (.c (.int .i64 1)),.none,0,[]⟩,⟨.some 8,.move (.s 18),.none,1,[]⟩] k))))))) (.seq (.reg [⟨.some 4,.move (.c (.int .i64 (-1))),.none,0,[]⟩] k) .ret))),res := [.slot 4]}
def c108 : AFunc :=
  {nt := 9,body := (.seq (.reg [⟨.some 2,.move (.c (.bool false)),.none,0,[]⟩] [0,2]) (.seq (.reg [⟨.some 3,.move (.s 0),.none,0,[]⟩,⟨.some 4,.bin .geq (.s 3) (.c (.int .u8 97)),.none,1,[]⟩,⟨.some 5,.move (.s 4),.none,2,[]⟩,⟨.some 6,.move (.s 0),.some (5,true),3,[]⟩,⟨.some 7,.bin .leq (.s 6) (.c (.int .u8 122)),.some (5,true),4,[]⟩,⟨.some 8,.pick (.s 5) (.s 7) (.c (.bool false)),.none,5,[]⟩,⟨.some 2,.move (.s 8),.none,6,[]⟩] [0,2]) .ret)),res := [.slot 2]}
def c109 : AFunc :=
  {nt := 9,body := (.seq (.reg [⟨.some 2,.move (.c (.bool false)),.none,0,[]⟩] [0,2]) (.seq (.reg [⟨.some 3,.move (.s 0),.none,0,[]⟩,⟨.some 4,.bin .geq (.s 3) (.c (.int .u8 48)),.none,1,[]⟩,⟨.some 5,.move (.s 4),.none,2,[]⟩,⟨.some 6,.move (.s 0),.some (5,true),3,[]⟩,⟨.some 7,.bin .leq (.s 6) (.c (.int .u8 57)),.some (5,true),4,[]⟩,⟨.some 8,.pick (.s 5) (.s 7) (.c (.bool false)),.none,5,[]⟩,⟨.some 2,.move (.s 8),.none,6,[]⟩] [0,2]) .ret)),res := [.slot 2]}
def prog : Nat → Option AFunc
  | 8 => some c8
  | 16 => some c16
  | 17 => some c17
  | 18 => some c18
  | 20 => some c20
  | 22 => some c22
  | 23 => some c23
  | 25 => some c25
  | 27 => some c27
  | 29 => some c29
  | 31 => some c31
  | 32 => some c32
  | 33 => some c33
  | 34 => some c34
  | 35 => some c35
  | 36 => some c36
  | 37 => some c37
  | 38 => some c38
  | 39 => some c39
  | 40 => some c40
  | 42 => some c42
  | 53 => some c53
  | 55 => some c55
  | 56 => some c56
  | 57 => some c57
  | 58 => some c58
  | 59 => some c59
  | 60 => some c60
  | 61 => some c61
  | 62 => some c62
  | 63 => some c63
  | 64 => some c64
  | 65 => some c65
  | 66 => some c66
  | 67 => some c67
  | 71 => some c71
  | 73 => some c73
  | 74 => some c74
  | 75 => some c75
  | 77 => some c77
  | 78 => some c78
  | 79 => some c79
  | 80 => some c80
  | 81 => some c81
  | 82 => some c82
  | 84 => some c84
  | 85 => some c85
  | 86 => some c86
  | 89 => some c89
  | 90 => some c90
  | 91 => some c91
  | 92 => some c92
  | 93 => some c93
  | 94 => some c94
  | 95 => some c95
  | 96 => some c96
  | 97 => some c97
  | 98 => some c98
  | 99 => some c99
  | 100 => some c100
  | 101 => some c101
  | 102 => some c102
  | 103 => some c103
  | 104 => some c104
  | 105 => some c105
  | 106 => some c106
  | 107 => some c107
  | 108 => some c108
  | 109 => some c109
  | _ => none
end Go.Proofs.Ytgncpbkedhchfaa
namespace Go.Proofs.Ytgncpbkedhchfaa
open Go.AM Go.IntWalk
set_option maxRecDepth 100000
set_option linter.unusedSimpArgs false
variable {H : AH} {R : AV → AH → Prop}
abbrev I (n : Int) : AV := .int .i64 n
theorem abs_mul_le (a b m n : Int) (h1 : -m ≤ a ∧ a ≤ m) (h2 : -n ≤ b ∧ b ≤ n) : -(m * n) ≤ a * b ∧ a * b ≤ m * n := by
  have hm : 0 ≤ m := by omega
  have hn : 0 ≤ n := by omega
  have h3 : a.natAbs ≤ m.natAbs := by omega
  have h4 : b.natAbs ≤ n.natAbs := by omega
  have h5 := Nat.mul_le_mul h3 h4
  rw [← Int.natAbs_mul, ← Int.natAbs_mul] at h5
  have h6 : 0 ≤ m * n := Int.mul_nonneg hm hn
  omega
theorem In_run (n lo hi : Int) (h : R (.bool (decide (lo ≤ n) && decide (n ≤ hi))) H) : CallQ prog (.func 53 [] []) [I n, I lo, I hi] H R := by
  by_cases hc : lo ≤ n
  · refine CallQ_enter (fn:=c53) rfl (Nat.le_of_ble_eq_true rfl) ?_;simp(maxSteps:=9999999)(disch:=first|omega|(simp only[AN];omega))only[c53,envFrom,hc,↓KP,EK,↓reduceIte,reduceCtorEq,Nat.reduceEqDiff,Nat.reduceAdd,Nat.reduceLeDiff,Nat.reduceMul]
    simpa [hc] using h
  · refine CallQ_enter (fn:=c53) rfl (Nat.le_of_ble_eq_true rfl) ?_;simp(maxSteps:=9999999)(disch:=first|omega|(simp only[AN];omega))only[c53,envFrom,hc,↓KP,EK,↓reduceIte,reduceCtorEq,Nat.reduceEqDiff,Nat.reduceAdd,Nat.reduceLeDiff,Nat.reduceMul]
    simpa [hc] using h
theorem Inside_run (n lo hi : Int) (h : ∀ H', Grew H H' → R (.bool (decide (lo ≤ n) && decide (n ≤ hi))) H') : CallQ prog (.func 37 [] []) [I n, .agg [I lo, I hi]] H R := by
  refine CallQ_enter (fn:=c37) rfl (Nat.le_of_ble_eq_true rfl) ?_;simp(maxSteps:=9999999)(disch:=first|omega|(simp only[AN];omega))only[c37,envFrom,↓KP,EK,↓reduceIte,reduceCtorEq,Nat.reduceEqDiff,Nat.reduceAdd,Nat.reduceLeDiff,Nat.reduceMul]
  refine C_call (In_run _ _ _ ?_)
  simp(maxSteps:=9999999)(disch:=first|omega|(simp only[AN];omega))only[↓KP,EK,↓reduceIte,reduceCtorEq,Nat.reduceEqDiff,Nat.reduceAdd,Nat.reduceLeDiff,Nat.reduceMul]
  refine h _ ?_
  exact GW
theorem Below_run (a b c d : Int) (h1 : IntKind.i64.wrap (a * d) = a * d) (h2 : IntKind.i64.wrap (c * b) = c * b) (h : ∀ H', Grew H H' → R (.bool (decide (a * d < c * b))) H') : CallQ prog (.func 42 [] []) [.agg [I a, I b], .agg [I c, I d]] H R := by
  refine CallQ_enter (fn:=c42) rfl (Nat.le_of_ble_eq_true rfl) ?_;simp(maxSteps:=9999999)(disch:=first|omega|(simp only[AN];omega))only[c42,envFrom,h1,h2,↓KP,EK,↓reduceIte,reduceCtorEq,Nat.reduceEqDiff,Nat.reduceAdd,Nat.reduceLeDiff,Nat.reduceMul]
  refine h _ ?_
  exact GW
structure Watcher where
  name : ByteArray
  lo : Int
  hi : Int
  off : Int
  deriving DecidableEq
def Watcher.cells (w : Watcher) : List AV := [.str w.name, I w.lo, I w.hi, I w.off]
theorem Of_run (w : Watcher) (f c : Int) (h0 : -1000000 ≤ w.off ∧ w.off ≤ 1000000) (h1 : -1000000 ≤ f ∧ f ≤ 1000000) (h2 : -1000000 ≤ c ∧ c ≤ 1000000)
    (h : ∀ H', Grew H H' → R (.agg [I (f * max 0 (c - w.off)), I (f * (c + w.off))]) H') : CallQ prog (.func 85 [] []) [.agg w.cells, I f, I c] H R := by
  have e1 : IntKind.i64.wrap (c - w.off) = c - w.off := i64_in _ (by omega)
  have e2 : IntKind.i64.wrap (c + w.off) = c + w.off := i64_in _ (by omega)
  have b : ∀ x : Int, -2000000 ≤ x ∧ x ≤ 2000000 → IntKind.i64.wrap (f * x) = f * x := fun x hx => i64_in _ (by
    have h3 : -(1000000 * 2000000) ≤ f * x ∧ f * x ≤ 1000000 * 2000000 := by
      have := abs_mul_le f x 1000000 2000000 (by omega) (by omega)
      omega
    omega)
  have e3 := b (max 0 (c - w.off)) (by omega)
  have e4 := b (c + w.off) (by omega)
  refine CallQ_enter (fn:=c85) rfl (Nat.le_of_ble_eq_true rfl) ?_;simp(maxSteps:=9999999)(disch:=first|omega|(simp only[AN];omega))only[c85,envFrom,Watcher.cells,e1,e2,e3,e4,↓KP,EK,↓reduceIte,reduceCtorEq,Nat.reduceEqDiff,Nat.reduceAdd,Nat.reduceLeDiff,Nat.reduceMul]
  refine h _ ?_
  exact GW
theorem gcd_run (a b : Nat) (h : R (I (Nat.gcd a b : Nat)) H) : CallQ prog (.func 86 [] []) [I a, I b] H R := by
  refine CallQ_enter (fn:=c86) rfl (Nat.le_of_ble_eq_true rfl) ?_;simp(maxSteps:=9999999)(disch:=first|omega|(simp only[AN];omega))only[c86,envFrom,↓KP,EK,↓reduceIte,reduceCtorEq,Nat.reduceEqDiff,Nat.reduceAdd,Nat.reduceLeDiff,Nat.reduceMul]
  refine K_loop (fun m e H' => ∃ (a' b' : Nat) (tail : Env), e = (0, I a') :: (1, I b') :: tail ∧ H' = H ∧ Nat.gcd a' b' = Nat.gcd a b ∧ m = b') b ⟨a, b, _, rfl, rfl, rfl, rfl⟩ ?_
  rintro m e _ ⟨a', b', tail, rfl, rfl, hg, hm⟩
  subst m
  by_cases hb0 : (b' : Int) = 0
  · simp(maxSteps:=9999999)(disch:=first|omega|(simp only[AN];omega))only[hb0,↓KP,EK,↓reduceIte,reduceCtorEq,Nat.reduceEqDiff,Nat.reduceAdd,Nat.reduceLeDiff,Nat.reduceMul]
    have : b' = 0 := by omega
    rw [← hg, this, Nat.gcd_zero_right] at h
    exact h
  · simp(maxSteps:=9999999)(disch:=first|omega|(simp only[AN];omega))only[hb0,↓KP,EK,↓reduceIte,reduceCtorEq,Nat.reduceEqDiff,Nat.reduceAdd,Nat.reduceLeDiff,Nat.reduceMul]
    refine ⟨a' % b', Nat.mod_lt _ (by omega), b', a' % b', _, rfl, rfl, ?_, rfl⟩
    rw [← hg, Nat.gcd_comm a' b', Nat.gcd_rec b' a', Nat.gcd_comm]
theorem Low_run (a b : Nat) (hb : 0 < b) (hA : a ≤ 1000000000) (hB : b ≤ 1000000000) (h : ∀ H', Grew H H' → R (.agg [I (a / Nat.gcd a b : Nat), I (b / Nat.gcd a b : Nat)]) H') : CallQ prog (.func 40 [] []) [I a, I b] H R := by
  have hg : 0 < Nat.gcd a b := Nat.gcd_pos_of_pos_right _ hb
  have e1 : IntKind.i64.wrap (0 - (a : Int)) = 0 - (a : Int) := i64_in _ (by omega)
  have e2 : max (a : Int) (0 - (a : Int)) = a := by omega
  have e3 : ¬ ((Nat.gcd a b : Nat) : Int) = 0 := by omega
  have q : ∀ x : Nat, x ≤ 1000000000 → IntKind.i64.wrap ((x : Int).tdiv (Nat.gcd a b : Nat)) = ((x / Nat.gcd a b : Nat) : Int) := fun x hx => by
    have h1 : (x : Int).tdiv (Nat.gcd a b : Nat) = ((x / Nat.gcd a b : Nat) : Int) := rfl
    have h2 := Nat.div_le_self x (Nat.gcd a b)
    rw [h1]
    generalize x / Nat.gcd a b = y at h2
    exact i64_in _ (by omega)
  have q1 := q a hA
  have q2 := q b hB
  refine CallQ_enter (fn:=c40) rfl (Nat.le_of_ble_eq_true rfl) ?_;simp(maxSteps:=9999999)(disch:=first|omega|(simp only[AN];omega))only[c40,envFrom,e1,e2,↓KP,EK,↓reduceIte,reduceCtorEq,Nat.reduceEqDiff,Nat.reduceAdd,Nat.reduceLeDiff,Nat.reduceMul]
  refine C_call (gcd_run a b ?_)
  simp(maxSteps:=9999999)(disch:=first|omega|(simp only[AN];omega))only[↓KP,EK,↓reduceIte,reduceCtorEq,Nat.reduceEqDiff,Nat.reduceAdd,Nat.reduceLeDiff,Nat.reduceMul]
  refine K_draw ?_
  simp(maxSteps:=9999999)(disch:=first|omega|(simp only[AN];omega))only[e3,q1,q2,↓KP,EK,↓reduceIte,reduceCtorEq,Nat.reduceEqDiff,Nat.reduceAdd,Nat.reduceLeDiff,Nat.reduceMul]
  refine h _ ?_
  exact GW
theorem letter_run (c : Int) (h : R (.bool (decide (97 ≤ c) && decide (c ≤ 122))) H) : CallQ prog (.func 108 [] []) [.int .u8 c] H R := by
  by_cases hc : 97 ≤ c
  · refine CallQ_enter (fn:=c108) rfl (Nat.le_of_ble_eq_true rfl) ?_;simp(maxSteps:=9999999)(disch:=first|omega|(simp only[AN];omega))only[c108,envFrom,hc,↓KP,EK,↓reduceIte,reduceCtorEq,Nat.reduceEqDiff,Nat.reduceAdd,Nat.reduceLeDiff,Nat.reduceMul]
    simpa [hc] using h
  · refine CallQ_enter (fn:=c108) rfl (Nat.le_of_ble_eq_true rfl) ?_;simp(maxSteps:=9999999)(disch:=first|omega|(simp only[AN];omega))only[c108,envFrom,hc,↓KP,EK,↓reduceIte,reduceCtorEq,Nat.reduceEqDiff,Nat.reduceAdd,Nat.reduceLeDiff,Nat.reduceMul]
    simpa [hc] using h
theorem digit_run (c : Int) (h : R (.bool (decide (48 ≤ c) && decide (c ≤ 57))) H) : CallQ prog (.func 109 [] []) [.int .u8 c] H R := by
  by_cases hc : 48 ≤ c
  · refine CallQ_enter (fn:=c109) rfl (Nat.le_of_ble_eq_true rfl) ?_;simp(maxSteps:=9999999)(disch:=first|omega|(simp only[AN];omega))only[c109,envFrom,hc,↓KP,EK,↓reduceIte,reduceCtorEq,Nat.reduceEqDiff,Nat.reduceAdd,Nat.reduceLeDiff,Nat.reduceMul]
    simpa [hc] using h
  · refine CallQ_enter (fn:=c109) rfl (Nat.le_of_ble_eq_true rfl) ?_;simp(maxSteps:=9999999)(disch:=first|omega|(simp only[AN];omega))only[c109,envFrom,hc,↓KP,EK,↓reduceIte,reduceCtorEq,Nat.reduceEqDiff,Nat.reduceAdd,Nat.reduceLeDiff,Nat.reduceMul]
    simpa [hc] using h
theorem Where_run (v : AV) (l : List ByteArray) (s : ByteArray) {F : Nat → Prop} (hv : IsSl 1 EStr F H v l) (hl : l.length < 4611686018427387904) (h : R (I (match l.findIdx? (·.toList == s.toList) with | some k => (k : Int) | none => -1)) H) : CallQ prog (.func 99 [] []) [v, .str s] H R := by
  refine CallQ_enter (fn:=c99) rfl (Nat.le_of_ble_eq_true rfl) ?_;simp(maxSteps:=9999999)(disch:=first|omega|(simp only[AN];omega))only[c99,envFrom,↓KP,EK,↓reduceIte,reduceCtorEq,Nat.reduceEqDiff,Nat.reduceAdd,Nat.reduceLeDiff,Nat.reduceMul]
  refine K_loop (fun m e H' => ∃ (k : Nat) (tail : Env), e = (0, v) :: (1, .str s) :: (4, I 0) :: (5, I k) :: tail ∧ H' = H ∧ k ≤ l.length ∧ (∀ j (hj : j < l.length), j < k → (l[j].toList == s.toList) = false) ∧ m = l.length - k) l.length ⟨0, [], rfl, rfl, by omega, by omega, rfl⟩ ?_
  rintro m e _ ⟨k, tail, rfl, rfl, hk, hno, rfl⟩
  simp(maxSteps:=9999999)(disch:=first|omega|(simp only[AN];omega))only[hv.len,↓KP,EK,↓reduceIte,reduceCtorEq,Nat.reduceEqDiff,Nat.reduceAdd,Nat.reduceLeDiff,Nat.reduceMul]
  refine C_decide (fun hc => ?_) (fun hc => ?_)
  · have hk' : k < l.length := by omega
    obtain ⟨b, i, ro, vs, cs, q1, q2, q3, _, q4, _, _, q5⟩ := hv.at_ hk'
    obtain rfl : cs = [.str l[k]] := q4
    have q6 : vs[i]? = some (.str l[k]) := by simpa using q5 0 (by omega)
    have e1 : IntKind.i64.wrap ((k : Int) + 1) = ((k + 1 : Nat) : Int) := i64_in _ (by omega)
    have e2 : binA .eql (.str l[k]) (.str s) = some (.bool (l[k].toList == s.toList)) := rfl
    simp(maxSteps:=9999999)(disch:=first|omega|(simp only[AN];omega))only[q1,q3,q6,e2,↓KP,EK,↓reduceIte,reduceCtorEq,Nat.reduceEqDiff,Nat.reduceAdd,Nat.reduceLeDiff,Nat.reduceMul]
    refine C_bool (fun hn => ?_) (fun hn => ?_)
    · simp(maxSteps:=9999999)(disch:=first|omega|(simp only[AN];omega))only[↓KP,EK,↓reduceIte,reduceCtorEq,Nat.reduceEqDiff,Nat.reduceAdd,Nat.reduceLeDiff,Nat.reduceMul]
      have : l.findIdx? (·.toList == s.toList) = some k := by
        rw [List.findIdx?_eq_some_iff_getElem]
        exact ⟨hk', hn, fun j hj => by simp [hno j (by omega) hj]⟩
      rw [this] at h
      exact h
    · simp(maxSteps:=9999999)(disch:=first|omega|(simp only[AN];omega))only[e1,↓KP,EK,↓reduceIte,reduceCtorEq,Nat.reduceEqDiff,Nat.reduceAdd,Nat.reduceLeDiff,Nat.reduceMul]
      refine ⟨l.length - (k + 1), by omega, k + 1, _, rfl, rfl, by omega, fun j hj hjk => ?_, rfl⟩
      by_cases hjk' : j = k
      · subst hjk'; exact hn
      · exact hno j hj (by omega)
  · simp(maxSteps:=9999999)(disch:=first|omega|(simp only[AN];omega))only[↓KP,EK,↓reduceIte,reduceCtorEq,Nat.reduceEqDiff,Nat.reduceAdd,Nat.reduceLeDiff,Nat.reduceMul]
    have : l.findIdx? (·.toList == s.toList) = none := by
      rw [List.findIdx?_eq_none_iff]
      intro x hx
      obtain ⟨j, hj, rfl⟩ := List.getElem_of_mem hx
      exact hno j hj (by omega)
    rw [this] at h
    exact h
def isLetter (c : UInt8) : Bool := decide (97 ≤ (c.toNat : Int)) && decide ((c.toNat : Int) ≤ 122)
def isDigit (c : UInt8) : Bool := decide (48 ≤ (c.toNat : Int)) && decide ((c.toNat : Int) ≤ 57)
def isInner (c : UInt8) : Bool := isLetter c || isDigit c || decide ((c.toNat : Int) = 46)
def isName (s : ByteArray) : Bool := decide (1 ≤ (s.size : Int)) && decide ((s.size : Int) ≤ 16) && (s.toList.head?.any isLetter) && s.toList.tail.all isInner
theorem toList_length (s : ByteArray) : s.toList.length = s.size := by
  rw [ByteArray.toList_eq]; rfl
theorem all_tail {l : List UInt8} {p : UInt8 → Bool} (h : ∀ j (hj : j < l.length), 1 ≤ j → p l[j] = true) : l.tail.all p = true := by
  cases l with
  | nil => rfl
  | cons a l =>
    simp only [List.tail_cons, List.all_eq_true]
    intro x hx
    obtain ⟨j, hj, rfl⟩ := List.getElem_of_mem hx
    exact h (j + 1) (by simp; omega) (by omega)
theorem Name_run (s : ByteArray) (hs : s.size ≤ 9223372036854775807) (h : R (.bool (isName s)) H) : CallQ prog (.func 98 [] []) [.str s] H R := by
  have hlen := toList_length s
  refine CallQ_enter (fn:=c98) rfl (Nat.le_of_ble_eq_true rfl) ?_;simp(maxSteps:=9999999)(disch:=first|omega|(simp only[AN];omega))only[c98,envFrom,↓KP,EK,↓reduceIte,reduceCtorEq,Nat.reduceEqDiff,Nat.reduceAdd,Nat.reduceLeDiff,Nat.reduceMul]
  refine C_call (In_run _ _ _ ?_)
  by_cases h1 : 1 ≤ s.size ∧ s.size ≤ 16
  · have c1 : (1 : Int) ≤ s.size := by omega
    have c2 : (s.size : Int) ≤ 16 := by omega
    have h0 : 0 < s.toList.length := by omega
    have g0 : s.toList[0]? = some s.toList[0] := List.getElem?_eq_getElem h0
    simp(maxSteps:=9999999)(disch:=first|omega|(simp only[AN];omega))only[c1,c2,g0,↓KP,EK,↓reduceIte,reduceCtorEq,Nat.reduceEqDiff,Nat.reduceAdd,Nat.reduceLeDiff,Nat.reduceMul]
    refine C_call (letter_run _ ?_)
    have hhead : s.toList.head? = some s.toList[0] := by rw [List.head?_eq_getElem?]; exact g0
    simp(maxSteps:=9999999)(disch:=first|omega|(simp only[AN];omega))only[↓KP,EK,↓reduceIte,reduceCtorEq,Nat.reduceEqDiff,Nat.reduceAdd,Nat.reduceLeDiff,Nat.reduceMul]
    refine C_bool (fun hb => ?_) (fun hb => ?_)
    · simp(maxSteps:=9999999)(disch:=first|omega|(simp only[AN];omega))only[↓KP,EK,↓reduceIte,reduceCtorEq,Nat.reduceEqDiff,Nat.reduceAdd,Nat.reduceLeDiff,Nat.reduceMul]
      have : isName s = false := by
        simp only [isName, hhead, Option.any_some, isLetter]
        simp only [Bool.not_eq_true'] at hb
        simp [hb]
      rw [this] at h
      exact h
    · simp(maxSteps:=9999999)(disch:=first|omega|(simp only[AN];omega))only[↓KP,EK,↓reduceIte,reduceCtorEq,Nat.reduceEqDiff,Nat.reduceAdd,Nat.reduceLeDiff,Nat.reduceMul]
      have hb' : isLetter s.toList[0] = true := by simpa [isLetter] using hb
      have hw1 : isLetter s.toList[0] = true ∧ isName s = s.toList.tail.all isInner := by
        refine ⟨hb', ?_⟩
        simp [isName, hhead, hb', c1, c2]
      refine K_loop (fun m e H' => ∃ (k : Nat) (x : AV) (tail : Env), e = (0, .str s) :: (2, .bool false) :: (13, x) :: (3, I k) :: tail ∧ H' = H ∧ 1 ≤ k ∧ k ≤ s.size ∧ (∀ j (hj : j < s.toList.length), 1 ≤ j → j < k → isInner s.toList[j] = true) ∧ m = s.size - k) (s.size - 1) ⟨1, _, [], rfl, rfl, by omega, by omega, by omega, rfl⟩ ?_
      rintro m e _ ⟨k, x, tail, rfl, rfl, hk1, hk, hno, rfl⟩
      simp(maxSteps:=9999999)(disch:=first|omega|(simp only[AN];omega))only[↓KP,EK,↓reduceIte,reduceCtorEq,Nat.reduceEqDiff,Nat.reduceAdd,Nat.reduceLeDiff,Nat.reduceMul]
      refine C_decide (fun hc => ?_) (fun hc => ?_)
      · have hk' : k < s.toList.length := by omega
        have g1 : s.toList[k]? = some s.toList[k] := List.getElem?_eq_getElem hk'
        have e1 : IntKind.i64.wrap ((k : Int) + 1) = ((k + 1 : Nat) : Int) := i64_in _ (by omega)
        have hnext : isInner s.toList[k] = true → ∀ j (hj : j < s.toList.length), 1 ≤ j → j < k + 1 → isInner s.toList[j] = true := fun hi j hj h1 h2 => by
          by_cases hjk : j = k
          · subst hjk; exact hi
          · exact hno j hj h1 (by omega)
        have hbad : isInner s.toList[k] = false → isName s = false := fun hi => by
          rw [hw1.2]
          cases ht : s.toList.tail.all isInner with
          | false => rfl
          | true =>
            rw [List.all_eq_true] at ht
            have := ht s.toList[k] (by
              rw [List.mem_iff_getElem]
              exact ⟨k - 1, by rw [List.length_tail]; omega, by rw [List.getElem_tail]; congr 1; omega⟩)
            rw [hi] at this; cases this
        simp(maxSteps:=9999999)(disch:=first|omega|(simp only[AN];omega))only[g1,↓KP,EK,↓reduceIte,reduceCtorEq,Nat.reduceEqDiff,Nat.reduceAdd,Nat.reduceLeDiff,Nat.reduceMul]
        refine C_call (letter_run _ ?_)
        cases hL : isLetter s.toList[k] with
        | true =>
          have hL' : (decide (97 ≤ (s.toList[k].toNat : Int)) && decide ((s.toList[k].toNat : Int) ≤ 122)) = true := hL
          simp(maxSteps:=9999999)(disch:=first|omega|(simp only[AN];omega))only[hL',e1,↓KP,EK,↓reduceIte,reduceCtorEq,Nat.reduceEqDiff,Nat.reduceAdd,Nat.reduceLeDiff,Nat.reduceMul]
          exact ⟨s.size - (k + 1), by omega, k + 1, _, _, rfl, rfl, by omega, by omega, hnext (by simp [isInner, hL]), rfl⟩
        | false =>
          have hL' : (decide (97 ≤ (s.toList[k].toNat : Int)) && decide ((s.toList[k].toNat : Int) ≤ 122)) = false := hL
          simp(maxSteps:=9999999)(disch:=first|omega|(simp only[AN];omega))only[hL',g1,↓KP,EK,↓reduceIte,reduceCtorEq,Nat.reduceEqDiff,Nat.reduceAdd,Nat.reduceLeDiff,Nat.reduceMul]
          refine C_call (digit_run _ ?_)
          cases hD : isDigit s.toList[k] with
          | true =>
            have hD' : (decide (48 ≤ (s.toList[k].toNat : Int)) && decide ((s.toList[k].toNat : Int) ≤ 57)) = true := hD
            simp(maxSteps:=9999999)(disch:=first|omega|(simp only[AN];omega))only[hD',e1,↓KP,EK,↓reduceIte,reduceCtorEq,Nat.reduceEqDiff,Nat.reduceAdd,Nat.reduceLeDiff,Nat.reduceMul]
            exact ⟨s.size - (k + 1), by omega, k + 1, _, _, rfl, rfl, by omega, by omega, hnext (by simp [isInner, hL, hD]), rfl⟩
          | false =>
            have hD' : (decide (48 ≤ (s.toList[k].toNat : Int)) && decide ((s.toList[k].toNat : Int) ≤ 57)) = false := hD
            simp(maxSteps:=9999999)(disch:=first|omega|(simp only[AN];omega))only[hD',g1,↓KP,EK,↓reduceIte,reduceCtorEq,Nat.reduceEqDiff,Nat.reduceAdd,Nat.reduceLeDiff,Nat.reduceMul]
            by_cases h46 : (s.toList[k].toNat : Int) = 46
            · simp(maxSteps:=9999999)(disch:=first|omega|(simp only[AN];omega))only[h46,e1,↓KP,EK,↓reduceIte,reduceCtorEq,Nat.reduceEqDiff,Nat.reduceAdd,Nat.reduceLeDiff,Nat.reduceMul]
              exact ⟨s.size - (k + 1), by omega, k + 1, _, _, rfl, rfl, by omega, by omega, hnext (by simp [isInner, hL, hD, h46]), rfl⟩
            · simp(maxSteps:=9999999)(disch:=first|omega|(simp only[AN];omega))only[h46,↓KP,EK,↓reduceIte,reduceCtorEq,Nat.reduceEqDiff,Nat.reduceAdd,Nat.reduceLeDiff,Nat.reduceMul]
              rw [hbad (by simp [isInner, hL, hD, h46])] at h
              exact h
      · simp(maxSteps:=9999999)(disch:=first|omega|(simp only[AN];omega))only[↓KP,EK,↓reduceIte,reduceCtorEq,Nat.reduceEqDiff,Nat.reduceAdd,Nat.reduceLeDiff,Nat.reduceMul]
        have : isName s = true := by
          rw [hw1.2]
          exact all_tail fun j hj h1 => hno j hj h1 (by omega)
        rw [this] at h
        exact h
  · have : isName s = false := by
      simp only [isName]
      have : (decide (1 ≤ (s.size : Int)) && decide ((s.size : Int) ≤ 16)) = false := by
        simp only [Bool.and_eq_false_iff, decide_eq_false_iff_not]; omega
      simp [this]
    rw [this] at h
    have e : (!(decide (1 ≤ (s.size : Int)) && decide ((s.size : Int) ≤ 16))) = true := by
      simp only [Bool.not_eq_true', Bool.and_eq_false_iff, decide_eq_false_iff_not]; omega
    simp(maxSteps:=9999999)(disch:=first|omega|(simp only[AN];omega))only[e,↓KP,EK,↓reduceIte,reduceCtorEq,Nat.reduceEqDiff,Nat.reduceAdd,Nat.reduceLeDiff,Nat.reduceMul]
    exact h
def freshE (s : ByteArray) (before : List ByteArray) : Int :=
  if isName s then (if before.any (·.toList == s.toList) then 5 else 0) else 6
theorem Fresh_run (v : AV) (l : List ByteArray) (s : ByteArray) (hs : s.size ≤ 9223372036854775807) {F : Nat → Prop} (hv : IsSl 1 EStr F H v l) (hl : l.length < 4611686018427387904) (h : R (I (freshE s l)) H) : CallQ prog (.func 61 [] []) [.str s, v] H R := by
  refine CallQ_enter (fn:=c61) rfl (Nat.le_of_ble_eq_true rfl) ?_;simp(maxSteps:=9999999)(disch:=first|omega|(simp only[AN];omega))only[c61,envFrom,↓KP,EK,↓reduceIte,reduceCtorEq,Nat.reduceEqDiff,Nat.reduceAdd,Nat.reduceLeDiff,Nat.reduceMul]
  refine C_call (Name_run s hs ?_)
  simp(maxSteps:=9999999)(disch:=first|omega|(simp only[AN];omega))only[↓KP,EK,↓reduceIte,reduceCtorEq,Nat.reduceEqDiff,Nat.reduceAdd,Nat.reduceLeDiff,Nat.reduceMul]
  cases hn : isName s with
  | false =>
    simp(maxSteps:=9999999)(disch:=first|omega|(simp only[AN];omega))only[↓KP,EK,↓reduceIte,reduceCtorEq,Nat.reduceEqDiff,Nat.reduceAdd,Nat.reduceLeDiff,Nat.reduceMul]
    simpa [freshE, hn] using h
  | true =>
    simp(maxSteps:=9999999)(disch:=first|omega|(simp only[AN];omega))only[↓KP,EK,↓reduceIte,reduceCtorEq,Nat.reduceEqDiff,Nat.reduceAdd,Nat.reduceLeDiff,Nat.reduceMul]
    refine C_call (Where_run v l s hv hl ?_)
    cases hf : l.findIdx? (·.toList == s.toList) with
    | none =>
      have e1 : ¬ (0 : Int) ≤ -1 := by decide
      simp(maxSteps:=9999999)(disch:=first|omega|(simp only[AN];omega))only[e1,↓KP,EK,↓reduceIte,reduceCtorEq,Nat.reduceEqDiff,Nat.reduceAdd,Nat.reduceLeDiff,Nat.reduceMul]
      have : l.any (·.toList == s.toList) = false := by
        rw [List.findIdx?_eq_none_iff] at hf
        rw [List.any_eq_false]
        intro x hx; simp [hf x hx]
      simpa [freshE, hn, this] using h
    | some k =>
      have e1 : (0 : Int) ≤ (k : Int) := by omega
      simp(maxSteps:=9999999)(disch:=first|omega|(simp only[AN];omega))only[e1,↓KP,EK,↓reduceIte,reduceCtorEq,Nat.reduceEqDiff,Nat.reduceAdd,Nat.reduceLeDiff,Nat.reduceMul]
      have : l.any (·.toList == s.toList) = true := by
        rw [List.findIdx?_eq_some_iff_getElem] at hf
        obtain ⟨h1, h2, _⟩ := hf
        rw [List.any_eq_true]
        exact ⟨l[k], List.getElem_mem h1, h2⟩
      simpa [freshE, hn, this] using h
def endsE (a b lo hi : Int) : Int :=
  if lo ≤ a ∧ a ≤ hi ∧ lo ≤ b ∧ b ≤ hi then (if b < a then 2 else 0) else 7
theorem Ends_run (a b lo hi : Int) (h : ∀ H', Grew H H' → R (I (endsE a b lo hi)) H') : CallQ prog (.func 100 [] []) [.agg [I a, I b], I lo, I hi] H R := by
  refine CallQ_enter (fn:=c100) rfl (Nat.le_of_ble_eq_true rfl) ?_;simp(maxSteps:=9999999)(disch:=first|omega|(simp only[AN];omega))only[c100,envFrom,↓KP,EK,↓reduceIte,reduceCtorEq,Nat.reduceEqDiff,Nat.reduceAdd,Nat.reduceLeDiff,Nat.reduceMul]
  refine C_call (In_run _ _ _ ?_)
  cases h1 : (decide (lo ≤ a) && decide (a ≤ hi)) with
  | false =>
    simp(maxSteps:=9999999)(disch:=first|omega|(simp only[AN];omega))only[↓KP,EK,↓reduceIte,reduceCtorEq,Nat.reduceEqDiff,Nat.reduceAdd,Nat.reduceLeDiff,Nat.reduceMul]
    have : endsE a b lo hi = 7 := by
      simp only [Bool.and_eq_false_iff, decide_eq_false_iff_not] at h1
      rw [endsE, if_neg (by omega)]
    rw [this] at h
    refine h _ ?_
    exact GW
  | true =>
    simp(maxSteps:=9999999)(disch:=first|omega|(simp only[AN];omega))only[↓KP,EK,↓reduceIte,reduceCtorEq,Nat.reduceEqDiff,Nat.reduceAdd,Nat.reduceLeDiff,Nat.reduceMul]
    refine C_call (In_run _ _ _ ?_)
    simp only [Bool.and_eq_true, decide_eq_true_eq] at h1
    cases h2 : (decide (lo ≤ b) && decide (b ≤ hi)) with
    | false =>
      simp(maxSteps:=9999999)(disch:=first|omega|(simp only[AN];omega))only[↓KP,EK,↓reduceIte,reduceCtorEq,Nat.reduceEqDiff,Nat.reduceAdd,Nat.reduceLeDiff,Nat.reduceMul]
      have : endsE a b lo hi = 7 := by
        simp only [Bool.and_eq_false_iff, decide_eq_false_iff_not] at h2
        rw [endsE, if_neg (by omega)]
      rw [this] at h
      refine h _ ?_
      exact GW
    | true =>
      simp(maxSteps:=9999999)(disch:=first|omega|(simp only[AN];omega))only[↓KP,EK,↓reduceIte,reduceCtorEq,Nat.reduceEqDiff,Nat.reduceAdd,Nat.reduceLeDiff,Nat.reduceMul]
      simp only [Bool.and_eq_true, decide_eq_true_eq] at h2
      have h3 : lo ≤ a ∧ a ≤ hi ∧ lo ≤ b ∧ b ≤ hi := by omega
      refine C_decide (fun hc => ?_) (fun hc => ?_)
      · simp(maxSteps:=9999999)(disch:=first|omega|(simp only[AN];omega))only[↓KP,EK,↓reduceIte,reduceCtorEq,Nat.reduceEqDiff,Nat.reduceAdd,Nat.reduceLeDiff,Nat.reduceMul]
        rw [endsE, if_pos h3, if_pos hc] at h
        refine h _ ?_
        exact GW
      · simp(maxSteps:=9999999)(disch:=first|omega|(simp only[AN];omega))only[↓KP,EK,↓reduceIte,reduceCtorEq,Nat.reduceEqDiff,Nat.reduceAdd,Nat.reduceLeDiff,Nat.reduceMul]
        rw [endsE, if_pos h3, if_neg hc] at h
        refine h _ ?_
        exact GW
def watcherE (w : Watcher) : Int :=
  if endsE w.lo w.hi 1 300 = 7 ∨ ¬ (0 ≤ w.off ∧ w.off ≤ 9) then 7 else if endsE w.lo w.hi 1 300 ≠ 0 ∨ 6 < w.hi - w.lo then 2 else 0
theorem endsE_cases (a b : Int) : endsE a b 1 300 = 7 ∨ endsE a b 1 300 = 2 ∨ (endsE a b 1 300 = 0 ∧ 1 ≤ a ∧ a ≤ 300 ∧ 1 ≤ b ∧ b ≤ 300) := by
  unfold endsE
  split
  · split
    · exact .inr (.inl rfl)
    · exact .inr (.inr ⟨rfl, by omega⟩)
  · exact .inl rfl
theorem watcher_run (w : Watcher) (h : ∀ H', Grew H H' → R (I (watcherE w)) H') : CallQ prog (.func 62 [] []) [.agg w.cells] H R := by
  refine CallQ_enter (fn:=c62) rfl (Nat.le_of_ble_eq_true rfl) ?_;simp(maxSteps:=9999999)(disch:=first|omega|(simp only[AN];omega))only[c62,envFrom,Watcher.cells,↓KP,EK,↓reduceIte,reduceCtorEq,Nat.reduceEqDiff,Nat.reduceAdd,Nat.reduceLeDiff,Nat.reduceMul]
  refine C_call (Ends_run _ _ _ _ fun H1 hg1 => ?_)
  have hn1 := hg1.next
  simp only [AH.next_alloc] at hn1
  have hb : H1.get H.next = some (.cells false [.str w.name, I w.lo, I w.hi, I w.off]) := by
    rw [hg1.get _ (by simp), get_alloc_new]
  have hg : Grew H H1 := ⟨by omega, fun b hb => (hg1.get b (by simp; omega)).trans (get_alloc_old hb)⟩
  rcases endsE_cases w.lo w.hi with h7 | h2 | ⟨h0, hlo, hlo', hhi, hhi'⟩
  · simp(maxSteps:=9999999)(disch:=first|omega|(simp only[AN];omega))only[h7,hb,↓KP,EK,↓reduceIte,reduceCtorEq,Nat.reduceEqDiff,Nat.reduceAdd,Nat.reduceLeDiff,Nat.reduceMul]
    have : watcherE w = 7 := by simp [watcherE, h7]
    rw [this] at h
    exact h _ hg
  · have n27 : ¬ (2 : Int) = 7 := by decide
    have n20 : ¬ (2 : Int) = 0 := by decide
    simp(maxSteps:=9999999)(disch:=first|omega|(simp only[AN];omega))only[h2,hb,n27,↓KP,EK,↓reduceIte,reduceCtorEq,Nat.reduceEqDiff,Nat.reduceAdd,Nat.reduceLeDiff,Nat.reduceMul]
    refine C_call (In_run _ _ _ ?_)
    cases ho : (decide (0 ≤ w.off) && decide (w.off ≤ 9)) with
    | false =>
      simp(maxSteps:=9999999)(disch:=first|omega|(simp only[AN];omega))only[↓KP,EK,↓reduceIte,reduceCtorEq,Nat.reduceEqDiff,Nat.reduceAdd,Nat.reduceLeDiff,Nat.reduceMul]
      have : watcherE w = 7 := by
        simp only [Bool.and_eq_false_iff, decide_eq_false_iff_not] at ho
        rw [watcherE, if_pos (by omega)]
      rw [this] at h
      exact h _ hg
    | true =>
      simp(maxSteps:=9999999)(disch:=first|omega|(simp only[AN];omega))only[n20,↓KP,EK,↓reduceIte,reduceCtorEq,Nat.reduceEqDiff,Nat.reduceAdd,Nat.reduceLeDiff,Nat.reduceMul]
      have : watcherE w = 2 := by
        simp only [Bool.and_eq_true, decide_eq_true_eq] at ho
        rw [watcherE, if_neg (by omega), if_pos (by omega)]
      rw [this] at h
      exact h _ hg
  · have n07 : ¬ (0 : Int) = 7 := by decide
    have e1 : IntKind.i64.wrap (w.hi - w.lo) = w.hi - w.lo := i64_in _ (by omega)
    simp(maxSteps:=9999999)(disch:=first|omega|(simp only[AN];omega))only[h0,hb,n07,↓KP,EK,↓reduceIte,reduceCtorEq,Nat.reduceEqDiff,Nat.reduceAdd,Nat.reduceLeDiff,Nat.reduceMul]
    refine C_call (In_run _ _ _ ?_)
    cases ho : (decide (0 ≤ w.off) && decide (w.off ≤ 9)) with
    | false =>
      simp(maxSteps:=9999999)(disch:=first|omega|(simp only[AN];omega))only[↓KP,EK,↓reduceIte,reduceCtorEq,Nat.reduceEqDiff,Nat.reduceAdd,Nat.reduceLeDiff,Nat.reduceMul]
      have : watcherE w = 7 := by
        simp only [Bool.and_eq_false_iff, decide_eq_false_iff_not] at ho
        rw [watcherE, if_pos (by omega)]
      rw [this] at h
      exact h _ hg
    | true =>
      simp only [Bool.and_eq_true, decide_eq_true_eq] at ho
      simp(maxSteps:=9999999)(disch:=first|omega|(simp only[AN];omega))only[hb,e1,↓KP,EK,↓reduceIte,reduceCtorEq,Nat.reduceEqDiff,Nat.reduceAdd,Nat.reduceLeDiff,Nat.reduceMul]
      refine C_decide (fun hc => ?_) (fun hc => ?_)
      · simp(maxSteps:=9999999)(disch:=first|omega|(simp only[AN];omega))only[↓KP,EK,↓reduceIte,reduceCtorEq,Nat.reduceEqDiff,Nat.reduceAdd,Nat.reduceLeDiff,Nat.reduceMul]
        rw [watcherE, if_neg (by omega), if_pos (by omega)] at h
        exact h _ hg
      · simp(maxSteps:=9999999)(disch:=first|omega|(simp only[AN];omega))only[↓KP,EK,↓reduceIte,reduceCtorEq,Nat.reduceEqDiff,Nat.reduceAdd,Nat.reduceLeDiff,Nat.reduceMul]
        rw [watcherE, if_neg (by omega), if_neg (by omega)] at h
        exact h _ hg
end Go.Proofs.Ytgncpbkedhchfaa
namespace Go.Proofs.Ytgncpbkedhchfaa
open Go.AM Go.IntWalk
structure House where
  ws : List Watcher
  days : List (List Int)
  deriving DecidableEq
def firstErr {α : Type} (f : Nat → α → Int) : Nat → List α → Option (Nat × Int)
  | _, [] => none
  | i, x :: xs => if f i x ≠ 0 then some (i, f i x) else firstErr f (i + 1) xs
theorem firstErr_some {α : Type} {f : Nat → α → Int} : ∀ {l : List α} {i k : Nat} (hk : k < l.length), (∀ j (hj : j < l.length), j < k → f (i + j) l[j] = 0) → f (i + k) l[k] ≠ 0 → firstErr f i l = some (i + k, f (i + k) l[k])
  | [], _, k, hk, _, _ => by simp at hk
  | x :: xs, i, 0, _, _, h => by
    simp only [firstErr]
    rw [if_pos (by simpa using h)]
    rfl
  | x :: xs, i, k + 1, hk, h0, h => by
    have h1 := h0 0 (by simp) (by omega)
    simp only [Nat.add_zero, List.getElem_cons_zero] at h1
    simp only [firstErr, h1]
    have h2 := firstErr_some (f := f) (l := xs) (i := i + 1) (k := k) (by simpa using hk) (fun j hj hjk => by
      have := h0 (j + 1) (by simp; omega) (by omega)
      rw [show i + 1 + j = i + (j + 1) from by omega]
      simpa using this) (by rw [show i + 1 + k = i + (k + 1) from by omega]; simpa using h)
    rw [show i + 1 + k = i + (k + 1) from by omega] at h2
    simpa using h2
theorem firstErr_none {α : Type} {f : Nat → α → Int} : ∀ {l : List α} {i : Nat}, (∀ j (hj : j < l.length), f (i + j) l[j] = 0) → firstErr f i l = none
  | [], _, _ => rfl
  | x :: xs, i, h => by
    have h1 := h 0 (by simp)
    simp only [Nat.add_zero, List.getElem_cons_zero] at h1
    simp only [firstErr, h1]
    have h2 := firstErr_none (f := f) (l := xs) (i := i + 1) (fun j hj => by
      have := h (j + 1) (by simp; omega)
      rw [show i + 1 + j = i + (j + 1) from by omega]
      simpa using this)
    simpa using h2
def wE (h : House) (i : Nat) (w : Watcher) : Int := if freshE w.name ((h.ws.take i).map (·.name)) = 0 then watcherE w else freshE w.name ((h.ws.take i).map (·.name))
def dE (h : House) (_ : Nat) (day : List Int) : Int := if day.length ≠ h.ws.length then 3 else if day.all (fun n => decide (-1 ≤ n) && decide (n ≤ 120)) then 0 else 7
def checkE (h : House) : Int × Int × Int :=
  if 3 < h.ws.length then (1, 0, 3) else
  match firstErr (wE h) 0 h.ws with
  | some (i, e) => (1, i, e)
  | none => if 4 < h.days.length then (2, 0, 3) else
    match firstErr (dE h) 0 h.days with
    | some (i, e) => (2, i, e)
    | none => (0, 0, 0)
def EWatcher : Elem Watcher := fun _ _ cs w => cs = w.cells
theorem EWatcher.stays : Stays EWatcher := fun _ _ _ _ _ _ _ h => h
def IsHouse (F : Nat → Prop) (H : AH) (v1 v2 : AV) (h : House) : Prop := IsSl 4 EWatcher F H v1 h.ws ∧ IsSl 1 (ESl 1 EInt) F H v2 h.days
theorem IsHouse.move {F F' : Nat → Prop} {H H' : AH} {v1 v2 : AV} {h : House} (hk : Keeps F F' H H') (hh : IsHouse F H v1 v2 h) : IsHouse F' H' v1 v2 h :=
  ⟨hh.1.move EWatcher.stays hk, hh.2.move (ESl.stays EInt.stays) hk⟩
end Go.Proofs.Ytgncpbkedhchfaa
namespace Go.Proofs.Ytgncpbkedhchfaa
open Go.AM Go.IntWalk
set_option maxRecDepth 100000
set_option linter.unusedSimpArgs false
variable {H : AH} {R : AV → AH → Prop}
theorem rCheck_run (v1 v2 : AV) (h : House) (hh : IsHouse (Old H) H v1 v2 h) (hn : ∀ w ∈ h.ws, w.name.size ≤ 9223372036854775807) (h1 : h.ws.length ≤ 9223372036854775807) (h2 : h.days.length ≤ 9223372036854775807)
    (k : ∀ H', Grew H H' → R (.tuple [I (checkE h).1, I (checkE h).2.1, I (checkE h).2.2]) H') : CallQ prog (.func 17 [] []) [.agg [v1, v2]] H R := by
  refine CallQ_enter (fn:=c17) rfl (Nat.le_of_ble_eq_true rfl) ?_;simp(maxSteps:=9999999)(disch:=first|omega|(simp only[AN];omega))only[c17,envFrom,hh.1.len,↓KP,EK,↓reduceIte,reduceCtorEq,Nat.reduceEqDiff,Nat.reduceAdd,Nat.reduceLeDiff,Nat.reduceMul]
  refine C_decide (fun hc => ?_) (fun hc => ?_)
  · simp(maxSteps:=9999999)(disch:=first|omega|(simp only[AN];omega))only[↓KP,EK,↓reduceIte,reduceCtorEq,Nat.reduceEqDiff,Nat.reduceAdd,Nat.reduceLeDiff,Nat.reduceMul]
    have : checkE h = (1, 0, 3) := by rw [checkE, if_pos (by omega)]
    rw [this] at k
    refine k _ ?_
    exact GW
  · simp(maxSteps:=9999999)(disch:=first|omega|(simp only[AN];omega))only[↓KP,EK,↓reduceIte,reduceCtorEq,Nat.reduceEqDiff,Nat.reduceAdd,Nat.reduceLeDiff,Nat.reduceMul]
    let B : Nat := H.next
    refine K_loop (fun m e H1 => ∃ (k : Nat) (v5 x13 : AV) (tail : Env), e = (0, .agg [v1, v2]) :: (1, .ptr H.next 0) :: (2, I 0) :: (3, I 0) :: (4, I 0) :: (13, x13) :: (5, v5) :: (6, I k) :: tail ∧ Grew H H1 ∧ H.next < H1.next ∧ H1.get H.next = some (.cells false [v1, v2]) ∧
      Go.AM.Own 1 EStr (Old H) (H.next + 1) H1 v5 ((h.ws.take k).map (·.name)) ∧ k ≤ h.ws.length ∧ (∀ j (hj : j < h.ws.length), j < k → wE h j h.ws[j] = 0) ∧ m = h.ws.length - k) h.ws.length
      ⟨0, _, _, [], rfl, (Grew.refl _).alloc _, by simp, get_alloc_new _ _, .inl ⟨rfl, rfl⟩, by omega, by omega, rfl⟩ ?_
    rintro m e H1 ⟨n, v5, x13, tail, rfl, hG, hlt, hbox, hown, hk, h0, rfl⟩
    have hh1 : IsHouse (Old H1) H1 v1 v2 h := hh.move hG.keeps
    simp(maxSteps:=9999999)(disch:=first|omega|(simp only[AN];omega))only[hbox,hh.1.len,↓KP,EK,↓reduceIte,reduceCtorEq,Nat.reduceEqDiff,Nat.reduceAdd,Nat.reduceLeDiff,Nat.reduceMul]
    refine C_decide (fun hc1 => ?_) (fun hc1 => ?_)
    · have hk' : n < h.ws.length := by omega
      obtain ⟨b, i, ro, vs, cs, q1, q2, q3, _, q4, q5, q6, q7⟩ := hh1.1.at_ hk'
      obtain rfl : cs = h.ws[n].cells := q4
      have g0 : vs[i]? = some (.str h.ws[n].name) := by simpa [Watcher.cells] using q7 0 (by omega)
      simp(maxSteps:=9999999)(disch:=first|omega|(simp only[AN];omega))only[hbox,q1,q3,g0,↓KP,EK,↓reduceIte,reduceCtorEq,Nat.reduceEqDiff,Nat.reduceAdd,Nat.reduceLeDiff,Nat.reduceMul]
      refine C_call (Fresh_run v5 _ h.ws[n].name (hn _ (List.getElem_mem hk')) (hown.sl EStr.stays) (by rw [List.length_map, List.length_take]; omega) ?_)
      simp(maxSteps:=9999999)(disch:=first|omega|(simp only[AN];omega))only[hbox,q1,q3,g0,↓KP,EK,↓reduceIte,reduceCtorEq,Nat.reduceEqDiff,Nat.reduceAdd,Nat.reduceLeDiff,Nat.reduceMul]
      have hown2 := hown.alloc EStr.stays (fun b hb => by omega) (.cells false [.str h.ws[n].name])
      have hsrc : srcCells (H1.alloc (.cells false [.str h.ws[n].name])) 1 1 (.slice H1.next 0 1 1) = some [.str h.ws[n].name] := by
        simp [srcCells, AH.read, get_alloc_new, readN]
      obtain ⟨v5', H3, ha, hown3, hn3, hsame⟩ := hown2.append (bytes := 16) (x := .slice H1.next 0 1 1) (l2 := [h.ws[n].name]) EStr.stays (fun b hb => by simp; omega) (by simp; omega) rfl hsrc (Rows.single rfl rfl) rfl (by
        simp only [List.length_map, List.length_take, List.length_singleton, roomA]; omega)
      simp only [AH.next_alloc] at hn3 hsame
      have hold : ∀ b, b < H.next + 1 → H3.get b = H1.get b := fun b hb => by
        rw [hsame b (by omega) (fun i n z hv => by have := (hown2.spine hv).2.1; omega), get_alloc_old (by omega)]
      have hG3 : Grew H H3 := ⟨by have := hG.next; omega, fun b hb => (hold b (by omega)).trans (hG.get b hb)⟩
      have hbox3 : H3.get H.next = some (.cells false [v1, v2]) := (hold _ (by omega)).trans hbox
      have hh3 : IsHouse (Old H3) H3 v1 v2 h := hh.move hG3.keeps
      simp(maxSteps:=9999999)(disch:=first|omega|(simp only[AN];omega))only[ha,↓KP,EK,↓reduceIte,reduceCtorEq,Nat.reduceEqDiff,Nat.reduceAdd,Nat.reduceLeDiff,Nat.reduceMul]
      have e1 : IntKind.i64.wrap ((n : Int) + 1) = ((n + 1 : Nat) : Int) := i64_in _ (by omega)
      have htake : (h.ws.take (n + 1)).map (·.name) = (h.ws.take n).map (·.name) ++ [h.ws[n].name] := by
        rw [List.take_succ_eq_append_getElem hk', List.map_append]; rfl
      have bad : ∀ (H' : AH) (e : Int), Grew H H' → wE h n h.ws[n] = e → e ≠ 0 → R (.tuple [I 1, I n, I e]) H' := fun H' e hg he hne => by
        have hf := firstErr_some (f := wE h) (l := h.ws) (i := 0) (k := n) hk' (fun j hj hjn => by simpa using h0 j hj hjn) (by simpa [he] using hne)
        have hcheck : checkE h = (1, (n : Int), e) := by
          rw [checkE, if_neg (by omega), hf]
          simp [he]
        have := k H' hg
        rw [hcheck] at this
        exact this
      have good : wE h n h.ws[n] = 0 → ∀ j (hj : j < h.ws.length), j < n + 1 → wE h j h.ws[j] = 0 := fun hz j hj hjn => by
        by_cases hjn' : j = n
        · subst hjn'; exact hz
        · exact h0 j hj (by omega)
      refine C_decide (fun hf => ?_) (fun hf => ?_)
      · obtain ⟨b', i', ro', vs', cs', q1', q2', q3', _, q4', q5', q6', q7'⟩ := hh3.1.at_ hk'
        obtain rfl : cs' = h.ws[n].cells := q4'
        simp(maxSteps:=9999999)(disch:=first|omega|(simp only[AN];omega))only[hbox3,q1',q3',q5',q6',↓KP,EK,↓reduceIte,reduceCtorEq,Nat.reduceEqDiff,Nat.reduceAdd,Nat.reduceLeDiff,Nat.reduceMul]
        refine C_call (watcher_run _ fun H4 hg4 => ?_)
        have hw : wE h n h.ws[n] = watcherE h.ws[n] := by rw [wE, if_pos hf]
        by_cases hz : watcherE h.ws[n] = 0
        · simp(maxSteps:=9999999)(disch:=first|omega|(simp only[AN];omega))only[hz,e1,↓KP,EK,↓reduceIte,reduceCtorEq,Nat.reduceEqDiff,Nat.reduceAdd,Nat.reduceLeDiff,Nat.reduceMul]
          have hown4 := hown3.move (H' := H4) (F' := Old H) EStr.stays (fun b hb => ⟨hb, hg4.get b (by have := hG3.next; omega)⟩) (fun b i n z hv => ⟨(hown3.spine hv).1, hg4.get _ (hown3.spine hv).2.2⟩) hg4.next
          rw [← htake] at hown4
          exact ⟨h.ws.length - (n + 1), by omega, n + 1, v5', x13, _, rfl, hG3.trans hg4, by have := hg4.next; omega, (hg4.get _ (by omega)).trans hbox3, hown4, by omega, good (hw.trans hz), rfl⟩
        · simp(maxSteps:=9999999)(disch:=first|omega|(simp only[AN];omega))only[hz,↓KP,EK,↓reduceIte,reduceCtorEq,Nat.reduceEqDiff,Nat.reduceAdd,Nat.reduceLeDiff,Nat.reduceMul]
          exact bad _ _ (hG3.trans hg4) hw hz
      · have hw : wE h n h.ws[n] = freshE h.ws[n].name ((h.ws.take n).map (·.name)) := by rw [wE, if_neg hf]
        simp(maxSteps:=9999999)(disch:=first|omega|(simp only[AN];omega))only[hf,↓KP,EK,↓reduceIte,reduceCtorEq,Nat.reduceEqDiff,Nat.reduceAdd,Nat.reduceLeDiff,Nat.reduceMul]
        exact bad _ _ hG3 hw hf
    · have hnone : firstErr (wE h) 0 h.ws = none := firstErr_none fun j hj => by simpa using h0 j hj (by omega)
      simp(maxSteps:=9999999)(disch:=first|omega|(simp only[AN];omega))only[hbox,hh.2.len,↓KP,EK,↓reduceIte,reduceCtorEq,Nat.reduceEqDiff,Nat.reduceAdd,Nat.reduceLeDiff,Nat.reduceMul]
      refine C_decide (fun hc2 => ?_) (fun hc2 => ?_)
      · simp(maxSteps:=9999999)(disch:=first|omega|(simp only[AN];omega))only[↓KP,EK,↓reduceIte,reduceCtorEq,Nat.reduceEqDiff,Nat.reduceAdd,Nat.reduceLeDiff,Nat.reduceMul]
        have hcheck : checkE h = (2, 0, 3) := by
          rw [checkE, if_neg (by omega), hnone]
          simp only []
          rw [if_pos (by omega)]
        rw [hcheck] at k
        exact k _ hG
      · simp(maxSteps:=9999999)(disch:=first|omega|(simp only[AN];omega))only[↓KP,EK,↓reduceIte,reduceCtorEq,Nat.reduceEqDiff,Nat.reduceAdd,Nat.reduceLeDiff,Nat.reduceMul]
        refine K_loop (fun m e H2 => ∃ (q : Nat) (tail : Env), e = (0, .agg [v1, v2]) :: (1, .ptr H.next 0) :: (2, I 0) :: (3, I 0) :: (4, I 0) :: tail ∧ tail.get 8 = some (I q) ∧ H2 = H1 ∧ q ≤ h.days.length ∧ (∀ j (hj : j < h.days.length), j < q → dE h j h.days[j] = 0) ∧ m = h.days.length - q) h.days.length
          ⟨0, _, rfl, by simp(maxSteps:=9999999)(disch:=first|omega|(simp only[AN];omega))only[↓KP,EK,↓reduceIte,reduceCtorEq,Nat.reduceEqDiff,Nat.reduceAdd,Nat.reduceLeDiff,Nat.reduceMul]; rfl, rfl, by omega, by omega, rfl⟩ ?_
        rintro m e H2 ⟨q, tail, rfl, h8, hH, hq, d0, rfl⟩
        subst H2
        simp(maxSteps:=9999999)(disch:=first|omega|(simp only[AN];omega))only[h8,hbox,hh.2.len,↓KP,EK,↓reduceIte,reduceCtorEq,Nat.reduceEqDiff,Nat.reduceAdd,Nat.reduceLeDiff,Nat.reduceMul]
        refine C_decide (fun hc3 => ?_) (fun hc3 => ?_)
        · have hq' : q < h.days.length := by omega
          obtain ⟨b, i, ro, vs, cs, q1, q2, q3, _, q4, q5, q6, q7⟩ := hh1.2.at_ hq'
          obtain ⟨vd, rfl, hvd⟩ := q4
          have g0 : vs[i]? = some vd := by simpa using q7 0 (by omega)
          simp(maxSteps:=9999999)(disch:=first|omega|(simp only[AN];omega))only[↓KP,EK,↓reduceIte,reduceCtorEq,Nat.reduceEqDiff,Nat.reduceAdd,Nat.reduceLeDiff,Nat.reduceMul]
          refine K_draw ?_
          simp(maxSteps:=9999999)(disch:=first|omega|(simp only[AN];omega))only[h8,hbox,q1,q3,g0,hvd.len,hh.1.len,↓KP,EK,↓reduceIte,reduceCtorEq,Nat.reduceEqDiff,Nat.reduceAdd,Nat.reduceLeDiff,Nat.reduceMul]
          have e1 : IntKind.i64.wrap ((q : Int) + 1) = ((q + 1 : Nat) : Int) := i64_in _ (by omega)
          have bad : ∀ e : Int, dE h q h.days[q] = e → e ≠ 0 → ∀ H', Grew H H' → R (.tuple [I 2, I q, I e]) H' := fun e he hne H' hg => by
            have hf := firstErr_some (f := dE h) (l := h.days) (i := 0) (k := q) hq' (fun j hj hjn => by simpa using d0 j hj hjn) (by simpa [he] using hne)
            have hcheck : checkE h = (2, (q : Int), e) := by
              rw [checkE, if_neg (by omega), hnone]
              simp only []
              rw [if_neg (by omega), hf]
              simp [he]
            have := k H' hg
            rw [hcheck] at this
            exact this
          by_cases hlen : (h.days[q].length : Int) = (h.ws.length : Int)
          · simp(maxSteps:=9999999)(disch:=first|omega|(simp only[AN];omega))only[hlen,↓KP,EK,↓reduceIte,reduceCtorEq,Nat.reduceEqDiff,Nat.reduceAdd,Nat.reduceLeDiff,Nat.reduceMul]
            have hlen' : h.days[q].length = h.ws.length := by omega
            refine K_loop (fun m e H2 => ∃ (r : Nat) (tail : Env), e = (0, .agg [v1, v2]) :: (1, .ptr H.next 0) :: (2, I 0) :: (3, I 0) :: (4, I 0) :: tail ∧ tail.get 8 = some (I q) ∧ tail.get 9 = some (I r) ∧ H2 = H1 ∧ r ≤ h.days[q].length ∧ (∀ j (hj : j < h.days[q].length), j < r → -1 ≤ h.days[q][j] ∧ h.days[q][j] ≤ 120) ∧ m = h.days[q].length - r) h.days[q].length
              ⟨0, _, rfl, by simp(maxSteps:=9999999)(disch:=first|omega|(simp only[AN];omega))only[h8,↓KP,EK,↓reduceIte,reduceCtorEq,Nat.reduceEqDiff,Nat.reduceAdd,Nat.reduceLeDiff,Nat.reduceMul], by simp(maxSteps:=9999999)(disch:=first|omega|(simp only[AN];omega))only[↓KP,EK,↓reduceIte,reduceCtorEq,Nat.reduceEqDiff,Nat.reduceAdd,Nat.reduceLeDiff,Nat.reduceMul]; rfl, rfl, by omega, by omega, rfl⟩ ?_
            rintro m e H2 ⟨r, tail', rfl, h8', h9, hH, hr, r0, rfl⟩
            subst H2
            simp(maxSteps:=9999999)(disch:=first|omega|(simp only[AN];omega))only[h8',h9,hbox,q1,q3,g0,hvd.len,↓KP,EK,↓reduceIte,reduceCtorEq,Nat.reduceEqDiff,Nat.reduceAdd,Nat.reduceLeDiff,Nat.reduceMul]
            refine C_decide (fun hc4 => ?_) (fun hc4 => ?_)
            · have hr' : r < h.days[q].length := by omega
              obtain ⟨b2, i2, ro2, vs2, p1, p2, p3, p4⟩ := IsInts.at_ hvd hr'
              have e2 : IntKind.i64.wrap ((r : Int) + 1) = ((r + 1 : Nat) : Int) := i64_in _ (by omega)
              simp(maxSteps:=9999999)(disch:=first|omega|(simp only[AN];omega))only[h8',h9,hbox,q1,q3,g0,p1,p3,p4,↓KP,EK,↓reduceIte,reduceCtorEq,Nat.reduceEqDiff,Nat.reduceAdd,Nat.reduceLeDiff,Nat.reduceMul]
              refine C_call (In_run _ _ _ ?_)
              cases hin : (decide (-1 ≤ h.days[q][r]) && decide (h.days[q][r] ≤ 120)) with
              | true =>
                simp(maxSteps:=9999999)(disch:=first|omega|(simp only[AN];omega))only[h8',h9,e2,↓KP,EK,↓reduceIte,reduceCtorEq,Nat.reduceEqDiff,Nat.reduceAdd,Nat.reduceLeDiff,Nat.reduceMul]
                simp only [Bool.and_eq_true, decide_eq_true_eq] at hin
                refine ⟨h.days[q].length - (r + 1), by omega, r + 1, _, rfl, by simp(maxSteps:=9999999)(disch:=first|omega|(simp only[AN];omega))only[h8',↓KP,EK,↓reduceIte,reduceCtorEq,Nat.reduceEqDiff,Nat.reduceAdd,Nat.reduceLeDiff,Nat.reduceMul], by simp(maxSteps:=9999999)(disch:=first|omega|(simp only[AN];omega))only[↓KP,EK,↓reduceIte,reduceCtorEq,Nat.reduceEqDiff,Nat.reduceAdd,Nat.reduceLeDiff,Nat.reduceMul], rfl, by omega, fun j hj hjr => ?_, rfl⟩
                by_cases hjr' : j = r
                · subst hjr'; exact hin
                · exact r0 j hj (by omega)
              | false =>
                simp(maxSteps:=9999999)(disch:=first|omega|(simp only[AN];omega))only[h8',↓KP,EK,↓reduceIte,reduceCtorEq,Nat.reduceEqDiff,Nat.reduceAdd,Nat.reduceLeDiff,Nat.reduceMul]
                have hd : dE h q h.days[q] = 7 := by
                  rw [dE, if_neg (by omega), if_neg]
                  intro hall
                  rw [List.all_eq_true] at hall
                  have := hall _ (List.getElem_mem hr')
                  rw [hin] at this; cases this
                exact bad 7 hd (by decide) _ hG
            · simp(maxSteps:=9999999)(disch:=first|omega|(simp only[AN];omega))only[h8',e1,↓KP,EK,↓reduceIte,reduceCtorEq,Nat.reduceEqDiff,Nat.reduceAdd,Nat.reduceLeDiff,Nat.reduceMul]
              have hd : dE h q h.days[q] = 0 := by
                rw [dE, if_neg (by omega), if_pos]
                rw [List.all_eq_true]
                intro x hx
                obtain ⟨j, hj, rfl⟩ := List.getElem_of_mem hx
                have := r0 j hj (by omega)
                simp [this]
              refine ⟨h.days.length - (q + 1), by omega, q + 1, _, rfl, by simp(maxSteps:=9999999)(disch:=first|omega|(simp only[AN];omega))only[↓KP,EK,↓reduceIte,reduceCtorEq,Nat.reduceEqDiff,Nat.reduceAdd,Nat.reduceLeDiff,Nat.reduceMul], rfl, by omega, fun j hj hjq => ?_, rfl⟩
              by_cases hjq' : j = q
              · subst hjq'; exact hd
              · exact d0 j hj (by omega)
          · simp(maxSteps:=9999999)(disch:=first|omega|(simp only[AN];omega))only[hlen,h8,↓KP,EK,↓reduceIte,reduceCtorEq,Nat.reduceEqDiff,Nat.reduceAdd,Nat.reduceLeDiff,Nat.reduceMul]
            have hd : dE h q h.days[q] = 3 := by rw [dE, if_pos (by omega)]
            exact bad 3 hd (by decide) _ hG
        · simp(maxSteps:=9999999)(disch:=first|omega|(simp only[AN];omega))only[↓KP,EK,↓reduceIte,reduceCtorEq,Nat.reduceEqDiff,Nat.reduceAdd,Nat.reduceLeDiff,Nat.reduceMul]
          have hcheck : checkE h = (0, 0, 0) := by
            rw [checkE, if_neg (by omega), hnone]
            simp only []
            rw [if_neg (by omega), firstErr_none fun j hj => by simpa using d0 j hj (by omega)]
          rw [hcheck] at k
          exact k _ hG
end Go.Proofs.Ytgncpbkedhchfaa
namespace Go.AM
theorem C_ndecide {prog : Nat → Option AFunc} {e : Env} {H : AH} {ks : List Kont} {Q : AExit → Env → AH → Prop} {p : Prop} [Decidable p] {a b : ACode} (h1 : ¬ p → WpK prog a e H ks Q) (h2 : p → WpK prog b e H ks Q) : CondK prog (some (.bool (!decide p))) a b e H ks Q := by
  by_cases h : p
  · simp only [h, decide_true, Bool.not_true]; exact h2 h
  · simp only [h, decide_false, Bool.not_false]; exact h1 h
section
variable {α : Type} {z : Nat} {E : Elem α} {F : Nat → Prop} {H H' : AH} {v : AV} {l : List α}
theorem IsSl.rd (h : IsSl z E (Old H) H v l) {n : Int} {k : Nat} (hn : n = k) (hk : k < l.length) : ∃ b i ro vs cs, b < H.next ∧ cs.length = z ∧ E (Old H) H cs l[k] ∧
    ((∀ S, opIdxSl z v (.int .i64 n) S = some (.ptr b i, S)) ∧ H.get b = some (.cells ro vs) ∧ (i + z ≤ vs.length) ∧ (vs.drop i).take z = cs) ∧ ∀ j, j < z → vs[i + j]? = cs[j]? := by
  subst hn
  obtain ⟨b, i, ro, vs, cs, h1, h2, h3, h4, h5, h6, h7, h8⟩ := h.at_ hk
  exact ⟨b, i, ro, vs, cs, h2, h4, h5, ⟨h1, h3, h6, h7⟩, h8⟩
theorem IsSl.rdInt {l : List Int} (h : IsSl 1 EInt (Old H) H v l) {n : Int} {k : Nat} (hn : n = k) (hk : k < l.length) : ∃ b i ro vs, b < H.next ∧
    ((∀ S, opIdxSl 1 v (.int .i64 n) S = some (.ptr b i, S)) ∧ H.get b = some (.cells ro vs) ∧ vs[i]? = some (.int .i64 l[k])) := by
  obtain ⟨b, i, ro, vs, cs, h1, h2, rfl, ⟨h4, h5, _, _⟩, h6⟩ := h.rd hn hk
  exact ⟨b, i, ro, vs, h1, h4, h5, by simpa using h6 0 (by omega)⟩
theorem IsSl.rdSl {β : Type} {y : Nat} {E : Elem β} {l : List (List β)} (h : IsSl 1 (ESl y E) (Old H) H v l) {n : Int} {k : Nat} (hn : n = k) (hk : k < l.length) : ∃ b i ro vs vd, b < H.next ∧ IsSl y E (Old H) H vd l[k] ∧
    ((∀ S, opIdxSl 1 v (.int .i64 n) S = some (.ptr b i, S)) ∧ H.get b = some (.cells ro vs) ∧ vs[i]? = some vd) := by
  obtain ⟨b, i, ro, vs, cs, h1, h2, ⟨vd, rfl, hvd⟩, ⟨h4, h5, _, _⟩, h6⟩ := h.rd hn hk
  exact ⟨b, i, ro, vs, vd, h1, hvd, h4, h5, by simpa using h6 0 (by omega)⟩
theorem IsSl.grow (hE : Stays E) (hg : Grew H H') (h : IsSl z E (Old H) H v l) : IsSl z E (Old H') H' v l := h.move hE hg.keeps
def Mine (z : Nat) (E : Elem α) (P : Nat → Prop) (N : Nat) (H : AH) (v : AV) (l : List α) : Prop :=
  (v = .nilslice ∧ l = []) ∨ ∃ b i vs cells, v = .slice b i l.length z ∧ N ≤ b ∧ b < H.next ∧ H.get b = some (.cells false vs) ∧ readN vs i (l.length * z) = some cells ∧ Rows z (E (fun k => k < H.next ∧ k ≠ b ∧ (P k ∨ N ≤ k)) H) cells l
variable {P : Nat → Prop} {N : Nat}
theorem Mine.nil : Mine z E P N H .nilslice [] := .inl ⟨rfl, rfl⟩
theorem Mine.len (h : Mine z E P N H v l) (S : AH) : opLen false v S = some (.int .i64 l.length, S) := by
  rcases h with ⟨rfl, rfl⟩ | ⟨b, i, vs, cells, rfl, _⟩ <;> rfl
theorem Mine.isCell (h : Mine z E P N H v l) : v.isCell = true := by
  rcases h with ⟨rfl, rfl⟩ | ⟨b, i, vs, cells, rfl, _⟩ <;> rfl
theorem Mine.cells? (h : Mine z E P N H v l) : v.cells? = some [v] := by
  rcases h with ⟨rfl, rfl⟩ | ⟨b, i, vs, cells, rfl, _⟩ <;> rfl
theorem Mine.spine (h : Mine z E P N H v l) {b i n y : Nat} (hv : v = .slice b i n y) : N ≤ b ∧ b < H.next := by
  rcases h with ⟨rfl, _⟩ | ⟨b', i', vs, cells, rfl, h2, h3, _⟩
  · cases hv
  · simp only [AV.slice.injEq] at hv
    obtain ⟨rfl, _⟩ := hv
    exact ⟨h2, h3⟩
theorem Mine.move (hE : Stays E) (hs : ∀ k, k < H.next → (P k ∨ N ≤ k) → H'.get k = H.get k) (hn : H.next ≤ H'.next) (h : Mine z E P N H v l) : Mine z E P N H' v l := by
  rcases h with h | ⟨b, i, vs, cells, h1, h2, h3, h4, h5, h6⟩
  · exact .inl h
  · refine .inr ⟨b, i, vs, cells, h1, h2, Nat.lt_of_lt_of_le h3 hn, (hs b h3 (.inr h2)).trans h4, h5, h6.mono fun cs a h => hE _ _ _ _ _ _ (fun k hk => ⟨⟨Nat.lt_of_lt_of_le hk.1 hn, hk.2⟩, hs k hk.1 hk.2.2⟩) h⟩
theorem Mine.grow (hE : Stays E) (hg : Grew H H') (h : Mine z E P N H v l) : Mine z E P N H' v l := h.move hE (fun k hk _ => hg.get k hk) hg.next
theorem Mine.sl (hE : Stays E) (h : Mine z E P N H v l) : IsSl z E (Old H) H v l := by
  rcases h with h | ⟨b, i, vs, cells, h1, h2, h3, h4, h5, h6⟩
  · exact .inl h
  · refine .inr ⟨b, i, cells, h1, h3, by unfold AH.read; rw [h4]; exact h5, h6.mono fun cs a h => hE _ _ _ _ _ _ (fun k hk => ⟨hk.1, rfl⟩) h⟩
theorem Mine.slF (hE : Stays E) (h : Mine z E P N H v l) : IsSl z E (fun k => k < H.next ∧ (P k ∨ N ≤ k)) H v l := by
  rcases h with h | ⟨b, i, vs, cells, h1, h2, h3, h4, h5, h6⟩
  · exact .inl h
  · refine .inr ⟨b, i, cells, h1, ⟨h3, .inr h2⟩, by unfold AH.read; rw [h4]; exact h5, h6.mono fun cs a h => hE _ _ _ _ _ _ (fun k hk => ⟨⟨hk.1, hk.2.2⟩, rfl⟩) h⟩
theorem Mine.append {bytes : Nat} {x : AV} {new : List AV} {l2 : List α} (hE : Stays E) (h : Mine z E P N H v l) (hN : N ≤ H.next) (hx : AM.lenA x = some l2.length) (hs : srcCells H z l2.length x = some new)
    (hr : Rows z (E (fun k => k < H.next ∧ (∀ i n y, v ≠ .slice k i n y) ∧ (P k ∨ N ≤ k)) H) new l2) (hc : new.all AV.isCell = true) (hroom : l.length + l2.length ≤ roomA ∧ (l.length + l2.length) * bytes ≤ roomA) :
    ∃ v' H', appendA H z bytes v x = some (v', H') ∧ Mine z E P N H' v' (l ++ l2) ∧ H.next ≤ H'.next ∧ (∀ k, k < H.next → (∀ i n z, v ≠ .slice k i n z) → H'.get k = H.get k) := by
  unfold appendA
  simp only [hx, hs]
  rcases h with ⟨rfl, rfl⟩ | ⟨b, i, vs, cells, rfl, h2, h3, h4, h5, h6⟩
  · by_cases h0 : l2.length = 0
    · simp only [h0, if_true]
      have : l2 = [] := List.length_eq_zero_iff.1 h0
      subst this
      exact ⟨_, _, rfl, .inl ⟨rfl, rfl⟩, Nat.le_refl _, fun _ _ _ => rfl⟩
    · simp only [List.length_nil, Nat.zero_add] at hroom
      simp only [h0, if_false, hroom, and_self, if_true]
      refine ⟨_, _, rfl, .inr ⟨H.next, 0, new, new, rfl, hN, by simp, get_alloc_new _ _, ?_, hr.mono fun cs a h => hE _ _ _ _ _ _ (fun b hb => ⟨⟨by simp; omega, by omega, hb.2.2⟩, get_alloc_old hb.1⟩) h⟩, by simp, fun k hk _ => get_alloc_old hk⟩
      have := hr.length
      simp only [List.nil_append, readN, Nat.zero_add, this, Nat.le_refl, if_true, List.drop_zero]
      rw [← this, List.take_length]
  · by_cases h0 : l2.length = 0
    · simp only [h0, if_true]
      have : l2 = [] := List.length_eq_zero_iff.1 h0
      subst this
      rw [List.append_nil]
      exact ⟨_, _, rfl, .inr ⟨b, i, vs, cells, rfl, h2, h3, h4, h5, h6⟩, Nat.le_refl _, fun _ _ _ => rfl⟩
    · simp only [h0, if_false, h4, h5, hroom, hc, and_self, if_true]
      have hset : ∀ k, k ≠ b → k < H.next → ((H.set b .dead).alloc (.cells false (cells ++ new))).get k = H.get k := fun k hk hlt => by
        rw [AH.get_alloc, if_neg (by simp; omega), AH.get_set, if_neg hk]
      have hl1 := h6.length
      have hl2 := hr.length
      have r1 := h6.mono (E' := E (fun k => k < ((H.set b .dead).alloc (.cells false (cells ++ new))).next ∧ k ≠ H.next ∧ (P k ∨ N ≤ k)) ((H.set b .dead).alloc (.cells false (cells ++ new)))) fun cs a h => hE _ _ _ _ _ _ (fun k hk => ⟨⟨by simp; omega, by omega, hk.2.2⟩, hset k hk.2.1 hk.1⟩) h
      have r2 := hr.mono (E' := E (fun k => k < ((H.set b .dead).alloc (.cells false (cells ++ new))).next ∧ k ≠ H.next ∧ (P k ∨ N ≤ k)) ((H.set b .dead).alloc (.cells false (cells ++ new)))) fun cs a h => hE _ _ _ _ _ _ (fun k hk => ⟨⟨by simp; omega, by omega, hk.2.2⟩, hset k (fun e => hk.2.1 i l.length z (by rw [e])) hk.1⟩) h
      refine ⟨_, _, rfl, .inr ⟨H.next, 0, cells ++ new, cells ++ new, by simp, hN, by simp, ?_, ?_, r1.append r2⟩, by simp, fun k hk hne => hset k (fun e => hne i l.length z (by rw [e])) hk⟩
      · rw [AH.get_alloc, if_pos (by simp)]
      · simp only [readN, List.length_append, Nat.zero_add, hl1, hl2, Nat.add_mul, Nat.le_refl, if_true, List.drop_zero]
        rw [List.take_of_length_le (by rw [List.length_append, hl1, hl2]; omega)]
theorem Mine.push {bytes : Nat} {cs : List AV} {a : α} (hE : Stays E) (h : Mine z E P N H v l) (hN : N ≤ H.next) (hcs : cs.length = z) (hF : ∀ k, F k → k < H.next ∧ (∀ i n y, v ≠ .slice k i n y) ∧ (P k ∨ N ≤ k)) (ha : E F H cs a) (hc : cs.all AV.isCell = true)
    (hroom : l.length < 1000000000000 ∧ bytes ≤ 100) :
    ∃ v' H', appendA (H.alloc (.cells false cs)) z bytes v (.slice H.next 0 1 z) = some (v', H') ∧ Mine z E P N H' v' (l ++ [a]) ∧ H.next < H'.next ∧ (∀ k, k < N → H'.get k = H.get k) := by
  have hv : ∀ i n y, v ≠ .slice H.next i n y := fun i n y e => by have := (h.spine e).2; omega
  have h' := h.move (H' := H.alloc (.cells false cs)) hE (fun k hk _ => get_alloc_old hk) (Nat.le_succ _)
  have hsrc : srcCells (H.alloc (.cells false cs)) z [a].length (.slice H.next 0 1 z) = some cs := by
    simp [srcCells, AH.read, get_alloc_new, readN, ← hcs]
  have hmul : (l.length + 1) * bytes ≤ 1000000000000 * 100 := Nat.mul_le_mul (by omega) hroom.2
  obtain ⟨v', H', q1, q2, q3, q4⟩ := h'.append (bytes := bytes) (x := .slice H.next 0 1 z) (l2 := [a]) hE (by simp; omega) rfl hsrc
    (Rows.single hcs (hE _ _ _ _ _ _ (fun k hk => ⟨⟨by have := (hF k hk).1; simp; omega, (hF k hk).2⟩, get_alloc_old (hF k hk).1⟩) ha)) hc (by simp only [List.length_singleton, roomA]; omega)
  simp only [AH.next_alloc] at q3 q4
  exact ⟨v', H', q1, q2, by omega, fun k hk => by rw [q4 k (by omega) (fun i n y e => by have := (h.spine e).1; omega), get_alloc_old (by omega)]⟩
theorem copy_mine {bytes : Nat} {x : AV} (hE : Stays E) (hx : IsSl z E F H x l) (hF : ∀ k, F k → k < H.next) (hEF : ∀ cs a, E F H cs a → E (fun k => k < H.next ∧ (P k ∨ N ≤ k)) H cs a) (hN : N ≤ H.next) (hc : ∀ F H cs a, E F H cs a → cs.all AV.isCell = true) (hroom : l.length < 1000000000000 ∧ bytes ≤ 100) :
    ∃ v' H', appendA (H.alloc (.cells false [])) z bytes (.slice H.next 0 0 z) x = some (v', H') ∧ Mine z E P N H' v' l ∧ H.next < H'.next ∧ (∀ k, k < H.next → H'.get k = H.get k) := by
  have h0 : Mine z E P N (H.alloc (.cells false [])) (.slice H.next 0 0 z) ([] : List α) :=
    .inr ⟨H.next, 0, [], [], rfl, hN, by simp, get_alloc_new _ _, by simp [readN], .nil⟩
  have hx' := hx.move (F' := F) (H' := H.alloc (.cells false [])) hE (fun k hk => ⟨hk, get_alloc_old (hF k hk)⟩)
  obtain ⟨cells, hs, hr0⟩ := hx'.src
  have hr := hr0.mono (E' := E (fun k => k < H.next ∧ (P k ∨ N ≤ k)) (H.alloc (.cells false []))) fun cs a h => hE _ _ _ _ _ _ (fun k hk => ⟨hk, get_alloc_old hk.1⟩) (hEF cs a (hE _ _ _ _ _ _ (fun k hk => ⟨hk, (get_alloc_old (hF k hk)).symm⟩) h))
  have hcell : cells.all AV.isCell = true := by
    obtain ⟨cells', hs', hr'⟩ := hx.src
    have : ∀ {c : List AV} {l : List α}, Rows z (E F H) c l → c.all AV.isCell = true := fun {c l} h => by
      induction h with
      | nil => rfl
      | cons hz h _ ih => rw [List.all_append, hc _ _ _ _ h, ih]; rfl
    have e : cells = cells' := by
      rcases hx with ⟨rfl, rfl⟩ | ⟨b, i, c, rfl, h2, h3, h4⟩
      · simp only [srcCells, List.length_nil] at hs hs'
        rw [hs] at hs'; simpa using hs'
      · simp only [srcCells] at hs hs'
        have : (H.alloc (.cells false [])).read b i (l.length * z) = H.read b i (l.length * z) := by
          unfold AH.read; rw [get_alloc_old (hF _ h2)]
        simp only [this] at hs
        rw [hs] at hs'; simpa using hs'
    rw [e]; exact this hr'
  have hmul : l.length * bytes ≤ 1000000000000 * 100 := Nat.mul_le_mul (by omega) hroom.2
  obtain ⟨v', H', q1, q2, q3, q4⟩ := h0.append (bytes := bytes) (x := x) (l2 := l) hE (by simp; omega) hx.lenA hs
    (hr.mono fun cs a h => hE _ _ _ _ _ _ (fun k hk => ⟨⟨by have := hk.1; simp; omega, fun i n y e => by
      simp only [AV.slice.injEq] at e
      have := hk.1; omega, hk.2⟩, rfl⟩) h) hcell (by simp only [List.length_nil, Nat.zero_add, roomA]; omega)
  simp only [AH.next_alloc, List.nil_append] at q2 q3 q4
  exact ⟨v', H', q1, q2, by omega, fun k hk => by
    rw [q4 k (by omega) (fun i n y e => by simp only [AV.slice.injEq] at e; omega), get_alloc_old hk]⟩
theorem Mine.poke (hE : Stays E) (h : Mine z E P N H v l) {n : Int} {k : Nat} (hn : n = k) (hk : k < l.length) {cs : List AV} {a : α} (hz : cs.length = z) (hF : ∀ k, F k → k < H.next ∧ (∀ i n y, v ≠ .slice k i n y) ∧ (P k ∨ N ≤ k)) (ha : E F H cs a) : ∃ b i vs vs', N ≤ b ∧ b < H.next ∧
    ((∀ S, opIdxSl z v (.int .i64 n) S = some (.ptr b i, S)) ∧ H.get b = some (.cells false vs) ∧ writeN vs i cs = some vs') ∧ Mine z E P N (H.set b (.cells false vs')) v (l.set k a) := by
  subst hn
  rcases h with ⟨rfl, rfl⟩ | ⟨b, i, vs, cells, rfl, h2, h3, h4, h5, h6⟩
  · simp at hk
  · obtain ⟨cells', w1, w2⟩ := h6.set (a := a) (cs := cs) k hk hz (hE _ _ _ _ _ _ (fun k hk => ⟨⟨(hF k hk).1, fun e => (hF k hk).2.1 i l.length z (by rw [e]), (hF k hk).2.2⟩, rfl⟩) ha)
    have hl := h6.length
    have key : ∀ (vs cells cells' : List AV) (i j : Nat) (cs : List AV), readN vs i cells.length = some cells → writeN cells j cs = some cells' → ∃ vs', writeN vs (i + j) cs = some vs' ∧ readN vs' i cells.length = some cells' ∧ cells'.length = cells.length := by
      intro vs cells cells' i j cs
      have wl : ∀ (a : List AV) (j : Nat) (cs : List AV) (a' : List AV), writeN a j cs = some a' → a'.length = a.length := fun a => by
        induction a with
        | nil =>
          intro j cs a' h
          cases cs with
          | nil => rw [writeN_nil] at h; simp only [Option.some.injEq] at h; rw [h]
          | cons c cs => simp [writeN] at h
        | cons x a ih =>
          intro j cs a' h
          cases cs with
          | nil => rw [writeN_nil] at h; simp only [Option.some.injEq] at h; rw [h]
          | cons c cs =>
            cases j with
            | zero =>
              simp only [writeN, Option.map_eq_some_iff] at h
              obtain ⟨a1, h1, rfl⟩ := h
              simp [ih _ _ _ h1]
            | succ j =>
              simp only [writeN, Option.map_eq_some_iff] at h
              obtain ⟨a1, h1, rfl⟩ := h
              simp [ih _ _ _ h1]
      intro hr hw
      have hlen := wl _ _ _ _ hw
      unfold readN at hr
      split at hr
      · rename_i hle
        simp only [Option.some.injEq] at hr
        have hvs : vs = vs.take i ++ (cells ++ vs.drop (i + cells.length)) := by
          rw [← hr]
          simp only [List.length_take, List.length_drop]
          have : min cells.length (vs.length - i) = cells.length := by omega
          rw [show i + min cells.length (vs.length - i) = i + cells.length from by omega]
          rw [← List.drop_drop, List.take_append_drop, List.take_append_drop]
        have pre : ∀ (xs rest : List AV) (j : Nat) (ys r : List AV), writeN rest j ys = some r → writeN (xs ++ rest) (xs.length + j) ys = some (xs ++ r) := fun xs => by
          induction xs with
          | nil => intro rest i ys r h; simpa using h
          | cons x xs ih => intro rest i ys r h; cases ys with
            | nil => rw [writeN_nil] at h ⊢; simp only [Option.some.injEq] at h; rw [h]
            | cons y ys =>
              rw [show (x :: xs).length + i = (xs.length + i) + 1 from by simp; omega]
              have := ih rest i (y :: ys) r h
              simp only [List.cons_append, writeN, this, Option.map_some]
        have post : ∀ (a : List AV) (j : Nat) (ys r rest : List AV), writeN a j ys = some r → writeN (a ++ rest) j ys = some (r ++ rest) := fun a => by
          induction a with
          | nil =>
            intro j ys r rest h
            cases ys with
            | nil => rw [writeN_nil] at h ⊢; simp only [Option.some.injEq] at h; rw [← h]
            | cons y ys => simp [writeN] at h
          | cons x a ih =>
            intro j ys r rest h
            cases ys with
            | nil => rw [writeN_nil] at h ⊢; simp only [Option.some.injEq] at h; rw [← h]
            | cons y ys =>
              cases j with
              | zero =>
                simp only [writeN, Option.map_eq_some_iff] at h
                obtain ⟨a1, h1, rfl⟩ := h
                simp only [List.cons_append, writeN, ih _ _ _ rest h1, Option.map_some]
              | succ j =>
                simp only [writeN, Option.map_eq_some_iff] at h
                obtain ⟨a1, h1, rfl⟩ := h
                simp only [List.cons_append, writeN, ih _ _ _ rest h1, Option.map_some]
        have hi : (vs.take i).length = i := by rw [List.length_take]; omega
        refine ⟨vs.take i ++ (cells' ++ vs.drop (i + cells.length)), ?_, ?_, hlen⟩
        · have := pre (vs.take i) _ j cs _ (post cells j cs cells' (vs.drop (i + cells.length)) hw)
          rw [hi, ← hvs] at this
          exact this
        · unfold readN
          rw [if_pos (by simp only [List.length_append, hi, hlen, List.length_drop]; omega)]
          rw [List.drop_append_of_le_length (by omega), List.drop_of_length_le (by omega), List.nil_append, List.take_append_of_le_length (by omega), List.take_of_length_le (by omega)]
      · cases hr
    rw [← hl] at h5
    obtain ⟨vs', k1, k2, k3⟩ := key vs cells cells' i (k * z) cs h5 w1
    refine ⟨b, i + k * z, vs, vs', h2, h3, ⟨fun S => by simp [opIdxSl, natOf, hk], h4, k1⟩, .inr ⟨b, i, vs', cells', by simp, h2, by simpa using h3, get_set_same _ _ _, by rw [List.length_set, ← hl]; exact k2, w2.mono fun cs a h => hE _ _ _ _ _ _ (fun k hk => ⟨hk, get_set_other hk.2.1⟩) h⟩⟩
end
theorem IsSl.front {α : Type} {z : Nat} {E : Elem α} {F : Nat → Prop} {H : AH} {v : AV} {l : List α} (h : IsSl z E F H v l) {n : Int} {k : Nat} (hn : n = k) (hk : k ≤ l.length) : ∃ v', (∀ S, opSliceSl z v none (some (.int .i64 n)) S = some (v', S)) ∧ IsSl z E F H v' (l.take k) := by
  subst hn
  rcases h with ⟨rfl, rfl⟩ | ⟨b, i, cells, rfl, h2, h3, h4⟩
  · have : k = 0 := by simpa using hk
    subst this
    exact ⟨.nilslice, fun S => rfl, .inl ⟨rfl, by simp⟩⟩
  · refine ⟨.slice b i k z, fun S => by simp [opSliceSl, optNat, natOf, hk], .inr ⟨b, i, cells.take (k * z), by rw [List.length_take, Nat.min_eq_left hk], h2, ?_, h4.take k hk⟩⟩
    rw [List.length_take, Nat.min_eq_left hk]
    have hm : k * z ≤ l.length * z := Nat.mul_le_mul_right _ hk
    unfold AH.read at h3 ⊢
    split at h3
    · unfold readN at h3 ⊢
      split at h3
      · rename_i hle
        rw [if_pos (by omega)]
        simp only [Option.some.injEq] at h3 ⊢
        rw [← h3, List.take_take, Nat.min_eq_left hm]
      · cases h3
    · cases h3
theorem Mine.front {α : Type} {z : Nat} {E : Elem α} {P : Nat → Prop} {N : Nat} {H : AH} {v : AV} {l : List α} (h : Mine z E P N H v l) {n : Int} {k : Nat} (hn : n = k) (hk : k ≤ l.length) : ∃ v', (∀ S, opSliceSl z v none (some (.int .i64 n)) S = some (v', S)) ∧ Mine z E P N H v' (l.take k) := by
  subst hn
  rcases h with ⟨rfl, rfl⟩ | ⟨b, i, vs, cells, rfl, h2, h3, h4, h5, h6⟩
  · have : k = 0 := by simpa using hk
    subst this
    exact ⟨.nilslice, fun S => rfl, .inl ⟨rfl, by simp⟩⟩
  · refine ⟨.slice b i k z, fun S => by simp [opSliceSl, optNat, natOf, hk], .inr ⟨b, i, vs, cells.take (k * z), by rw [List.length_take, Nat.min_eq_left hk], h2, h3, h4, ?_, h6.take k hk⟩⟩
    rw [List.length_take, Nat.min_eq_left hk]
    have hm : k * z ≤ l.length * z := Nat.mul_le_mul_right _ hk
    unfold readN at h5 ⊢
    split at h5
    · rename_i hle
      rw [if_pos (by omega)]
      simp only [Option.some.injEq] at h5 ⊢
      rw [← h5, List.take_take, Nat.min_eq_left hm]
    · cases h5
theorem Rows.allCell {α : Type} {z : Nat} {E : List AV → α → Prop} (hc : ∀ cs a, E cs a → cs.all AV.isCell = true) : ∀ {c : List AV} {l : List α}, Rows z E c l → c.all AV.isCell = true
  | _, _, .nil => rfl
  | _, _, .cons hz h t => by rw [List.all_append, hc _ _ h, Rows.allCell hc t]; rfl
theorem EInt.isCell : ∀ (F : Nat → Prop) (H : AH) (cs : List AV) (a : Int), EInt F H cs a → cs.all AV.isCell = true := by rintro F H cs a rfl; rfl
theorem ESl.isCell {β : Type} {y : Nat} {E : Elem β} : ∀ (F : Nat → Prop) (H : AH) (cs : List AV) (a : List β), ESl y E F H cs a → cs.all AV.isCell = true := by
  rintro F H cs a ⟨v, rfl, h⟩
  simp [h.isCell]
end Go.AM
namespace Go.Proofs.Ytgncpbkedhchfaa
open Go.AM Go.IntWalk
set_option maxRecDepth 100000
set_option maxHeartbeats 2000000
set_option linter.unusedSimpArgs false
variable {H : AH} {R : AV → AH → Prop}
def narrow (s : Int × Int) (w : Watcher) (c f : Int) : Int × Int :=
  if c = -1 then s else (max s.1 (f * max 0 (c - w.off)), min s.2 (f * (c + w.off)))
def narrowAll : Int × Int → List Watcher → List Int → List Int → Int × Int
  | s, w :: ws, c :: cs, f :: fs => narrowAll (narrow s w c f) ws cs fs
  | s, _, _, _ => s
def numbersE (h : House) (day : Nat) (fs : List Int) : Int × Int := narrowAll (0, 39999) h.ws (h.days.getD day []) fs
theorem narrowAll_take : ∀ {ws : List Watcher} {cs fs : List Int} {s : Int × Int} {k : Nat} (h1 : k < ws.length) (h2 : k < cs.length) (h3 : k < fs.length),
    narrowAll s (ws.take (k + 1)) (cs.take (k + 1)) (fs.take (k + 1)) = narrow (narrowAll s (ws.take k) (cs.take k) (fs.take k)) ws[k] cs[k] fs[k]
  | w :: ws, c :: cs, f :: fs, s, 0, _, _, _ => by simp [narrowAll]
  | w :: ws, c :: cs, f :: fs, s, k + 1, h1, h2, h3 => by
    have := narrowAll_take (ws := ws) (cs := cs) (fs := fs) (s := narrow s w c f) (k := k) (by simpa using h1) (by simpa using h2) (by simpa using h3)
    simp only [List.take_succ_cons, narrowAll, List.getElem_cons_succ]
    exact this
  | [], _, _, _, k, h1, _, _ => by simp at h1
  | _ :: _, [], _, _, k, _, h2, _ => by simp at h2
  | _ :: _, _ :: _, [], _, k, _, _, h3 => by simp at h3
structure Fine (h : House) : Prop where
  ws : h.ws.length ≤ 3
  days : h.days.length ≤ 4
  len : ∀ d ∈ h.days, d.length = h.ws.length
  count : ∀ d ∈ h.days, ∀ c ∈ d, -1 ≤ c ∧ c ≤ 120
  lo : ∀ w ∈ h.ws, 1 ≤ w.lo ∧ w.lo ≤ w.hi ∧ w.hi ≤ 300 ∧ w.hi - w.lo ≤ 6
  off : ∀ w ∈ h.ws, 0 ≤ w.off ∧ w.off ≤ 9
theorem Fine.w {h : House} (hf : Fine h) {k : Nat} (hk : k < h.ws.length) : 1 ≤ h.ws[k].lo ∧ h.ws[k].lo ≤ h.ws[k].hi ∧ h.ws[k].hi ≤ 300 ∧ h.ws[k].hi - h.ws[k].lo ≤ 6 ∧ 0 ≤ h.ws[k].off ∧ h.ws[k].off ≤ 9 := by
  have h1 := hf.lo _ (List.getElem_mem hk)
  have h2 := hf.off _ (List.getElem_mem hk)
  omega
theorem rdW {v : AV} {l : List Watcher} (h : IsSl 4 EWatcher (Old H) H v l) {n : Int} {k : Nat} (hn : n = k) (hk : k < l.length) : ∃ b i ro vs, b < H.next ∧
    ((∀ S, opIdxSl 4 v (.int .i64 n) S = some (.ptr b i, S)) ∧ H.get b = some (.cells ro vs) ∧ (i + 4 ≤ vs.length) ∧ (vs.drop i).take 4 = l[k].cells ∧ vs[i]? = some (.str l[k].name) ∧ vs[i + 1]? = some (I l[k].lo) ∧ vs[i + 2]? = some (I l[k].hi) ∧ vs[i + 3]? = some (I l[k].off)) := by
  obtain ⟨b, i, ro, vs, cs, h1, h2, h3, ⟨h4, h5, h6, h7⟩, h8⟩ := h.rd hn hk
  obtain rfl : cs = l[k].cells := h3
  exact ⟨b, i, ro, vs, h1, h4, h5, h6, h7, by simpa [Watcher.cells] using h8 0 (by omega), by simpa [Watcher.cells] using h8 1 (by omega), by simpa [Watcher.cells] using h8 2 (by omega), by simpa [Watcher.cells] using h8 3 (by omega)⟩
def upTo (lo hi : Int) : List Int := (List.range (hi + 1 - lo).toNat).map fun (i : Nat) => lo + (i : Int)
theorem upTo_succ {lo f : Int} (h : lo ≤ f) : upTo lo f = upTo lo (f - 1) ++ [f] := by
  unfold upTo
  have : (f + 1 - lo).toNat = (f - 1 + 1 - lo).toNat + 1 := by omega
  rw [this, List.range_succ, List.map_append]
  congr 1
  simp; omega
theorem upTo_nil {lo : Int} : upTo lo (lo - 1) = [] := by
  unfold upTo
  have : (lo - 1 + 1 - lo).toNat = 0 := by omega
  rw [this]; rfl
theorem mem_upTo {lo hi n : Int} : n ∈ upTo lo hi ↔ lo ≤ n ∧ n ≤ hi := by
  simp only [upTo, List.mem_map, List.mem_range]
  constructor
  · rintro ⟨i, h, rfl⟩; omega
  · intro h; exact ⟨(n - lo).toNat, by omega, by omega⟩
def allRow (o : List Int) (w : Watcher) (hi : Int) : List (List Int) := (upTo w.lo hi).map fun f => o ++ [f]
def allStep (out : List (List Int)) (w : Watcher) : List (List Int) := out.flatMap fun o => allRow o w w.hi
def allE (h : House) : List (List Int) := h.ws.foldl allStep [[]]
theorem foldl_take_succ {α β : Type} {f : β → α → β} {b : β} {l : List α} {k : Nat} (hk : k < l.length) : (l.take (k + 1)).foldl f b = f ((l.take k).foldl f b) l[k] := by
  rw [List.take_succ_eq_append_getElem hk, List.foldl_append]; rfl
theorem mem_allStep {out : List (List Int)} {w : Watcher} {x : List Int} : x ∈ allStep out w ↔ ∃ o ∈ out, ∃ f, w.lo ≤ f ∧ f ≤ w.hi ∧ x = o ++ [f] := by
  simp only [allStep, allRow, List.mem_flatMap, List.mem_map, mem_upTo]
  constructor
  · rintro ⟨o, ho, f, hf, rfl⟩; exact ⟨o, ho, f, hf.1, hf.2, rfl⟩
  · rintro ⟨o, ho, f, h1, h2, rfl⟩; exact ⟨o, ho, f, ⟨h1, h2⟩, rfl⟩
theorem allE_mem {h : House} (hf : Fine h) : ∀ k, k ≤ h.ws.length → ∀ o ∈ (h.ws.take k).foldl allStep [[]], o.length = k ∧ ∀ f ∈ o, 1 ≤ f ∧ f ≤ 300
  | 0, _ => by simp
  | k + 1, hk => by
    rw [foldl_take_succ (by omega)]
    intro x hx
    obtain ⟨o, ho, f, h1, h2, rfl⟩ := mem_allStep.1 hx
    obtain ⟨h3, h4⟩ := allE_mem hf k (by omega) o ho
    have := hf.w (k := k) (by omega)
    refine ⟨by simp [h3], fun f' hf' => ?_⟩
    rcases List.mem_append.1 hf' with h | h
    · exact h4 _ h
    · simp only [List.mem_singleton] at h; omega
end Go.Proofs.Ytgncpbkedhchfaa
namespace Go.Proofs.Ytgncpbkedhchfaa
open Go.AM Go.IntWalk
set_option maxRecDepth 100000
set_option maxHeartbeats 2000000
set_option linter.unusedSimpArgs false
variable {H : AH} {R : AV → AH → Prop}
def okDay (h : House) (fs : List Int) (d : Nat) : Bool := decide ((numbersE h d fs).1 ≤ (numbersE h d fs).2)
def okE (h : House) (fs : List Int) : Bool := (List.range h.days.length).all (okDay h fs)
def truthsE (h : House) : List (List Int) := (allE h).filter (okE h)
theorem all_range_succ {p : Nat → Bool} {n : Nat} : (List.range (n + 1)).all p = ((List.range n).all p && p n) := by
  rw [List.range_succ, List.all_append]; simp
theorem all_range_le {p : Nat → Bool} {n m : Nat} (h : n ≤ m) (hp : (List.range n).all p = false) : (List.range m).all p = false := by
  rw [Bool.eq_false_iff] at hp ⊢
  intro hm
  apply hp
  rw [List.all_eq_true] at hm ⊢
  intro x hx
  exact hm x (by simp at hx ⊢; omega)
theorem allE_mem' {h : House} (hf : Fine h) {o : List Int} (ho : o ∈ allE h) : o.length = h.ws.length ∧ ∀ f ∈ o, 1 ≤ f ∧ f ≤ 300 := by
  have := allE_mem hf h.ws.length (Nat.le_refl _) o (by rw [List.take_length]; exact ho)
  exact this
theorem truthsE_mem {h : House} (hf : Fine h) {o : List Int} (ho : o ∈ truthsE h) : o.length = h.ws.length ∧ ∀ f ∈ o, 1 ≤ f ∧ f ≤ 300 := allE_mem' hf (List.mem_filter.1 ho).1
end Go.Proofs.Ytgncpbkedhchfaa
namespace Go.Proofs.Ytgncpbkedhchfaa
open Go.AM Go.IntWalk
set_option maxRecDepth 100000
set_option maxHeartbeats 2000000
set_option linter.unusedSimpArgs false
variable {H : AH} {R : AV → AH → Prop}
structure Sized (h : House) : Prop where
  name : ∀ w ∈ h.ws, w.name.size ≤ 9223372036854775807
  ws : h.ws.length ≤ 9223372036854775807
  days : h.days.length ≤ 9223372036854775807
def errE (h : House) : Int := (checkE h).2.2
theorem firstErr_none' {α : Type} {f : Nat → α → Int} : ∀ {l : List α} {i : Nat}, firstErr f i l = none → ∀ j (hj : j < l.length), f (i + j) l[j] = 0
  | [], _, _, j, hj => by simp at hj
  | x :: xs, i, h, 0, _ => by
    simp only [firstErr] at h
    split at h
    · cases h
    · rename_i h0
      simpa using h0
  | x :: xs, i, h, j + 1, hj => by
    simp only [firstErr] at h
    split at h
    · cases h
    · have := firstErr_none' h j (by simpa using hj)
      rw [show i + (j + 1) = i + 1 + j from by omega]
      simpa using this
theorem firstErr_ne {α : Type} {f : Nat → α → Int} : ∀ {l : List α} {i n : Nat} {e : Int}, firstErr f i l = some (n, e) → e ≠ 0
  | [], _, _, _, h => by simp [firstErr] at h
  | x :: xs, i, n, e, h => by
    simp only [firstErr] at h
    split at h
    · rename_i h0
      simp only [Option.some.injEq, Prod.mk.injEq] at h
      rw [← h.2]; exact h0
    · exact firstErr_ne h
theorem fine_of {h : House} (he : errE h = 0) : Fine h := by
  unfold errE checkE at he
  split at he
  · cases he
  · rename_i h1
    split at he
    · rename_i n e hf
      exact absurd he (firstErr_ne hf)
    · rename_i hf
      split at he
      · cases he
      · rename_i h2
        split at he
        · rename_i n e hg
          exact absurd he (firstErr_ne hg)
        · rename_i hg
          have w0 := firstErr_none' hf
          have d0 := firstErr_none' hg
          have hw : ∀ w ∈ h.ws, watcherE w = 0 := fun w hm => by
            obtain ⟨j, hj, rfl⟩ := List.getElem_of_mem hm
            have := w0 j hj
            simp only [wE] at this
            split at this
            · exact this
            · rename_i hne; exact absurd this hne
          have hd : ∀ d ∈ h.days, d.length = h.ws.length ∧ ∀ c ∈ d, -1 ≤ c ∧ c ≤ 120 := fun d hm => by
            obtain ⟨j, hj, rfl⟩ := List.getElem_of_mem hm
            have := d0 j hj
            simp only [dE] at this
            split at this
            · cases this
            · rename_i hl
              split at this
              · rename_i ha
                refine ⟨by omega, fun c hc => ?_⟩
                have := (List.all_eq_true.1 ha) c hc
                simpa using this
              · cases this
          have hw' : ∀ w ∈ h.ws, (1 ≤ w.lo ∧ w.lo ≤ w.hi ∧ w.hi ≤ 300 ∧ w.hi - w.lo ≤ 6) ∧ 0 ≤ w.off ∧ w.off ≤ 9 := fun w hm => by
            have := hw w hm
            unfold watcherE at this
            split at this
            · cases this
            · rename_i h3
              split at this
              · cases this
              · rename_i h4
                unfold endsE at h3 h4
                split at h3
                · rename_i h5
                  rw [if_pos h5] at h4
                  split at h4 <;> omega
                · omega
          exact ⟨by omega, by omega, fun d hm => (hd d hm).1, fun d hm => (hd d hm).2, fun w hm => (hw' w hm).1, fun w hm => (hw' w hm).2⟩
def indexE (h : House) (n below : Int) : Int := if errE h = 0 then (if 0 ≤ n ∧ n ≤ below - 1 then 0 else 4) else errE h
theorem indexE_zero {h : House} {n below : Int} (hi : indexE h n below = 0) : Fine h ∧ 0 ≤ n ∧ n < below := by
  unfold indexE at hi
  split at hi
  · rename_i he
    split at hi
    · rename_i hn
      exact ⟨fine_of he, by omega⟩
    · cases hi
  · rename_i he; exact absurd hi he
def join (s x : Int × Int) : Int × Int := (min x.1 s.1, max x.2 s.2)
def hullFrom (s : Int × Int) (l : List (Int × Int)) : Int × Int := l.foldl join s
def hull : List (Int × Int) → Int × Int
  | [] => (9223372036854775807, -1)
  | x :: xs => hullFrom x xs
def getI (l : List Int) (k : Nat) : Int := l.getD k 0
theorem getI_eq {l : List Int} {k : Nat} (h : k < l.length) : getI l k = l[k] := by
  simp [getI, h]
def factorsOf (h : House) (w : Nat) : List (Int × Int) := (truthsE h).map fun fs => (getI fs w, getI fs w)
def factorE (h : House) (w : Int) : (Int × Int) × Int :=
  if indexE h w h.ws.length ≠ 0 then ((0, 0), indexE h w h.ws.length) else if truthsE h = [] then ((0, 0), 8) else (hull (factorsOf h w.toNat), 0)
def numbersOf (h : House) (d : Nat) : List (Int × Int) := (truthsE h).map fun fs => numbersE h d fs
def numberE (h : House) (d : Int) : (Int × Int) × Int :=
  if indexE h d h.days.length ≠ 0 then ((0, 0), indexE h d h.days.length) else if truthsE h = [] then ((0, 0), 8) else (hull (numbersOf h d.toNat), 0)
theorem okE_day {h : House} {fs : List Int} (hm : fs ∈ truthsE h) {d : Nat} (hd : d < h.days.length) : (numbersE h d fs).1 ≤ (numbersE h d fs).2 := by
  have := (List.mem_filter.1 hm).2
  simp only [okE, List.all_eq_true] at this
  simpa [okDay] using this d (by simpa using hd)
end Go.Proofs.Ytgncpbkedhchfaa
namespace Go.Proofs.Ytgncpbkedhchfaa
open Go.AM Go.IntWalk
set_option maxRecDepth 100000
set_option maxHeartbeats 2000000
set_option linter.unusedSimpArgs false
variable {H : AH} {R : AV → AH → Prop}
def withE (h : House) (d w : Nat) (c : Int) : House := { h with days := h.days.set d ((h.days.getD d []).set w c) }
theorem getD_eq {α : Type} {l : List α} {k : Nat} {x : α} (h : k < l.length) : l.getD k x = l[k] := by
  simp [h]
theorem Fine.withE {h : House} (hf : Fine h) {d w : Nat} {c : Int} (hd : d < h.days.length) (hc : -1 ≤ c ∧ c ≤ 120) : Fine (withE h d w c) := by
  refine ⟨hf.ws, by simp [Proofs.Ytgncpbkedhchfaa.withE]; exact hf.days, fun x hx => ?_, fun x hx y hy => ?_, hf.lo, hf.off⟩
  · rcases List.mem_or_eq_of_mem_set hx with hx | rfl
    · exact hf.len _ hx
    · rw [List.length_set, getD_eq hd]; exact hf.len _ (List.getElem_mem hd)
  · rcases List.mem_or_eq_of_mem_set hx with hx | rfl
    · exact hf.count _ hx _ hy
    · rw [getD_eq hd] at hy
      rcases List.mem_or_eq_of_mem_set hy with hy | rfl
      · exact hf.count _ (List.getElem_mem hd) _ hy
      · exact hc
def canE (h : House) (d w : Nat) (c : Int) : Bool := (truthsE h).any fun fs => okDay (withE h d w c) fs d
def wouldFold (h : House) (d w n : Nat) : Int × Int := (List.range n).foldl (fun s (c : Nat) => if canE h d w (c : Int) then join s ((c : Int), (c : Int)) else s) (121, -1)
def wouldErr (h : House) (d w : Int) : Int :=
  if indexE h d h.days.length ≠ 0 then indexE h d h.days.length else if indexE h w h.ws.length ≠ 0 then indexE h w h.ws.length else if getI (h.days.getD d.toNat []) w.toNat ≠ -1 then 5 else 0
def wouldE (h : House) (d w : Int) : (Int × Int) × Int :=
  if wouldErr h d w ≠ 0 then ((0, 0), wouldErr h d w) else if truthsE h = [] then ((0, 0), 8) else
  if (wouldFold h d.toNat w.toNat 121).2 < 0 then ((0, 0), 9) else (wouldFold h d.toNat w.toNat 121, 0)
theorem any_take_succ {α : Type} {p : α → Bool} {l : List α} {k : Nat} (hk : k < l.length) : (l.take (k + 1)).any p = ((l.take k).any p || p l[k]) := by
  rw [List.take_succ_eq_append_getElem hk, List.any_append]; simp
end Go.Proofs.Ytgncpbkedhchfaa
namespace Go.Proofs.Ytgncpbkedhchfaa
open Go.AM Go.IntWalk
set_option maxRecDepth 100000
set_option maxHeartbeats 2000000
set_option linter.unusedSimpArgs false
variable {H : AH} {R : AV → AH → Prop}
def lowE (a b : Int) : Int × Int := ((a.toNat / Nat.gcd a.toNat b.toNat : Nat), (b.toNat / Nat.gcd a.toNat b.toNat : Nat))
def InR (m : Int) (q : Int × Int) : Prop := 1 ≤ q.1 ∧ q.1 ≤ m ∧ 1 ≤ q.2 ∧ q.2 ≤ m
theorem lowE_in {a b m : Int} (ha : 1 ≤ a ∧ a ≤ m) (hb : 1 ≤ b ∧ b ≤ m) : InR m (lowE a b) := by
  have hg : 0 < Nat.gcd a.toNat b.toNat := Nat.gcd_pos_of_pos_left _ (by omega)
  have h1 : 1 ≤ a.toNat / Nat.gcd a.toNat b.toNat := (Nat.le_div_iff_mul_le hg).2 (by rw [Nat.one_mul]; exact Nat.gcd_le_left _ (by omega))
  have h2 : 1 ≤ b.toNat / Nat.gcd a.toNat b.toNat := (Nat.le_div_iff_mul_le hg).2 (by rw [Nat.one_mul]; exact Nat.gcd_le_right _ (by omega))
  have h3 := Nat.div_le_self a.toNat (Nat.gcd a.toNat b.toNat)
  have h4 := Nat.div_le_self b.toNat (Nat.gcd a.toNat b.toNat)
  unfold InR lowE
  generalize a.toNat / Nat.gcd a.toNat b.toNat = x at *
  generalize b.toNat / Nat.gcd a.toNat b.toNat = y at *
  simp only
  omega
theorem LowI_run (a b : Int) (ha : 1 ≤ a ∧ a ≤ 1000000000) (hb : 1 ≤ b ∧ b ≤ 1000000000) (h : ∀ H', Grew H H' → R (.agg [I (lowE a b).1, I (lowE a b).2]) H') : CallQ prog (.func 40 [] []) [I a, I b] H R := by
  have h1 : a = (a.toNat : Int) := by omega
  have h2 : b = (b.toNat : Int) := by omega
  rw [h1, h2]
  refine Low_run _ _ (by omega) (by omega) (by omega) fun H' hg => ?_
  exact h H' hg
def ltE (p q : Int × Int) : Prop := p.1 * q.2 < q.1 * p.2
instance (p q : Int × Int) : Decidable (ltE p q) := inferInstanceAs (Decidable (_ < _))
theorem mul_in {a b m n : Int} (ha : 1 ≤ a ∧ a ≤ m) (hb : 1 ≤ b ∧ b ≤ n) : 1 ≤ a * b ∧ a * b ≤ m * n := by
  have h1 : 1 * 1 ≤ a * b := Int.mul_le_mul ha.1 hb.1 (by omega) (by omega)
  have h2 : a * b ≤ m * n := Int.mul_le_mul ha.2 hb.2 (by omega) (by omega)
  omega
theorem BelowI_run (p q : Int × Int) (hp : InR 90000 p) (hq : InR 90000 q) (h : ∀ H', Grew H H' → R (.bool (decide (ltE p q))) H') : CallQ prog (.func 42 [] []) [.agg [I p.1, I p.2], .agg [I q.1, I q.2]] H R := by
  obtain ⟨a, b⟩ := p
  obtain ⟨c, d⟩ := q
  unfold InR at hp hq
  simp only at hp hq
  have h1 := mul_in (a := a) (b := d) (m := 90000) (n := 90000) (by omega) (by omega)
  have h2 := mul_in (a := c) (b := b) (m := 90000) (n := 90000) (by omega) (by omega)
  have e1 : IntKind.i64.wrap (a * d) = a * d := i64_in _ (by omega)
  have e2 : IntKind.i64.wrap (c * b) = c * b := i64_in _ (by omega)
  exact Below_run _ _ _ _ e1 e2 h
def quotStep (s : (Int × Int) × (Int × Int)) (q : Int × Int) : (Int × Int) × (Int × Int) := (if ltE q s.1 then q else s.1, if ltE s.2 q then q else s.2)
def quotE : List (Int × Int) → (Int × Int) × (Int × Int)
  | [] => ((0, 0), (0, 0))
  | q :: qs => qs.foldl quotStep (q, q)
theorem quotFold_in {m : Int} : ∀ {l : List (Int × Int)} {s : (Int × Int) × (Int × Int)}, (∀ q ∈ l, InR m q) → InR m s.1 → InR m s.2 → InR m (l.foldl quotStep s).1 ∧ InR m (l.foldl quotStep s).2
  | [], s, _, h1, h2 => ⟨h1, h2⟩
  | q :: l, s, h, h1, h2 => by
    have hq := h q (by simp)
    refine quotFold_in (l := l) (s := quotStep s q) (fun q' hq' => h q' (by simp [hq'])) ?_ ?_
    · show InR m (if ltE q s.1 then q else s.1)
      split <;> assumption
    · show InR m (if ltE s.2 q then q else s.2)
      split <;> assumption
theorem quotE_in {m : Int} {l : List (Int × Int)} (h : ∀ q ∈ l, InR m q) (h0 : l ≠ []) : InR m (quotE l).1 ∧ InR m (quotE l).2 := by
  cases l with
  | nil => exact absurd rfl h0
  | cons q l => exact quotFold_in (fun q' hq' => h q' (by simp [hq'])) (h q (by simp)) (h q (by simp))
def quotsOf (l : List (List Int)) (a b : Nat) : List (Int × Int) := l.map fun fs => lowE (getI fs a) (getI fs b)
def Factors (n : Nat) (l : List (List Int)) : Prop := ∀ fs ∈ l, fs.length = n ∧ ∀ f ∈ fs, 1 ≤ f ∧ f ≤ 300
theorem Factors.at_ {n : Nat} {l : List (List Int)} (h : Factors n l) {i a : Nat} (hi : i < l.length) (ha : a < n) : a < l[i].length ∧ 1 ≤ getI l[i] a ∧ getI l[i] a ≤ 300 := by
  obtain ⟨h1, h2⟩ := h _ (List.getElem_mem hi)
  have h3 : a < l[i].length := by omega
  have := h2 _ (List.getElem_mem h3)
  rw [getI_eq h3]
  exact ⟨h3, this⟩
theorem quotsOf_in {n : Nat} {l : List (List Int)} (h : Factors n l) {a b : Nat} (ha : a < n) (hb : b < n) : ∀ q ∈ quotsOf l a b, InR 300 q := by
  intro q hq
  obtain ⟨fs, hfs, rfl⟩ := List.mem_map.1 hq
  obtain ⟨i, hi, rfl⟩ := List.getElem_of_mem hfs
  have h1 := h.at_ hi ha
  have h2 := h.at_ hi hb
  exact lowE_in ⟨h1.2.1, h1.2.2⟩ ⟨h2.2.1, h2.2.2⟩
theorem InR.le {m n : Int} {q : Int × Int} (h : InR m q) (hm : m ≤ n) : InR n q := by
  unfold InR at *; omega
def spreadE (s : (Int × Int) × (Int × Int)) : Int × Int := lowE (s.2.1 * s.1.2) (s.2.2 * s.1.1)
theorem spreadE_in {s : (Int × Int) × (Int × Int)} (h1 : InR 300 s.1) (h2 : InR 300 s.2) : InR 90000 (spreadE s) := by
  unfold InR at h1 h2
  exact lowE_in (mul_in (m := 300) (n := 300) (by omega) (by omega)) (mul_in (m := 300) (n := 300) (by omega) (by omega))
def pairErr (h : House) (a b : Int) : Int := if indexE h a h.ws.length ≠ 0 then indexE h a h.ws.length else indexE h b h.ws.length
def betweenE (h : House) (a b : Int) : ((Int × Int) × (Int × Int)) × Int :=
  if pairErr h a b ≠ 0 then (((0, 0), (0, 0)), pairErr h a b) else if truthsE h = [] then (((0, 0), (0, 0)), 8) else (quotE (quotsOf (truthsE h) a.toNat b.toNat), 0)
theorem truthsE_factors {h : House} (hf : Fine h) : Factors h.ws.length (truthsE h) := fun _ hfs => truthsE_mem hf hfs
def nextStep (l : List (List Int)) (a : Nat) (s : (Int × Int) × (Int × Int)) (b : Nat) : (Int × Int) × (Int × Int) :=
  if ltE s.2 (spreadE (quotE (quotsOf l a b))) then (((a : Int), (b : Int)), spreadE (quotE (quotsOf l a b))) else s
def nextRow (l : List (List Int)) (a m : Nat) (s : (Int × Int) × (Int × Int)) : (Int × Int) × (Int × Int) := (List.range' (a + 1) m).foldl (nextStep l a) s
def nextAll (l : List (List Int)) (n k : Nat) : (Int × Int) × (Int × Int) := (List.range k).foldl (fun s a => nextRow l a (n - (a + 1)) s) ((-1, -1), (1, 1))
def nextE (h : House) : (Int × Int) × Int :=
  if errE h ≠ 0 then ((0, 0), errE h) else if truthsE h = [] then ((0, 0), 8) else
  if (nextAll (truthsE h) h.ws.length h.ws.length).1.1 < 0 then ((0, 0), 9) else ((nextAll (truthsE h) h.ws.length h.ws.length).1, 0)
end Go.Proofs.Ytgncpbkedhchfaa
namespace Go.Proofs.Ytgncpbkedhchfaa
open Go.AM Go.IntWalk
set_option maxRecDepth 100000
set_option maxHeartbeats 2000000
set_option linter.unusedSimpArgs false
variable {H : AH} {R : AV → AH → Prop}
def cntRow (h : House) (d m : Nat) : List Int := (List.range m).filterMap fun (w : Nat) => if getI (h.days.getD d []) w ≠ -1 then some ((d : Int) * h.ws.length + w) else none
def countsTo (h : House) (n : Nat) : List Int := (List.range n).flatMap fun d => cntRow h d h.ws.length
def countsE (h : House) : List Int := countsTo h h.days.length
theorem cntRow_succ {h : House} {d m : Nat} : cntRow h d (m + 1) = cntRow h d m ++ (if getI (h.days.getD d []) m ≠ -1 then [(d : Int) * h.ws.length + m] else []) := by
  rw [cntRow, List.range_succ, List.filterMap_append, cntRow]
  congr 1
  generalize h.days.getD d [] = row
  by_cases hc : getI row m = -1
  · simp only [List.filterMap_cons, List.filterMap_nil, hc, ne_eq, not_true, if_false]
  · simp only [List.filterMap_cons, List.filterMap_nil, hc, ne_eq, not_false_eq_true, if_true]
theorem countsTo_succ {h : House} {n : Nat} : countsTo h (n + 1) = countsTo h n ++ cntRow h n h.ws.length := by
  rw [countsTo, List.range_succ, List.flatMap_append, countsTo]; simp
theorem cntRow_length {h : House} {d m : Nat} : (cntRow h d m).length ≤ m := by
  have := List.length_filterMap_le (fun (w : Nat) => if getI (h.days.getD d []) w ≠ -1 then some ((d : Int) * h.ws.length + w) else none) (List.range m)
  simpa [cntRow] using this
theorem countsTo_length {h : House} (hf : Fine h) : ∀ n, (countsTo h n).length ≤ n * 3
  | 0 => by simp [countsTo]
  | n + 1 => by
    rw [countsTo_succ, List.length_append]
    have h1 := countsTo_length hf n
    have h2 := cntRow_length (h := h) (d := n) (m := h.ws.length)
    have h3 := hf.ws
    omega
theorem countsE_length {h : House} (hf : Fine h) : (countsE h).length ≤ 12 := by
  have h1 := countsTo_length hf h.days.length
  have h2 := hf.days
  unfold countsE
  omega
def maskRow (p : Nat → Bool) (row : List Int) (base j : Nat) : List Int := (List.range row.length).map fun w => if w < j ∧ p (base + w) = true then -1 else getI row w
def maskE (h : House) (p : Nat → Bool) : House := { h with days := (List.range h.days.length).map fun d => maskRow p (h.days.getD d []) (d * h.ws.length) (h.days.getD d []).length }
def butE (h : House) (l : List Int) : House := maskE h fun x => decide ((x : Int) ∈ l)
theorem maskRow_length {p : Nat → Bool} {row : List Int} {base j : Nat} : (maskRow p row base j).length = row.length := by simp [maskRow]
theorem maskRow_mem {p : Nat → Bool} {row : List Int} {base j : Nat} {x : Int} (h : x ∈ maskRow p row base j) : x = -1 ∨ x ∈ row := by
  obtain ⟨w, hw, rfl⟩ := List.mem_map.1 h
  simp only [List.mem_range] at hw
  split
  · exact .inl rfl
  · rw [getI_eq hw]; exact .inr (List.getElem_mem hw)
theorem maskE_length {h : House} {p : Nat → Bool} : (maskE h p).days.length = h.days.length := by simp [maskE]
theorem maskE_day {h : House} {p : Nat → Bool} {d : Nat} (hd : d < h.days.length) : (maskE h p).days[d]'(by rw [maskE_length]; exact hd) = maskRow p h.days[d] (d * h.ws.length) h.days[d].length := by
  simp only [maskE, List.getElem_map, List.getElem_range, getD_eq hd]
theorem Fine.mask {h : House} (hf : Fine h) (p : Nat → Bool) : Fine (maskE h p) := by
  have hrow : ∀ x ∈ (maskE h p).days, ∃ d, ∃ hd : d < h.days.length, x = maskRow p h.days[d] (d * h.ws.length) h.days[d].length := fun x hx => by
    obtain ⟨d, hd, rfl⟩ := List.mem_map.1 hx
    simp only [List.mem_range] at hd
    exact ⟨d, hd, by simp only [getD_eq hd]⟩
  refine ⟨hf.ws, by simp [maskE]; exact hf.days, fun x hx => ?_, fun x hx y hy => ?_, hf.lo, hf.off⟩
  · obtain ⟨d, hd, rfl⟩ := hrow x hx
    rw [maskRow_length]; exact hf.len _ (List.getElem_mem hd)
  · obtain ⟨d, hd, rfl⟩ := hrow x hx
    rcases maskRow_mem hy with rfl | hm
    · omega
    · exact hf.count _ (List.getElem_mem hd) _ hm
theorem Ints_run (v w : AV) (l m : List Int) (hv : IsInts (Old H) H v l) (hw : IsInts (Old H) H w m) (hl : l.length < 9000000000000000000) (k : R (.bool (decide (l = m))) H) : CallQ prog (.func 31 [] []) [v, w] H R := by
  by_cases hlen : l.length = m.length
  · have hlen' : (l.length : Int) = m.length := by omega
    refine CallQ_enter (fn:=c31) rfl (Nat.le_of_ble_eq_true rfl) ?_;simp(maxSteps:=9999999)(disch:=first|omega|(simp only[AN];omega))only[c31,envFrom,hv.len,hw.len,hlen',↓KP,EK,↓reduceIte,reduceCtorEq,Nat.reduceEqDiff,Nat.reduceAdd,Nat.reduceLeDiff,Nat.reduceMul]
    refine K_loop (fun mz ez H1 => ∃ (i : Nat) (b : Bool) (tail : Env), ez = (0, v) :: (1, w) :: (4, .bool false) :: (5, .bool b) :: (6, I i) :: tail ∧ (H1 = H) ∧ (i ≤ m.length) ∧ (b = decide (l.take i = m.take i)) ∧ (b = false → l ≠ m) ∧ mz = m.length - i) _ ⟨0, true, _, rfl, ?_, ?_, ?_, (by intro h; cases h), rfl⟩ ?_
    iterate 3 (focus (first|(with_reducible rfl)|omega|(with_reducible(repeat first|exact Grew.refl _|assumption|apply Grew.alloc|refine Grew.set ?_ _ (by first|omega|(simp only[AN];omega)));done)|(simp(maxSteps:=9999999)(disch:=first|omega|(simp only[AN];omega))only[↓KP,EK,↓reduceIte,reduceCtorEq,Nat.reduceEqDiff,Nat.reduceAdd,Nat.reduceLeDiff,Nat.reduceMul]<;>first|omega|rfl)|(simp;done)|rfl))
    rintro mz ez H1 ⟨i, b, tail, rfl, hH, hi, hb, hb2, hmz⟩; subst mz
    subst H1
    have done : ∀ {b : Bool}, b = decide (l = m) → R (.bool b) H := fun h => by rw [h]; exact k
    cases b with
    | false =>
      simp(maxSteps:=9999999)(disch:=first|omega|(simp only[AN];omega))only[↓KP,EK,↓reduceIte,reduceCtorEq,Nat.reduceEqDiff,Nat.reduceAdd,Nat.reduceLeDiff,Nat.reduceMul]
      exact done (decide_eq_false (hb2 rfl)).symm
    | true =>
      simp(maxSteps:=9999999)(disch:=first|omega|(simp only[AN];omega))only[hv.len,hlen',↓KP,EK,↓reduceIte,reduceCtorEq,Nat.reduceEqDiff,Nat.reduceAdd,Nat.reduceLeDiff,Nat.reduceMul]
      refine C_decide (fun hc => ?_) (fun hc => ?_)
      · have hi' : i < m.length := by omega
        have hi'' : i < l.length := by omega
        obtain ⟨p_b, p_i, p_ro, p_vs, p_lt, p⟩ := hv.rdInt (k := i) rfl hi''
        obtain ⟨q_b, q_i, q_ro, q_vs, q_lt, q⟩ := hw.rdInt (k := i) rfl hi'
        have e1 : IntKind.i64.wrap ((i : Int) + 1) = ((i + 1 : Nat) : Int) := i64_in _ (by omega)
        simp(maxSteps:=9999999)(disch:=first|omega|(simp only[AN];omega))only[↓KP,EK,↓reduceIte,reduceCtorEq,Nat.reduceEqDiff,Nat.reduceAdd,Nat.reduceLeDiff,Nat.reduceMul]
        refine K_draw ?_;simp(maxSteps:=9999999)(disch:=first|omega|(simp only[AN];omega))only[p,q,e1,↓KP,EK,↓reduceIte,reduceCtorEq,Nat.reduceEqDiff,Nat.reduceAdd,Nat.reduceLeDiff,Nat.reduceMul]
        simp only [true_eq_decide_iff] at hb
        have hnew : decide (l[i] = m[i]) = decide (l.take (i + 1) = m.take (i + 1)) := by
          rw [List.take_succ_eq_append_getElem hi', List.take_succ_eq_append_getElem hi'', hb, decide_eq_decide]
          exact ⟨fun e => by rw [e], fun e => by have := List.append_cancel_left e; simpa using this⟩
        exact ⟨_, by omega, i + 1, _, _, rfl, (by first|omega|(with_reducible assumption)|(with_reducible(repeat first|exact Grew.refl _|assumption|apply Grew.alloc|refine Grew.set ?_ _ (by first|omega|(simp only[AN];omega)));done)|(simp(maxSteps:=9999999)(disch:=first|omega|(simp only[AN];omega))only[↓KP,EK,↓reduceIte,reduceCtorEq,Nat.reduceEqDiff,Nat.reduceAdd,Nat.reduceLeDiff,Nat.reduceMul]<;>first|omega|rfl)), (by first|omega|(with_reducible assumption)|(with_reducible(repeat first|exact Grew.refl _|assumption|apply Grew.alloc|refine Grew.set ?_ _ (by first|omega|(simp only[AN];omega)));done)|(simp(maxSteps:=9999999)(disch:=first|omega|(simp only[AN];omega))only[↓KP,EK,↓reduceIte,reduceCtorEq,Nat.reduceEqDiff,Nat.reduceAdd,Nat.reduceLeDiff,Nat.reduceMul]<;>first|omega|rfl)), (by exact hnew), (by intro h e; subst e; simp at h), rfl⟩
      · have hie : i = m.length := by omega
        subst hie
        rw [List.take_length, List.take_of_length_le (by omega)] at hb
        simp(maxSteps:=9999999)(disch:=first|omega|(simp only[AN];omega))only[↓KP,EK,↓reduceIte,reduceCtorEq,Nat.reduceEqDiff,Nat.reduceAdd,Nat.reduceLeDiff,Nat.reduceMul]
        exact done hb
  · have hlen' : ¬ (l.length : Int) = m.length := by omega
    refine CallQ_enter (fn:=c31) rfl (Nat.le_of_ble_eq_true rfl) ?_;simp(maxSteps:=9999999)(disch:=first|omega|(simp only[AN];omega))only[c31,envFrom,hv.len,hw.len,hlen',↓KP,EK,↓reduceIte,reduceCtorEq,Nat.reduceEqDiff,Nat.reduceAdd,Nat.reduceLeDiff,Nat.reduceMul]
    refine K_loop (fun m e H' => e = [(0, v), (1, w), (4, .bool false), (5, .bool false), (6, I 0)] ∧ H' = H) 0 ⟨rfl, rfl⟩ ?_
    rintro _ e H' ⟨rfl, rfl⟩
    simp(maxSteps:=9999999)(disch:=first|omega|(simp only[AN];omega))only[↓KP,EK,↓reduceIte,reduceCtorEq,Nat.reduceEqDiff,Nat.reduceAdd,Nat.reduceLeDiff,Nat.reduceMul]
    have : decide (l = m) = false := by rw [decide_eq_false_iff_not]; intro e; exact hlen (by rw [e])
    rw [this] at k
    exact k
def firstOf (o : List Int) (i : Nat) : Int := if 0 < i then getI o (i - 1) + 1 else 0
def choRow (o : List Int) (i : Nat) (hi : Int) : List (List Int) := (upTo (firstOf o i) hi).map fun f => o ++ [f]
def choStep (below : Nat) (out : List (List Int)) (i : Nat) : List (List Int) := out.flatMap fun o => choRow o i ((below : Int) - 1)
def choicesE (below many : Nat) : List (List Int) := (List.range many).foldl (choStep below) [[]]
theorem choicesE_succ {n m : Nat} : choicesE n (m + 1) = choStep n (choicesE n m) m := by
  simp only [choicesE, List.range_succ, List.foldl_append, List.foldl_cons, List.foldl_nil]
end Go.Proofs.Ytgncpbkedhchfaa
namespace Go.Proofs.Ytgncpbkedhchfaa
def dayOf (h : House) (d : Nat) : List Int := h.days.getD d []
theorem dayOf_eq {h : House} {d : Nat} (hd : d < h.days.length) : dayOf h d = h.days[d] := getD_eq hd
def Cnt (w : Watcher) (c f n : Int) : Prop := c ≠ -1 → f * max 0 (c - w.off) ≤ n ∧ n ≤ f * (c + w.off)
theorem narrow_iff {s : Int × Int} {w : Watcher} {c f n : Int} : ((narrow s w c f).1 ≤ n ∧ n ≤ (narrow s w c f).2) ↔ (s.1 ≤ n ∧ n ≤ s.2) ∧ Cnt w c f n := by
  unfold narrow Cnt
  by_cases hc : c = -1
  · simp [hc]
  · rw [if_neg hc]
    simp only
    constructor
    · intro h; exact ⟨by omega, fun _ => by omega⟩
    · intro h; have := h.2 hc; omega
theorem narrowAll_iff : ∀ {ws : List Watcher} {cs fs : List Int} {s : Int × Int} {n : Int}, ((narrowAll s ws cs fs).1 ≤ n ∧ n ≤ (narrowAll s ws cs fs).2) ↔ (s.1 ≤ n ∧ n ≤ s.2) ∧ ∀ i (_ : i < ws.length) (_ : i < cs.length) (_ : i < fs.length), Cnt ws[i] cs[i] fs[i] n
  | [], cs, fs, s, n => by simp [narrowAll]
  | w :: ws, [], fs, s, n => by simp [narrowAll]
  | w :: ws, c :: cs, [], s, n => by simp [narrowAll]
  | w :: ws, c :: cs, f :: fs, s, n => by
    rw [narrowAll, narrowAll_iff, narrow_iff]
    constructor
    · rintro ⟨⟨h1, h2⟩, h3⟩
      refine ⟨h1, fun i a b e => ?_⟩
      cases i with
      | zero => exact h2
      | succ i => exact h3 i (by simpa using a) (by simpa using b) (by simpa using e)
    · rintro ⟨h1, h2⟩
      exact ⟨⟨h1, h2 0 (by simp) (by simp) (by simp)⟩, fun i a b e => h2 (i + 1) (by simpa using a) (by simpa using b) (by simpa using e)⟩
def Sat (h : House) (fs : List Int) (d : Nat) (n : Int) : Prop := (0 ≤ n ∧ n ≤ 39999) ∧ ∀ i (hi : i < h.ws.length), Cnt h.ws[i] (getI (dayOf h d) i) (getI fs i) n
theorem sat_iff {h : House} (hf : Fine h) {fs : List Int} {d : Nat} (hd : d < h.days.length) (hl : fs.length = h.ws.length) {n : Int} : Sat h fs d n ↔ (numbersE h d fs).1 ≤ n ∧ n ≤ (numbersE h d fs).2 := by
  have hdl : (dayOf h d).length = h.ws.length := by rw [dayOf_eq hd]; exact hf.len _ (List.getElem_mem hd)
  show _ ↔ (narrowAll (0, 39999) h.ws (dayOf h d) fs).1 ≤ n ∧ n ≤ (narrowAll (0, 39999) h.ws (dayOf h d) fs).2
  rw [narrowAll_iff]
  refine and_congr Iff.rfl ⟨fun h i a b e => ?_, fun h i a => ?_⟩
  · have := h i a
    rwa [getI_eq b, getI_eq e] at this
  · have := h i a (by omega) (by omega)
    rwa [getI_eq (by omega), getI_eq (by omega)]
theorem okDay_iff {h : House} (hf : Fine h) {fs : List Int} {d : Nat} (hd : d < h.days.length) (hl : fs.length = h.ws.length) : okDay h fs d = true ↔ ∃ n, Sat h fs d n := by
  unfold okDay
  rw [decide_eq_true_eq]
  constructor
  · intro h1; exact ⟨_, (sat_iff hf hd hl).2 ⟨Int.le_refl _, h1⟩⟩
  · rintro ⟨n, hn⟩
    have := (sat_iff hf hd hl).1 hn
    omega
theorem getI_append {l : List Int} {x : Int} {i : Nat} : getI (l ++ [x]) i = if i < l.length then getI l i else if i = l.length then x else 0 := by
  unfold getI
  simp only [List.getD_eq_getElem?_getD]
  by_cases h1 : i < l.length
  · rw [if_pos h1, List.getElem?_append_left h1]
  · rw [if_neg h1, List.getElem?_append_right (by omega)]
    by_cases h2 : i = l.length
    · subst h2; simp
    · rw [if_neg h2, List.getElem?_eq_none (by simp; omega)]; rfl
theorem list_snoc {α : Type} {l : List α} {k : Nat} (h : l.length = k + 1) : ∃ o x, l = o ++ [x] ∧ o.length = k :=
  ⟨l.take k, l[k], by rw [← List.take_succ_eq_append_getElem (by omega), List.take_of_length_le (by omega)], by simp; omega⟩
theorem mem_all_k {h : House} : ∀ k, k ≤ h.ws.length → ∀ o, o ∈ (h.ws.take k).foldl allStep [[]] ↔ o.length = k ∧ ∀ i (hi : i < h.ws.length), i < k → h.ws[i].lo ≤ getI o i ∧ getI o i ≤ h.ws[i].hi
  | 0, _, o => by simp [List.length_eq_zero_iff]
  | k + 1, hk, o => by
    rw [foldl_take_succ (by omega), mem_allStep]
    constructor
    · rintro ⟨o', ho, f, h1, h2, rfl⟩
      obtain ⟨h3, h4⟩ := (mem_all_k k (by omega) o').1 ho
      refine ⟨by simp [h3], fun i hi hik => ?_⟩
      rw [getI_append, h3]
      by_cases hlt : i < k
      · rw [if_pos hlt]; exact h4 i hi hlt
      · have : i = k := by omega
        subst this
        rw [if_neg (by omega), if_pos rfl]; exact ⟨h1, h2⟩
    · rintro ⟨h1, h2⟩
      obtain ⟨o', x, rfl, hl⟩ := list_snoc h1
      have hx := h2 k (by omega) (by omega)
      rw [getI_append, hl, if_neg (by omega), if_pos rfl] at hx
      refine ⟨o', (mem_all_k k (by omega) o').2 ⟨hl, fun i hi hik => ?_⟩, x, hx.1, hx.2, rfl⟩
      have := h2 i hi (by omega)
      rwa [getI_append, hl, if_pos hik] at this
theorem mem_all {h : House} {fs : List Int} : fs ∈ allE h ↔ fs.length = h.ws.length ∧ ∀ i (hi : i < h.ws.length), h.ws[i].lo ≤ getI fs i ∧ getI fs i ≤ h.ws[i].hi := by
  have := mem_all_k (h := h) h.ws.length (Nat.le_refl _) fs
  rw [List.take_length] at this
  rw [allE, this]
  exact and_congr Iff.rfl ⟨fun h i hi => h i hi hi, fun h i hi _ => h i hi⟩
theorem mem_truths {h : House} (hf : Fine h) {fs : List Int} : fs ∈ truthsE h ↔ fs ∈ allE h ∧ ∀ d, d < h.days.length → ∃ n, Sat h fs d n := by
  rw [truthsE, List.mem_filter]
  refine and_congr_right fun ha => ?_
  have hl := (mem_all.1 ha).1
  rw [okE, List.all_eq_true]
  constructor
  · intro h1 d hd
    exact (okDay_iff hf hd hl).1 (h1 d (List.mem_range.2 hd))
  · intro h1 d hd
    have hd := List.mem_range.1 hd
    exact (okDay_iff hf hd hl).2 (h1 d hd)
theorem errE_ws {h : House} (he : errE h = 0) : h.ws.length ≤ 3 ∧ firstErr (wE h) 0 h.ws = none := by
  refine ⟨(fine_of he).ws, ?_⟩
  unfold errE checkE at he
  split at he
  · cases he
  · split at he
    · rename_i n e hf
      exact absurd he (firstErr_ne hf)
    · rename_i hf; exact hf
theorem errE_days {h h' : House} (he : errE h = 0) (hw : h'.ws = h.ws) (hd : h'.days.length ≤ 4) (hall : ∀ day ∈ h'.days, day.length = h.ws.length ∧ ∀ c ∈ day, -1 ≤ c ∧ c ≤ 120) : errE h' = 0 := by
  obtain ⟨h1, h2⟩ := errE_ws he
  have e1 : wE h' = wE h := by funext i w; simp only [wE, hw]
  have e2 : firstErr (dE h') 0 h'.days = none := firstErr_none fun j hj => by
    obtain ⟨a, b⟩ := hall _ (List.getElem_mem hj)
    simp only [dE, hw]
    rw [if_neg (by omega), if_pos]
    rw [List.all_eq_true]
    intro x hx
    have := b x hx
    simp; omega
  rw [errE, checkE, hw, if_neg (by omega), e1, h2]
  simp only
  rw [if_neg (by omega), e2]
theorem Fine.day {h : House} (hf : Fine h) {d : Nat} (hd : d < h.days.length) : (dayOf h d).length = h.ws.length ∧ ∀ i, i < h.ws.length → -1 ≤ getI (dayOf h d) i ∧ getI (dayOf h d) i ≤ 120 := by
  have hl : (dayOf h d).length = h.ws.length := by rw [dayOf_eq hd]; exact hf.len _ (List.getElem_mem hd)
  refine ⟨hl, fun i hi => ?_⟩
  rw [getI_eq (by omega)]
  have := hf.count _ (List.getElem_mem hd)
  refine this _ ?_
  have e := dayOf_eq hd
  simp only [e]
  exact List.getElem_mem _
section
variable {h : House} {d w : Nat} {c : Int}
theorem getI_set {l : List Int} (hw : w < l.length) (i : Nat) : getI (l.set w c) i = if i = w then c else getI l i := by
  unfold getI
  simp only [List.getD_eq_getElem?_getD, List.getElem?_set]
  by_cases e : i = w
  · subst e; simp [hw]
  · rw [if_neg (by omega), if_neg e]
end
end Go.Proofs.Ytgncpbkedhchfaa
namespace Go.Proofs.Ytgncpbkedhchfaa
open Go.AM Go.IntWalk
set_option maxRecDepth 100000
set_option maxHeartbeats 2000000
set_option linter.unusedSimpArgs false
variable {H : AH} {R : AV → AH → Prop}
def ownOf (all c : List Int) : List Int := c.map fun i => getI all i.toNat
def candE (h : House) (m : Nat) : List (List Int) := (choicesE (countsE h).length m).map (ownOf (countsE h))
def hasTruth (h : House) (l : List Int) : Bool := decide (0 < (truthsE (butE h l)).length)
def wrongList (h : House) : List Int := (((List.range (countsE h).length).flatMap (candE h)).find? (hasTruth h)).getD (countsE h)
def wrongE (h : House) : List Int × Int := if errE h ≠ 0 then ([], errE h) else (wrongList h, 0)
theorem find_pre {α : Type} {p : α → Bool} {a b : List α} (h : ∀ x ∈ a, p x = false) : (a ++ b).find? p = b.find? p := by
  rw [List.find?_append]
  have : a.find? p = none := by
    rw [List.find?_eq_none]
    intro x hx; simp [h x hx]
  rw [this]; rfl
theorem find_here {α : Type} {f : Nat → List α} {p : α → Bool} {n m i : Nat} (hm : m < n) (hi : i < (f m).length) (h1 : ∀ x ∈ (List.range m).flatMap f, p x = false) (h2 : ∀ x ∈ (f m).take i, p x = false) (h3 : p (f m)[i] = true) : ((List.range n).flatMap f).find? p = some (f m)[i] := by
  have e1 : List.range n = List.range m ++ (m :: (List.range n).drop (m + 1)) := by
    have h4 := List.take_append_drop m (List.range n)
    rw [List.drop_eq_getElem_cons (by simpa using hm), List.take_range, Nat.min_eq_left (by omega), List.getElem_range] at h4
    exact h4.symm
  have e2 : ∀ Z : List α, f m ++ Z = (f m).take i ++ ((f m)[i] :: ((f m).drop (i + 1) ++ Z)) := fun Z => by
    have h5 := List.take_append_drop i (f m)
    rw [List.drop_eq_getElem_cons hi] at h5
    calc f m ++ Z = ((f m).take i ++ (f m)[i] :: (f m).drop (i + 1)) ++ Z := by rw [h5]
      _ = _ := by rw [List.append_assoc, List.cons_append]
  rw [e1, List.flatMap_append, find_pre h1, List.flatMap_cons, e2, find_pre h2, List.find?_cons_of_pos h3]
end Go.Proofs.Ytgncpbkedhchfaa
