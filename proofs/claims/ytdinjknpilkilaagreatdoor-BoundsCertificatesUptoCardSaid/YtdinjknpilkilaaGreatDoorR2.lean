/- Calls of the program, evaluated by the kernel on the abstract machine; no condition. -/
import Derived.Test.YtdinjknpilkilaaGreatDoorT
import Derived.Test.YtdinjknpilkilaaGreatDoorD
set_option linter.all false
namespace Go.ah.gk
open Go.ah.aW
set_option maxRecDepth 100000
def ac7:ac (Nat×ac (Nat×ec)):=[(321,[(89,JV)])]
def afz:JW.iD 9 bn (q8 k8 ac7) 2000 306=true:=by kernel_rfl
def afA:JX.iD 9 bn pt 2000 382=true:=by kernel_rfl
def ac8:ac (Nat×ac (Nat×ec)):=[(208,[(27,lh)]),(57,[(322,n7)]),(344,[(374,B2),(449,so)]),(382,[(582,JX),(712,JX)])]
def afB:JY.iD 9 bn (q8 k8 ac8) 2000 325=true:=by kernel_rfl
def afC:JZ.iD 9 bn pt 2000 398=true:=by kernel_rfl
def ac9:ac (Nat×ac (Nat×ec)):=[(398,[(14,JZ),(65,JZ)])]
def afD:J0.iD 9 bn (q8 k8 ac9) 2000 377=true:=by kernel_rfl
def afF:J1.iD 9 bn pt 2000 377=true:=by kernel_rfl
def ada:ac (Nat×ac (Nat×ec)):=[(377,[(20,J1),(154,J1)])]
def afG:J2.iD 9 bn (q8 k8 ada) 2000 390=true:=by kernel_rfl
def adb:ac (Nat×ac (Nat×ec)):=[(325,[(27,JU),(1030,JY)]),(306,[(836,JW)]),(208,[(1987,lh)]),(57,[(2282,n7)]),(344,[(2334,B2),(2409,so),(2556,so),(2619,B2)]),(377,[(2761,J0)]),(390,[(2891,J2)]),(321,[(3786,JV)])]
def afH:Qd.iD 9 bn (q8 k8 adb) 2000 265=true:=by kernel_rfl
def ade:ac (Nat×ac (Nat×ec)):=[(54,[(18,Fj),(4274,Fj)]),(208,[(304,lh),(4560,lh),(6559,lh)]),(325,[(613,xh),(1126,J7),(2297,JU),(3300,JY),(4869,xh),(5382,J7)]),(306,[(979,J3),(2099,JT),(3106,JW),(5235,J3),(6355,JT)]),(57,[(6854,n7)]),(344,[(6906,so),(6971,so),(7291,so)]),(377,[(7040,J4),(7423,J0)]),(378,[(7174,J5)]),(390,[(7553,J2)]),(341,[(8029,J6)]),(321,[(8310,JS)]),(265,[(8600,Qd)])]
def afI:kK.iD 9 bn (q8 k8 ade) 2000 10=true:=by kernel_rfl
