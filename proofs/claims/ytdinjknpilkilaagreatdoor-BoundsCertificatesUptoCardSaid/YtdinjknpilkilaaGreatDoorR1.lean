/- Calls of the program, evaluated by the kernel on the abstract machine; no condition. -/
import Derived.Test.YtdinjknpilkilaaGreatDoorT
import Derived.Test.YtdinjknpilkilaaGreatDoorD
set_option linter.all false
namespace Go.ah.gk
open Go.ah.aW
set_option maxRecDepth 100000
def afs:Fj.iD 9 bn pt 2000 54=true:=by kernel_rfl
def ac4:ac (Nat×ac (Nat×ec)):=[(54,[(14,Fj)])]
def aft:lh.iD 9 bn (q8 k8 ac4) 2000 208=true:=by kernel_rfl
def afE:n7.iD 9 bn pt 2000 57=true:=by kernel_rfl
def adf:ac (Nat×ac (Nat×ec)):=[(208,[(27,lh)]),(57,[(322,n7)])]
def afJ:xh.iD 9 bn (q8 k8 adf) 2000 325=true:=by kernel_rfl
def afK:J3.iD 9 bn pt 2000 306=true:=by kernel_rfl
def afL:so.iD 9 bn pt 2000 344=true:=by kernel_rfl
def afM:J4.iD 9 bn pt 2000 377=true:=by kernel_rfl
def afN:J5.iD 9 bn pt 2000 378=true:=by kernel_rfl
def afO:J6.iD 9 bn pt 2000 341=true:=by kernel_rfl
def adg:ac (Nat×ac (Nat×ec)):=[(208,[(27,lh)]),(57,[(322,n7)]),(344,[(374,so),(439,so)]),(377,[(508,J4)]),(378,[(642,J5)]),(341,[(783,J6)])]
def afP:J7.iD 9 bn (q8 k8 adg) 2000 325=true:=by kernel_rfl
def afu:JS.iD 9 bn pt 2000 321=true:=by kernel_rfl
def ac5:ac (Nat×ac (Nat×ec)):=[(321,[(89,JS)])]
def afv:JT.iD 9 bn (q8 k8 ac5) 2000 306=true:=by kernel_rfl
def afw:B2.iD 9 bn pt 2000 344=true:=by kernel_rfl
def ac6:ac (Nat×ac (Nat×ec)):=[(208,[(27,lh)]),(57,[(322,n7)]),(344,[(374,B2),(449,so)])]
def afx:JU.iD 9 bn (q8 k8 ac6) 2000 325=true:=by kernel_rfl
def afy:JV.iD 9 bn pt 2000 321=true:=by kernel_rfl
