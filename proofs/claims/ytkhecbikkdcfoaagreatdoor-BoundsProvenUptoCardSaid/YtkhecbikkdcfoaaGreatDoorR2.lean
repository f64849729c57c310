/- Calls of the program, evaluated by the kernel on the abstract machine; no condition. -/
import Derived.Test.YtkhecbikkdcfoaaGreatDoorT
import Derived.Test.YtkhecbikkdcfoaaGreatDoorD
set_option linter.all false
namespace Go.bI.kR
open Go.bI.ds
set_option maxRecDepth 100000
def VM:ac (Nat×ac (Nat×eu)):=[(35,[(18,kH),(4274,kH)]),(138,[(304,dX),(4560,dX),(6559,dX)]),(258,[(613,ni),(1126,Gu),(2297,Gx),(3300,GB),(4869,ni),(5382,Gu)]),(234,[(979,rR),(2099,Gw),(3106,Gz),(5235,rR),(6355,Gw)]),(38,[(6854,e5)]),(277,[(6906,oS),(6971,oS),(7291,oS)]),(310,[(7040,zr),(7423,GD)]),(311,[(7174,zs)]),(323,[(7553,GG)]),(274,[(8029,Gt)]),(252,[(8310,Gv)]),(190,[(8600,LX)])]
def aiw:kr.fq 9 aV (qs kS VM) 2000 5=true:=cw
