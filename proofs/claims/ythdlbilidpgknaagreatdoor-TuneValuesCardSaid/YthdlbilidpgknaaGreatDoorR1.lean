/- Calls of the program, evaluated by the kernel on the abstract machine; no condition. -/
import Derived.Test.YthdlbilidpgknaaGreatDoorT
import Derived.Test.YthdlbilidpgknaaGreatDoorD
set_option linter.all false
namespace Go.aj.kc
open Go.aj.a3
set_option maxRecDepth 100000
def ad6:n5.kP 12 1 3 8 bl jt 2000 167=true:=by kernel_rfl
def ad7:n5.kP 12 1 3 9 bl jt 2000 167=true:=by kernel_rfl
def aej:jJ.kP 12 1 3 8 bl jt 2000 167=true:=by kernel_rfl
def aek:jJ.kP 12 1 3 9 bl jt 2000 167=true:=by kernel_rfl
def aen:lz.kP 12 1 3 8 bl jt 2000 167=true:=by kernel_rfl
def aeo:lz.kP 12 1 3 9 bl jt 2000 167=true:=by kernel_rfl
def aep:n6.kP 12 1 3 8 bl jt 2000 167=true:=by kernel_rfl
def aeq:n6.kP 12 1 3 9 bl jt 2000 167=true:=by kernel_rfl
def aer:yA.kP 12 1 3 18 bl jt 2000 167=true:=by kernel_rfl
def aes:yA.kP 12 1 3 19 bl jt 2000 167=true:=by kernel_rfl
def aet:IT.kP 12 1 3 18 bl jt 2000 167=true:=by kernel_rfl
def aeu:IT.kP 12 1 3 19 bl jt 2000 167=true:=by kernel_rfl
def aev:IU.kP 12 1 3 16 bl jt 2000 167=true:=by kernel_rfl
def aew:IU.kP 12 1 3 17 bl jt 2000 167=true:=by kernel_rfl
def aex:Eb.dm 12 bl jt 2000 93=true:=by kernel_rfl
def aey:Ec.dm 12 bl jt 2000 93=true:=by kernel_rfl
def aez:IV.kP 12 1 3 12 bl jt 2000 167=true:=by kernel_rfl
def aeA:IV.kP 12 1 3 13 bl jt 2000 167=true:=by kernel_rfl
def ad8:IL.kP 12 1 3 18 bl jt 2000 167=true:=by kernel_rfl
def ad9:IL.kP 12 1 3 19 bl jt 2000 167=true:=by kernel_rfl
def abf:ac (Nat×ac (Nat×dS)):=[(93,[(58,Eb),(153,Ec)])]
def aea:AP.dm 12 bl (wg l3 abf) 2000 14=true:=by kernel_rfl
def abg:ac (Nat×ac (Nat×dS)):=[(14,[(21,AP),(317,AP)])]
def aeb:IM.dm 12 bl (wg l3 abg) 2000 110=true:=by kernel_rfl
def aec:IN.dm 12 bl jt 2000 328=true:=by kernel_rfl
def aed:AQ.dm 12 bl jt 2000 323=true:=by kernel_rfl
def aee:IP.dm 12 bl jt 2000 328=true:=by kernel_rfl
def abh:ac (Nat×ac (Nat×dS)):=[(328,[(219,IP)]),(323,[(607,AQ)])]
def aef:AR.dm 12 bl (wg l3 abh) 2000 128=true:=by kernel_rfl
def aeg:Ea.dm 12 bl jt 2000 229=true:=by kernel_rfl
def abi:ac (Nat×ac (Nat×dS)):=[(14,[(16,AP)]),(328,[(526,IN),(2759,IP),(5502,IN)]),(323,[(908,AQ),(3052,AQ),(5789,AQ)]),(128,[(1024,AR),(1872,AR),(3240,AR),(4615,AR)]),(229,[(2612,Ea),(3980,Ea),(5355,Ea)])]
def aeh:Ov.dm 12 bl (wg l3 abi) 2000 7=true:=by kernel_rfl
def abj:ac (Nat×ac (Nat×dS)):=[(93,[(59,Eb),(154,Ec)])]
def aei:IQ.dm 12 bl (wg l3 abj) 2000 112=true:=by kernel_rfl
def abk:ac (Nat×ac (Nat×dS)):=[(112,[(21,IQ)])]
def ael:IS.dm 12 bl (wg l3 abk) 2000 43=true:=by kernel_rfl
def abl:ac (Nat×ac (Nat×dS)):=[(167,[(48,n5),(93,jJ),(154,lz),(161,jJ),(224,n6),(231,jJ),(241,lz),(248,lz),(276,n6),(286,yA),(307,IT),(326,IU),(649,IV),(673,IL)]),(93,[(380,Eb),(519,Ec)]),(110,[(689,IM),(7204,IM)]),(7,[(1297,Ov)]),(14,[(7815,AP)]),(112,[(8091,IQ)]),(43,[(8362,IS),(8839,IS)])]
def aem:AS.dm 12 bl (wg l3 abl) 2000 6=true:=by kernel_rfl
