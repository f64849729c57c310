/- Calls of the program, evaluated by the kernel on the abstract machine; no condition. -/
import Derived.Test.YthdlbilidpgknaaGreatDoorPtT
import Derived.Test.YthdlbilidpgknaaGreatDoorPtD
set_option linter.all false
namespace Go.ak.j1
open Go.ak.a2
set_option maxRecDepth 100000
def aeG:I8.kJ 12 1 3 8 bB jf 2000 167=true:=by kernel_rfl
def aeH:I8.kJ 12 1 3 9 bB jf 2000 167=true:=by kernel_rfl
def aeT:oB.kJ 12 1 3 8 bB jf 2000 167=true:=by kernel_rfl
def aeU:oB.kJ 12 1 3 9 bB jf 2000 167=true:=by kernel_rfl
def aeX:oC.kJ 12 1 3 8 bB jf 2000 167=true:=by kernel_rfl
def aeY:oC.kJ 12 1 3 9 bB jf 2000 167=true:=by kernel_rfl
def aeZ:nT.kJ 12 1 3 8 bB jf 2000 167=true:=by kernel_rfl
def ae0:nT.kJ 12 1 3 9 bB jf 2000 167=true:=by kernel_rfl
def ae1:sQ.kJ 12 1 3 18 bB jf 2000 167=true:=by kernel_rfl
def ae2:sQ.kJ 12 1 3 19 bB jf 2000 167=true:=by kernel_rfl
def ae3:Jf.kJ 12 1 3 18 bB jf 2000 167=true:=by kernel_rfl
def ae4:Jf.kJ 12 1 3 19 bB jf 2000 167=true:=by kernel_rfl
def ae5:Jg.kJ 12 1 3 16 bB jf 2000 167=true:=by kernel_rfl
def ae6:Jg.kJ 12 1 3 17 bB jf 2000 167=true:=by kernel_rfl
def ae7:Ev.eM 12 bB jf 2000 93=true:=by kernel_rfl
def ae8:Ew.eM 12 bB jf 2000 93=true:=by kernel_rfl
def ae9:Jh.kJ 12 1 3 12 bB jf 2000 167=true:=by kernel_rfl
def afa:Jh.kJ 12 1 3 13 bB jf 2000 167=true:=by kernel_rfl
def aeI:I9.kJ 12 1 3 18 bB jf 2000 167=true:=by kernel_rfl
def aeJ:I9.kJ 12 1 3 19 bB jf 2000 167=true:=by kernel_rfl
def ab5:ac (Nat×ac (Nat×dS)):=[(93,[(58,Ev),(153,Ew)])]
def aeK:Ba.eM 12 bB (wq lU ab5) 2000 14=true:=by kernel_rfl
def ab6:ac (Nat×ac (Nat×dS)):=[(14,[(21,Ba),(317,Ba)])]
def aeL:Ja.eM 12 bB (wq lU ab6) 2000 110=true:=by kernel_rfl
def aeM:Jb.eM 12 bB jf 2000 328=true:=by kernel_rfl
def aeN:Bb.eM 12 bB jf 2000 323=true:=by kernel_rfl
def aeO:Jc.eM 12 bB jf 2000 328=true:=by kernel_rfl
def ab7:ac (Nat×ac (Nat×dS)):=[(328,[(219,Jc)]),(323,[(607,Bb)])]
def aeP:Bc.eM 12 bB (wq lU ab7) 2000 128=true:=by kernel_rfl
def aeQ:Eu.eM 12 bB jf 2000 229=true:=by kernel_rfl
def ab8:ac (Nat×ac (Nat×dS)):=[(14,[(16,Ba)]),(328,[(526,Jb),(2759,Jc),(5502,Jb)]),(323,[(908,Bb),(3052,Bb),(5789,Bb)]),(128,[(1024,Bc),(1872,Bc),(3240,Bc),(4615,Bc)]),(229,[(2612,Eu),(3980,Eu),(5355,Eu)])]
def aeR:OX.eM 12 bB (wq lU ab8) 2000 7=true:=by kernel_rfl
def ab9:ac (Nat×ac (Nat×dS)):=[(93,[(59,Ev),(154,Ew)])]
def aeS:Jd.eM 12 bB (wq lU ab9) 2000 112=true:=by kernel_rfl
def aca:ac (Nat×ac (Nat×dS)):=[(112,[(21,Jd)])]
def aeV:Je.eM 12 bB (wq lU aca) 2000 43=true:=by kernel_rfl
def acb:ac (Nat×ac (Nat×dS)):=[(167,[(48,I8),(93,oB),(154,oC),(161,oB),(224,nT),(231,oB),(241,oC),(248,oC),(276,nT),(286,sQ),(307,Jf),(326,Jg),(649,Jh),(673,I9)]),(93,[(380,Ev),(519,Ew)]),(110,[(689,Ja),(7204,Ja)]),(7,[(1297,OX)]),(14,[(7815,Ba)]),(112,[(8091,Jd)]),(43,[(8362,Je),(8839,Je)])]
def aeW:Bd.eM 12 bB (wq lU acb) 2000 6=true:=by kernel_rfl
