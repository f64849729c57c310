/- Calls of the program, evaluated by the kernel on the abstract machine; no condition. -/
import Derived.Test.YtoepefenkpijoaaGreatDoorT
import Derived.Test.YtoepefenkpijoaaGreatDoorD
set_option linter.all false
namespace Go.ar.jq
open Go.ar.a9
set_option maxRecDepth 100000
def afu:zi.lx 11 4 3 8 aZ gL 2000 292=true:=by kernel_rfl
def afv:zi.lx 11 4 3 9 aZ gL 2000 292=true:=by kernel_rfl
def afI:n1.lx 11 4 3 8 aZ gL 2000 292=true:=by kernel_rfl
def afJ:n1.lx 11 4 3 9 aZ gL 2000 292=true:=by kernel_rfl
def afU:qj.lx 11 4 3 8 aZ gL 2000 292=true:=by kernel_rfl
def afV:qj.lx 11 4 3 9 aZ gL 2000 292=true:=by kernel_rfl
def af5:vf.lx 11 4 3 8 aZ gL 2000 292=true:=by kernel_rfl
def af6:vf.lx 11 4 3 9 aZ gL 2000 292=true:=by kernel_rfl
def af7:xk.lx 11 4 3 18 aZ gL 2000 292=true:=by kernel_rfl
def af8:xk.lx 11 4 3 19 aZ gL 2000 292=true:=by kernel_rfl
def af9:xl.lx 11 4 3 16 aZ gL 2000 292=true:=by kernel_rfl
def aga:xl.lx 11 4 3 17 aZ gL 2000 292=true:=by kernel_rfl
def agb:JO.dL 11 aZ gL 2000 150=true:=by kernel_rfl
def agc:JP.dL 11 aZ gL 2000 150=true:=by kernel_rfl
def agd:JQ.dL 11 aZ gL 2000 17=true:=by kernel_rfl
def age:JR.lx 11 4 3 12 aZ gL 2000 292=true:=by kernel_rfl
def agf:JR.lx 11 4 3 13 aZ gL 2000 292=true:=by kernel_rfl
def afw:BO.lx 11 4 3 12 aZ gL 2000 292=true:=by kernel_rfl
def afx:BO.lx 11 4 3 13 aZ gL 2000 292=true:=by kernel_rfl
def afy:JF.lx 11 4 3 18 aZ gL 2000 292=true:=by kernel_rfl
def afz:JF.lx 11 4 3 19 aZ gL 2000 292=true:=by kernel_rfl
def acS:ac (Nat×ac (Nat×cW)):=[(150,[(55,JO),(150,JP)])]
def afA:BP.dL 11 aZ (sc ll acS) 2000 22=true:=by kernel_rfl
def afB:JG.dL 11 aZ gL 2000 116=true:=by kernel_rfl
def acT:ac (Nat×ac (Nat×cW)):=[(22,[(16,BP)])]
def afC:q9.dL 11 aZ (sc ll acT) 2000 119=true:=by kernel_rfl
def afD:sj.dL 11 aZ gL 2000 116=true:=by kernel_rfl
def afE:zj.dL 11 aZ gL 2000 123=true:=by kernel_rfl
def afF:BQ.dL 11 aZ gL 2000 116=true:=by kernel_rfl
def afG:JH.dL 11 aZ gL 2000 313=true:=by kernel_rfl
def afH:JI.dL 11 aZ gL 2000 314=true:=by kernel_rfl
def afK:JJ.dL 11 aZ gL 2000 133=true:=by kernel_rfl
def afL:JK.dL 11 aZ gL 2000 385=true:=by kernel_rfl
def afM:JL.dL 11 aZ gL 2000 313=true:=by kernel_rfl
def acU:ac (Nat×ac (Nat×cW)):=[(119,[(28,q9)]),(116,[(378,BQ),(453,sj),(600,sj),(663,BQ)]),(385,[(805,JK),(856,JK)]),(313,[(933,JL),(1067,JL)])]
def afN:Pn.dL 11 aZ (sc ll acU) 2000 16=true:=by kernel_rfl
def afO:JM.dL 11 aZ gL 2000 262=true:=by kernel_rfl
def acV:ac (Nat×ac (Nat×cW)):=[(262,[(0,JM)])]
def afP:Po.pO 11 [11,12] aZ (sc ll acV) 2000 144 ya.1=true:=by kernel_rfl
def afQ:Pp.dL 11 aZ gL 2000 241=true:=by kernel_rfl
def afR:Pq.dL 11 aZ gL 2000 249=true:=by kernel_rfl
def acW:ac (Nat×ac (Nat×cW)):=[(241,[(0,Pp)]),(249,[(0,Pq)])]
def afS:Pr.pO 11 [11,12] aZ (sc ll acW) 2000 143 Mf.1=true:=by kernel_rfl
def afT:JN.dL 11 aZ gL 2000 262=true:=by kernel_rfl
def acX:ac (Nat×ac (Nat×cW)):=[(262,[(0,JN)])]
def afW:Ps.pO 11 [11,12] aZ (sc ll acX) 2000 144 ya.1=true:=by kernel_rfl
def afX:Pt.dL 11 aZ gL 2000 241=true:=by kernel_rfl
def afY:Pu.dL 11 aZ gL 2000 249=true:=by kernel_rfl
def acY:ac (Nat×ac (Nat×cW)):=[(241,[(0,Pt)]),(249,[(0,Pu)])]
def afZ:Pv.pO 11 [11,12,13,14,15] aZ (sc ll acY) 2000 129 Md.1=true:=by kernel_rfl
def acZ:ac (Nat×ac (Nat×cW)):=[(262,[(0,JN),(0,JM)])]
def af0:Pw.pO 11 [11,12,13] aZ (sc ll acZ) 2000 144 ya.1=true:=by kernel_rfl
def af1:Px.dL 11 aZ gL 2000 145=true:=by kernel_rfl
def af2:Py.dL 11 aZ gL 2000 17=true:=by kernel_rfl
def ac0:ac (Nat×ac (Nat×cW)):=[(145,[(0,Px)]),(17,[(0,Py),(0,JQ)])]
def af3:Pz.pO 11 [11,12,13] aZ (sc ll ac0) 2000 64 Mj.1=true:=by kernel_rfl
