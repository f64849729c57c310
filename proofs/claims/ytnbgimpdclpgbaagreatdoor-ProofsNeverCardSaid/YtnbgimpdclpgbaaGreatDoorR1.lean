/- Calls of the program, evaluated by the kernel on the abstract machine; no condition. -/
import Derived.Test.YtnbgimpdclpgbaaGreatDoorT
import Derived.Test.YtnbgimpdclpgbaaGreatDoorD
set_option linter.all false
namespace Go.bA.jO
open Go.bA.c3
set_option maxRecDepth 100000
def ajm:iU.kC 11 4 3 8 aI fZ 2000 208=true:=br
def ajn:iU.kC 11 4 3 9 aI fZ 2000 208=true:=br
def ajo:ew.kC 11 4 3 8 aI fZ 2000 208=true:=br
def ajp:ew.kC 11 4 3 9 aI fZ 2000 208=true:=br
def ajq:ft.kC 11 4 3 8 aI fZ 2000 208=true:=br
def ajr:ft.kC 11 4 3 9 aI fZ 2000 208=true:=br
def ajs:mA.kC 11 4 3 8 aI fZ 2000 208=true:=br
def ajt:mA.kC 11 4 3 9 aI fZ 2000 208=true:=br
def aju:sU.kC 11 4 3 18 aI fZ 2000 208=true:=br
def ajv:sU.kC 11 4 3 19 aI fZ 2000 208=true:=br
def ajw:wZ.kC 11 4 3 16 aI fZ 2000 208=true:=br
def ajx:wZ.kC 11 4 3 17 aI fZ 2000 208=true:=br
def ajy:zh.ez 11 aI fZ 2000 179=true:=br
def ajz:zi.ez 11 aI fZ 2000 179=true:=br
def ajA:F1.ez 11 aI fZ 2000 26=true:=br
def ajB:F2.kC 11 4 3 12 aI fZ 2000 208=true:=br
def ajC:F2.kC 11 4 3 13 aI fZ 2000 208=true:=br
def ajD:F3.kC 11 4 3 12 aI fZ 2000 208=true:=br
def ajE:F3.kC 11 4 3 13 aI fZ 2000 208=true:=br
def ajF:F4.kC 11 4 3 18 aI fZ 2000 208=true:=br
def ajG:F4.kC 11 4 3 19 aI fZ 2000 208=true:=br
def ajH:ac (Nat×ac (Nat×dh)):=[(179,[(55,zh),(150,zi)])]
def ajI:zj.ez 11 aI (qw kt ajH) 2000 30=true:=br
def ajJ:F5.ez 11 aI fZ 2000 154=true:=br
def ajK:ac (Nat×ac (Nat×dh)):=[(30,[(16,zj)])]
def ajL:r8.ez 11 aI (qw kt ajK) 2000 158=true:=br
def ajM:qI.ez 11 aI fZ 2000 154=true:=br
def ajN:w0.ez 11 aI fZ 2000 33=true:=br
def ajO:zk.ez 11 aI fZ 2000 154=true:=br
def ajP:F6.ez 11 aI fZ 2000 345=true:=br
def ajQ:F7.ez 11 aI fZ 2000 346=true:=br
def ajR:F8.ez 11 aI fZ 2000 170=true:=br
def ajS:F9.ez 11 aI fZ 2000 397=true:=br
def ajT:Ga.ez 11 aI fZ 2000 345=true:=br
def ajU:ac (Nat×ac (Nat×dh)):=[(158,[(28,r8)]),(154,[(378,zk),(453,qI),(600,qI),(663,zk)]),(397,[(805,F9),(856,F9)]),(345,[(933,Ga),(1067,Ga)])]
def ajV:LF.ez 11 aI (qw kt ajU) 2000 25=true:=br
def ajW:Gb.ez 11 aI fZ 2000 186=true:=br
def ajX:ac (Nat×ac (Nat×dh)):=[(186,[(0,Gb)])]
def ajY:LG.pr 11 [11,12] aI (qw kt ajX) 2000 101 B3.1=true:=br
def ajZ:LH.ez 11 aI fZ 2000 15=true:=br
def aj0:LI.ez 11 aI fZ 2000 99=true:=br
def aj1:ac (Nat×ac (Nat×dh)):=[(15,[(0,LH)]),(99,[(0,LI)])]
def aj2:LJ.pr 11 [11,12] aI (qw kt aj1) 2000 102 Lv.1=true:=br
def aj3:Gc.ez 11 aI fZ 2000 186=true:=br
def aj4:ac (Nat×ac (Nat×dh)):=[(186,[(0,Gc)])]
def aj5:LK.pr 11 [11,12] aI (qw kt aj4) 2000 101 B3.1=true:=br
def aj6:LL.ez 11 aI fZ 2000 15=true:=br
def aj7:LM.ez 11 aI fZ 2000 99=true:=br
def aj8:ac (Nat×ac (Nat×dh)):=[(15,[(0,LL)]),(99,[(0,LM)])]
def aj9:LN.pr 11 [11,12,13,14,15] aI (qw kt aj8) 2000 104 Lw.1=true:=br
def aka:ac (Nat×ac (Nat×dh)):=[(186,[(0,Gc),(0,Gb)])]
def akb:LO.pr 11 [11,12,13] aI (qw kt aka) 2000 101 B3.1=true:=br
def akc:LP.ez 11 aI fZ 2000 107=true:=br
def akd:LQ.ez 11 aI fZ 2000 26=true:=br
def ake:ac (Nat×ac (Nat×dh)):=[(107,[(0,LP)]),(26,[(0,LQ),(0,F1)])]
def akf:LR.pr 11 [11,12,13] aI (qw kt ake) 2000 34 FZ.1=true:=br
