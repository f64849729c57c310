/- Calls of the program, evaluated by the kernel on the abstract machine; no condition. -/
import Derived.Test.YtlnaeofgmkmfdaaGreatDoorT
import Derived.Test.YtlnaeofgmkmfdaaGreatDoorD
set_option linter.all false
namespace Go.an.hf
open Go.an.a7
set_option maxRecDepth 100000
def af1:zJ.lL 11 4 3 8 aS gJ 2000 280=true:=by kernel_rfl
def af2:zJ.lL 11 4 3 9 aS gJ 2000 280=true:=by kernel_rfl
def agf:g2.lL 11 4 3 8 aS gJ 2000 280=true:=by kernel_rfl
def agh:g2.lL 11 4 3 9 aS gJ 2000 280=true:=by kernel_rfl
def ags:kO.lL 11 4 3 8 aS gJ 2000 280=true:=by kernel_rfl
def agt:kO.lL 11 4 3 9 aS gJ 2000 280=true:=by kernel_rfl
def agD:vv.lL 11 4 3 8 aS gJ 2000 280=true:=by kernel_rfl
def agE:vv.lL 11 4 3 9 aS gJ 2000 280=true:=by kernel_rfl
def agF:xC.lL 11 4 3 18 aS gJ 2000 280=true:=by kernel_rfl
def agG:xC.lL 11 4 3 19 aS gJ 2000 280=true:=by kernel_rfl
def agH:xD.lL 11 4 3 16 aS gJ 2000 280=true:=by kernel_rfl
def agI:xD.lL 11 4 3 17 aS gJ 2000 280=true:=by kernel_rfl
def agJ:J3.dU 11 aS gJ 2000 202=true:=by kernel_rfl
def agK:J4.dU 11 aS gJ 2000 202=true:=by kernel_rfl
def agL:J5.dU 11 aS gJ 2000 19=true:=by kernel_rfl
def agM:J6.lL 11 4 3 12 aS gJ 2000 280=true:=by kernel_rfl
def agN:J6.lL 11 4 3 13 aS gJ 2000 280=true:=by kernel_rfl
def af3:Ch.lL 11 4 3 12 aS gJ 2000 280=true:=by kernel_rfl
def af4:Ch.lL 11 4 3 13 aS gJ 2000 280=true:=by kernel_rfl
def af5:JU.lL 11 4 3 18 aS gJ 2000 280=true:=by kernel_rfl
def af6:JU.lL 11 4 3 19 aS gJ 2000 280=true:=by kernel_rfl
def adi:ac (Nat×ac (Nat×c3)):=[(202,[(55,J3),(150,J4)])]
def af7:Ci.dU 11 aS (sm lE adi) 2000 57=true:=by kernel_rfl
def af8:JV.dU 11 aS gJ 2000 63=true:=by kernel_rfl
def adj:ac (Nat×ac (Nat×c3)):=[(57,[(16,Ci)])]
def af9:tM.dU 11 aS (sm lE adj) 2000 103=true:=by kernel_rfl
def aga:sw.dU 11 aS gJ 2000 63=true:=by kernel_rfl
def agb:zK.dU 11 aS gJ 2000 107=true:=by kernel_rfl
def agc:Cj.dU 11 aS gJ 2000 63=true:=by kernel_rfl
def agd:JW.dU 11 aS gJ 2000 306=true:=by kernel_rfl
def age:JX.dU 11 aS gJ 2000 307=true:=by kernel_rfl
def agi:JY.dU 11 aS gJ 2000 119=true:=by kernel_rfl
def agj:JZ.dU 11 aS gJ 2000 380=true:=by kernel_rfl
def agk:J0.dU 11 aS gJ 2000 306=true:=by kernel_rfl
def adk:ac (Nat×ac (Nat×c3)):=[(103,[(28,tM)]),(63,[(378,Cj),(453,sw),(600,sw),(663,Cj)]),(380,[(805,JZ),(856,JZ)]),(306,[(933,J0),(1067,J0)])]
def agl:PL.dU 11 aS (sm lE adk) 2000 18=true:=by kernel_rfl
def agm:J1.dU 11 aS gJ 2000 255=true:=by kernel_rfl
def adl:ac (Nat×ac (Nat×c3)):=[(255,[(0,J1)])]
def agn:PM.pR 11 [11,12] aS (sm lE adl) 2000 137 yz.1=true:=by kernel_rfl
def ago:PN.dU 11 aS gJ 2000 228=true:=by kernel_rfl
def agp:PO.dU 11 aS gJ 2000 236=true:=by kernel_rfl
def adm:ac (Nat×ac (Nat×c3)):=[(228,[(0,PN)]),(236,[(0,PO)])]
def agq:PQ.pR 11 [11,12] aS (sm lE adm) 2000 136 MC.1=true:=by kernel_rfl
def agr:J2.dU 11 aS gJ 2000 255=true:=by kernel_rfl
def adn:ac (Nat×ac (Nat×c3)):=[(255,[(0,J2)])]
def agu:PR.pR 11 [11,12] aS (sm lE adn) 2000 137 yz.1=true:=by kernel_rfl
def agv:PS.dU 11 aS gJ 2000 228=true:=by kernel_rfl
def agw:PT.dU 11 aS gJ 2000 236=true:=by kernel_rfl
def ado:ac (Nat×ac (Nat×c3)):=[(228,[(0,PS)]),(236,[(0,PT)])]
def agx:PU.pR 11 [11,12,13,14,15] aS (sm lE ado) 2000 115 MB.1=true:=by kernel_rfl
def adp:ac (Nat×ac (Nat×c3)):=[(255,[(0,J2),(0,J1)])]
def agy:PV.pR 11 [11,12,13] aS (sm lE adp) 2000 137 yz.1=true:=by kernel_rfl
def agz:PW.dU 11 aS gJ 2000 138=true:=by kernel_rfl
def agA:PX.dU 11 aS gJ 2000 19=true:=by kernel_rfl
def adq:ac (Nat×ac (Nat×c3)):=[(138,[(0,PW)]),(19,[(0,PX),(0,J5)])]
def agB:PY.pR 11 [11,12,13] aS (sm lE adq) 2000 60 MF.1=true:=by kernel_rfl
def adr:ac (Nat×ac (Nat×c3)):=[(280,[(45,zJ),(106,g2),(113,zJ),(176,kO),(183,zJ),(193,g2),(200,g2),(252,vv),(259,zJ),(269,kO),(278,g2),(306,vv),(316,xC),(337,xD),(660,J6),(684,Ch),(707,JU)]),(202,[(391,J3),(530,J4)]),(19,[(638,J5)]),(57,[(725,Ci),(5580,Ci),(6013,Ci)]),(63,[(1000,JV),(1381,sw),(1829,Cj),(2251,sw),(2316,sw),(3310,Cj),(3385,sw),(6288,JV),(6669,sw),(7539,sw),(7604,sw)]),(103,[(1084,tM),(1443,tM),(1901,tM),(2960,tM),(6372,tM),(6731,tM),(7189,tM)]),(107,[(1738,zK),(2196,zK),(3255,zK),(7026,zK),(7484,zK)]),(306,[(2382,JW),(7670,JW)]),(307,[(2516,JX),(7804,JX)]),(119,[(2657,JY),(7945,JY)]),(18,[(3817,PL)]),(137,[(5889,PM),(5929,PR),(5969,PV)]),(136,[(5892,PQ)]),(115,[(5932,PU)]),(60,[(5972,PY)])]
def agC:kP.dU 11 aS (sm lE adr) 2000 5=true:=by kernel_rfl
