/- Calls of the program, evaluated by the kernel on the abstract machine; no condition. -/
import Derived.Test.YtnbgimpdclpgbaaGreatDoorT
import Derived.Test.YtnbgimpdclpgbaaGreatDoorD
set_option linter.all false
namespace Go.bA.jO
open Go.bA.c3
set_option maxRecDepth 100000
def akg:ac (Nat×ac (Nat×dh)):=[(208,[(45,iU),(106,ew),(113,iU),(176,ft),(183,iU),(193,ew),(200,ew),(252,mA),(259,iU),(269,ft),(278,ew),(306,mA),(316,sU),(337,wZ),(660,F2),(684,F3),(707,F4)]),(179,[(391,zh),(530,zi)]),(26,[(638,F1)]),(30,[(725,zj),(5580,zj),(6013,zj)]),(154,[(1000,F5),(1381,qI),(1829,zk),(2251,qI),(2316,qI),(3310,zk),(3385,qI),(6288,F5),(6669,qI),(7539,qI),(7604,qI)]),(158,[(1084,r8),(1443,r8),(1901,r8),(2960,r8),(6372,r8),(6731,r8),(7189,r8)]),(33,[(1738,w0),(2196,w0),(3255,w0),(7026,w0),(7484,w0)]),(345,[(2382,F6),(7670,F6)]),(346,[(2516,F7),(7804,F7)]),(170,[(2657,F8),(7945,F8)]),(25,[(3817,LF)]),(101,[(5889,LG),(5929,LK),(5969,LO)]),(102,[(5892,LJ)]),(104,[(5932,LN)]),(34,[(5972,LR)])]
def akh:j8.ez 11 aI (qw kt akg) 2000 6=true:=br
