/- Calls of the program, evaluated by the kernel on the abstract machine; no condition. -/
import Derived.Test.YtoepefenkpijoaaGreatDoorT
import Derived.Test.YtoepefenkpijoaaGreatDoorD
set_option linter.all false
namespace Go.ar.jq
open Go.ar.a9
set_option maxRecDepth 100000
def ac1:ac (Nat×ac (Nat×cW)):=[(292,[(45,zi),(106,n1),(113,zi),(176,qj),(183,zi),(193,n1),(200,n1),(252,vf),(259,zi),(269,qj),(278,n1),(306,vf),(316,xk),(337,xl),(660,JR),(684,BO),(707,JF)]),(150,[(391,JO),(530,JP)]),(17,[(638,JQ)]),(22,[(725,BP),(5580,BP),(6013,BP)]),(116,[(1000,JG),(1381,sj),(1829,BQ),(2251,sj),(2316,sj),(3310,BQ),(3385,sj),(6288,JG),(6669,sj),(7539,sj),(7604,sj)]),(119,[(1084,q9),(1443,q9),(1901,q9),(2960,q9),(6372,q9),(6731,q9),(7189,q9)]),(123,[(1738,zj),(2196,zj),(3255,zj),(7026,zj),(7484,zj)]),(313,[(2382,JH),(7670,JH)]),(314,[(2516,JI),(7804,JI)]),(133,[(2657,JJ),(7945,JJ)]),(16,[(3817,Pn)]),(144,[(5889,Po),(5929,Ps),(5969,Pw)]),(143,[(5892,Pr)]),(129,[(5932,Pv)]),(64,[(5972,Pz)])]
def af4:lp.dL 11 aZ (sc ll ac1) 2000 5=true:=by kernel_rfl
