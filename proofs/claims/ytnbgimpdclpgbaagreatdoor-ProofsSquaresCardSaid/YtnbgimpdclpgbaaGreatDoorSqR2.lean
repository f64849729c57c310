/- Calls of the program, evaluated by the kernel on the abstract machine; no condition. -/
import Derived.Test.YtnbgimpdclpgbaaGreatDoorSqT
import Derived.Test.YtnbgimpdclpgbaaGreatDoorSqD
set_option linter.all false
namespace Go.bC.kL
open Go.bC.dg
set_option maxRecDepth 100000
def aka:ac (Nat×ac (Nat×dr)):=[(208,[(45,jK),(106,eG),(113,jK),(176,fD),(183,jK),(193,eG),(200,eG),(252,m5),(259,jK),(269,fD),(278,eG),(306,m5),(316,u7),(337,zD),(660,L8),(684,L9),(707,Ma)]),(179,[(391,zE),(530,zF)]),(26,[(638,Gp)]),(30,[(725,zG),(5580,zG),(6013,zG)]),(154,[(1000,Gq),(1381,rh),(1829,zH),(2251,rh),(2316,rh),(3310,zH),(3385,rh),(6288,Gq),(6669,rh),(7539,rh),(7604,rh)]),(158,[(1084,sA),(1443,sA),(1901,sA),(2960,sA),(6372,sA),(6731,sA),(7189,sA)]),(33,[(1738,xr),(2196,xr),(3255,xr),(7026,xr),(7484,xr)]),(345,[(2382,Gr),(7670,Gr)]),(346,[(2516,Gs),(7804,Gs)]),(170,[(2657,Gt),(7945,Gt)]),(25,[(3817,Wl)]),(101,[(5889,Wm),(5929,Wo),(5969,Wq)]),(102,[(5892,Wn)]),(104,[(5932,Wp)]),(34,[(5972,Wr)])]
def akb:k7.ew 11 aL (qU k6 aka) 2000 6=true:=bu
