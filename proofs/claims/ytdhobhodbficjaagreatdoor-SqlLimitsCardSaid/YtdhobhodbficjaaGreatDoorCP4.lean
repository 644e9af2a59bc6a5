/- What is proved: SqlLimits's row: closed facts. Conditions: none. -/
import Derived.Test.YtdhobhodbficjaaGreatDoorRows
import Derived.Test.YtdhobhodbficjaaGreatDoorU7
import Derived.Test.YtdhobhodbficjaaGreatDoorCards
import Derived.ProofKit
import Derived.OpenShut
import Derived.Lay
import Derived.MakeChecks
import Derived.Deep.Strs
import Derived.Deep.DeepHandedRow
import Derived.Stop.LaidErr
import Derived.Lib.LaidTab
import Derived.SevenTiedAt
import Derived.Stop.Joined
import Derived.JoinedCond
import Derived.LaidLaws
namespace Go.Proofs.YtdhobhodbficjaaGreatDoor
open Go Go.Deep Go.ChangeShapes Go.WideShapes Go.ChangeAt Go.RowKit
set_option maxRecDepth 100000
namespace sqlLimitsCardProof
theorem cl13:Tryz.pinned.checked.prog.closure 3=[3,4,5,15,6,7,8,16,26,27,17,28,18,29,51,30,52,19,20,21,9,10,11,13,22,31,32,53,54,117,201,118,120,209,211,315,121,55,210,265,202,124,212,214,206,307,308,134,226,227,228,310,394,309,311,395,458,500,535,554,555,459,501,536,502,503,293,386,453,492,493,516,528,529,494,495,530,531,549,550,537,504,312,396,460,321,505,538,556,562,563,488,527,484,525,499,498,548,561,391,455,483,427,481,523,480,418,143,242,482,426,524,461,294,387,313,397,398,205,399,462,400,236,314,401,402,463,216,218,316,217,403,404,464,465,468,436,485,486,526,546,547,283,466,467,469,506,213,215,123,219,317,405,204,203,119,122,208,207,33,12,24,36,71,73,74,148,147,247,351,433,352,149,150,248,162,251,186,249,72,151,152,250,184,153,154,155,156,157,158,159,160,70,75,76,77,78,132,225,111,161,37,79,163,252,253,164,255,254,38,39,80,81,165,87,173,256,354,353,434,40,97,82,90,175,83,176,266,362,267,363,268,364,437,487,269,177,178,270,271,272,365,273,366,438,439,368,428,274,367,275,276,84,88,174,166,167,169,258,91,179,257,168,170,259,171,85,86,172,260,182,277,369,278,370,279,371,440,372,373,441,374,375,442,376,280,377,281,261,262,264,356,357,359,263,355,358,435,360,361,89,92,93,180,181,41,94,183,282,95,96,42,23,34,56,125,126,127,128,220,221,318,222,129,64,223,224,130,131,133,57,58,59,35,60,61,135,136,229,319,320,406,141,230,140,234,235,237,322,323,324,407,470,408,409,472,515,471,507,508,539,509,540,541,510,542,543,557,511,512,513,514,145,245,146,246,350,432,349,410,411,473,474,238,325,326,63,65,412,475,414,68,69,413,476,517,518,544,558,415,239,327,233,328,329,330,416,331,332,333,417,334,338,335,336,419,337,339,420,421,340,422,341,423,477,519,520,534,553,521,478,522,545,559,560,342,424,479,343,344,345,425,346,347,429,430,240,241,231,139,138,137,232,62,142,67,66,144,243,244,348,431,14,25,43,98,116,45,200,301,300,302,304,390,303,306,393,457,392,456,497,305,99,100,187,185,284,378,113,48,112,44,101,188,189,102,103,190,46,47,104,105,191,192,106,107,193,108,195,295,388,454,496,532,551,552,533,296,297,389,285,286,287,197,298,288,194,289,379,380,290,381,443,444,291,382,445,446,383,447,448,490,489,449,384,450,115,451,491,452,385,292,109,196,198,299,110,199,49,114,50]:=by kernel_rfl
theorem k13:((Rows.sqlLimitsRow.named==Tryz.pinned.checked.prog.varsNamed 3))=true:=by
 unfold Program.varsNamed
 rw [cl13]
 kernel_rfl
theorem k14:((Rows.sqlLimitsRow.maps==(Tryz.f3.params.toList++(OpenSpec.ofChange Rows.sqlLimitsSpec).bare.plain.varTypes Tryz.pinned.checked.prog).any (Tryz.pinned.checked.prog.mapsRec ·)))=true:=by kernel_rfl
theorem k15:((Rows.sqlLimitsRow.ifaces==(Tryz.f3.params.toList++(OpenSpec.ofChange Rows.sqlLimitsSpec).bare.plain.varTypes Tryz.pinned.checked.prog).any (Tryz.pinned.checked.prog.ifacesRec ·)))=true:=by kernel_rfl
theorem k16:((Rows.sqlLimitsRow.mapsOut==Tryz.pinned.checked.prog.mapsAmong Tryz.f3.resultTypes.toList))=true:=by kernel_rfl
end sqlLimitsCardProof
end Go.Proofs.YtdhobhodbficjaaGreatDoor
