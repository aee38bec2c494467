import Derived.Test.YthghhnhojdmcpaaGreatFnP
import Derived.Test.YthghhnhojdmcpaaGreatChecked
import Derived.KernelRfl
namespace Go.Ev
def brs (f:FuncId):Bool:=memN f [63,75,86,119,128,165,166,174,196]
def brs_amblelaw11_WearActs (f:FuncId):Bool:=memN f [63,75,86,119,128,165,166,174,196,14]
def brs_amblelaw11_WearBoxes (f:FuncId):Bool:=memN f [63,75,86,119,128,165,166,174,196,35]
namespace Ck
theorem amblelaw11_WearChecks:cFunc Proofs.Tryz.prog brs [(0,0,[1,3,5]),(1,0,[1,3,5,23]),(2,0,[6]),(3,0,[1,5,7,8]),(4,0,[5,7,8,9,10]),(5,0,[7,8,9,10,11,12]),(6,0,[7,8,10,12,13,14]),(7,0,[7,8,10,12,13,14,15]),(8,0,[7,10,12,13,14,15,48]),(9,0,[7,10,12,13,14,15]),(10,0,[10,12,13,14,52]),(11,0,[6]),(12,0,[10,12,13,14,55]),(13,0,[6]),(14,0,[6])] Id.amblelaw11_WearChecks=some Fn.amblelaw11_WearChecks:=by kernel_rfl
theorem amblelaw11_Leg_Both:cFunc Proofs.Tryz.prog brs [(0,0,[1,2,3]),(1,0,[1,2,3,4,5]),(2,4,[1,2,3,6,7]),(3,0,[1,2,3,6,7,8]),(4,0,[1,2,3,6,7,8,31]),(6,0,[1,2,3,6,7,8,9,10]),(7,0,[1,2,3,6,7,8,10]),(8,0,[1,2,3,6,7,8]),(5,0,[1,2,3,6,7,8]),(9,0,[1,2,3,6,7,11]),(10,0,[1,2,3,6,7,11,98]),(12,0,[1,2,3,6,7,11,12,13]),(13,4,[1,2,3,6,7,11]),(11,0,[1,2,3,6,7,11]),(14,0,[1,2,3,6,7,14]),(15,0,[1,2,3,6,7,14,126]),(17,0,[1,2,3,6,7,14,15,16]),(18,4,[1,2,3,6,7,14]),(16,0,[1,2,3,6,7,14]),(19,4,[2,3])] Id.amblelaw11_Leg_Both=some Fn.amblelaw11_Leg_Both:=by kernel_rfl
theorem amblelaw11_Leg_small:cFunc Proofs.Tryz.prog brs [(0,0,[1]),(1,0,[1,3]),(2,0,[1,3,8]),(4,0,[1,3,17]),(5,0,[2]),(3,0,[1,3]),(6,0,[2])] Id.amblelaw11_Leg_small=some Fn.amblelaw11_Leg_small:=by kernel_rfl
theorem wear_Check:cFunc Proofs.Tryz.prog brs [(0,0,[1]),(1,0,[1,27]),(2,0,[2]),(3,0,[1,29,30,31]),(4,0,[1,29,30,31,32]),(5,0,[1,4,29,30,31]),(6,0,[1,29,30,31,65]),(7,0,[2]),(8,0,[1,29,30,31]),(9,0,[1,5]),(10,0,[75]),(11,0,[2]),(12,0,[2])] Id.wear_Check=some Fn.wear_Check:=by kernel_rfl
theorem amblelaw11_awake:cFunc Proofs.Tryz.prog brs [(0,0,[]),(1,0,[1]),(2,0,[2,3]),(3,0,[2,3,4,5]),(4,0,[0])] Id.amblelaw11_awake=some Fn.amblelaw11_awake:=by kernel_rfl
theorem wear_Act:cFunc Proofs.Tryz.prog brs [(0,0,[1,2]),(1,0,[1,2,6]),(2,0,[1,2,6,14]),(3,0,[4,5]),(4,0,[1,2,7]),(5,0,[7,18]),(6,0,[7,9]),(7,0,[]),(8,0,[4,5])] Id.wear_Act=some Fn.wear_Act:=by kernel_rfl
theorem exact_Q_Sign:cFunc Proofs.Tryz.prog brs [(0,0,[1]),(1,0,[2])] Id.exact_Q_Sign=some Fn.exact_Q_Sign:=by kernel_rfl
theorem exact_Q_Mul:cFunc Proofs.Tryz.prog brs [(0,0,[2,3,4]),(1,0,[4])] Id.exact_Q_Mul=some Fn.exact_Q_Mul:=by kernel_rfl
theorem exact_Q_Add:cFunc Proofs.Tryz.prog brs [(0,0,[2,3,4]),(1,0,[2,3,4,5,6]),(2,0,[4])] Id.exact_Q_Add=some Fn.exact_Q_Add:=by kernel_rfl
theorem exact_Q_Cmp:cFunc Proofs.Tryz.prog brs [(0,0,[2,3]),(1,0,[4])] Id.exact_Q_Cmp=some Fn.exact_Q_Cmp:=by kernel_rfl
theorem exact_Q_Neg:cFunc Proofs.Tryz.prog brs [(0,0,[1,2]),(1,0,[2])] Id.exact_Q_Neg=some Fn.exact_Q_Neg:=by kernel_rfl
theorem amblelaw11_spots:cFunc Proofs.Tryz.prog brs [(0,0,[0]),(1,0,[0,4]),(2,0,[0,4,5]),(3,0,[0,4,5,6]),(4,0,[0,4,5,6,12]),(6,0,[0,4,5,6,7,8]),(7,4,[0,4,5,6]),(5,0,[0,4,5,6]),(8,0,[2,3])] Id.amblelaw11_spots=some Fn.amblelaw11_spots:=by kernel_rfl
theorem amblelaw01_Both:cFunc Proofs.Tryz.prog brs [(0,0,[1,2,3]),(1,0,[1,2,3,12]),(2,0,[1,2,3]),(3,0,[1,2,3,4]),(4,0,[1,2,3,4,6]),(5,4,[1,2,3,4,6,7,8]),(6,0,[1,2,3,4,6,7,8,9]),(7,0,[1,2,3,4,6,7,8,9,33]),(9,0,[1,2,3,4,6,7,8,9]),(10,0,[1,2,3,4,6,7,8,9]),(8,0,[1,2,3,4,6,7,8,9]),(11,4,[2,3])] Id.amblelaw01_Both=some Fn.amblelaw01_Both:=by kernel_rfl
theorem wear_At:cFunc Proofs.Tryz.prog brs [(0,0,[0,3,4]),(1,0,[0,3,4,8]),(2,0,[4,5]),(3,0,[4,5])] Id.wear_At=some Fn.wear_At:=by kernel_rfl
theorem ambleref11_Right:cFunc Proofs.Tryz.prog brs [(0,0,[1]),(1,0,[1,27]),(2,0,[2]),(3,0,[1,3]),(4,0,[1,3,32]),(6,0,[1,3,4]),(7,0,[1,3,70]),(8,0,[2]),(5,0,[1,3]),(9,0,[1,5]),(10,0,[1,5,72]),(12,0,[1,5,101]),(13,0,[2]),(11,0,[1,5]),(14,0,[2])] Id.ambleref11_Right=some Fn.ambleref11_Right:=by kernel_rfl
theorem ambleref11_CurveRight:cFunc Proofs.Tryz.prog brs [(0,0,[0]),(1,0,[0,3]),(2,0,[0,3,7]),(4,0,[0,3,22]),(5,0,[2]),(3,0,[0,3]),(6,0,[2])] Id.ambleref11_CurveRight=some Fn.ambleref11_CurveRight:=by kernel_rfl
theorem amblelaw01_Same:cFunc Proofs.Tryz.prog brs [(0,0,[2,3]),(1,0,[4])] Id.amblelaw01_Same=some Fn.amblelaw01_Same:=by kernel_rfl
theorem ambleref11_At:cFunc Proofs.Tryz.prog brs [(0,0,[0,3,4]),(1,0,[0,3,4,5]),(2,0,[0,4,5,6]),(3,0,[0,4,5,6,7]),(4,0,[0,4,5,6,7,14]),(6,0,[0,4,5,6,7]),(5,0,[0,4,5,6,7]),(7,0,[4])] Id.ambleref11_At=some Fn.ambleref11_At:=by kernel_rfl
theorem ambleref01_Cmp:cFunc Proofs.Tryz.prog brs [(0,0,[2,3]),(1,0,[4])] Id.ambleref01_Cmp=some Fn.ambleref01_Cmp:=by kernel_rfl
theorem amblelaw01_BothPoints:cFunc Proofs.Tryz.prog brs [(0,0,[1,2,3]),(1,0,[1,2,3,4,5]),(2,0,[2,3,4,5,6,7]),(3,4,[2,3])] Id.amblelaw01_BothPoints=some Fn.amblelaw01_BothPoints:=by kernel_rfl
theorem exact_Q_Sub:cFunc Proofs.Tryz.prog brs [(0,0,[2,3,4]),(1,0,[4])] Id.exact_Q_Sub=some Fn.exact_Q_Sub:=by kernel_rfl
theorem amblelaw11_Range_Both:cFunc Proofs.Tryz.prog brs [(0,0,[1,2,3]),(1,0,[1,2,3,4,5]),(2,0,[2,3,4,5,6,7]),(3,4,[2,3])] Id.amblelaw11_Range_Both=some Fn.amblelaw11_Range_Both:=by kernel_rfl
theorem wear_Box_right:cFunc Proofs.Tryz.prog brs [(0,0,[1]),(1,0,[3,4]),(2,0,[3,4,12]),(3,0,[3,4,12,13]),(4,0,[3,4,5,12]),(5,0,[3,4,12,22]),(6,0,[2]),(7,0,[3,4,12]),(8,0,[2])] Id.wear_Box_right=some Fn.wear_Box_right:=by kernel_rfl
theorem wear_Check_1:cFunc Proofs.Tryz.prog brs [(0,0,[1]),(1,0,[2])] Id.wear_Check_1=some Fn.wear_Check_1:=by kernel_rfl
theorem slices_ContainsFunc_wear_Curve_wear_Curve:cFunc Proofs.Tryz.prog brs [(0,0,[0,1]),(1,0,[4])] Id.slices_ContainsFunc_wear_Curve_wear_Curve=some Fn.slices_ContainsFunc_wear_Curve_wear_Curve:=by kernel_rfl
theorem wear_Check_2:cFunc Proofs.Tryz.prog brs [(0,0,[0]),(1,0,[2])] Id.wear_Check_2=some Fn.wear_Check_2:=by kernel_rfl
theorem wear_Curve_right:cFunc Proofs.Tryz.prog brs [(0,0,[0]),(1,0,[0,3]),(2,0,[0,3,7]),(4,0,[0,3,22]),(5,0,[2]),(3,0,[0,3]),(6,0,[2])] Id.wear_Curve_right=some Fn.wear_Curve_right:=by kernel_rfl
theorem slices_ContainsFunc_wear_Limit_wear_Limit:cFunc Proofs.Tryz.prog brs [(0,0,[0,1]),(1,0,[4])] Id.slices_ContainsFunc_wear_Limit_wear_Limit=some Fn.slices_ContainsFunc_wear_Limit_wear_Limit:=by kernel_rfl
theorem amblelaw11_sample:cFunc Proofs.Tryz.prog brs [(0,0,[0,1,2,6]),(1,0,[6])] Id.amblelaw11_sample=some Fn.amblelaw11_sample:=by kernel_rfl
theorem amblelaw11_leg:cFunc Proofs.Tryz.prog brs [(0,0,[0]),(1,0,[0,1]),(2,0,[0,3]),(3,0,[0,3,4]),(4,0,[0,3,4,25]),(6,0,[0,3,4]),(7,0,[0,3,4]),(5,0,[0,3,4]),(8,0,[0])] Id.amblelaw11_leg=some Fn.amblelaw11_leg:=by kernel_rfl
theorem exact_Int:cFunc Proofs.Tryz.prog brs [(0,0,[0,2]),(1,0,[2])] Id.exact_Int=some Fn.exact_Int:=by kernel_rfl
theorem amblelaw11_acted:cFunc Proofs.Tryz.prog brs [(0,0,[0,1,2]),(1,0,[0,1,2,12]),(2,0,[6]),(3,0,[0,1,2,7]),(4,0,[0,1,2,7,16]),(6,0,[0,1,2,7,42]),(7,0,[6]),(5,0,[0,1,2,7]),(8,0,[6])] Id.amblelaw11_acted=some Fn.amblelaw11_acted:=by kernel_rfl
theorem amblelaw11_Beat_Both:cFunc Proofs.Tryz.prog brs [(0,0,[1,2,3]),(1,0,[1,2,3,4,5]),(2,0,[1,2,3,4,5,6,7]),(3,0,[2,3,4,5,6,7,8,9]),(4,4,[2,3])] Id.amblelaw11_Beat_Both=some Fn.amblelaw11_Beat_Both:=by kernel_rfl
theorem wear_may:cFunc Proofs.Tryz.prog brs [(0,0,[1,2]),(1,0,[1,5]),(2,0,[1,5,9]),(3,0,[4]),(4,0,[13]),(5,0,[4]),(6,0,[4])] Id.wear_may=some Fn.wear_may:=by kernel_rfl
theorem wear_Device_walk:cFunc Proofs.Tryz.prog brs [(0,0,[2,3]),(1,0,[4])] Id.wear_Device_walk=some Fn.wear_Device_walk:=by kernel_rfl
theorem exact_whole_sign:cFunc Proofs.Tryz.prog brs [(0,0,[1]),(1,0,[1,3]),(2,0,[2]),(3,0,[6]),(4,0,[2]),(5,0,[2])] Id.exact_whole_sign=some Fn.exact_whole_sign:=by kernel_rfl
theorem exact_quotient:cFunc Proofs.Tryz.prog brs [(0,0,[1,2,4]),(1,0,[1,2,4,5]),(2,0,[1,2,4,5,18]),(3,0,[1,2,4,5]),(4,0,[1,2,4]),(5,0,[4])] Id.exact_quotient=some Fn.exact_quotient:=by kernel_rfl
theorem exact_wholeOf:cFunc Proofs.Tryz.prog brs [(0,0,[0,1,4]),(1,0,[4])] Id.exact_wholeOf=some Fn.exact_wholeOf:=by kernel_rfl
theorem exact_nat_mul:cFunc Proofs.Tryz.prog brs [(0,0,[0,1]),(1,0,[0,1,5]),(2,0,[1,5,17,18,19]),(3,0,[1,5,17,18,19,20]),(4,0,[1,5,6,7,17,18,19]),(5,0,[1,5,6,7,8,17,18,19]),(6,0,[1,5,6,7,8,17,18,19,24,25,26]),(7,0,[1,5,6,7,8,17,18,19,24,25,26,27]),(8,0,[1,5,6,7,8,9,10,17,18,19,24,25,26]),(9,0,[1,5,6,7,8,9,17,18,19,24,25,26]),(10,0,[1,5,6,7,8,17,18,19,24,25,26]),(11,0,[1,5,6,7,8,17,18,19,24,25,26]),(12,0,[1,5,6,7,8,17,18,19,24,25,26]),(13,0,[1,5,17,18,19]),(14,0,[1,5,17,18,19]),(15,0,[4])] Id.exact_nat_mul=some Fn.exact_nat_mul:=by kernel_rfl
theorem exact_Q_den:cFunc Proofs.Tryz.prog brs [(0,0,[1]),(1,0,[2])] Id.exact_Q_den=some Fn.exact_Q_den:=by kernel_rfl
theorem exact_whole_times:cFunc Proofs.Tryz.prog brs [(0,0,[1,2,4]),(1,0,[4])] Id.exact_whole_times=some Fn.exact_whole_times:=by kernel_rfl
theorem exact_whole_add:cFunc Proofs.Tryz.prog brs [(0,0,[2,3,4]),(1,0,[2,3,4,5]),(2,0,[4]),(3,0,[2,3,4,19]),(4,0,[4]),(5,0,[4])] Id.exact_whole_add=some Fn.exact_whole_add:=by kernel_rfl
theorem exact_whole_cmp:cFunc Proofs.Tryz.prog brs [(0,0,[2,3]),(1,0,[2,3,5]),(2,0,[4]),(3,0,[2,3,15]),(4,0,[4]),(5,0,[2,3,21]),(6,0,[4]),(7,0,[4])] Id.exact_whole_cmp=some Fn.exact_whole_cmp:=by kernel_rfl
theorem exact_Of:cFunc Proofs.Tryz.prog brs [(0,0,[0,1,4]),(1,0,[0,1,4,7]),(2,0,[4,5]),(3,0,[4,5])] Id.exact_Of=some Fn.exact_Of:=by kernel_rfl
theorem ambleref01_Of:cFunc Proofs.Tryz.prog brs [(0,0,[0,1,4]),(1,0,[4])] Id.ambleref01_Of=some Fn.ambleref01_Of:=by kernel_rfl
theorem ambleref01_Mul:cFunc Proofs.Tryz.prog brs [(0,0,[2,3,4]),(1,0,[4])] Id.ambleref01_Mul=some Fn.ambleref01_Mul:=by kernel_rfl
theorem wear_Curve_at:cFunc Proofs.Tryz.prog brs [(0,0,[0,3,4]),(1,0,[0,3,4,5]),(2,0,[0,4,5,10,11,12]),(3,0,[0,4,5,10,11,12,13]),(4,0,[0,4,5,7,10,11,12]),(5,0,[0,4,5,10,11,12]),(6,0,[0,4,5,10,11,12]),(7,0,[4])] Id.wear_Curve_at=some Fn.wear_Curve_at:=by kernel_rfl
theorem ambleref01_Sign:cFunc Proofs.Tryz.prog brs [(0,0,[1]),(1,0,[2])] Id.ambleref01_Sign=some Fn.ambleref01_Sign:=by kernel_rfl
theorem ambleref11_BoxRight:cFunc Proofs.Tryz.prog brs [(0,0,[1]),(1,0,[1,3]),(2,0,[1,3,5]),(4,0,[1,3,17]),(5,0,[2]),(3,0,[1,3]),(6,0,[2])] Id.ambleref11_BoxRight=some Fn.ambleref11_BoxRight:=by kernel_rfl
theorem exact_Q_Text:cFunc Proofs.Tryz.prog brs [(0,0,[1]),(1,0,[1,3]),(2,0,[1,3,10]),(3,0,[1,3]),(4,0,[1,3,16]),(5,0,[3]),(6,0,[2])] Id.exact_Q_Text=some Fn.exact_Q_Text:=by kernel_rfl
theorem ambleref01_Text:cFunc Proofs.Tryz.prog brs [(0,0,[1]),(1,0,[1,3]),(2,0,[3,4]),(3,0,[3,4,12]),(4,0,[2]),(5,0,[2])] Id.ambleref01_Text=some Fn.ambleref01_Text:=by kernel_rfl
theorem ambleref11_Shares:cFunc Proofs.Tryz.prog brs [(0,0,[0,3]),(1,0,[0,3,5]),(2,0,[0,3,5,6]),(3,0,[0,3,5,6,20]),(4,0,[5]),(5,0,[4]),(6,0,[0,3,5,6,32]),(7,0,[5]),(8,0,[4]),(9,0,[0,3,5,7]),(10,0,[0,3,5,7,46]),(11,0,[0,3,5,7]),(12,0,[5,7]),(13,0,[5]),(14,0,[4])] Id.ambleref11_Shares=some Fn.ambleref11_Shares:=by kernel_rfl
theorem ambleref01_Add:cFunc Proofs.Tryz.prog brs [(0,0,[2,3,4]),(1,0,[4])] Id.ambleref01_Add=some Fn.ambleref01_Add:=by kernel_rfl
theorem ambleref01_Sub:cFunc Proofs.Tryz.prog brs [(0,0,[2,3,4]),(1,0,[4])] Id.ambleref01_Sub=some Fn.ambleref01_Sub:=by kernel_rfl
theorem ambleref01_Neg:cFunc Proofs.Tryz.prog brs [(0,0,[1,2]),(1,0,[2])] Id.ambleref01_Neg=some Fn.ambleref01_Neg:=by kernel_rfl
theorem wear_Box_has:cFunc Proofs.Tryz.prog brs [(0,0,[2,3]),(1,0,[4])] Id.wear_Box_has=some Fn.wear_Box_has:=by kernel_rfl
theorem ambleref01_ZCmp:cFunc Proofs.Tryz.prog brs [(0,0,[2,3]),(1,0,[2,3,9]),(2,0,[11]),(3,0,[4]),(4,0,[4]),(5,0,[2,3,13]),(6,0,[4]),(7,0,[4])] Id.ambleref01_ZCmp=some Fn.ambleref01_ZCmp:=by kernel_rfl
theorem ambleref01_ZMul:cFunc Proofs.Tryz.prog brs [(0,0,[2,3,4]),(1,0,[4])] Id.ambleref01_ZMul=some Fn.ambleref01_ZMul:=by kernel_rfl
theorem ambleref01_Q_den:cFunc Proofs.Tryz.prog brs [(0,0,[1,2]),(1,0,[1,2,7]),(2,0,[2]),(3,0,[2])] Id.ambleref01_Q_den=some Fn.ambleref01_Q_den:=by kernel_rfl
theorem exact_Max:cFunc Proofs.Tryz.prog brs [(0,0,[0,2]),(1,0,[2])] Id.exact_Max=some Fn.exact_Max:=by kernel_rfl
theorem exact_Min:cFunc Proofs.Tryz.prog brs [(0,0,[0,2]),(1,0,[2])] Id.exact_Min=some Fn.exact_Min:=by kernel_rfl
theorem wear_Sample_signals:cFunc Proofs.Tryz.prog brs [(0,0,[1,2]),(1,0,[2])] Id.wear_Sample_signals=some Fn.wear_Sample_signals:=by kernel_rfl
theorem slices_IndexFunc_wear_Curve_wear_Curve:cFunc Proofs.Tryz.prog brs [(0,0,[0,1]),(1,0,[0,1,7,8]),(2,0,[0,1,7,8,9]),(3,0,[0,1,5,7,8]),(4,0,[0,1,5,7,8,16]),(5,0,[4]),(6,0,[0,1,7,8]),(7,0,[4])] Id.slices_IndexFunc_wear_Curve_wear_Curve=some Fn.slices_IndexFunc_wear_Curve_wear_Curve:=by kernel_rfl
theorem slices_IndexFunc_wear_Limit_wear_Limit:cFunc Proofs.Tryz.prog brs [(0,0,[0,1]),(1,0,[0,1,7,8]),(2,0,[0,1,7,8,9]),(3,0,[0,1,5,7,8]),(4,0,[0,1,5,7,8,16]),(5,0,[4]),(6,0,[0,1,7,8]),(7,0,[4])] Id.slices_IndexFunc_wear_Limit_wear_Limit=some Fn.slices_IndexFunc_wear_Limit_wear_Limit:=by kernel_rfl
theorem exact_of:cFunc Proofs.Tryz.prog brs [(0,0,[1,2]),(1,0,[2])] Id.exact_of=some Fn.exact_of:=by kernel_rfl
theorem exact_magnitude:cFunc Proofs.Tryz.prog brs [(0,0,[0]),(1,0,[0,4]),(2,0,[2]),(3,0,[2])] Id.exact_magnitude=some Fn.exact_magnitude:=by kernel_rfl
theorem wear_Device_walk_1:cFunc Proofs.Tryz.prog brs [(0,0,[0,1,2,4]),(1,0,[0,1,2,4,5]),(2,0,[0,1,4,5,13,14,15]),(3,0,[0,1,4,5,13,14,15,16]),(4,0,[0,1,4,5,7,13,14,15]),(5,0,[0,1,4,5,7,13,14,15]),(6,0,[0,1,4,5,7,8,13,14,15]),(7,0,[0,1,4,5,7,8,13,14,15]),(8,0,[0,1,4,5,7,13,14,15]),(9,0,[0,1,4,5,7,13,14,15,69]),(10,0,[0,1,4,5,7,13,14,15]),(11,0,[0,1,4,5,13,14,15,80]),(12,0,[0,1,4,5,13,14,15])] Id.wear_Device_walk_1=some Fn.wear_Device_walk_1:=by kernel_rfl
theorem wear_watcher_see:cFunc Proofs.Tryz.prog brs [(0,0,[0,3]),(1,0,[0,3,4]),(2,0,[0,3,4,11,12,13]),(3,0,[0,3,4,11,12,13,14]),(4,0,[0,3,4,5,6,11,12,13]),(5,0,[0,3,4,5,6,11,12,13,24]),(6,0,[0,3,4,5,6,11,12,13,29]),(7,0,[0,3,4,11,12,13]),(8,0,[0,3,4,5,6,11,12,13]),(9,0,[0,3,4,5,11,12,13,54]),(10,0,[0,3,4,11,12,13]),(11,0,[0,3,4,11,12,13]),(12,0,[0,4,58]),(13,0,[0]),(14,0,[])] Id.wear_watcher_see=some Fn.wear_watcher_see:=by kernel_rfl
theorem wear_clamp:cFunc Proofs.Tryz.prog brs [(0,0,[3,4,5,6]),(1,0,[6])] Id.wear_clamp=some Fn.wear_clamp:=by kernel_rfl
theorem exact_nat_gcd:cFunc Proofs.Tryz.prog brs [(0,0,[0,1]),(1,0,[0,1,11]),(2,0,[0,1,19]),(3,0,[5,6]),(4,0,[5,6,25]),(5,0,[5,6]),(6,0,[4]),(7,0,[1,8]),(8,0,[0,1]),(9,0,[4])] Id.exact_nat_gcd=some Fn.exact_nat_gcd:=by kernel_rfl
theorem exact_nat_div:cFunc Proofs.Tryz.prog brs [(0,0,[0,1]),(1,0,[0,1,15]),(2,0,[4,5]),(3,0,[0,1,21]),(4,0,[4,5]),(5,0,[0,1,6]),(6,0,[0,6,7]),(7,0,[0,6,7,8]),(8,0,[0,6,7,8,9]),(9,0,[0,6,7,8,9]),(10,0,[0,6,7,8,9]),(11,0,[6,7,8,9,10]),(12,0,[6,7,8,9,10,11]),(13,0,[6,7,8,9,10,11,68]),(15,0,[6,7,8,9,10,11,12]),(16,0,[6,7,8,9,10,11,13,14]),(17,0,[6,7,8,9,10,11,13,14,127]),(18,0,[6,7,8,9,10,11,13,14]),(19,0,[6,7,8,9,10,11,13,14]),(20,0,[6,7,8,9,10,11,13,14,139]),(21,0,[6,7,8,9,10,11,13,144]),(22,0,[6,7,8,9,10,11,13]),(23,0,[6,7,8,9,10,11,13]),(24,0,[6,7,8,9,10,11]),(14,0,[6,7,8,9,10,11]),(25,0,[4,5])] Id.exact_nat_div=some Fn.exact_nat_div:=by kernel_rfl
theorem exact_nat_sub:cFunc Proofs.Tryz.prog brs [(0,0,[0,1]),(1,0,[0,1,5]),(2,0,[0,1,5,6]),(3,0,[0,1,5,6,13,14]),(4,0,[0,1,5,6,13,14,15]),(5,0,[0,1,5,6,7,13,14]),(6,0,[0,1,5,6,7,8,13,14]),(7,0,[0,1,5,6,7,8,13,14,20]),(8,0,[0,1,5,6,7,8,13,14]),(9,0,[0,1,5,6,13,14]),(10,0,[0,1,5,6,13,14]),(11,0,[4])] Id.exact_nat_sub=some Fn.exact_nat_sub:=by kernel_rfl
theorem exact_natOf:cFunc Proofs.Tryz.prog brs [(0,0,[0]),(1,0,[2])] Id.exact_natOf=some Fn.exact_natOf:=by kernel_rfl
theorem exact_nat_norm:cFunc Proofs.Tryz.prog brs [(0,0,[0]),(1,0,[0,3]),(2,0,[0,3,15]),(3,0,[0,3]),(4,0,[2])] Id.exact_nat_norm=some Fn.exact_nat_norm:=by kernel_rfl
theorem exact_nat_add:cFunc Proofs.Tryz.prog brs [(0,0,[0,1]),(1,0,[0,1,12]),(2,0,[0,1]),(3,0,[0,1,5]),(4,0,[0,1,5,6]),(5,0,[0,1,5,6,20,21]),(6,0,[0,1,5,6,20,21,22]),(7,0,[0,1,5,6,7,20,21]),(8,0,[0,1,5,6,7,20,21]),(9,0,[0,1,5,6,7,20,21,34]),(10,0,[0,1,5,6,7,20,21]),(11,0,[0,1,5,6,20,21]),(12,0,[0,1,5,6,20,21]),(13,0,[0,1,5,6,20,21]),(14,0,[5]),(15,0,[4])] Id.exact_nat_add=some Fn.exact_nat_add:=by kernel_rfl
theorem exact_nat_cmp:cFunc Proofs.Tryz.prog brs [(0,0,[0,1]),(1,0,[0,1,10]),(2,0,[15]),(3,0,[4]),(4,0,[4]),(5,0,[0,1,5]),(6,0,[0,1,5,20]),(8,0,[0,1,5,31]),(9,0,[40]),(10,0,[4]),(11,0,[4]),(7,0,[0,1,5]),(12,0,[4])] Id.exact_nat_cmp=some Fn.exact_nat_cmp:=by kernel_rfl
theorem ambleref01_QOf:cFunc Proofs.Tryz.prog brs [(0,0,[2,3,4]),(1,0,[2,3,4,11]),(2,0,[2,3,4]),(3,0,[2,3,4,5]),(4,0,[2,3,4,5,29]),(5,0,[4]),(6,0,[2,3,4,5,6]),(7,0,[2,4,6,8]),(8,0,[4])] Id.ambleref01_QOf=some Fn.ambleref01_QOf:=by kernel_rfl
theorem ambleref01_ZInt:cFunc Proofs.Tryz.prog brs [(0,0,[0,2]),(1,0,[0,2,3]),(2,0,[0,2,3]),(3,0,[0,2,3,9]),(4,0,[0,2,3,4]),(5,0,[0,2,3,4,13]),(6,0,[0,2,3,4]),(7,0,[0,2,3]),(8,0,[0,2,3]),(9,0,[2])] Id.ambleref01_ZInt=some Fn.ambleref01_ZInt:=by kernel_rfl
theorem wear_Curve_parts:cFunc Proofs.Tryz.prog brs [(0,0,[0,3]),(1,0,[0,3,5]),(2,0,[0,3,5,6]),(3,0,[0,3,5,6,17]),(4,0,[4]),(5,0,[0,3,5,6,27]),(6,0,[4]),(7,0,[5,6,8]),(8,0,[4])] Id.wear_Curve_parts=some Fn.wear_Curve_parts:=by kernel_rfl
theorem exact_nat_decimal:cFunc Proofs.Tryz.prog brs [(0,0,[0]),(1,0,[0,10]),(2,0,[2]),(3,0,[0,3]),(4,0,[0,3,13]),(5,0,[3,4,5]),(6,0,[3,4,6]),(7,0,[3,4,6,7]),(8,0,[3,4,6,7,31]),(10,0,[3,4,6,7]),(11,0,[3,4,6,7]),(9,0,[3,4,6,7]),(12,0,[0,3]),(13,0,[3]),(14,0,[2])] Id.exact_nat_decimal=some Fn.exact_nat_decimal:=by kernel_rfl
theorem ambleref01_ZText:cFunc Proofs.Tryz.prog brs [(0,0,[1]),(1,0,[1,10]),(2,0,[2]),(3,0,[1,3]),(4,0,[1,3,4]),(5,0,[1,3,4,15]),(7,0,[1,3,4,5]),(8,0,[1,3,4,5,6]),(9,0,[1,3,4,5,6,24]),(11,0,[1,3,4,5,6]),(12,0,[1,3,4,5,6]),(10,0,[1,3,4,5,6]),(6,0,[1,3,4]),(13,0,[1,3,39]),(14,0,[1,3]),(15,0,[3,43]),(16,0,[2]),(17,0,[2])] Id.ambleref01_ZText=some Fn.ambleref01_ZText:=by kernel_rfl
theorem ambleref01_Int:cFunc Proofs.Tryz.prog brs [(0,0,[0,2]),(1,0,[2])] Id.ambleref01_Int=some Fn.ambleref01_Int:=by kernel_rfl
theorem ambleref01_Div:cFunc Proofs.Tryz.prog brs [(0,0,[2,3,4]),(1,0,[4])] Id.ambleref01_Div=some Fn.ambleref01_Div:=by kernel_rfl
theorem ambleref01_ZAdd:cFunc Proofs.Tryz.prog brs [(0,0,[2,3,4]),(1,0,[2,3,4,9]),(2,0,[4]),(3,0,[2,3,4,23]),(4,0,[4]),(5,0,[4])] Id.ambleref01_ZAdd=some Fn.ambleref01_ZAdd:=by kernel_rfl
theorem ambleref01_ZNeg:cFunc Proofs.Tryz.prog brs [(0,0,[1,2]),(1,0,[2])] Id.ambleref01_ZNeg=some Fn.ambleref01_ZNeg:=by kernel_rfl
theorem wear_among:cFunc Proofs.Tryz.prog brs [(0,0,[3,4,5]),(1,0,[6])] Id.wear_among=some Fn.wear_among:=by kernel_rfl
theorem ambleref01_abs:cFunc Proofs.Tryz.prog brs [(0,0,[0,1]),(1,0,[0,1,10]),(2,0,[15]),(3,0,[4]),(4,0,[4]),(5,0,[0,1,5]),(6,0,[0,1,5,20]),(8,0,[0,1,5,31]),(9,0,[40]),(10,0,[4]),(11,0,[4]),(7,0,[0,1,5]),(12,0,[4])] Id.ambleref01_abs=some Fn.ambleref01_abs:=by kernel_rfl
theorem ambleref01_signed:cFunc Proofs.Tryz.prog brs [(0,0,[0,1,4]),(1,0,[4])] Id.ambleref01_signed=some Fn.ambleref01_signed:=by kernel_rfl
theorem ambleref01_times:cFunc Proofs.Tryz.prog brs [(0,0,[0,1]),(1,0,[0,1,5]),(2,0,[0,1,5,6]),(3,0,[0,1,5,6,19]),(5,0,[0,1,5,6,7]),(6,0,[0,1,5,6,7,8]),(7,0,[0,1,5,6,7,8,29]),(9,0,[0,1,5,6,8,9]),(10,0,[0,1,5,6,8,9,43]),(11,0,[0,1,5,6,8,9]),(12,0,[0,1,5,6,8,9]),(13,0,[0,1,5,6,7,8]),(8,0,[0,1,5,6,7,8]),(4,0,[0,1,5,6]),(14,0,[4])] Id.ambleref01_times=some Fn.ambleref01_times:=by kernel_rfl
theorem exact_pick:cFunc Proofs.Tryz.prog brs [(0,0,[0,1,4]),(1,0,[0,1,4,5]),(2,0,[0,4,5,8,9,10]),(3,0,[0,4,5,8,9,10,11]),(4,0,[0,4,5,6,7,8,9,10]),(5,0,[0,4,5,7,8,9,10,22]),(6,0,[0,4,5,8,9,10]),(7,0,[0,4,5,8,9,10]),(8,0,[4])] Id.exact_pick=some Fn.exact_pick:=by kernel_rfl
theorem exact_Max_1:cFunc Proofs.Tryz.prog brs [(0,0,[2,3]),(1,0,[4])] Id.exact_Max_1=some Fn.exact_Max_1:=by kernel_rfl
theorem exact_Min_1:cFunc Proofs.Tryz.prog brs [(0,0,[2,3]),(1,0,[4])] Id.exact_Min_1=some Fn.exact_Min_1:=by kernel_rfl
theorem exact_nat_small:cFunc Proofs.Tryz.prog brs [(0,0,[0]),(1,0,[0,3]),(2,0,[3,6,7,8]),(3,0,[3,6,7,8,9]),(4,0,[3,4,5,6,7,8]),(5,0,[3,6,7,8]),(6,0,[3,6,7,8]),(7,0,[2])] Id.exact_nat_small=some Fn.exact_nat_small:=by kernel_rfl
theorem exact_nat_short:cFunc Proofs.Tryz.prog brs [(0,0,[0,1]),(1,0,[0,1,6]),(2,0,[0,1,6,7]),(3,0,[0,1,6,7,8]),(4,0,[0,1,6,7,8,16]),(6,0,[0,1,6,7,8]),(7,0,[0,1,6,7,8]),(8,0,[0,1,6,7,8]),(5,0,[0,1,6,7,8]),(9,0,[4,5])] Id.exact_nat_short=some Fn.exact_nat_short:=by kernel_rfl
theorem math_bits_LeadingZeros32:cFunc Proofs.Tryz.prog brs [(0,0,[0]),(1,0,[2])] Id.math_bits_LeadingZeros32=some Fn.math_bits_LeadingZeros32:=by kernel_rfl
theorem exact_nat_shl:cFunc Proofs.Tryz.prog brs [(0,0,[0,1]),(1,0,[0,1,5]),(2,0,[1,5]),(3,0,[1,5,6]),(4,0,[1,5,6,25]),(5,0,[1,5,6,7]),(6,0,[5,6,7,8]),(7,0,[5,6,7,8,31]),(9,0,[5,6,7,8]),(8,0,[5,6,7,8]),(10,0,[4])] Id.exact_nat_shl=some Fn.exact_nat_shl:=by kernel_rfl
theorem exact_nat_take:cFunc Proofs.Tryz.prog brs [(0,0,[0,1,2,3]),(1,0,[0,1,2,3,9,10]),(2,0,[0,1,2,3,9,10,13,14,15]),(3,0,[0,1,2,3,9,10,13,14,15,16]),(4,0,[0,1,2,3,9,10,11,12,13,14,15]),(5,0,[0,1,2,3,9,10,11,13,14,15]),(6,0,[0,1,2,3,9,10,13,14,15]),(7,0,[0,1,2,3,9,10,13,14,15]),(8,0,[0,1,2,3,9,10,13,14,15]),(9,0,[10]),(10,0,[8])] Id.exact_nat_take=some Fn.exact_nat_take:=by kernel_rfl
theorem exact_nat_give:cFunc Proofs.Tryz.prog brs [(0,0,[0,1,2,6]),(1,0,[0,1,2,6,9,10,11]),(2,0,[0,1,2,6,9,10,11,12]),(3,0,[0,1,2,6,7,8,9,10,11]),(4,0,[0,1,2,6,9,10,11]),(5,0,[0,1,2,6,9,10,11]),(6,0,[])] Id.exact_nat_give=some Fn.exact_nat_give:=by kernel_rfl
theorem exact_nat_shr:cFunc Proofs.Tryz.prog brs [(0,0,[0,1]),(1,0,[0,1,12]),(2,0,[4]),(3,0,[1,5]),(4,0,[5,6]),(5,0,[5,6,21]),(6,0,[5,6,23,24]),(7,0,[5,6,23,24,25]),(8,0,[5,6,7,23,24]),(9,0,[5,6,7,23,24]),(10,0,[5,6,7,23,24,38]),(11,0,[5,6,23,24]),(12,0,[5,6,23,24]),(13,0,[4])] Id.exact_nat_shr=some Fn.exact_nat_shr:=by kernel_rfl
theorem math_bits_Sub32:cFunc Proofs.Tryz.prog brs [(0,0,[0,1,2]),(1,0,[0,1,6]),(2,0,[6,7])] Id.math_bits_Sub32=some Fn.math_bits_Sub32:=by kernel_rfl
theorem ambleref01_ZGcd:cFunc Proofs.Tryz.prog brs [(0,0,[2,3,4]),(1,0,[4,5,6]),(2,0,[4,5,6,19]),(3,0,[4,5,6,7,8]),(4,0,[4,5,6,7,8,9,10]),(5,0,[4,5,6,7,9,35]),(6,0,[4,7,9,37]),(7,0,[4,7,9]),(8,0,[4]),(9,0,[4,6,12]),(10,0,[4,5,6]),(11,0,[4])] Id.ambleref01_ZGcd=some Fn.ambleref01_ZGcd:=by kernel_rfl
theorem ambleref01_over:cFunc Proofs.Tryz.prog brs [(0,0,[0,1]),(1,0,[0,1,6]),(2,0,[0,1,6,7]),(3,0,[0,1,6,7,8]),(4,0,[0,1,6,7,8,17]),(6,0,[0,1,6,7,8]),(7,0,[0,1,6,7,8,9]),(8,0,[0,1,6,7,8,9,30]),(9,0,[0,1,6,7,8,9]),(10,0,[0,1,6,7,8,9,40]),(11,0,[0,1,6,7,8,9]),(12,0,[0,1,6,7,8,9]),(13,0,[0,1,6,7,8,9,63]),(14,0,[0,1,6,7,8,9]),(15,0,[0,1,6,7,8,9]),(16,0,[0,1,6,7,8]),(5,0,[0,1,6,7,8]),(17,0,[4,5])] Id.ambleref01_over=some Fn.ambleref01_over:=by kernel_rfl
theorem slices_BinarySearchFunc_wear_Curve_exact_Point_exact_Q:cFunc Proofs.Tryz.prog brs [(0,0,[0,2,4]),(1,0,[0,2,4,8]),(2,0,[0,2,4,8,9,10]),(3,0,[0,2,4,8,9,10,17]),(4,0,[0,2,4,8,9,10,11]),(5,0,[0,2,4,8,9,10,11,31]),(6,0,[0,2,4,8,9,10]),(7,0,[0,2,4,8,9,10]),(8,0,[6,7])] Id.slices_BinarySearchFunc_wear_Curve_exact_Point_exact_Q=some Fn.slices_BinarySearchFunc_wear_Curve_exact_Point_exact_Q:=by kernel_rfl
theorem wear_Curve_parts_1:cFunc Proofs.Tryz.prog brs [(0,0,[2,3]),(1,0,[4])] Id.wear_Curve_parts_1=some Fn.wear_Curve_parts_1:=by kernel_rfl
theorem exact_Q_Div:cFunc Proofs.Tryz.prog brs [(0,0,[2,3,4]),(1,0,[2,3,4,8]),(2,0,[4,5]),(3,0,[4,5])] Id.exact_Q_Div=some Fn.exact_Q_Div:=by kernel_rfl
theorem slices_Reverse_byte_byte:cFunc Proofs.Tryz.prog brs [(0,0,[0,2,3]),(1,0,[0,2,3,9]),(3,0,[0,2,3]),(2,0,[0,2,3])] Id.slices_Reverse_byte_byte=some Fn.slices_Reverse_byte_byte:=by kernel_rfl
theorem ambleref01_plus:cFunc Proofs.Tryz.prog brs [(0,0,[0,1]),(1,0,[0,1,5]),(2,0,[0,1,5,6]),(3,0,[0,1,5,6,7]),(4,0,[0,1,5,6,7,21]),(6,0,[0,1,5,6,7,27]),(7,0,[0,1,5,6,7]),(8,0,[0,1,5,6,7,37]),(9,0,[0,1,5,6,7]),(10,0,[0,1,5,6,7]),(11,0,[0,1,5,6,7]),(5,0,[0,1,5,6,7]),(12,0,[4])] Id.ambleref01_plus=some Fn.ambleref01_plus:=by kernel_rfl
theorem ambleref01_minus:cFunc Proofs.Tryz.prog brs [(0,0,[0,1]),(1,0,[0,1,5]),(2,0,[0,1,5,6]),(3,0,[0,1,5,6,7]),(4,0,[0,1,5,6,7,12]),(6,0,[0,1,5,7,8]),(7,0,[0,1,5,7,8,24]),(8,0,[0,1,5,7,8]),(9,0,[0,1,5,6,7,8]),(10,0,[0,1,5,6,7,8,32]),(11,0,[0,1,5,7,8]),(12,0,[0,1,5,6,7,8]),(13,0,[0,1,5,6,7]),(5,0,[0,1,5,6,7]),(14,0,[4])] Id.ambleref01_minus=some Fn.ambleref01_minus:=by kernel_rfl
theorem ambleref01_trim:cFunc Proofs.Tryz.prog brs [(0,0,[0]),(1,0,[0,14]),(2,0,[0]),(3,0,[2])] Id.ambleref01_trim=some Fn.ambleref01_trim:=by kernel_rfl
theorem math_bits_Len32:cFunc Proofs.Tryz.prog brs [(0,0,[0,2]),(1,0,[0,2,4]),(2,0,[0]),(3,0,[0,2]),(4,0,[0,2,8]),(5,0,[0,2]),(6,0,[0,2]),(7,0,[2])] Id.math_bits_Len32=some Fn.math_bits_Len32:=by kernel_rfl
theorem math_bits_Add32:cFunc Proofs.Tryz.prog brs [(0,0,[0,1,2]),(1,0,[8]),(2,0,[6,8]),(3,0,[6,7])] Id.math_bits_Add32=some Fn.math_bits_Add32:=by kernel_rfl
theorem slices_Clone_exact_nat_uint32:cFunc Proofs.Tryz.prog brs [(0,0,[0]),(1,0,[0,4]),(2,0,[2]),(3,0,[2])] Id.slices_Clone_exact_nat_uint32=some Fn.slices_Clone_exact_nat_uint32:=by kernel_rfl
theorem ambleref01_small:cFunc Proofs.Tryz.prog brs [(0,0,[1]),(1,0,[1,9]),(2,0,[2,3]),(3,0,[1,4]),(4,0,[1,4,5]),(5,0,[1,4,5,15]),(7,0,[1,4,5]),(6,0,[1,4,5]),(8,0,[2,3])] Id.ambleref01_small=some Fn.ambleref01_small:=by kernel_rfl
theorem ambleref01_top:cFunc Proofs.Tryz.prog brs [(0,0,[0,1]),(1,0,[0,1,5]),(2,0,[0,1,5,6]),(3,0,[0,1,5,6,12]),(5,0,[0,1,5,6]),(4,0,[0,1,5,6]),(6,0,[4])] Id.ambleref01_top=some Fn.ambleref01_top:=by kernel_rfl
theorem exact_Q_over:cFunc Proofs.Tryz.prog brs [(0,0,[2,3,4]),(1,0,[4])] Id.exact_Q_over=some Fn.exact_Q_over:=by kernel_rfl
end Ck
def E:Env:=fun f=>
 bif Nat.beq f Id.amblelaw11_WearChecks then some Fn.amblelaw11_WearChecks else
 bif Nat.beq f Id.amblelaw11_Leg_Both then some Fn.amblelaw11_Leg_Both else
 bif Nat.beq f Id.amblelaw11_Leg_small then some Fn.amblelaw11_Leg_small else
 bif Nat.beq f Id.wear_Check then some Fn.wear_Check else
 bif Nat.beq f Id.amblelaw11_awake then some Fn.amblelaw11_awake else
 bif Nat.beq f Id.wear_Act then some Fn.wear_Act else
 bif Nat.beq f Id.exact_Q_Sign then some Fn.exact_Q_Sign else
 bif Nat.beq f Id.exact_Q_Mul then some Fn.exact_Q_Mul else
 bif Nat.beq f Id.exact_Q_Add then some Fn.exact_Q_Add else
 bif Nat.beq f Id.exact_Q_Cmp then some Fn.exact_Q_Cmp else
 bif Nat.beq f Id.exact_Q_Neg then some Fn.exact_Q_Neg else
 bif Nat.beq f Id.amblelaw11_spots then some Fn.amblelaw11_spots else
 bif Nat.beq f Id.amblelaw01_Both then some Fn.amblelaw01_Both else
 bif Nat.beq f Id.wear_At then some Fn.wear_At else
 bif Nat.beq f Id.ambleref11_Right then some Fn.ambleref11_Right else
 bif Nat.beq f Id.ambleref11_CurveRight then some Fn.ambleref11_CurveRight else
 bif Nat.beq f Id.amblelaw01_Same then some Fn.amblelaw01_Same else
 bif Nat.beq f Id.ambleref11_At then some Fn.ambleref11_At else
 bif Nat.beq f Id.ambleref01_Cmp then some Fn.ambleref01_Cmp else
 bif Nat.beq f Id.amblelaw01_BothPoints then some Fn.amblelaw01_BothPoints else
 bif Nat.beq f Id.exact_Q_Sub then some Fn.exact_Q_Sub else
 bif Nat.beq f Id.amblelaw11_Range_Both then some Fn.amblelaw11_Range_Both else
 bif Nat.beq f Id.wear_Box_right then some Fn.wear_Box_right else
 bif Nat.beq f Id.wear_Check_1 then some Fn.wear_Check_1 else
 bif Nat.beq f Id.slices_ContainsFunc_wear_Curve_wear_Curve then some Fn.slices_ContainsFunc_wear_Curve_wear_Curve else
 bif Nat.beq f Id.wear_Check_2 then some Fn.wear_Check_2 else
 bif Nat.beq f Id.wear_Curve_right then some Fn.wear_Curve_right else
 bif Nat.beq f Id.slices_ContainsFunc_wear_Limit_wear_Limit then some Fn.slices_ContainsFunc_wear_Limit_wear_Limit else
 bif Nat.beq f Id.amblelaw11_sample then some Fn.amblelaw11_sample else
 bif Nat.beq f Id.amblelaw11_leg then some Fn.amblelaw11_leg else
 bif Nat.beq f Id.exact_Int then some Fn.exact_Int else
 bif Nat.beq f Id.amblelaw11_acted then some Fn.amblelaw11_acted else
 bif Nat.beq f Id.amblelaw11_Beat_Both then some Fn.amblelaw11_Beat_Both else
 bif Nat.beq f Id.wear_may then some Fn.wear_may else
 bif Nat.beq f Id.wear_Device_walk then some Fn.wear_Device_walk else
 bif Nat.beq f Id.exact_whole_sign then some Fn.exact_whole_sign else
 bif Nat.beq f Id.exact_quotient then some Fn.exact_quotient else
 bif Nat.beq f Id.exact_wholeOf then some Fn.exact_wholeOf else
 bif Nat.beq f Id.exact_nat_mul then some Fn.exact_nat_mul else
 bif Nat.beq f Id.exact_Q_den then some Fn.exact_Q_den else
 bif Nat.beq f Id.exact_whole_times then some Fn.exact_whole_times else
 bif Nat.beq f Id.exact_whole_add then some Fn.exact_whole_add else
 bif Nat.beq f Id.exact_whole_cmp then some Fn.exact_whole_cmp else
 bif Nat.beq f Id.exact_Of then some Fn.exact_Of else
 bif Nat.beq f Id.ambleref01_Of then some Fn.ambleref01_Of else
 bif Nat.beq f Id.ambleref01_Mul then some Fn.ambleref01_Mul else
 bif Nat.beq f Id.wear_Curve_at then some Fn.wear_Curve_at else
 bif Nat.beq f Id.ambleref01_Sign then some Fn.ambleref01_Sign else
 bif Nat.beq f Id.ambleref11_BoxRight then some Fn.ambleref11_BoxRight else
 bif Nat.beq f Id.exact_Q_Text then some Fn.exact_Q_Text else
 bif Nat.beq f Id.ambleref01_Text then some Fn.ambleref01_Text else
 bif Nat.beq f Id.ambleref11_Shares then some Fn.ambleref11_Shares else
 bif Nat.beq f Id.ambleref01_Add then some Fn.ambleref01_Add else
 bif Nat.beq f Id.ambleref01_Sub then some Fn.ambleref01_Sub else
 bif Nat.beq f Id.ambleref01_Neg then some Fn.ambleref01_Neg else
 bif Nat.beq f Id.wear_Box_has then some Fn.wear_Box_has else
 bif Nat.beq f Id.ambleref01_ZCmp then some Fn.ambleref01_ZCmp else
 bif Nat.beq f Id.ambleref01_ZMul then some Fn.ambleref01_ZMul else
 bif Nat.beq f Id.ambleref01_Q_den then some Fn.ambleref01_Q_den else
 bif Nat.beq f Id.exact_Max then some Fn.exact_Max else
 bif Nat.beq f Id.exact_Min then some Fn.exact_Min else
 bif Nat.beq f Id.wear_Sample_signals then some Fn.wear_Sample_signals else
 bif Nat.beq f Id.slices_IndexFunc_wear_Curve_wear_Curve then some Fn.slices_IndexFunc_wear_Curve_wear_Curve else
 bif Nat.beq f Id.slices_IndexFunc_wear_Limit_wear_Limit then some Fn.slices_IndexFunc_wear_Limit_wear_Limit else
 bif Nat.beq f Id.exact_of then some Fn.exact_of else
 bif Nat.beq f Id.exact_magnitude then some Fn.exact_magnitude else
 bif Nat.beq f Id.wear_Device_walk_1 then some Fn.wear_Device_walk_1 else
 bif Nat.beq f Id.wear_watcher_see then some Fn.wear_watcher_see else
 bif Nat.beq f Id.wear_clamp then some Fn.wear_clamp else
 bif Nat.beq f Id.exact_nat_gcd then some Fn.exact_nat_gcd else
 bif Nat.beq f Id.exact_nat_div then some Fn.exact_nat_div else
 bif Nat.beq f Id.exact_nat_sub then some Fn.exact_nat_sub else
 bif Nat.beq f Id.exact_natOf then some Fn.exact_natOf else
 bif Nat.beq f Id.exact_nat_norm then some Fn.exact_nat_norm else
 bif Nat.beq f Id.exact_nat_add then some Fn.exact_nat_add else
 bif Nat.beq f Id.exact_nat_cmp then some Fn.exact_nat_cmp else
 bif Nat.beq f Id.ambleref01_QOf then some Fn.ambleref01_QOf else
 bif Nat.beq f Id.ambleref01_ZInt then some Fn.ambleref01_ZInt else
 bif Nat.beq f Id.wear_Curve_parts then some Fn.wear_Curve_parts else
 bif Nat.beq f Id.exact_nat_decimal then some Fn.exact_nat_decimal else
 bif Nat.beq f Id.ambleref01_ZText then some Fn.ambleref01_ZText else
 bif Nat.beq f Id.ambleref01_Int then some Fn.ambleref01_Int else
 bif Nat.beq f Id.ambleref01_Div then some Fn.ambleref01_Div else
 bif Nat.beq f Id.ambleref01_ZAdd then some Fn.ambleref01_ZAdd else
 bif Nat.beq f Id.ambleref01_ZNeg then some Fn.ambleref01_ZNeg else
 bif Nat.beq f Id.wear_among then some Fn.wear_among else
 bif Nat.beq f Id.ambleref01_abs then some Fn.ambleref01_abs else
 bif Nat.beq f Id.ambleref01_signed then some Fn.ambleref01_signed else
 bif Nat.beq f Id.ambleref01_times then some Fn.ambleref01_times else
 bif Nat.beq f Id.exact_pick then some Fn.exact_pick else
 bif Nat.beq f Id.exact_Max_1 then some Fn.exact_Max_1 else
 bif Nat.beq f Id.exact_Min_1 then some Fn.exact_Min_1 else
 bif Nat.beq f Id.exact_nat_small then some Fn.exact_nat_small else
 bif Nat.beq f Id.exact_nat_short then some Fn.exact_nat_short else
 bif Nat.beq f Id.math_bits_LeadingZeros32 then some Fn.math_bits_LeadingZeros32 else
 bif Nat.beq f Id.exact_nat_shl then some Fn.exact_nat_shl else
 bif Nat.beq f Id.exact_nat_take then some Fn.exact_nat_take else
 bif Nat.beq f Id.exact_nat_give then some Fn.exact_nat_give else
 bif Nat.beq f Id.exact_nat_shr then some Fn.exact_nat_shr else
 bif Nat.beq f Id.math_bits_Sub32 then some Fn.math_bits_Sub32 else
 bif Nat.beq f Id.ambleref01_ZGcd then some Fn.ambleref01_ZGcd else
 bif Nat.beq f Id.ambleref01_over then some Fn.ambleref01_over else
 bif Nat.beq f Id.slices_BinarySearchFunc_wear_Curve_exact_Point_exact_Q then some Fn.slices_BinarySearchFunc_wear_Curve_exact_Point_exact_Q else
 bif Nat.beq f Id.wear_Curve_parts_1 then some Fn.wear_Curve_parts_1 else
 bif Nat.beq f Id.exact_Q_Div then some Fn.exact_Q_Div else
 bif Nat.beq f Id.slices_Reverse_byte_byte then some Fn.slices_Reverse_byte_byte else
 bif Nat.beq f Id.ambleref01_plus then some Fn.ambleref01_plus else
 bif Nat.beq f Id.ambleref01_minus then some Fn.ambleref01_minus else
 bif Nat.beq f Id.ambleref01_trim then some Fn.ambleref01_trim else
 bif Nat.beq f Id.math_bits_Len32 then some Fn.math_bits_Len32 else
 bif Nat.beq f Id.math_bits_Add32 then some Fn.math_bits_Add32 else
 bif Nat.beq f Id.slices_Clone_exact_nat_uint32 then some Fn.slices_Clone_exact_nat_uint32 else
 bif Nat.beq f Id.ambleref01_small then some Fn.ambleref01_small else
 bif Nat.beq f Id.ambleref01_top then some Fn.ambleref01_top else
 bif Nat.beq f Id.exact_Q_over then some Fn.exact_Q_over else
 none
theorem E_amblelaw11_WearChecks:E Id.amblelaw11_WearChecks=some Fn.amblelaw11_WearChecks:=rfl
theorem E_amblelaw11_Leg_Both:E Id.amblelaw11_Leg_Both=some Fn.amblelaw11_Leg_Both:=rfl
theorem E_amblelaw11_Leg_small:E Id.amblelaw11_Leg_small=some Fn.amblelaw11_Leg_small:=rfl
theorem E_wear_Check:E Id.wear_Check=some Fn.wear_Check:=rfl
theorem E_amblelaw11_awake:E Id.amblelaw11_awake=some Fn.amblelaw11_awake:=rfl
theorem E_wear_Act:E Id.wear_Act=some Fn.wear_Act:=rfl
theorem E_exact_Q_Sign:E Id.exact_Q_Sign=some Fn.exact_Q_Sign:=rfl
theorem E_exact_Q_Mul:E Id.exact_Q_Mul=some Fn.exact_Q_Mul:=rfl
theorem E_exact_Q_Add:E Id.exact_Q_Add=some Fn.exact_Q_Add:=rfl
theorem E_exact_Q_Cmp:E Id.exact_Q_Cmp=some Fn.exact_Q_Cmp:=rfl
theorem E_exact_Q_Neg:E Id.exact_Q_Neg=some Fn.exact_Q_Neg:=rfl
theorem E_amblelaw11_spots:E Id.amblelaw11_spots=some Fn.amblelaw11_spots:=rfl
theorem E_amblelaw01_Both:E Id.amblelaw01_Both=some Fn.amblelaw01_Both:=rfl
theorem E_wear_At:E Id.wear_At=some Fn.wear_At:=rfl
theorem E_ambleref11_Right:E Id.ambleref11_Right=some Fn.ambleref11_Right:=rfl
theorem E_ambleref11_CurveRight:E Id.ambleref11_CurveRight=some Fn.ambleref11_CurveRight:=rfl
theorem E_amblelaw01_Same:E Id.amblelaw01_Same=some Fn.amblelaw01_Same:=rfl
theorem E_ambleref11_At:E Id.ambleref11_At=some Fn.ambleref11_At:=rfl
theorem E_ambleref01_Cmp:E Id.ambleref01_Cmp=some Fn.ambleref01_Cmp:=rfl
theorem E_amblelaw01_BothPoints:E Id.amblelaw01_BothPoints=some Fn.amblelaw01_BothPoints:=rfl
theorem E_exact_Q_Sub:E Id.exact_Q_Sub=some Fn.exact_Q_Sub:=rfl
theorem E_amblelaw11_Range_Both:E Id.amblelaw11_Range_Both=some Fn.amblelaw11_Range_Both:=rfl
theorem E_wear_Box_right:E Id.wear_Box_right=some Fn.wear_Box_right:=rfl
theorem E_wear_Check_1:E Id.wear_Check_1=some Fn.wear_Check_1:=rfl
theorem E_slices_ContainsFunc_wear_Curve_wear_Curve:E Id.slices_ContainsFunc_wear_Curve_wear_Curve=some Fn.slices_ContainsFunc_wear_Curve_wear_Curve:=rfl
theorem E_wear_Check_2:E Id.wear_Check_2=some Fn.wear_Check_2:=rfl
theorem E_wear_Curve_right:E Id.wear_Curve_right=some Fn.wear_Curve_right:=rfl
theorem E_slices_ContainsFunc_wear_Limit_wear_Limit:E Id.slices_ContainsFunc_wear_Limit_wear_Limit=some Fn.slices_ContainsFunc_wear_Limit_wear_Limit:=rfl
theorem E_amblelaw11_sample:E Id.amblelaw11_sample=some Fn.amblelaw11_sample:=rfl
theorem E_amblelaw11_leg:E Id.amblelaw11_leg=some Fn.amblelaw11_leg:=rfl
theorem E_exact_Int:E Id.exact_Int=some Fn.exact_Int:=rfl
theorem E_amblelaw11_acted:E Id.amblelaw11_acted=some Fn.amblelaw11_acted:=rfl
theorem E_amblelaw11_Beat_Both:E Id.amblelaw11_Beat_Both=some Fn.amblelaw11_Beat_Both:=rfl
theorem E_wear_may:E Id.wear_may=some Fn.wear_may:=rfl
theorem E_wear_Device_walk:E Id.wear_Device_walk=some Fn.wear_Device_walk:=rfl
theorem E_exact_whole_sign:E Id.exact_whole_sign=some Fn.exact_whole_sign:=rfl
theorem E_exact_quotient:E Id.exact_quotient=some Fn.exact_quotient:=rfl
theorem E_exact_wholeOf:E Id.exact_wholeOf=some Fn.exact_wholeOf:=rfl
theorem E_exact_nat_mul:E Id.exact_nat_mul=some Fn.exact_nat_mul:=rfl
theorem E_exact_Q_den:E Id.exact_Q_den=some Fn.exact_Q_den:=rfl
theorem E_exact_whole_times:E Id.exact_whole_times=some Fn.exact_whole_times:=rfl
theorem E_exact_whole_add:E Id.exact_whole_add=some Fn.exact_whole_add:=rfl
theorem E_exact_whole_cmp:E Id.exact_whole_cmp=some Fn.exact_whole_cmp:=rfl
theorem E_exact_Of:E Id.exact_Of=some Fn.exact_Of:=rfl
theorem E_ambleref01_Of:E Id.ambleref01_Of=some Fn.ambleref01_Of:=rfl
theorem E_ambleref01_Mul:E Id.ambleref01_Mul=some Fn.ambleref01_Mul:=rfl
theorem E_wear_Curve_at:E Id.wear_Curve_at=some Fn.wear_Curve_at:=rfl
theorem E_ambleref01_Sign:E Id.ambleref01_Sign=some Fn.ambleref01_Sign:=rfl
theorem E_ambleref11_BoxRight:E Id.ambleref11_BoxRight=some Fn.ambleref11_BoxRight:=rfl
theorem E_exact_Q_Text:E Id.exact_Q_Text=some Fn.exact_Q_Text:=rfl
theorem E_ambleref01_Text:E Id.ambleref01_Text=some Fn.ambleref01_Text:=rfl
theorem E_ambleref11_Shares:E Id.ambleref11_Shares=some Fn.ambleref11_Shares:=rfl
theorem E_ambleref01_Add:E Id.ambleref01_Add=some Fn.ambleref01_Add:=rfl
theorem E_ambleref01_Sub:E Id.ambleref01_Sub=some Fn.ambleref01_Sub:=rfl
theorem E_ambleref01_Neg:E Id.ambleref01_Neg=some Fn.ambleref01_Neg:=rfl
theorem E_wear_Box_has:E Id.wear_Box_has=some Fn.wear_Box_has:=rfl
theorem E_ambleref01_ZCmp:E Id.ambleref01_ZCmp=some Fn.ambleref01_ZCmp:=rfl
theorem E_ambleref01_ZMul:E Id.ambleref01_ZMul=some Fn.ambleref01_ZMul:=rfl
theorem E_ambleref01_Q_den:E Id.ambleref01_Q_den=some Fn.ambleref01_Q_den:=rfl
theorem E_exact_Max:E Id.exact_Max=some Fn.exact_Max:=rfl
theorem E_exact_Min:E Id.exact_Min=some Fn.exact_Min:=rfl
theorem E_wear_Sample_signals:E Id.wear_Sample_signals=some Fn.wear_Sample_signals:=rfl
theorem E_slices_IndexFunc_wear_Curve_wear_Curve:E Id.slices_IndexFunc_wear_Curve_wear_Curve=some Fn.slices_IndexFunc_wear_Curve_wear_Curve:=rfl
theorem E_slices_IndexFunc_wear_Limit_wear_Limit:E Id.slices_IndexFunc_wear_Limit_wear_Limit=some Fn.slices_IndexFunc_wear_Limit_wear_Limit:=rfl
theorem E_exact_of:E Id.exact_of=some Fn.exact_of:=rfl
theorem E_exact_magnitude:E Id.exact_magnitude=some Fn.exact_magnitude:=rfl
theorem E_wear_Device_walk_1:E Id.wear_Device_walk_1=some Fn.wear_Device_walk_1:=rfl
theorem E_wear_watcher_see:E Id.wear_watcher_see=some Fn.wear_watcher_see:=rfl
theorem E_wear_clamp:E Id.wear_clamp=some Fn.wear_clamp:=rfl
theorem E_exact_nat_gcd:E Id.exact_nat_gcd=some Fn.exact_nat_gcd:=rfl
theorem E_exact_nat_div:E Id.exact_nat_div=some Fn.exact_nat_div:=rfl
theorem E_exact_nat_sub:E Id.exact_nat_sub=some Fn.exact_nat_sub:=rfl
theorem E_exact_natOf:E Id.exact_natOf=some Fn.exact_natOf:=rfl
theorem E_exact_nat_norm:E Id.exact_nat_norm=some Fn.exact_nat_norm:=rfl
theorem E_exact_nat_add:E Id.exact_nat_add=some Fn.exact_nat_add:=rfl
theorem E_exact_nat_cmp:E Id.exact_nat_cmp=some Fn.exact_nat_cmp:=rfl
theorem E_ambleref01_QOf:E Id.ambleref01_QOf=some Fn.ambleref01_QOf:=rfl
theorem E_ambleref01_ZInt:E Id.ambleref01_ZInt=some Fn.ambleref01_ZInt:=rfl
theorem E_wear_Curve_parts:E Id.wear_Curve_parts=some Fn.wear_Curve_parts:=rfl
theorem E_exact_nat_decimal:E Id.exact_nat_decimal=some Fn.exact_nat_decimal:=rfl
theorem E_ambleref01_ZText:E Id.ambleref01_ZText=some Fn.ambleref01_ZText:=rfl
theorem E_ambleref01_Int:E Id.ambleref01_Int=some Fn.ambleref01_Int:=rfl
theorem E_ambleref01_Div:E Id.ambleref01_Div=some Fn.ambleref01_Div:=rfl
theorem E_ambleref01_ZAdd:E Id.ambleref01_ZAdd=some Fn.ambleref01_ZAdd:=rfl
theorem E_ambleref01_ZNeg:E Id.ambleref01_ZNeg=some Fn.ambleref01_ZNeg:=rfl
theorem E_wear_among:E Id.wear_among=some Fn.wear_among:=rfl
theorem E_ambleref01_abs:E Id.ambleref01_abs=some Fn.ambleref01_abs:=rfl
theorem E_ambleref01_signed:E Id.ambleref01_signed=some Fn.ambleref01_signed:=rfl
theorem E_ambleref01_times:E Id.ambleref01_times=some Fn.ambleref01_times:=rfl
theorem E_exact_pick:E Id.exact_pick=some Fn.exact_pick:=rfl
theorem E_exact_Max_1:E Id.exact_Max_1=some Fn.exact_Max_1:=rfl
theorem E_exact_Min_1:E Id.exact_Min_1=some Fn.exact_Min_1:=rfl
theorem E_exact_nat_small:E Id.exact_nat_small=some Fn.exact_nat_small:=rfl
theorem E_exact_nat_short:E Id.exact_nat_short=some Fn.exact_nat_short:=rfl
theorem E_math_bits_LeadingZeros32:E Id.math_bits_LeadingZeros32=some Fn.math_bits_LeadingZeros32:=rfl
theorem E_exact_nat_shl:E Id.exact_nat_shl=some Fn.exact_nat_shl:=rfl
theorem E_exact_nat_take:E Id.exact_nat_take=some Fn.exact_nat_take:=rfl
theorem E_exact_nat_give:E Id.exact_nat_give=some Fn.exact_nat_give:=rfl
theorem E_exact_nat_shr:E Id.exact_nat_shr=some Fn.exact_nat_shr:=rfl
theorem E_math_bits_Sub32:E Id.math_bits_Sub32=some Fn.math_bits_Sub32:=rfl
theorem E_ambleref01_ZGcd:E Id.ambleref01_ZGcd=some Fn.ambleref01_ZGcd:=rfl
theorem E_ambleref01_over:E Id.ambleref01_over=some Fn.ambleref01_over:=rfl
theorem E_slices_BinarySearchFunc_wear_Curve_exact_Point_exact_Q:E Id.slices_BinarySearchFunc_wear_Curve_exact_Point_exact_Q=some Fn.slices_BinarySearchFunc_wear_Curve_exact_Point_exact_Q:=rfl
theorem E_wear_Curve_parts_1:E Id.wear_Curve_parts_1=some Fn.wear_Curve_parts_1:=rfl
theorem E_exact_Q_Div:E Id.exact_Q_Div=some Fn.exact_Q_Div:=rfl
theorem E_slices_Reverse_byte_byte:E Id.slices_Reverse_byte_byte=some Fn.slices_Reverse_byte_byte:=rfl
theorem E_ambleref01_plus:E Id.ambleref01_plus=some Fn.ambleref01_plus:=rfl
theorem E_ambleref01_minus:E Id.ambleref01_minus=some Fn.ambleref01_minus:=rfl
theorem E_ambleref01_trim:E Id.ambleref01_trim=some Fn.ambleref01_trim:=rfl
theorem E_math_bits_Len32:E Id.math_bits_Len32=some Fn.math_bits_Len32:=rfl
theorem E_math_bits_Add32:E Id.math_bits_Add32=some Fn.math_bits_Add32:=rfl
theorem E_slices_Clone_exact_nat_uint32:E Id.slices_Clone_exact_nat_uint32=some Fn.slices_Clone_exact_nat_uint32:=rfl
theorem E_ambleref01_small:E Id.ambleref01_small=some Fn.ambleref01_small:=rfl
theorem E_ambleref01_top:E Id.ambleref01_top=some Fn.ambleref01_top:=rfl
theorem E_exact_Q_over:E Id.exact_Q_over=some Fn.exact_Q_over:=rfl
theorem ok_step {P:Program} {f k:Nat} {a fn:AFn} {r:Option AFn} (hk:∃br hs,cFunc P br hs k=some a) (hr:r=some fn→∃br hs,cFunc P br hs f=some fn):(bif Nat.beq f k then some a else r)=some fn→∃br hs,cFunc P br hs f=some fn:=by
 intro h
 cases hb:Nat.beq f k with
 | true=>rw [hb] at h;cases h;rw [Nat.eq_of_beq_eq_true hb];exact hk
 | false=>rw [hb] at h;exact hr h
theorem E_ok:EnvOk Proofs.Tryz.prog E:=by
 intro f fn
 unfold E
 refine ok_step ⟨_,_,Ck.amblelaw11_WearChecks⟩ ?_
 refine ok_step ⟨_,_,Ck.amblelaw11_Leg_Both⟩ ?_
 refine ok_step ⟨_,_,Ck.amblelaw11_Leg_small⟩ ?_
 refine ok_step ⟨_,_,Ck.wear_Check⟩ ?_
 refine ok_step ⟨_,_,Ck.amblelaw11_awake⟩ ?_
 refine ok_step ⟨_,_,Ck.wear_Act⟩ ?_
 refine ok_step ⟨_,_,Ck.exact_Q_Sign⟩ ?_
 refine ok_step ⟨_,_,Ck.exact_Q_Mul⟩ ?_
 refine ok_step ⟨_,_,Ck.exact_Q_Add⟩ ?_
 refine ok_step ⟨_,_,Ck.exact_Q_Cmp⟩ ?_
 refine ok_step ⟨_,_,Ck.exact_Q_Neg⟩ ?_
 refine ok_step ⟨_,_,Ck.amblelaw11_spots⟩ ?_
 refine ok_step ⟨_,_,Ck.amblelaw01_Both⟩ ?_
 refine ok_step ⟨_,_,Ck.wear_At⟩ ?_
 refine ok_step ⟨_,_,Ck.ambleref11_Right⟩ ?_
 refine ok_step ⟨_,_,Ck.ambleref11_CurveRight⟩ ?_
 refine ok_step ⟨_,_,Ck.amblelaw01_Same⟩ ?_
 refine ok_step ⟨_,_,Ck.ambleref11_At⟩ ?_
 refine ok_step ⟨_,_,Ck.ambleref01_Cmp⟩ ?_
 refine ok_step ⟨_,_,Ck.amblelaw01_BothPoints⟩ ?_
 refine ok_step ⟨_,_,Ck.exact_Q_Sub⟩ ?_
 refine ok_step ⟨_,_,Ck.amblelaw11_Range_Both⟩ ?_
 refine ok_step ⟨_,_,Ck.wear_Box_right⟩ ?_
 refine ok_step ⟨_,_,Ck.wear_Check_1⟩ ?_
 refine ok_step ⟨_,_,Ck.slices_ContainsFunc_wear_Curve_wear_Curve⟩ ?_
 refine ok_step ⟨_,_,Ck.wear_Check_2⟩ ?_
 refine ok_step ⟨_,_,Ck.wear_Curve_right⟩ ?_
 refine ok_step ⟨_,_,Ck.slices_ContainsFunc_wear_Limit_wear_Limit⟩ ?_
 refine ok_step ⟨_,_,Ck.amblelaw11_sample⟩ ?_
 refine ok_step ⟨_,_,Ck.amblelaw11_leg⟩ ?_
 refine ok_step ⟨_,_,Ck.exact_Int⟩ ?_
 refine ok_step ⟨_,_,Ck.amblelaw11_acted⟩ ?_
 refine ok_step ⟨_,_,Ck.amblelaw11_Beat_Both⟩ ?_
 refine ok_step ⟨_,_,Ck.wear_may⟩ ?_
 refine ok_step ⟨_,_,Ck.wear_Device_walk⟩ ?_
 refine ok_step ⟨_,_,Ck.exact_whole_sign⟩ ?_
 refine ok_step ⟨_,_,Ck.exact_quotient⟩ ?_
 refine ok_step ⟨_,_,Ck.exact_wholeOf⟩ ?_
 refine ok_step ⟨_,_,Ck.exact_nat_mul⟩ ?_
 refine ok_step ⟨_,_,Ck.exact_Q_den⟩ ?_
 refine ok_step ⟨_,_,Ck.exact_whole_times⟩ ?_
 refine ok_step ⟨_,_,Ck.exact_whole_add⟩ ?_
 refine ok_step ⟨_,_,Ck.exact_whole_cmp⟩ ?_
 refine ok_step ⟨_,_,Ck.exact_Of⟩ ?_
 refine ok_step ⟨_,_,Ck.ambleref01_Of⟩ ?_
 refine ok_step ⟨_,_,Ck.ambleref01_Mul⟩ ?_
 refine ok_step ⟨_,_,Ck.wear_Curve_at⟩ ?_
 refine ok_step ⟨_,_,Ck.ambleref01_Sign⟩ ?_
 refine ok_step ⟨_,_,Ck.ambleref11_BoxRight⟩ ?_
 refine ok_step ⟨_,_,Ck.exact_Q_Text⟩ ?_
 refine ok_step ⟨_,_,Ck.ambleref01_Text⟩ ?_
 refine ok_step ⟨_,_,Ck.ambleref11_Shares⟩ ?_
 refine ok_step ⟨_,_,Ck.ambleref01_Add⟩ ?_
 refine ok_step ⟨_,_,Ck.ambleref01_Sub⟩ ?_
 refine ok_step ⟨_,_,Ck.ambleref01_Neg⟩ ?_
 refine ok_step ⟨_,_,Ck.wear_Box_has⟩ ?_
 refine ok_step ⟨_,_,Ck.ambleref01_ZCmp⟩ ?_
 refine ok_step ⟨_,_,Ck.ambleref01_ZMul⟩ ?_
 refine ok_step ⟨_,_,Ck.ambleref01_Q_den⟩ ?_
 refine ok_step ⟨_,_,Ck.exact_Max⟩ ?_
 refine ok_step ⟨_,_,Ck.exact_Min⟩ ?_
 refine ok_step ⟨_,_,Ck.wear_Sample_signals⟩ ?_
 refine ok_step ⟨_,_,Ck.slices_IndexFunc_wear_Curve_wear_Curve⟩ ?_
 refine ok_step ⟨_,_,Ck.slices_IndexFunc_wear_Limit_wear_Limit⟩ ?_
 refine ok_step ⟨_,_,Ck.exact_of⟩ ?_
 refine ok_step ⟨_,_,Ck.exact_magnitude⟩ ?_
 refine ok_step ⟨_,_,Ck.wear_Device_walk_1⟩ ?_
 refine ok_step ⟨_,_,Ck.wear_watcher_see⟩ ?_
 refine ok_step ⟨_,_,Ck.wear_clamp⟩ ?_
 refine ok_step ⟨_,_,Ck.exact_nat_gcd⟩ ?_
 refine ok_step ⟨_,_,Ck.exact_nat_div⟩ ?_
 refine ok_step ⟨_,_,Ck.exact_nat_sub⟩ ?_
 refine ok_step ⟨_,_,Ck.exact_natOf⟩ ?_
 refine ok_step ⟨_,_,Ck.exact_nat_norm⟩ ?_
 refine ok_step ⟨_,_,Ck.exact_nat_add⟩ ?_
 refine ok_step ⟨_,_,Ck.exact_nat_cmp⟩ ?_
 refine ok_step ⟨_,_,Ck.ambleref01_QOf⟩ ?_
 refine ok_step ⟨_,_,Ck.ambleref01_ZInt⟩ ?_
 refine ok_step ⟨_,_,Ck.wear_Curve_parts⟩ ?_
 refine ok_step ⟨_,_,Ck.exact_nat_decimal⟩ ?_
 refine ok_step ⟨_,_,Ck.ambleref01_ZText⟩ ?_
 refine ok_step ⟨_,_,Ck.ambleref01_Int⟩ ?_
 refine ok_step ⟨_,_,Ck.ambleref01_Div⟩ ?_
 refine ok_step ⟨_,_,Ck.ambleref01_ZAdd⟩ ?_
 refine ok_step ⟨_,_,Ck.ambleref01_ZNeg⟩ ?_
 refine ok_step ⟨_,_,Ck.wear_among⟩ ?_
 refine ok_step ⟨_,_,Ck.ambleref01_abs⟩ ?_
 refine ok_step ⟨_,_,Ck.ambleref01_signed⟩ ?_
 refine ok_step ⟨_,_,Ck.ambleref01_times⟩ ?_
 refine ok_step ⟨_,_,Ck.exact_pick⟩ ?_
 refine ok_step ⟨_,_,Ck.exact_Max_1⟩ ?_
 refine ok_step ⟨_,_,Ck.exact_Min_1⟩ ?_
 refine ok_step ⟨_,_,Ck.exact_nat_small⟩ ?_
 refine ok_step ⟨_,_,Ck.exact_nat_short⟩ ?_
 refine ok_step ⟨_,_,Ck.math_bits_LeadingZeros32⟩ ?_
 refine ok_step ⟨_,_,Ck.exact_nat_shl⟩ ?_
 refine ok_step ⟨_,_,Ck.exact_nat_take⟩ ?_
 refine ok_step ⟨_,_,Ck.exact_nat_give⟩ ?_
 refine ok_step ⟨_,_,Ck.exact_nat_shr⟩ ?_
 refine ok_step ⟨_,_,Ck.math_bits_Sub32⟩ ?_
 refine ok_step ⟨_,_,Ck.ambleref01_ZGcd⟩ ?_
 refine ok_step ⟨_,_,Ck.ambleref01_over⟩ ?_
 refine ok_step ⟨_,_,Ck.slices_BinarySearchFunc_wear_Curve_exact_Point_exact_Q⟩ ?_
 refine ok_step ⟨_,_,Ck.wear_Curve_parts_1⟩ ?_
 refine ok_step ⟨_,_,Ck.exact_Q_Div⟩ ?_
 refine ok_step ⟨_,_,Ck.slices_Reverse_byte_byte⟩ ?_
 refine ok_step ⟨_,_,Ck.ambleref01_plus⟩ ?_
 refine ok_step ⟨_,_,Ck.ambleref01_minus⟩ ?_
 refine ok_step ⟨_,_,Ck.ambleref01_trim⟩ ?_
 refine ok_step ⟨_,_,Ck.math_bits_Len32⟩ ?_
 refine ok_step ⟨_,_,Ck.math_bits_Add32⟩ ?_
 refine ok_step ⟨_,_,Ck.slices_Clone_exact_nat_uint32⟩ ?_
 refine ok_step ⟨_,_,Ck.ambleref01_small⟩ ?_
 refine ok_step ⟨_,_,Ck.ambleref01_top⟩ ?_
 refine ok_step ⟨_,_,Ck.exact_Q_over⟩ ?_
 intro h
 cases h
theorem mixed:Proofs.Tryz.prog.follows .mixedOrders=true:=by kernel_rfl
end Go.Ev
