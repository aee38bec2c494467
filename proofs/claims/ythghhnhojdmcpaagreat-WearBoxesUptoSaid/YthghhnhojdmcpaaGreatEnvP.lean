import Derived.Test.YthghhnhojdmcpaaGreatFnP
import Derived.Test.YthghhnhojdmcpaaGreatChecked
import Derived.KernelRfl
namespace Go.Ev
def brs (f:FuncId):Bool:=memN f [63,75,86,119,128,165,166,174,196]
def yip (f:FuncId):Bool:=memN f [63,75,86,119,128,165,166,174,196,14]
def y8g (f:FuncId):Bool:=memN f [63,75,86,119,128,165,166,174,196,35]
namespace Ck
theorem y0l:cFunc Proofs.Tryz.prog y8g [(0,0,[0,1]),(1,0,[0,1,24]),(2,0,[4]),(3,0,[1,5,6]),(4,0,[1,5,6,32]),(5,0,[1,5,6,38]),(6,0,[1,5,6]),(7,0,[5,6,7,8,9,10]),(8,0,[5,6,7,8,9,10,11]),(9,0,[5,6,7,8,9,10,11,12]),(10,0,[5,6,7,8,9,10,11,12,53]),(12,0,[5,6,7,8,9,10,11,12,61]),(13,0,[5,6,7,8,9,10,11,12]),(11,0,[5,6,7,8,9,10,11,12]),(14,0,[6,7,8,9,10,11,68]),(15,0,[6,7,8,9,10,11]),(16,0,[6,7,8,9,10,11,70]),(17,0,[4]),(18,0,[6,7,8,9,99]),(19,0,[4]),(20,0,[6,7,8,9,13]),(21,0,[6,7,8,9,13,14]),(22,0,[6,7,8,9,13,14,101]),(24,0,[6,7,8,9,13,14,15]),(25,0,[6,7,8,9,13,14,15,16]),(26,0,[6,7,8,9,13,14,15,16,107]),(28,0,[6,7,8,9,13,14,15,16,117]),(29,0,[6,7,8,9,13,14,15,16,17]),(30,0,[6,7,8,9,13,14,15,16,17,119]),(32,0,[6,7,8,9,13,14,15,16,17,18]),(33,0,[6,7,8,9,13,14,15,16,17,18,141]),(34,0,[6,7,8,9,13,14,15,16,17,18]),(35,0,[6,7,8,9,13,14,15,16,17,18,160]),(36,0,[6,7,8,9,13,14,15,16,17]),(31,0,[6,7,8,9,13,14,15,16,17]),(37,0,[6,7,8,9,13,14,15,16]),(27,0,[6,7,8,9,13,14,15,16]),(38,0,[6,7,8,9,13,14,198]),(39,0,[4]),(23,0,[6,7,8,9,13,14]),(40,0,[6,8,9,13,19]),(41,0,[6,8,9,13,19,20]),(42,0,[6,8,9,13,19,20,202]),(44,0,[6,8,9,13,19,20,21]),(45,0,[6,8,9,13,19,20,21,206]),(47,0,[6,8,9,13,19,20,21,233]),(48,0,[6,8,9,13,19,20,21,247]),(49,0,[4]),(50,0,[6,8,9,13,19,20,21]),(46,0,[6,8,9,13,19,20,21]),(43,0,[6,8,9,13,19,20]),(51,0,[4])] Id.y0l=some Fn.y0l:=by kernel_rfl
theorem y4p:cFunc Proofs.Tryz.prog brs [(0,0,[1]),(1,0,[1,27]),(2,0,[2]),(3,0,[1,29,30,31]),(4,0,[1,29,30,31,32]),(5,0,[1,4,29,30,31]),(6,0,[1,29,30,31,65]),(7,0,[2]),(8,0,[1,29,30,31]),(9,0,[1,5]),(10,0,[75]),(11,0,[2]),(12,0,[2])] Id.y4p=some Fn.y4p:=by kernel_rfl
theorem y1e:cFunc Proofs.Tryz.prog brs [(0,0,[]),(1,0,[1]),(2,0,[2,3]),(3,0,[2,3,4,5]),(4,0,[0])] Id.y1e=some Fn.y1e:=by kernel_rfl
theorem y5p:cFunc Proofs.Tryz.prog brs [(0,0,[1,2]),(1,0,[1,2,6]),(2,0,[1,2,6,14]),(3,0,[4,5]),(4,0,[1,2,7]),(5,0,[7,18]),(6,0,[7,9]),(7,0,[]),(8,0,[4,5])] Id.y5p=some Fn.y5p:=by kernel_rfl
theorem y2u:cFunc Proofs.Tryz.prog brs [(0,0,[1]),(1,0,[2])] Id.y2u=some Fn.y2u:=by kernel_rfl
theorem y36:cFunc Proofs.Tryz.prog brs [(0,0,[2,3,4]),(1,0,[4])] Id.y36=some Fn.y36:=by kernel_rfl
theorem y3w:cFunc Proofs.Tryz.prog brs [(0,0,[2,3,4]),(1,0,[2,3,4,5,6]),(2,0,[4])] Id.y3w=some Fn.y3w:=by kernel_rfl
theorem y1b:cFunc Proofs.Tryz.prog brs [(0,0,[2,3]),(1,0,[4])] Id.y1b=some Fn.y1b:=by kernel_rfl
theorem y42:cFunc Proofs.Tryz.prog brs [(0,0,[1,2]),(1,0,[2])] Id.y42=some Fn.y42:=by kernel_rfl
theorem y0j:cFunc Proofs.Tryz.prog brs [(0,0,[1,2,3]),(1,0,[1,2,3,12]),(2,0,[1,2,3]),(3,0,[1,2,3,4]),(4,0,[1,2,3,4,6]),(5,4,[1,2,3,4,6,7,8]),(6,0,[1,2,3,4,6,7,8,9]),(7,0,[1,2,3,4,6,7,8,9,33]),(9,0,[1,2,3,4,6,7,8,9]),(10,0,[1,2,3,4,6,7,8,9]),(8,0,[1,2,3,4,6,7,8,9]),(11,4,[2,3])] Id.y0j=some Fn.y0j:=by kernel_rfl
theorem y69:cFunc Proofs.Tryz.prog brs [(0,0,[0,3,4]),(1,0,[0,3,4,8]),(2,0,[4,5]),(3,0,[4,5])] Id.y69=some Fn.y69:=by kernel_rfl
theorem y1p:cFunc Proofs.Tryz.prog brs [(0,0,[2,3]),(1,0,[4])] Id.y1p=some Fn.y1p:=by kernel_rfl
theorem y21:cFunc Proofs.Tryz.prog brs [(0,0,[0]),(1,0,[0,4]),(2,0,[0,4,5]),(3,0,[0,4,5,6]),(4,0,[0,4,5,6,14]),(6,0,[0,4,5,6,7,8]),(7,0,[0,4,5,6,7,8,9,10]),(8,4,[0,4,5,6]),(5,0,[0,4,5,6]),(9,0,[2,3])] Id.y21=some Fn.y21:=by kernel_rfl
theorem y3l:cFunc Proofs.Tryz.prog brs [(0,0,[0,4]),(1,0,[0,4,12]),(2,0,[2,3,4,5]),(3,0,[0,4,15]),(4,0,[2,3,4,5]),(5,0,[0,2,3,4]),(6,0,[0,2,3,4,21,22,23]),(7,0,[0,2,3,4,21,22,23,24]),(8,0,[0,2,3,4,7,21,22,23]),(9,0,[0,2,3,4,7,21,22,23,32]),(10,0,[0,2,3,4,7,21,22,23]),(11,3,[0,2,3,4,21,22,23]),(12,0,[0,2,3,4,21,22,23]),(13,0,[2,3,4,59,60,61]),(14,0,[2,3,4,59,60,61,62]),(15,0,[2,3,4,8,9,59,60,61]),(16,0,[2,3,4,8,9,59,60,61,66,67,68]),(17,0,[2,3,4,8,9,59,60,61,66,67,68,69]),(18,0,[2,3,4,8,9,10,11,59,60,61,66,67,68]),(19,0,[2,3,4,8,9,10,59,60,61,66,67,68,89]),(20,0,[2,3,4,8,9,59,60,61,66,67,68]),(21,0,[2,3,4,8,9,59,60,61,66,67,68]),(22,0,[2,3,4,59,60,61]),(23,0,[2,3,4,5])] Id.y3l=some Fn.y3l:=by kernel_rfl
theorem y15:cFunc Proofs.Tryz.prog brs [(0,0,[2,3]),(1,0,[4])] Id.y15=some Fn.y15:=by kernel_rfl
theorem y0s:cFunc Proofs.Tryz.prog brs [(0,0,[2,3]),(1,0,[4])] Id.y0s=some Fn.y0s:=by kernel_rfl
theorem y2b:cFunc Proofs.Tryz.prog brs [(0,0,[2,3]),(1,0,[2,3,5]),(2,0,[2,3,5,7]),(4,0,[2,3,5,29]),(5,0,[4]),(3,0,[2,3,5]),(6,0,[4])] Id.y2b=some Fn.y2b:=by kernel_rfl
theorem y3i:cFunc Proofs.Tryz.prog brs [(0,0,[2,3,4]),(1,0,[4])] Id.y3i=some Fn.y3i:=by kernel_rfl
theorem y3h:cFunc Proofs.Tryz.prog brs [(0,0,[1]),(1,0,[3,4]),(2,0,[3,4,12]),(3,0,[3,4,12,13]),(4,0,[3,4,5,12]),(5,0,[3,4,12,22]),(6,0,[2]),(7,0,[3,4,12]),(8,0,[2])] Id.y3h=some Fn.y3h:=by kernel_rfl
theorem y43:cFunc Proofs.Tryz.prog brs [(0,0,[1]),(1,0,[2])] Id.y43=some Fn.y43:=by kernel_rfl
theorem y0c:cFunc Proofs.Tryz.prog brs [(0,0,[0,1]),(1,0,[4])] Id.y0c=some Fn.y0c:=by kernel_rfl
theorem y41:cFunc Proofs.Tryz.prog brs [(0,0,[0]),(1,0,[2])] Id.y41=some Fn.y41:=by kernel_rfl
theorem y2p:cFunc Proofs.Tryz.prog brs [(0,0,[0]),(1,0,[0,3]),(2,0,[0,3,7]),(4,0,[0,3,22]),(5,0,[2]),(3,0,[0,3]),(6,0,[2])] Id.y2p=some Fn.y2p:=by kernel_rfl
theorem y0b:cFunc Proofs.Tryz.prog brs [(0,0,[0,1]),(1,0,[4])] Id.y0b=some Fn.y0b:=by kernel_rfl
theorem y0h:cFunc Proofs.Tryz.prog brs [(0,0,[0,1,2,6]),(1,0,[6])] Id.y0h=some Fn.y0h:=by kernel_rfl
theorem y3e:cFunc Proofs.Tryz.prog brs [(0,0,[0]),(1,0,[0,1]),(2,0,[0,3]),(3,0,[0,3,4]),(4,0,[0,3,4,25]),(6,0,[0,3,4]),(7,0,[0,3,4]),(5,0,[0,3,4]),(8,0,[0])] Id.y3e=some Fn.y3e:=by kernel_rfl
theorem y2d:cFunc Proofs.Tryz.prog brs [(0,0,[0,2]),(1,0,[2])] Id.y2d=some Fn.y2d:=by kernel_rfl
theorem y2y:cFunc Proofs.Tryz.prog brs [(0,0,[0,1,2]),(1,0,[0,1,2,12]),(2,0,[6]),(3,0,[0,1,2,7]),(4,0,[0,1,2,7,16]),(6,0,[0,1,2,7,42]),(7,0,[6]),(5,0,[0,1,2,7]),(8,0,[6])] Id.y2y=some Fn.y2y:=by kernel_rfl
theorem y0r:cFunc Proofs.Tryz.prog brs [(0,0,[1,2,3]),(1,0,[1,2,3,4,5]),(2,0,[1,2,3,4,5,6,7]),(3,0,[2,3,4,5,6,7,8,9]),(4,4,[2,3])] Id.y0r=some Fn.y0r:=by kernel_rfl
theorem y5n:cFunc Proofs.Tryz.prog brs [(0,0,[1,2]),(1,0,[1,5]),(2,0,[1,5,9]),(3,0,[4]),(4,0,[13]),(5,0,[4]),(6,0,[4])] Id.y5n=some Fn.y5n:=by kernel_rfl
theorem y30:cFunc Proofs.Tryz.prog brs [(0,0,[2,3]),(1,0,[4])] Id.y30=some Fn.y30:=by kernel_rfl
theorem y2z:cFunc Proofs.Tryz.prog brs [(0,0,[1]),(1,0,[1,3]),(2,0,[2]),(3,0,[6]),(4,0,[2]),(5,0,[2])] Id.y2z=some Fn.y2z:=by kernel_rfl
theorem y1a:cFunc Proofs.Tryz.prog brs [(0,0,[1,2,4]),(1,0,[1,2,4,5]),(2,0,[1,2,4,5,18]),(3,0,[1,2,4,5]),(4,0,[1,2,4]),(5,0,[4])] Id.y1a=some Fn.y1a:=by kernel_rfl
theorem y0o:cFunc Proofs.Tryz.prog brs [(0,0,[0,1,4]),(1,0,[4])] Id.y0o=some Fn.y0o:=by kernel_rfl
theorem y1k:cFunc Proofs.Tryz.prog brs [(0,0,[0,1]),(1,0,[0,1,5]),(2,0,[1,5,17,18,19]),(3,0,[1,5,17,18,19,20]),(4,0,[1,5,6,7,17,18,19]),(5,0,[1,5,6,7,8,17,18,19]),(6,0,[1,5,6,7,8,17,18,19,24,25,26]),(7,0,[1,5,6,7,8,17,18,19,24,25,26,27]),(8,0,[1,5,6,7,8,9,10,17,18,19,24,25,26]),(9,0,[1,5,6,7,8,9,17,18,19,24,25,26]),(10,0,[1,5,6,7,8,17,18,19,24,25,26]),(11,0,[1,5,6,7,8,17,18,19,24,25,26]),(12,0,[1,5,6,7,8,17,18,19,24,25,26]),(13,0,[1,5,17,18,19]),(14,0,[1,5,17,18,19]),(15,0,[4])] Id.y1k=some Fn.y1k:=by kernel_rfl
theorem y1n:cFunc Proofs.Tryz.prog brs [(0,0,[1]),(1,0,[2])] Id.y1n=some Fn.y1n:=by kernel_rfl
theorem y0z:cFunc Proofs.Tryz.prog brs [(0,0,[1,2,4]),(1,0,[4])] Id.y0z=some Fn.y0z:=by kernel_rfl
theorem y37:cFunc Proofs.Tryz.prog brs [(0,0,[2,3,4]),(1,0,[2,3,4,5]),(2,0,[4]),(3,0,[2,3,4,19]),(4,0,[4]),(5,0,[4])] Id.y37=some Fn.y37:=by kernel_rfl
theorem y1t:cFunc Proofs.Tryz.prog brs [(0,0,[2,3]),(1,0,[2,3,5]),(2,0,[4]),(3,0,[2,3,15]),(4,0,[4]),(5,0,[2,3,21]),(6,0,[4]),(7,0,[4])] Id.y1t=some Fn.y1t:=by kernel_rfl
theorem y4n:cFunc Proofs.Tryz.prog brs [(0,0,[0,1,4]),(1,0,[0,1,4,7]),(2,0,[4,5]),(3,0,[4,5])] Id.y4n=some Fn.y4n:=by kernel_rfl
theorem y34:cFunc Proofs.Tryz.prog brs [(0,0,[0,1,4]),(1,0,[4])] Id.y34=some Fn.y34:=by kernel_rfl
theorem y2t:cFunc Proofs.Tryz.prog brs [(0,0,[2,3,4]),(1,0,[4])] Id.y2t=some Fn.y2t:=by kernel_rfl
theorem y3c:cFunc Proofs.Tryz.prog brs [(0,0,[0,3,4]),(1,0,[0,3,4,5]),(2,0,[0,4,5,10,11,12]),(3,0,[0,4,5,10,11,12,13]),(4,0,[0,4,5,7,10,11,12]),(5,0,[0,4,5,10,11,12]),(6,0,[0,4,5,10,11,12]),(7,0,[4])] Id.y3c=some Fn.y3c:=by kernel_rfl
theorem y2o:cFunc Proofs.Tryz.prog brs [(0,0,[1]),(1,0,[1,3]),(2,0,[1,3,10]),(3,0,[1,3]),(4,0,[1,3,16]),(5,0,[3]),(6,0,[2])] Id.y2o=some Fn.y2o:=by kernel_rfl
theorem y2a:cFunc Proofs.Tryz.prog brs [(0,0,[1]),(1,0,[1,3]),(2,0,[3,4]),(3,0,[3,4,12]),(4,0,[2]),(5,0,[2])] Id.y2a=some Fn.y2a:=by kernel_rfl
theorem y04:cFunc Proofs.Tryz.prog brs [(0,0,[0,1]),(1,0,[4])] Id.y04=some Fn.y04:=by kernel_rfl
theorem y35:cFunc Proofs.Tryz.prog brs [(0,0,[1]),(1,0,[2])] Id.y35=some Fn.y35:=by kernel_rfl
theorem y1y:cFunc Proofs.Tryz.prog brs [(0,0,[2,3,4]),(1,0,[2,3,4]),(2,0,[2,4]),(3,0,[4])] Id.y1y=some Fn.y1y:=by kernel_rfl
theorem y1v:cFunc Proofs.Tryz.prog brs [(0,0,[2,3]),(1,0,[4])] Id.y1v=some Fn.y1v:=by kernel_rfl
theorem y1q:cFunc Proofs.Tryz.prog brs [(0,0,[2,3]),(1,0,[2,3,9]),(2,0,[11]),(3,0,[4]),(4,0,[4]),(5,0,[2,3,13]),(6,0,[4]),(7,0,[4])] Id.y1q=some Fn.y1q:=by kernel_rfl
theorem y1s:cFunc Proofs.Tryz.prog brs [(0,0,[2,3,4]),(1,0,[4])] Id.y1s=some Fn.y1s:=by kernel_rfl
theorem y0w:cFunc Proofs.Tryz.prog brs [(0,0,[1,2]),(1,0,[1,2,7]),(2,0,[2]),(3,0,[2])] Id.y0w=some Fn.y0w:=by kernel_rfl
theorem y3p:cFunc Proofs.Tryz.prog brs [(0,0,[0,2]),(1,0,[2])] Id.y3p=some Fn.y3p:=by kernel_rfl
theorem y3t:cFunc Proofs.Tryz.prog brs [(0,0,[0,2]),(1,0,[2])] Id.y3t=some Fn.y3t:=by kernel_rfl
theorem y1w:cFunc Proofs.Tryz.prog brs [(0,0,[1,2]),(1,0,[2])] Id.y1w=some Fn.y1w:=by kernel_rfl
theorem y0d:cFunc Proofs.Tryz.prog brs [(0,0,[0,1]),(1,0,[0,1,7,8]),(2,0,[0,1,7,8,9]),(3,0,[0,1,5,7,8]),(4,0,[0,1,5,7,8,16]),(5,0,[4]),(6,0,[0,1,7,8]),(7,0,[4])] Id.y0d=some Fn.y0d:=by kernel_rfl
theorem y0e:cFunc Proofs.Tryz.prog brs [(0,0,[0,1]),(1,0,[0,1,7,8]),(2,0,[0,1,7,8,9]),(3,0,[0,1,5,7,8]),(4,0,[0,1,5,7,8,16]),(5,0,[4]),(6,0,[0,1,7,8]),(7,0,[4])] Id.y0e=some Fn.y0e:=by kernel_rfl
theorem y5o:cFunc Proofs.Tryz.prog brs [(0,0,[1,2]),(1,0,[2])] Id.y5o=some Fn.y5o:=by kernel_rfl
theorem y1h:cFunc Proofs.Tryz.prog brs [(0,0,[0]),(1,0,[0,4]),(2,0,[2]),(3,0,[2])] Id.y1h=some Fn.y1h:=by kernel_rfl
theorem y2f:cFunc Proofs.Tryz.prog brs [(0,0,[0,1,2,4]),(1,0,[0,1,2,4,5]),(2,0,[0,1,4,5,13,14,15]),(3,0,[0,1,4,5,13,14,15,16]),(4,0,[0,1,4,5,7,13,14,15]),(5,0,[0,1,4,5,7,13,14,15]),(6,0,[0,1,4,5,7,8,13,14,15]),(7,0,[0,1,4,5,7,8,13,14,15]),(8,0,[0,1,4,5,7,13,14,15]),(9,0,[0,1,4,5,7,13,14,15,69]),(10,0,[0,1,4,5,7,13,14,15]),(11,0,[0,1,4,5,13,14,15,80]),(12,0,[0,1,4,5,13,14,15])] Id.y2f=some Fn.y2f:=by kernel_rfl
theorem y2w:cFunc Proofs.Tryz.prog brs [(0,0,[0,3]),(1,0,[0,3,4]),(2,0,[0,3,4,11,12,13]),(3,0,[0,3,4,11,12,13,14]),(4,0,[0,3,4,5,6,11,12,13]),(5,0,[0,3,4,5,6,11,12,13,24]),(6,0,[0,3,4,5,6,11,12,13,29]),(7,0,[0,3,4,11,12,13]),(8,0,[0,3,4,5,6,11,12,13]),(9,0,[0,3,4,5,11,12,13,54]),(10,0,[0,3,4,11,12,13]),(11,0,[0,3,4,11,12,13]),(12,0,[0,4,58]),(13,0,[0]),(14,0,[])] Id.y2w=some Fn.y2w:=by kernel_rfl
theorem y4d:cFunc Proofs.Tryz.prog brs [(0,0,[3,4,5,6]),(1,0,[6])] Id.y4d=some Fn.y4d:=by kernel_rfl
theorem y2s:cFunc Proofs.Tryz.prog brs [(0,0,[0,1]),(1,0,[0,1,11]),(2,0,[0,1,19]),(3,0,[5,6]),(4,0,[5,6,25]),(5,0,[5,6]),(6,0,[4]),(7,0,[1,8]),(8,0,[0,1]),(9,0,[4])] Id.y2s=some Fn.y2s:=by kernel_rfl
theorem y1d:cFunc Proofs.Tryz.prog brs [(0,0,[0,1]),(1,0,[0,1,15]),(2,0,[4,5]),(3,0,[0,1,21]),(4,0,[4,5]),(5,0,[0,1,6]),(6,0,[0,6,7]),(7,0,[0,6,7,8]),(8,0,[0,6,7,8,9]),(9,0,[0,6,7,8,9]),(10,0,[0,6,7,8,9]),(11,0,[6,7,8,9,10]),(12,0,[6,7,8,9,10,11]),(13,0,[6,7,8,9,10,11,68]),(15,0,[6,7,8,9,10,11,12]),(16,0,[6,7,8,9,10,11,13,14]),(17,0,[6,7,8,9,10,11,13,14,127]),(18,0,[6,7,8,9,10,11,13,14]),(19,0,[6,7,8,9,10,11,13,14]),(20,0,[6,7,8,9,10,11,13,14,139]),(21,0,[6,7,8,9,10,11,13,144]),(22,0,[6,7,8,9,10,11,13]),(23,0,[6,7,8,9,10,11,13]),(24,0,[6,7,8,9,10,11]),(14,0,[6,7,8,9,10,11]),(25,0,[4,5])] Id.y1d=some Fn.y1d:=by kernel_rfl
theorem y2k:cFunc Proofs.Tryz.prog brs [(0,0,[0,1]),(1,0,[0,1,5]),(2,0,[0,1,5,6]),(3,0,[0,1,5,6,13,14]),(4,0,[0,1,5,6,13,14,15]),(5,0,[0,1,5,6,7,13,14]),(6,0,[0,1,5,6,7,8,13,14]),(7,0,[0,1,5,6,7,8,13,14,20]),(8,0,[0,1,5,6,7,8,13,14]),(9,0,[0,1,5,6,13,14]),(10,0,[0,1,5,6,13,14]),(11,0,[4])] Id.y2k=some Fn.y2k:=by kernel_rfl
theorem y23:cFunc Proofs.Tryz.prog brs [(0,0,[0]),(1,0,[2])] Id.y23=some Fn.y23:=by kernel_rfl
theorem y0m:cFunc Proofs.Tryz.prog brs [(0,0,[0]),(1,0,[0,3]),(2,0,[0,3,15]),(3,0,[0,3]),(4,0,[2])] Id.y0m=some Fn.y0m:=by kernel_rfl
theorem y2i:cFunc Proofs.Tryz.prog brs [(0,0,[0,1]),(1,0,[0,1,12]),(2,0,[0,1]),(3,0,[0,1,5]),(4,0,[0,1,5,6]),(5,0,[0,1,5,6,20,21]),(6,0,[0,1,5,6,20,21,22]),(7,0,[0,1,5,6,7,20,21]),(8,0,[0,1,5,6,7,20,21]),(9,0,[0,1,5,6,7,20,21,34]),(10,0,[0,1,5,6,7,20,21]),(11,0,[0,1,5,6,20,21]),(12,0,[0,1,5,6,20,21]),(13,0,[0,1,5,6,20,21]),(14,0,[5]),(15,0,[4])] Id.y2i=some Fn.y2i:=by kernel_rfl
theorem y1c:cFunc Proofs.Tryz.prog brs [(0,0,[0,1]),(1,0,[0,1,10]),(2,0,[15]),(3,0,[4]),(4,0,[4]),(5,0,[0,1,5]),(6,0,[0,1,5,20]),(8,0,[0,1,5,31]),(9,0,[40]),(10,0,[4]),(11,0,[4]),(7,0,[0,1,5]),(12,0,[4])] Id.y1c=some Fn.y1c:=by kernel_rfl
theorem y14:cFunc Proofs.Tryz.prog brs [(0,0,[2,3,4]),(1,0,[2,3,4,11]),(2,0,[2,3,4]),(3,0,[2,3,4,5]),(4,0,[2,3,4,5,29]),(5,0,[4]),(6,0,[2,3,4,5,6]),(7,0,[2,4,6,8]),(8,0,[4])] Id.y14=some Fn.y14:=by kernel_rfl
theorem y1i:cFunc Proofs.Tryz.prog brs [(0,0,[0,2]),(1,0,[0,2,3]),(2,0,[0,2,3]),(3,0,[0,2,3,9]),(4,0,[0,2,3,4]),(5,0,[0,2,3,4,13]),(6,0,[0,2,3,4]),(7,0,[0,2,3]),(8,0,[0,2,3]),(9,0,[2])] Id.y1i=some Fn.y1i:=by kernel_rfl
theorem y2x:cFunc Proofs.Tryz.prog brs [(0,0,[0,3]),(1,0,[0,3,5]),(2,0,[0,3,5,6]),(3,0,[0,3,5,6,17]),(4,0,[4]),(5,0,[0,3,5,6,27]),(6,0,[4]),(7,0,[5,6,8]),(8,0,[4])] Id.y2x=some Fn.y2x:=by kernel_rfl
theorem y1j:cFunc Proofs.Tryz.prog brs [(0,0,[0]),(1,0,[0,10]),(2,0,[2]),(3,0,[0,3]),(4,0,[0,3,13]),(5,0,[3,4,5]),(6,0,[3,4,6]),(7,0,[3,4,6,7]),(8,0,[3,4,6,7,31]),(10,0,[3,4,6,7]),(11,0,[3,4,6,7]),(9,0,[3,4,6,7]),(12,0,[0,3]),(13,0,[3]),(14,0,[2])] Id.y1j=some Fn.y1j:=by kernel_rfl
theorem y1f:cFunc Proofs.Tryz.prog brs [(0,0,[1]),(1,0,[1,10]),(2,0,[2]),(3,0,[1,3]),(4,0,[1,3,4]),(5,0,[1,3,4,15]),(7,0,[1,3,4,5]),(8,0,[1,3,4,5,6]),(9,0,[1,3,4,5,6,24]),(11,0,[1,3,4,5,6]),(12,0,[1,3,4,5,6]),(10,0,[1,3,4,5,6]),(6,0,[1,3,4]),(13,0,[1,3,39]),(14,0,[1,3]),(15,0,[3,43]),(16,0,[2]),(17,0,[2])] Id.y1f=some Fn.y1f:=by kernel_rfl
theorem y28:cFunc Proofs.Tryz.prog brs [(0,0,[1,2]),(1,0,[2])] Id.y28=some Fn.y28:=by kernel_rfl
theorem y07:cFunc Proofs.Tryz.prog brs [(0,0,[0,1]),(1,0,[0,1,7,8]),(2,0,[0,1,7,8,9]),(3,0,[0,1,5,7,8]),(4,0,[0,1,5,7,8,16]),(5,0,[4]),(6,0,[0,1,7,8]),(7,0,[4])] Id.y07=some Fn.y07:=by kernel_rfl
theorem y32:cFunc Proofs.Tryz.prog brs [(0,0,[3,4,5]),(1,0,[6])] Id.y32=some Fn.y32:=by kernel_rfl
theorem y19:cFunc Proofs.Tryz.prog brs [(0,0,[0,1]),(1,0,[0,1,10]),(2,0,[15]),(3,0,[4]),(4,0,[4]),(5,0,[0,1,5]),(6,0,[0,1,5,20]),(8,0,[0,1,5,31]),(9,0,[40]),(10,0,[4]),(11,0,[4]),(7,0,[0,1,5]),(12,0,[4])] Id.y19=some Fn.y19:=by kernel_rfl
theorem y0v:cFunc Proofs.Tryz.prog brs [(0,0,[0,1,4]),(1,0,[4])] Id.y0v=some Fn.y0v:=by kernel_rfl
theorem y22:cFunc Proofs.Tryz.prog brs [(0,0,[0,1]),(1,0,[0,1,5]),(2,0,[0,1,5,6]),(3,0,[0,1,5,6,19]),(5,0,[0,1,5,6,7]),(6,0,[0,1,5,6,7,8]),(7,0,[0,1,5,6,7,8,29]),(9,0,[0,1,5,6,8,9]),(10,0,[0,1,5,6,8,9,43]),(11,0,[0,1,5,6,8,9]),(12,0,[0,1,5,6,8,9]),(13,0,[0,1,5,6,7,8]),(8,0,[0,1,5,6,7,8]),(4,0,[0,1,5,6]),(14,0,[4])] Id.y22=some Fn.y22:=by kernel_rfl
theorem y3y:cFunc Proofs.Tryz.prog brs [(0,0,[0,1,4]),(1,0,[0,1,4,5]),(2,0,[0,4,5,8,9,10]),(3,0,[0,4,5,8,9,10,11]),(4,0,[0,4,5,6,7,8,9,10]),(5,0,[0,4,5,7,8,9,10,22]),(6,0,[0,4,5,8,9,10]),(7,0,[0,4,5,8,9,10]),(8,0,[4])] Id.y3y=some Fn.y3y:=by kernel_rfl
theorem y3g:cFunc Proofs.Tryz.prog brs [(0,0,[2,3]),(1,0,[4])] Id.y3g=some Fn.y3g:=by kernel_rfl
theorem y3d:cFunc Proofs.Tryz.prog brs [(0,0,[2,3]),(1,0,[4])] Id.y3d=some Fn.y3d:=by kernel_rfl
theorem y1x:cFunc Proofs.Tryz.prog brs [(0,0,[0]),(1,0,[0,3]),(2,0,[3,6,7,8]),(3,0,[3,6,7,8,9]),(4,0,[3,4,5,6,7,8]),(5,0,[3,6,7,8]),(6,0,[3,6,7,8]),(7,0,[2])] Id.y1x=some Fn.y1x:=by kernel_rfl
theorem y29:cFunc Proofs.Tryz.prog brs [(0,0,[0,1]),(1,0,[0,1,6]),(2,0,[0,1,6,7]),(3,0,[0,1,6,7,8]),(4,0,[0,1,6,7,8,16]),(6,0,[0,1,6,7,8]),(7,0,[0,1,6,7,8]),(8,0,[0,1,6,7,8]),(5,0,[0,1,6,7,8]),(9,0,[4,5])] Id.y29=some Fn.y29:=by kernel_rfl
theorem y0t:cFunc Proofs.Tryz.prog brs [(0,0,[0]),(1,0,[2])] Id.y0t=some Fn.y0t:=by kernel_rfl
theorem y2j:cFunc Proofs.Tryz.prog brs [(0,0,[0,1]),(1,0,[0,1,5]),(2,0,[1,5]),(3,0,[1,5,6]),(4,0,[1,5,6,25]),(5,0,[1,5,6,7]),(6,0,[5,6,7,8]),(7,0,[5,6,7,8,31]),(9,0,[5,6,7,8]),(8,0,[5,6,7,8]),(10,0,[4])] Id.y2j=some Fn.y2j:=by kernel_rfl
theorem y2g:cFunc Proofs.Tryz.prog brs [(0,0,[0,1,2,3]),(1,0,[0,1,2,3,9,10]),(2,0,[0,1,2,3,9,10,13,14,15]),(3,0,[0,1,2,3,9,10,13,14,15,16]),(4,0,[0,1,2,3,9,10,11,12,13,14,15]),(5,0,[0,1,2,3,9,10,11,13,14,15]),(6,0,[0,1,2,3,9,10,13,14,15]),(7,0,[0,1,2,3,9,10,13,14,15]),(8,0,[0,1,2,3,9,10,13,14,15]),(9,0,[10]),(10,0,[8])] Id.y2g=some Fn.y2g:=by kernel_rfl
theorem y2h:cFunc Proofs.Tryz.prog brs [(0,0,[0,1,2,6]),(1,0,[0,1,2,6,9,10,11]),(2,0,[0,1,2,6,9,10,11,12]),(3,0,[0,1,2,6,7,8,9,10,11]),(4,0,[0,1,2,6,9,10,11]),(5,0,[0,1,2,6,9,10,11]),(6,0,[])] Id.y2h=some Fn.y2h:=by kernel_rfl
theorem y2m:cFunc Proofs.Tryz.prog brs [(0,0,[0,1]),(1,0,[0,1,12]),(2,0,[4]),(3,0,[1,5]),(4,0,[5,6]),(5,0,[5,6,21]),(6,0,[5,6,23,24]),(7,0,[5,6,23,24,25]),(8,0,[5,6,7,23,24]),(9,0,[5,6,7,23,24]),(10,0,[5,6,7,23,24,38]),(11,0,[5,6,23,24]),(12,0,[5,6,23,24]),(13,0,[4])] Id.y2m=some Fn.y2m:=by kernel_rfl
theorem y1g:cFunc Proofs.Tryz.prog brs [(0,0,[0,1,2]),(1,0,[0,1,6]),(2,0,[6,7])] Id.y1g=some Fn.y1g:=by kernel_rfl
theorem y26:cFunc Proofs.Tryz.prog brs [(0,0,[2,3,4]),(1,0,[4,5,6]),(2,0,[4,5,6,19]),(3,0,[4,5,6,7,8]),(4,0,[4,5,6,7,8,9,10]),(5,0,[4,5,6,7,9,35]),(6,0,[4,7,9,37]),(7,0,[4,7,9]),(8,0,[4]),(9,0,[4,6,12]),(10,0,[4,5,6]),(11,0,[4])] Id.y26=some Fn.y26:=by kernel_rfl
theorem y1o:cFunc Proofs.Tryz.prog brs [(0,0,[0,1]),(1,0,[0,1,6]),(2,0,[0,1,6,7]),(3,0,[0,1,6,7,8]),(4,0,[0,1,6,7,8,17]),(6,0,[0,1,6,7,8]),(7,0,[0,1,6,7,8,9]),(8,0,[0,1,6,7,8,9,30]),(9,0,[0,1,6,7,8,9]),(10,0,[0,1,6,7,8,9,40]),(11,0,[0,1,6,7,8,9]),(12,0,[0,1,6,7,8,9]),(13,0,[0,1,6,7,8,9,63]),(14,0,[0,1,6,7,8,9]),(15,0,[0,1,6,7,8,9]),(16,0,[0,1,6,7,8]),(5,0,[0,1,6,7,8]),(17,0,[4,5])] Id.y1o=some Fn.y1o:=by kernel_rfl
theorem y05:cFunc Proofs.Tryz.prog brs [(0,0,[0,2,4]),(1,0,[0,2,4,8]),(2,0,[0,2,4,8,9,10]),(3,0,[0,2,4,8,9,10,17]),(4,0,[0,2,4,8,9,10,11]),(5,0,[0,2,4,8,9,10,11,31]),(6,0,[0,2,4,8,9,10]),(7,0,[0,2,4,8,9,10]),(8,0,[6,7])] Id.y05=some Fn.y05:=by kernel_rfl
theorem y2e:cFunc Proofs.Tryz.prog brs [(0,0,[2,3]),(1,0,[4])] Id.y2e=some Fn.y2e:=by kernel_rfl
theorem y4c:cFunc Proofs.Tryz.prog brs [(0,0,[2,3,4]),(1,0,[2,3,4,8]),(2,0,[4,5]),(3,0,[4,5])] Id.y4c=some Fn.y4c:=by kernel_rfl
theorem y0u:cFunc Proofs.Tryz.prog brs [(0,0,[0,2,3]),(1,0,[0,2,3,9]),(3,0,[0,2,3]),(2,0,[0,2,3])] Id.y0u=some Fn.y0u:=by kernel_rfl
theorem y1z:cFunc Proofs.Tryz.prog brs [(0,0,[0,1]),(1,0,[0,1,5]),(2,0,[0,1,5,6]),(3,0,[0,1,5,6,7]),(4,0,[0,1,5,6,7,12]),(6,0,[0,1,5,7,8]),(7,0,[0,1,5,7,8,24]),(8,0,[0,1,5,7,8]),(9,0,[0,1,5,6,7,8]),(10,0,[0,1,5,6,7,8,32]),(11,0,[0,1,5,7,8]),(12,0,[0,1,5,6,7,8]),(13,0,[0,1,5,6,7]),(5,0,[0,1,5,6,7]),(14,0,[4])] Id.y1z=some Fn.y1z:=by kernel_rfl
theorem y18:cFunc Proofs.Tryz.prog brs [(0,0,[0]),(1,0,[0,14]),(2,0,[0]),(3,0,[2])] Id.y18=some Fn.y18:=by kernel_rfl
theorem y2l:cFunc Proofs.Tryz.prog brs [(0,0,[0,2]),(1,0,[0,2,4]),(2,0,[0]),(3,0,[0,2]),(4,0,[0,2,8]),(5,0,[0,2]),(6,0,[0,2]),(7,0,[2])] Id.y2l=some Fn.y2l:=by kernel_rfl
theorem y27:cFunc Proofs.Tryz.prog brs [(0,0,[0,1,2]),(1,0,[8]),(2,0,[6,8]),(3,0,[6,7])] Id.y27=some Fn.y27:=by kernel_rfl
theorem y0g:cFunc Proofs.Tryz.prog brs [(0,0,[0]),(1,0,[0,4]),(2,0,[2]),(3,0,[2])] Id.y0g=some Fn.y0g:=by kernel_rfl
theorem y1r:cFunc Proofs.Tryz.prog brs [(0,0,[1]),(1,0,[1,9]),(2,0,[2,3]),(3,0,[1,4]),(4,0,[1,4,5]),(5,0,[1,4,5,15]),(7,0,[1,4,5]),(6,0,[1,4,5]),(8,0,[2,3])] Id.y1r=some Fn.y1r:=by kernel_rfl
theorem y20:cFunc Proofs.Tryz.prog brs [(0,0,[0,1]),(1,0,[0,1,5]),(2,0,[0,1,5,6]),(3,0,[0,1,5,6,12]),(5,0,[0,1,5,6]),(4,0,[0,1,5,6]),(6,0,[4])] Id.y20=some Fn.y20:=by kernel_rfl
theorem y44:cFunc Proofs.Tryz.prog brs [(0,0,[2,3,4]),(1,0,[4])] Id.y44=some Fn.y44:=by kernel_rfl
end Ck
def E:Env:=fun f=>
 bif Nat.beq f Id.y0l then some Fn.y0l else
 bif Nat.beq f Id.y4p then some Fn.y4p else
 bif Nat.beq f Id.y1e then some Fn.y1e else
 bif Nat.beq f Id.y5p then some Fn.y5p else
 bif Nat.beq f Id.y2u then some Fn.y2u else
 bif Nat.beq f Id.y36 then some Fn.y36 else
 bif Nat.beq f Id.y3w then some Fn.y3w else
 bif Nat.beq f Id.y1b then some Fn.y1b else
 bif Nat.beq f Id.y42 then some Fn.y42 else
 bif Nat.beq f Id.y0j then some Fn.y0j else
 bif Nat.beq f Id.y69 then some Fn.y69 else
 bif Nat.beq f Id.y1p then some Fn.y1p else
 bif Nat.beq f Id.y21 then some Fn.y21 else
 bif Nat.beq f Id.y3l then some Fn.y3l else
 bif Nat.beq f Id.y15 then some Fn.y15 else
 bif Nat.beq f Id.y0s then some Fn.y0s else
 bif Nat.beq f Id.y2b then some Fn.y2b else
 bif Nat.beq f Id.y3i then some Fn.y3i else
 bif Nat.beq f Id.y3h then some Fn.y3h else
 bif Nat.beq f Id.y43 then some Fn.y43 else
 bif Nat.beq f Id.y0c then some Fn.y0c else
 bif Nat.beq f Id.y41 then some Fn.y41 else
 bif Nat.beq f Id.y2p then some Fn.y2p else
 bif Nat.beq f Id.y0b then some Fn.y0b else
 bif Nat.beq f Id.y0h then some Fn.y0h else
 bif Nat.beq f Id.y3e then some Fn.y3e else
 bif Nat.beq f Id.y2d then some Fn.y2d else
 bif Nat.beq f Id.y2y then some Fn.y2y else
 bif Nat.beq f Id.y0r then some Fn.y0r else
 bif Nat.beq f Id.y5n then some Fn.y5n else
 bif Nat.beq f Id.y30 then some Fn.y30 else
 bif Nat.beq f Id.y2z then some Fn.y2z else
 bif Nat.beq f Id.y1a then some Fn.y1a else
 bif Nat.beq f Id.y0o then some Fn.y0o else
 bif Nat.beq f Id.y1k then some Fn.y1k else
 bif Nat.beq f Id.y1n then some Fn.y1n else
 bif Nat.beq f Id.y0z then some Fn.y0z else
 bif Nat.beq f Id.y37 then some Fn.y37 else
 bif Nat.beq f Id.y1t then some Fn.y1t else
 bif Nat.beq f Id.y4n then some Fn.y4n else
 bif Nat.beq f Id.y34 then some Fn.y34 else
 bif Nat.beq f Id.y2t then some Fn.y2t else
 bif Nat.beq f Id.y3c then some Fn.y3c else
 bif Nat.beq f Id.y2o then some Fn.y2o else
 bif Nat.beq f Id.y2a then some Fn.y2a else
 bif Nat.beq f Id.y04 then some Fn.y04 else
 bif Nat.beq f Id.y35 then some Fn.y35 else
 bif Nat.beq f Id.y1y then some Fn.y1y else
 bif Nat.beq f Id.y1v then some Fn.y1v else
 bif Nat.beq f Id.y1q then some Fn.y1q else
 bif Nat.beq f Id.y1s then some Fn.y1s else
 bif Nat.beq f Id.y0w then some Fn.y0w else
 bif Nat.beq f Id.y3p then some Fn.y3p else
 bif Nat.beq f Id.y3t then some Fn.y3t else
 bif Nat.beq f Id.y1w then some Fn.y1w else
 bif Nat.beq f Id.y0d then some Fn.y0d else
 bif Nat.beq f Id.y0e then some Fn.y0e else
 bif Nat.beq f Id.y5o then some Fn.y5o else
 bif Nat.beq f Id.y1h then some Fn.y1h else
 bif Nat.beq f Id.y2f then some Fn.y2f else
 bif Nat.beq f Id.y2w then some Fn.y2w else
 bif Nat.beq f Id.y4d then some Fn.y4d else
 bif Nat.beq f Id.y2s then some Fn.y2s else
 bif Nat.beq f Id.y1d then some Fn.y1d else
 bif Nat.beq f Id.y2k then some Fn.y2k else
 bif Nat.beq f Id.y23 then some Fn.y23 else
 bif Nat.beq f Id.y0m then some Fn.y0m else
 bif Nat.beq f Id.y2i then some Fn.y2i else
 bif Nat.beq f Id.y1c then some Fn.y1c else
 bif Nat.beq f Id.y14 then some Fn.y14 else
 bif Nat.beq f Id.y1i then some Fn.y1i else
 bif Nat.beq f Id.y2x then some Fn.y2x else
 bif Nat.beq f Id.y1j then some Fn.y1j else
 bif Nat.beq f Id.y1f then some Fn.y1f else
 bif Nat.beq f Id.y28 then some Fn.y28 else
 bif Nat.beq f Id.y07 then some Fn.y07 else
 bif Nat.beq f Id.y32 then some Fn.y32 else
 bif Nat.beq f Id.y19 then some Fn.y19 else
 bif Nat.beq f Id.y0v then some Fn.y0v else
 bif Nat.beq f Id.y22 then some Fn.y22 else
 bif Nat.beq f Id.y3y then some Fn.y3y else
 bif Nat.beq f Id.y3g then some Fn.y3g else
 bif Nat.beq f Id.y3d then some Fn.y3d else
 bif Nat.beq f Id.y1x then some Fn.y1x else
 bif Nat.beq f Id.y29 then some Fn.y29 else
 bif Nat.beq f Id.y0t then some Fn.y0t else
 bif Nat.beq f Id.y2j then some Fn.y2j else
 bif Nat.beq f Id.y2g then some Fn.y2g else
 bif Nat.beq f Id.y2h then some Fn.y2h else
 bif Nat.beq f Id.y2m then some Fn.y2m else
 bif Nat.beq f Id.y1g then some Fn.y1g else
 bif Nat.beq f Id.y26 then some Fn.y26 else
 bif Nat.beq f Id.y1o then some Fn.y1o else
 bif Nat.beq f Id.y05 then some Fn.y05 else
 bif Nat.beq f Id.y2e then some Fn.y2e else
 bif Nat.beq f Id.y4c then some Fn.y4c else
 bif Nat.beq f Id.y0u then some Fn.y0u else
 bif Nat.beq f Id.y1z then some Fn.y1z else
 bif Nat.beq f Id.y18 then some Fn.y18 else
 bif Nat.beq f Id.y2l then some Fn.y2l else
 bif Nat.beq f Id.y27 then some Fn.y27 else
 bif Nat.beq f Id.y0g then some Fn.y0g else
 bif Nat.beq f Id.y1r then some Fn.y1r else
 bif Nat.beq f Id.y20 then some Fn.y20 else
 bif Nat.beq f Id.y44 then some Fn.y44 else
 none
theorem y4o:E Id.y0l=some Fn.y0l:=rfl
theorem ysk:E Id.y4p=some Fn.y4p:=rfl
theorem ymv:E Id.y1e=some Fn.y1e:=rfl
theorem ytc:E Id.y5p=some Fn.y5p:=rfl
theorem yqu:E Id.y2u=some Fn.y2u:=rfl
theorem ygn:E Id.y36=some Fn.y36:=rfl
theorem yrz:E Id.y3w=some Fn.y3w:=rfl
theorem ygj:E Id.y1b=some Fn.y1b:=rfl
theorem ys2:E Id.y42=some Fn.y42:=rfl
theorem ybn:E Id.y0j=some Fn.y0j:=rfl
theorem ytf:E Id.y69=some Fn.y69:=rfl
theorem ybj:E Id.y1p=some Fn.y1p:=rfl
theorem yax:E Id.y21=some Fn.y21:=rfl
theorem y8a:E Id.y3l=some Fn.y3l:=rfl
theorem ycj:E Id.y15=some Fn.y15:=rfl
theorem y8h:E Id.y0s=some Fn.y0s:=rfl
theorem ye0:E Id.y2b=some Fn.y2b:=rfl
theorem ys0:E Id.y3i=some Fn.y3i:=rfl
theorem ype:E Id.y3h=some Fn.y3h:=rfl
theorem yri:E Id.y43=some Fn.y43:=rfl
theorem y95:E Id.y0c=some Fn.y0c:=rfl
theorem yrb:E Id.y41=some Fn.y41:=rfl
theorem ynr:E Id.y2p=some Fn.y2p:=rfl
theorem y94:E Id.y0b=some Fn.y0b:=rfl
theorem yl0:E Id.y0h=some Fn.y0h:=rfl
theorem yoj:E Id.y3e=some Fn.y3e:=rfl
theorem ytb:E Id.y2d=some Fn.y2d:=rfl
theorem ynx:E Id.y2y=some Fn.y2y:=rfl
theorem y90:E Id.y0r=some Fn.y0r:=rfl
theorem ytd:E Id.y5n=some Fn.y5n:=rfl
theorem yms:E Id.y30=some Fn.y30:=rfl
theorem ylz:E Id.y2z=some Fn.y2z:=rfl
theorem ycy:E Id.y1a=some Fn.y1a:=rfl
theorem ye3:E Id.y0o=some Fn.y0o:=rfl
theorem ye9:E Id.y1k=some Fn.y1k:=rfl
theorem ygl:E Id.y1n=some Fn.y1n:=rfl
theorem ya6:E Id.y0z=some Fn.y0z:=rfl
theorem ynz:E Id.y37=some Fn.y37:=rfl
theorem ybo:E Id.y1t=some Fn.y1t:=rfl
theorem yka:E Id.y4n=some Fn.y4n:=rfl
theorem ydn:E Id.y34=some Fn.y34:=rfl
theorem yco:E Id.y2t=some Fn.y2t:=rfl
theorem yqj:E Id.y3c=some Fn.y3c:=rfl
theorem yf2:E Id.y2o=some Fn.y2o:=rfl
theorem ybf:E Id.y2a=some Fn.y2a:=rfl
theorem y5k:E Id.y04=some Fn.y04:=rfl
theorem yf0:E Id.y35=some Fn.y35:=rfl
theorem ybe:E Id.y1y=some Fn.y1y:=rfl
theorem yet:E Id.y1v=some Fn.y1v:=rfl
theorem ybg:E Id.y1q=some Fn.y1q:=rfl
theorem ybs:E Id.y1s=some Fn.y1s:=rfl
theorem y7r:E Id.y0w=some Fn.y0w:=rfl
theorem yis:E Id.y3p=some Fn.y3p:=rfl
theorem yix:E Id.y3t=some Fn.y3t:=rfl
theorem yje:E Id.y1w=some Fn.y1w:=rfl
theorem y9r:E Id.y0d=some Fn.y0d:=rfl
theorem y9u:E Id.y0e=some Fn.y0e:=rfl
theorem yte:E Id.y5o=some Fn.y5o:=rfl
theorem yba:E Id.y1h=some Fn.y1h:=rfl
theorem yko:E Id.y2f=some Fn.y2f:=rfl
theorem ymj:E Id.y2w=some Fn.y2w:=rfl
theorem yt5:E Id.y4d=some Fn.y4d:=rfl
theorem ydw:E Id.y2s=some Fn.y2s:=rfl
theorem y74:E Id.y1d=some Fn.y1d:=rfl
theorem ydd:E Id.y2k=some Fn.y2k:=rfl
theorem ygk:E Id.y23=some Fn.y23:=rfl
theorem ycd:E Id.y0m=some Fn.y0m:=rfl
theorem yea:E Id.y2i=some Fn.y2i:=rfl
theorem ydq:E Id.y1c=some Fn.y1c:=rfl
theorem yd4:E Id.y14=some Fn.y14:=rfl
theorem ybb:E Id.y1i=some Fn.y1i:=rfl
theorem yme:E Id.y2x=some Fn.y2x:=rfl
theorem ya4:E Id.y1j=some Fn.y1j:=rfl
theorem yag:E Id.y1f=some Fn.y1f:=rfl
theorem yb9:E Id.y28=some Fn.y28:=rfl
theorem y5s:E Id.y07=some Fn.y07:=rfl
theorem yid:E Id.y32=some Fn.y32:=rfl
theorem ycv:E Id.y19=some Fn.y19:=rfl
theorem ya0:E Id.y0v=some Fn.y0v:=rfl
theorem yaq:E Id.y22=some Fn.y22:=rfl
theorem ygv:E Id.y3y=some Fn.y3y:=rfl
theorem ygp:E Id.y3g=some Fn.y3g:=rfl
theorem ygg:E Id.y3d=some Fn.y3d:=rfl
theorem ybc:E Id.y1x=some Fn.y1x:=rfl
theorem ybi:E Id.y29=some Fn.y29:=rfl
theorem y7u:E Id.y0t=some Fn.y0t:=rfl
theorem ydt:E Id.y2j=some Fn.y2j:=rfl
theorem ycz:E Id.y2g=some Fn.y2g:=rfl
theorem ycb:E Id.y2h=some Fn.y2h:=rfl
theorem yeb:E Id.y2m=some Fn.y2m:=rfl
theorem ybm:E Id.y1g=some Fn.y1g:=rfl
theorem ybh:E Id.y26=some Fn.y26:=rfl
theorem ybr:E Id.y1o=some Fn.y1o:=rfl
theorem y7a:E Id.y05=some Fn.y05:=rfl
theorem ykp:E Id.y2e=some Fn.y2e:=rfl
theorem ys1:E Id.y4c=some Fn.y4c:=rfl
theorem y7v:E Id.y0u=some Fn.y0u:=rfl
theorem yac:E Id.y1z=some Fn.y1z:=rfl
theorem ybd:E Id.y18=some Fn.y18:=rfl
theorem ybl:E Id.y2l=some Fn.y2l:=rfl
theorem ybp:E Id.y27=some Fn.y27:=rfl
theorem y6y:E Id.y0g=some Fn.y0g:=rfl
theorem yah:E Id.y1r=some Fn.y1r:=rfl
theorem ycc:E Id.y20=some Fn.y20:=rfl
theorem yqx:E Id.y44=some Fn.y44:=rfl
theorem y02 {P:Program} {f k:Nat} {a fn:AFn} {r:Option AFn} (hk:∃br hs,cFunc P br hs k=some a) (hr:r=some fn→∃br hs,cFunc P br hs f=some fn):(bif Nat.beq f k then some a else r)=some fn→∃br hs,cFunc P br hs f=some fn:=by
 intro h
 cases hb:Nat.beq f k with
 | true=>rw [hb] at h;cases h;rw [Nat.eq_of_beq_eq_true hb];exact hk
 | false=>rw [hb] at h;exact hr h
theorem E_ok:EnvOk Proofs.Tryz.prog E:=by
 intro f fn
 unfold E
 refine y02 ⟨_,_,Ck.y0l⟩ ?_
 refine y02 ⟨_,_,Ck.y4p⟩ ?_
 refine y02 ⟨_,_,Ck.y1e⟩ ?_
 refine y02 ⟨_,_,Ck.y5p⟩ ?_
 refine y02 ⟨_,_,Ck.y2u⟩ ?_
 refine y02 ⟨_,_,Ck.y36⟩ ?_
 refine y02 ⟨_,_,Ck.y3w⟩ ?_
 refine y02 ⟨_,_,Ck.y1b⟩ ?_
 refine y02 ⟨_,_,Ck.y42⟩ ?_
 refine y02 ⟨_,_,Ck.y0j⟩ ?_
 refine y02 ⟨_,_,Ck.y69⟩ ?_
 refine y02 ⟨_,_,Ck.y1p⟩ ?_
 refine y02 ⟨_,_,Ck.y21⟩ ?_
 refine y02 ⟨_,_,Ck.y3l⟩ ?_
 refine y02 ⟨_,_,Ck.y15⟩ ?_
 refine y02 ⟨_,_,Ck.y0s⟩ ?_
 refine y02 ⟨_,_,Ck.y2b⟩ ?_
 refine y02 ⟨_,_,Ck.y3i⟩ ?_
 refine y02 ⟨_,_,Ck.y3h⟩ ?_
 refine y02 ⟨_,_,Ck.y43⟩ ?_
 refine y02 ⟨_,_,Ck.y0c⟩ ?_
 refine y02 ⟨_,_,Ck.y41⟩ ?_
 refine y02 ⟨_,_,Ck.y2p⟩ ?_
 refine y02 ⟨_,_,Ck.y0b⟩ ?_
 refine y02 ⟨_,_,Ck.y0h⟩ ?_
 refine y02 ⟨_,_,Ck.y3e⟩ ?_
 refine y02 ⟨_,_,Ck.y2d⟩ ?_
 refine y02 ⟨_,_,Ck.y2y⟩ ?_
 refine y02 ⟨_,_,Ck.y0r⟩ ?_
 refine y02 ⟨_,_,Ck.y5n⟩ ?_
 refine y02 ⟨_,_,Ck.y30⟩ ?_
 refine y02 ⟨_,_,Ck.y2z⟩ ?_
 refine y02 ⟨_,_,Ck.y1a⟩ ?_
 refine y02 ⟨_,_,Ck.y0o⟩ ?_
 refine y02 ⟨_,_,Ck.y1k⟩ ?_
 refine y02 ⟨_,_,Ck.y1n⟩ ?_
 refine y02 ⟨_,_,Ck.y0z⟩ ?_
 refine y02 ⟨_,_,Ck.y37⟩ ?_
 refine y02 ⟨_,_,Ck.y1t⟩ ?_
 refine y02 ⟨_,_,Ck.y4n⟩ ?_
 refine y02 ⟨_,_,Ck.y34⟩ ?_
 refine y02 ⟨_,_,Ck.y2t⟩ ?_
 refine y02 ⟨_,_,Ck.y3c⟩ ?_
 refine y02 ⟨_,_,Ck.y2o⟩ ?_
 refine y02 ⟨_,_,Ck.y2a⟩ ?_
 refine y02 ⟨_,_,Ck.y04⟩ ?_
 refine y02 ⟨_,_,Ck.y35⟩ ?_
 refine y02 ⟨_,_,Ck.y1y⟩ ?_
 refine y02 ⟨_,_,Ck.y1v⟩ ?_
 refine y02 ⟨_,_,Ck.y1q⟩ ?_
 refine y02 ⟨_,_,Ck.y1s⟩ ?_
 refine y02 ⟨_,_,Ck.y0w⟩ ?_
 refine y02 ⟨_,_,Ck.y3p⟩ ?_
 refine y02 ⟨_,_,Ck.y3t⟩ ?_
 refine y02 ⟨_,_,Ck.y1w⟩ ?_
 refine y02 ⟨_,_,Ck.y0d⟩ ?_
 refine y02 ⟨_,_,Ck.y0e⟩ ?_
 refine y02 ⟨_,_,Ck.y5o⟩ ?_
 refine y02 ⟨_,_,Ck.y1h⟩ ?_
 refine y02 ⟨_,_,Ck.y2f⟩ ?_
 refine y02 ⟨_,_,Ck.y2w⟩ ?_
 refine y02 ⟨_,_,Ck.y4d⟩ ?_
 refine y02 ⟨_,_,Ck.y2s⟩ ?_
 refine y02 ⟨_,_,Ck.y1d⟩ ?_
 refine y02 ⟨_,_,Ck.y2k⟩ ?_
 refine y02 ⟨_,_,Ck.y23⟩ ?_
 refine y02 ⟨_,_,Ck.y0m⟩ ?_
 refine y02 ⟨_,_,Ck.y2i⟩ ?_
 refine y02 ⟨_,_,Ck.y1c⟩ ?_
 refine y02 ⟨_,_,Ck.y14⟩ ?_
 refine y02 ⟨_,_,Ck.y1i⟩ ?_
 refine y02 ⟨_,_,Ck.y2x⟩ ?_
 refine y02 ⟨_,_,Ck.y1j⟩ ?_
 refine y02 ⟨_,_,Ck.y1f⟩ ?_
 refine y02 ⟨_,_,Ck.y28⟩ ?_
 refine y02 ⟨_,_,Ck.y07⟩ ?_
 refine y02 ⟨_,_,Ck.y32⟩ ?_
 refine y02 ⟨_,_,Ck.y19⟩ ?_
 refine y02 ⟨_,_,Ck.y0v⟩ ?_
 refine y02 ⟨_,_,Ck.y22⟩ ?_
 refine y02 ⟨_,_,Ck.y3y⟩ ?_
 refine y02 ⟨_,_,Ck.y3g⟩ ?_
 refine y02 ⟨_,_,Ck.y3d⟩ ?_
 refine y02 ⟨_,_,Ck.y1x⟩ ?_
 refine y02 ⟨_,_,Ck.y29⟩ ?_
 refine y02 ⟨_,_,Ck.y0t⟩ ?_
 refine y02 ⟨_,_,Ck.y2j⟩ ?_
 refine y02 ⟨_,_,Ck.y2g⟩ ?_
 refine y02 ⟨_,_,Ck.y2h⟩ ?_
 refine y02 ⟨_,_,Ck.y2m⟩ ?_
 refine y02 ⟨_,_,Ck.y1g⟩ ?_
 refine y02 ⟨_,_,Ck.y26⟩ ?_
 refine y02 ⟨_,_,Ck.y1o⟩ ?_
 refine y02 ⟨_,_,Ck.y05⟩ ?_
 refine y02 ⟨_,_,Ck.y2e⟩ ?_
 refine y02 ⟨_,_,Ck.y4c⟩ ?_
 refine y02 ⟨_,_,Ck.y0u⟩ ?_
 refine y02 ⟨_,_,Ck.y1z⟩ ?_
 refine y02 ⟨_,_,Ck.y18⟩ ?_
 refine y02 ⟨_,_,Ck.y2l⟩ ?_
 refine y02 ⟨_,_,Ck.y27⟩ ?_
 refine y02 ⟨_,_,Ck.y0g⟩ ?_
 refine y02 ⟨_,_,Ck.y1r⟩ ?_
 refine y02 ⟨_,_,Ck.y20⟩ ?_
 refine y02 ⟨_,_,Ck.y44⟩ ?_
 intro h
 cases h
theorem mixed:Proofs.Tryz.prog.follows .mixedOrders=true:=by kernel_rfl
end Go.Ev
