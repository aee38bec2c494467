import Derived.Test.YtclakmennjjomaaGreatFnP
import Derived.Test.YtclakmennjjomaaGreatChecked
import Derived.KernelRfl
namespace Go.Ev
def brs (f:FuncId):Bool:=memN f [135,159,184,194,226,240,241,248,249,250,251,252,253,254,255,256,257,273,274,280,283,285,286,287,298,300,301]
def yk1 (f:FuncId):Bool:=memN f [135,159,184,194,226,240,241,248,249,250,251,252,253,254,255,256,257,273,274,280,283,285,286,287,298,300,301,35]
def yaa (f:FuncId):Bool:=memN f [135,159,184,194,226,240,241,248,249,250,251,252,253,254,255,256,257,273,274,280,283,285,286,287,298,300,301,35]
def yb2 (f:FuncId):Bool:=memN f [135,159,184,194,226,240,241,248,249,250,251,252,253,254,255,256,257,273,274,280,283,285,286,287,298,300,301,88]
def yb1 (f:FuncId):Bool:=memN f [135,159,184,194,226,240,241,248,249,250,251,252,253,254,255,256,257,273,274,280,283,285,286,287,298,300,301,84,298]
def ycv (f:FuncId):Bool:=memN f [135,159,184,194,226,240,241,248,249,250,251,252,253,254,255,256,257,273,274,280,283,285,286,287,298,300,301,84,298]
def yco (f:FuncId):Bool:=memN f [135,159,184,194,226,240,241,248,249,250,251,252,253,254,255,256,257,273,274,280,283,285,286,287,298,300,301,302]
namespace Ck
theorem y04:cFunc Proofs.Tryz.prog yaa [(0,0,[1,3,4,6]),(1,0,[1,3,4,6,9,10,11,12,13,14]),(2,0,[1,3,4,6,9,10,11,12,13,14,47]),(3,0,[8]),(4,0,[3,4,6,9,10,11,12,13,14,15,16]),(5,0,[3,4,6,9,10,11,12,13,14,15,16,17,18]),(6,0,[3,4,6,9,10,11,12,13,14,15,16,17,18,58]),(7,5,[3,4,6,9,10,11,12,13,14,15,16,17,18]),(8,0,[3,4,6,9,10,11,12,13,14,15,16,17,18,66]),(9,0,[3,4,6,9,10,11,12,13,14,15,16,17,18]),(10,0,[3,4,6,9,10,11,12,13,14,15,16,17,18,73]),(11,0,[3,4,6,9,10,11,12,13,14,15,16,17,18]),(12,0,[4,6,9,10,11,12,13,14,15,16,17,18,19,20]),(13,0,[4,6,9,10,11,12,13,14,15,16,18,19,20,21,22]),(14,0,[4,6,12,13,14,15,16,18,19,20,21,22,23,24]),(15,0,[4,6,12,13,14,15,16,18,19,20,21,22,23,24,25]),(16,0,[4,6,12,13,14,15,16,18,19,20,21,22,23,24,25,125]),(17,0,[4,6,12,13,14,15,16,18,19,20,21,22,23,24,25]),(18,0,[4,6,12,13,14,15,16,18,19,20,21,22,23,24,25,133]),(19,0,[4,6,12,13,14,15,16,18,19,20,21,22,23,24,25]),(20,0,[4,6,12,13,14,15,16,18,19,20,21,22,23,24,25,135]),(21,0,[8]),(22,0,[4,6,12,13,14,15,16,18,19,20,21,22,23,24,26]),(23,0,[4,6,12,13,14,15,16,18,21,22,23,24,26,178]),(24,0,[8]),(25,0,[4,6,12,13,14,15,16,18,21,22,23,24,180]),(26,0,[8]),(27,0,[4,6,12,13,14,15,16,23,24,213]),(28,0,[8]),(29,0,[4,6,12,13,14,16,23,24,216]),(30,0,[8]),(31,0,[4,6,12,13,14,16,23,24,241]),(32,0,[8]),(33,0,[23,24,27]),(34,0,[23,27,271]),(35,0,[8]),(36,0,[23,27,28]),(37,0,[23,27,28,275]),(39,0,[23,27,28,317]),(40,0,[8]),(38,0,[23,27,28]),(41,0,[8])] Id.y04=some Fn.y04:=by kernel_rfl
theorem y0m:cFunc Proofs.Tryz.prog brs [(0,0,[]),(1,0,[1]),(2,0,[1,2,3]),(3,0,[2,3,4,5]),(4,0,[2,3,4,5,6,7]),(5,0,[2,3,4,5,6,7,8,9]),(6,0,[0])] Id.y0m=some Fn.y0m:=by kernel_rfl
theorem y4i:cFunc Proofs.Tryz.prog brs [(0,0,[1,2,4]),(1,0,[1,2,4,6]),(2,0,[1,2,4,6,18]),(3,0,[4,5]),(4,0,[1,2,4,7]),(5,0,[1,2,4,39]),(6,0,[4,5]),(7,0,[1,2,4,9]),(8,0,[1,2,4,9,46,47]),(9,0,[1,2,4,9,46,47,48]),(10,0,[1,2,4,9,10,46,47]),(11,0,[1,2,4,9,46,47,54]),(12,0,[1,2,4,9,11,46,47]),(13,4,[1,2,4,9,46,47]),(14,0,[1,2,4,9,46,47]),(15,0,[4,9,13,14]),(16,0,[4,9,13,89]),(17,0,[4,5]),(18,0,[4,9]),(19,0,[4,5])] Id.y4i=some Fn.y4i:=by kernel_rfl
theorem y1a:cFunc Proofs.Tryz.prog brs [(0,0,[1,2,3,4,5,6,7]),(1,0,[1,2,3,4,5,6,7,8,9]),(2,0,[1,2,3,4,5,6,7,8,9,10,11]),(3,0,[1,2,3,4,5,6,7,8,9,10,11,12,13]),(4,0,[1,2,3,4,5,6,7,8,9,10,11,12,13,14,15]),(5,0,[1,2,3,4,5,6,7,8,9,10,11,12,13,14,15,16,17]),(6,0,[2,3,4,5,6,7,8,9,10,11,12,13,14,15,16,17,18,19]),(7,4,[2,3,4,5,6,7])] Id.y1a=some Fn.y1a:=by kernel_rfl
theorem y0l:cFunc Proofs.Tryz.prog brs [(0,0,[1,2,3]),(1,0,[1,2,3,12]),(2,0,[1,2,3]),(3,0,[1,2,3,4]),(4,0,[1,2,3,4,6]),(5,4,[1,2,3,4,6,7,8]),(6,0,[1,2,3,4,6,7,8,9]),(7,0,[1,2,3,4,6,7,8,9,33]),(9,0,[1,2,3,4,6,7,8,9]),(10,0,[1,2,3,4,6,7,8,9]),(8,0,[1,2,3,4,6,7,8,9]),(11,4,[2,3])] Id.y0l=some Fn.y0l:=by kernel_rfl
theorem y2k:cFunc Proofs.Tryz.prog brs [(0,0,[4,5,6,7,8,10]),(1,0,[4,5,6,7,8,10,12]),(2,0,[4,5,6,7,8,10,12,17]),(3,0,[10,11]),(4,0,[4,5,6,7,8,10,25]),(5,0,[10,11]),(6,0,[10,11])] Id.y2k=some Fn.y2k:=by kernel_rfl
theorem y0h:cFunc Proofs.Tryz.prog brs [(0,0,[2,3,4]),(1,0,[2,3,4,5,6]),(2,0,[4])] Id.y0h=some Fn.y0h:=by kernel_rfl
theorem y08:cFunc Proofs.Tryz.prog brs [(0,0,[2,3,4]),(1,0,[4])] Id.y08=some Fn.y08:=by kernel_rfl
theorem y4a:cFunc Proofs.Tryz.prog brs [(0,0,[3,4,5,6]),(1,0,[3,4,5,6,10]),(2,0,[3,4,5,6,10,15]),(3,0,[8,9]),(4,0,[8,9])] Id.y4a=some Fn.y4a:=by kernel_rfl
theorem y5c:cFunc Proofs.Tryz.prog brs [(0,0,[1,2]),(1,0,[2])] Id.y5c=some Fn.y5c:=by kernel_rfl
theorem y1z:cFunc Proofs.Tryz.prog brs [(0,0,[2,3]),(1,0,[4])] Id.y1z=some Fn.y1z:=by kernel_rfl
theorem y1f:cFunc Proofs.Tryz.prog brs [(0,0,[2,3,4]),(1,0,[4])] Id.y1f=some Fn.y1f:=by kernel_rfl
theorem y3g:cFunc Proofs.Tryz.prog brs [(0,0,[0]),(1,0,[0,4]),(2,0,[0,4,5]),(3,0,[0,4,5,6]),(4,0,[0,4,5,6,12]),(6,0,[0,4,5,6,7,8]),(7,0,[0,4,5,6,8]),(8,0,[0,4,5,6]),(5,0,[0,4,5,6]),(9,0,[2,3])] Id.y3g=some Fn.y3g:=by kernel_rfl
theorem y4j:cFunc Proofs.Tryz.prog brs [(0,0,[3,4,5,6,7,10]),(1,0,[7,10,12,13]),(2,0,[7,10,12,13,24]),(3,0,[10,11]),(4,0,[10,11])] Id.y4j=some Fn.y4j:=by kernel_rfl
theorem y0c:cFunc Proofs.Tryz.prog brs [(0,0,[1]),(1,0,[2])] Id.y0c=some Fn.y0c:=by kernel_rfl
theorem y1v:cFunc Proofs.Tryz.prog brs [(0,0,[2,3]),(1,0,[4])] Id.y1v=some Fn.y1v:=by kernel_rfl
theorem y47:cFunc Proofs.Tryz.prog brs [(0,0,[1]),(1,0,[1,3]),(2,0,[1,3,41]),(3,0,[2]),(4,0,[3,43,44,45]),(5,0,[3,43,44,45,46]),(6,0,[3,5,43,44,45]),(7,0,[3,5,6,43,44,45]),(8,0,[3,43,44,45,74]),(9,0,[2]),(10,0,[3,43,44,45]),(11,0,[2])] Id.y47=some Fn.y47:=by kernel_rfl
theorem y14:cFunc Proofs.Tryz.prog brs [(0,0,[3,4,5]),(1,0,[3,4,5,18]),(2,0,[6]),(3,0,[3,4,5,7]),(4,0,[3,4,5,7,8]),(5,0,[6])] Id.y14=some Fn.y14:=by kernel_rfl
theorem y0u:cFunc Proofs.Tryz.prog brs [(0,0,[3,4,6,7,8,11]),(1,0,[3,4,6,7,8,11,14]),(2,0,[3,4,6,7,8,11,14,23]),(3,0,[12,13]),(4,0,[3,4,6,7,8,11,27]),(5,0,[12,13]),(6,0,[3,4,6,7,8,11,34]),(7,0,[12,13]),(8,0,[3,4,6,7,8,11,38]),(9,0,[12,13]),(10,0,[3,4,6,7,8,11,15]),(11,0,[4,6,7,8,11,15,53,54,55]),(12,0,[4,6,7,8,11,15,53,54,55,56]),(13,0,[4,6,7,8,11,15,16,17,53,54,55]),(14,0,[4,6,7,8,11,15,16,17,18,53,54,55]),(15,0,[4,6,7,8,11,15,17,18,19,53,54,55]),(16,0,[4,6,7,8,11,15,17,18,19,53,54,55,64]),(17,0,[4,6,7,8,11,15,18,53,54,55]),(18,0,[4,6,7,8,11,15,18,53,54,55,78]),(19,0,[4,6,7,8,11,15,18,53,54,55]),(20,0,[4,6,7,8,11,15,18,53,54,55]),(21,0,[4,6,7,8,11,15,18,53,54,55]),(22,0,[4,6,7,8,11,15,53,54,55]),(23,0,[4,6,7,8,11,15,53,54,55]),(24,0,[12,13])] Id.y0u=some Fn.y0u:=by kernel_rfl
theorem y0b:cFunc Proofs.Tryz.prog brs [(0,0,[2,3]),(1,0,[4])] Id.y0b=some Fn.y0b:=by kernel_rfl
theorem y0f:cFunc Proofs.Tryz.prog brs [(0,0,[1]),(1,0,[2])] Id.y0f=some Fn.y0f:=by kernel_rfl
theorem y19:cFunc Proofs.Tryz.prog brs [(0,0,[3,4,5,6]),(1,0,[4,5,6,9]),(2,0,[4,5,9,10,11]),(3,0,[4,5,9,11,12]),(4,0,[4,5,12,13]),(5,0,[8])] Id.y19=some Fn.y19:=by kernel_rfl
theorem y1i:cFunc Proofs.Tryz.prog brs [(0,0,[4,5,6,7,8,10]),(1,0,[4,5,6,7,8,10,11]),(2,0,[5,7,8,10,11,12]),(3,0,[5,7,10,11,12,13]),(4,0,[5,7,10,13]),(5,0,[10])] Id.y1i=some Fn.y1i:=by kernel_rfl
theorem y11:cFunc Proofs.Tryz.prog brs [(0,0,[3,4,5,6,7,8,9]),(1,0,[3,4,5,6,7,8,9,15]),(2,0,[3,4,5,6,7,8,9,15,16]),(3,0,[3,4,5,6,7,8,9,15,16,21]),(5,0,[3,4,5,6,7,8,9,15,16,17]),(6,0,[3,4,5,6,7,8,9,15,16,17,30]),(7,0,[3,4,5,6,7,8,9,15,16,17]),(8,0,[3,4,5,6,7,8,9,15,16,17,44]),(9,0,[3,4,5,6,7,8,9,15,16,17]),(10,0,[3,4,5,6,7,8,9,15,16,17]),(11,0,[3,4,5,6,7,8,9,15,16,17]),(12,0,[3,4,5,6,7,8,9,15,16]),(4,0,[3,4,5,6,7,8,9,15,16]),(13,0,[14])] Id.y11=some Fn.y11:=by kernel_rfl
theorem y24:cFunc Proofs.Tryz.prog brs [(0,0,[0,2]),(1,0,[2])] Id.y24=some Fn.y24:=by kernel_rfl
theorem y2x:cFunc Proofs.Tryz.prog brs [(0,0,[0]),(1,0,[0,3]),(2,0,[0,3,4]),(3,0,[0,3,4,8]),(5,0,[0,3,4]),(4,0,[0,3,4]),(6,0,[2])] Id.y2x=some Fn.y2x:=by kernel_rfl
theorem y0s:cFunc Proofs.Tryz.prog brs [(0,0,[0,2]),(1,0,[2])] Id.y0s=some Fn.y0s:=by kernel_rfl
theorem y3q:cFunc Proofs.Tryz.prog brs [(0,0,[1,2]),(1,0,[4])] Id.y3q=some Fn.y3q:=by kernel_rfl
theorem y4l:cFunc Proofs.Tryz.prog brs [(0,0,[0,3,4]),(1,0,[0,3,4,15]),(2,0,[4,5]),(3,0,[4,5])] Id.y4l=some Fn.y4l:=by kernel_rfl
theorem y3s:cFunc Proofs.Tryz.prog brs [(0,0,[1,2]),(1,0,[1,2,5]),(2,0,[1,2,5,6]),(3,0,[2,5,6,22,23,24]),(4,0,[2,5,6,22,23,24,25]),(5,0,[2,5,6,8,22,23,24]),(6,0,[2,5,6,22,23,24]),(7,0,[2,5,6,22,23,24]),(8,0,[2,5,6,22,23,24]),(9,0,[4])] Id.y3s=some Fn.y3s:=by kernel_rfl
theorem y0r:cFunc Proofs.Tryz.prog brs [(0,0,[0]),(1,0,[0,4]),(2,0,[2]),(3,0,[2])] Id.y0r=some Fn.y0r:=by kernel_rfl
theorem y3c:cFunc Proofs.Tryz.prog yb2 [(0,0,[1,2,5]),(1,0,[1,2,5,6]),(2,0,[5,6]),(3,0,[5,6,7]),(4,0,[5,6,7]),(5,0,[4,5])] Id.y3c=some Fn.y3c:=by kernel_rfl
theorem y0z:cFunc Proofs.Tryz.prog brs [(0,0,[1,2]),(1,0,[2])] Id.y0z=some Fn.y0z:=by kernel_rfl
theorem y6d:cFunc Proofs.Tryz.prog brs [(0,0,[1]),(1,0,[1,10]),(2,0,[2,3]),(3,0,[1,4]),(4,0,[1,4,21]),(5,0,[2,3]),(6,0,[1,4,5]),(7,0,[1,4,5,26,27]),(8,0,[1,4,5,26,27,28]),(9,0,[1,4,5,6,26,27]),(10,0,[1,4,5,6,7,26,27]),(11,0,[1,4,5,6,7,26,27,38]),(12,0,[2,3]),(13,0,[1,4,5,6,7,26,27]),(14,0,[1,4,5,26,27]),(15,0,[1,4,5,26,27]),(16,0,[2,3])] Id.y6d=some Fn.y6d:=by kernel_rfl
theorem y2p:cFunc Proofs.Tryz.prog yb1 [(0,0,[1,2,3,6]),(1,0,[1,2,3,6,7]),(2,0,[1,2,3,6,7,21,22,23]),(3,0,[1,2,3,6,7,21,22,23,24]),(4,0,[1,2,3,6,7,9,21,22,23]),(5,5,[1,2,3,6,7,21,22,23]),(6,0,[1,2,3,6,7,21,22,23]),(7,0,[2,3,6,7,41,42,43]),(8,0,[2,3,6,7,41,42,43,44]),(9,0,[2,3,6,7,10,11,41,42,43]),(10,0,[2,3,6,7,41,42,43]),(11,0,[2,3,6,7,41,42,43]),(12,0,[6])] Id.y2p=some Fn.y2p:=by kernel_rfl
theorem y13:cFunc Proofs.Tryz.prog brs [(0,0,[1,2]),(1,0,[2])] Id.y13=some Fn.y13:=by kernel_rfl
theorem y0w:cFunc Proofs.Tryz.prog brs [(0,0,[2,3,4]),(1,0,[4])] Id.y0w=some Fn.y0w:=by kernel_rfl
theorem y09:cFunc Proofs.Tryz.prog brs [(0,0,[2,3,4]),(1,0,[4])] Id.y09=some Fn.y09:=by kernel_rfl
theorem y1l:cFunc Proofs.Tryz.prog brs [(0,0,[2,3,4]),(1,0,[4])] Id.y1l=some Fn.y1l:=by kernel_rfl
theorem y6q:cFunc Proofs.Tryz.prog brs [(0,0,[0,1,4]),(1,0,[0,1,4,7]),(2,0,[4,5]),(3,0,[4,5])] Id.y6q=some Fn.y6q:=by kernel_rfl
theorem y4f:cFunc Proofs.Tryz.prog brs [(0,0,[0,1,4]),(1,0,[4])] Id.y4f=some Fn.y4f:=by kernel_rfl
theorem y0n:cFunc Proofs.Tryz.prog brs [(0,0,[1,2]),(1,0,[1,5]),(2,0,[4]),(3,0,[24]),(4,0,[4]),(5,0,[4])] Id.y0n=some Fn.y0n:=by kernel_rfl
theorem y1m:cFunc Proofs.Tryz.prog brs [(0,0,[3,4,5,6]),(1,0,[8])] Id.y1m=some Fn.y1m:=by kernel_rfl
theorem y21:cFunc Proofs.Tryz.prog brs [(0,0,[4,5,6,7,8,10]),(1,0,[4,5,6,7,8,10,11]),(2,0,[5,7,8,10,11,12]),(3,0,[5,7,10,13]),(4,0,[10])] Id.y21=some Fn.y21:=by kernel_rfl
theorem y28:cFunc Proofs.Tryz.prog brs [(0,0,[1]),(1,0,[2])] Id.y28=some Fn.y28:=by kernel_rfl
theorem y25:cFunc Proofs.Tryz.prog brs [(0,0,[1,2,4]),(1,0,[1,2,4,5]),(2,0,[1,2,4,5,18]),(3,0,[1,2,4,5]),(4,0,[1,2,4]),(5,0,[4])] Id.y25=some Fn.y25:=by kernel_rfl
theorem y1n:cFunc Proofs.Tryz.prog brs [(0,0,[1,2,4]),(1,0,[4])] Id.y1n=some Fn.y1n:=by kernel_rfl
theorem y2q:cFunc Proofs.Tryz.prog brs [(0,0,[2,3,4]),(1,0,[2,3,4,5]),(2,0,[4]),(3,0,[2,3,4,19]),(4,0,[4]),(5,0,[4])] Id.y2q=some Fn.y2q:=by kernel_rfl
theorem y2n:cFunc Proofs.Tryz.prog brs [(0,0,[0,1]),(1,0,[0,1,5]),(2,0,[1,5,17,18,19]),(3,0,[1,5,17,18,19,20]),(4,0,[1,5,6,7,17,18,19]),(5,0,[1,5,6,7,8,17,18,19]),(6,0,[1,5,6,7,8,17,18,19,24,25,26]),(7,0,[1,5,6,7,8,17,18,19,24,25,26,27]),(8,0,[1,5,6,7,8,9,10,17,18,19,24,25,26]),(9,0,[1,5,6,7,8,9,17,18,19,24,25,26]),(10,0,[1,5,6,7,8,17,18,19,24,25,26]),(11,0,[1,5,6,7,8,17,18,19,24,25,26]),(12,0,[1,5,6,7,8,17,18,19,24,25,26]),(13,0,[1,5,17,18,19]),(14,0,[1,5,17,18,19]),(15,0,[4])] Id.y2n=some Fn.y2n:=by kernel_rfl
theorem y0v:cFunc Proofs.Tryz.prog brs [(0,0,[0,1,4]),(1,0,[4])] Id.y0v=some Fn.y0v:=by kernel_rfl
theorem y2t:cFunc Proofs.Tryz.prog brs [(0,0,[2,3]),(1,0,[2,3,5]),(2,0,[4]),(3,0,[2,3,15]),(4,0,[4]),(5,0,[2,3,21]),(6,0,[4]),(7,0,[4])] Id.y2t=some Fn.y2t:=by kernel_rfl
theorem y4r:cFunc Proofs.Tryz.prog brs [(0,0,[3,4,5,6,7,10]),(1,0,[3,4,5,6,7,10,12]),(2,0,[3,4,5,6,10,61]),(3,0,[10,11]),(4,0,[3,4,5,6,10,76]),(5,0,[10,11]),(6,0,[10,11])] Id.y4r=some Fn.y4r:=by kernel_rfl
theorem y27:cFunc Proofs.Tryz.prog brs [(0,0,[2,3,4]),(1,0,[2,3,4,5]),(2,0,[2,3,4,5,6]),(3,0,[2,3,4,5,6,20,21]),(4,0,[2,3,4,5,6,20,21,22]),(5,0,[2,3,4,5,6,20,21]),(6,0,[2,3,4,5,6,20,21]),(7,0,[2,3,4,5,6,7,8,20,21]),(8,0,[2,3,4,5,6,7,20,21,55]),(9,0,[2,3,4,5,6,20,21]),(10,0,[2,3,4,5,6,20,21]),(11,0,[4,9]),(12,0,[4])] Id.y27=some Fn.y27:=by kernel_rfl
theorem y5f:cFunc Proofs.Tryz.prog brs [(0,0,[0,2]),(1,0,[2])] Id.y5f=some Fn.y5f:=by kernel_rfl
theorem y57:cFunc Proofs.Tryz.prog brs [(0,0,[0,2]),(1,0,[2])] Id.y57=some Fn.y57:=by kernel_rfl
theorem y31:cFunc Proofs.Tryz.prog brs [(0,0,[3,4,5,6]),(1,0,[6])] Id.y31=some Fn.y31:=by kernel_rfl
theorem y2r:cFunc Proofs.Tryz.prog brs [(0,0,[1]),(1,0,[1,3]),(2,0,[2]),(3,0,[6]),(4,0,[2]),(5,0,[2])] Id.y2r=some Fn.y2r:=by kernel_rfl
theorem y3t:cFunc Proofs.Tryz.prog brs [(0,0,[1]),(1,0,[1,3]),(2,0,[1,3,10]),(3,0,[1,3]),(4,0,[1,3,16]),(5,0,[3]),(6,0,[2])] Id.y3t=some Fn.y3t:=by kernel_rfl
theorem y3i:cFunc Proofs.Tryz.prog brs [(0,0,[1]),(1,0,[1,3]),(2,0,[3,4]),(3,0,[3,4,12]),(4,0,[2]),(5,0,[2])] Id.y3i=some Fn.y3i:=by kernel_rfl
theorem y38:cFunc Proofs.Tryz.prog brs [(0,0,[2,3,4]),(1,0,[2,3,4,9]),(2,0,[4]),(3,0,[2,3,4,23]),(4,0,[4]),(5,0,[4])] Id.y38=some Fn.y38:=by kernel_rfl
theorem y1s:cFunc Proofs.Tryz.prog brs [(0,0,[0,2]),(1,0,[0,2,3]),(2,0,[0,2,3]),(3,0,[0,2,3,9]),(4,0,[0,2,3,4]),(5,0,[0,2,3,4,13]),(6,0,[0,2,3,4]),(7,0,[0,2,3]),(8,0,[0,2,3]),(9,0,[2])] Id.y1s=some Fn.y1s:=by kernel_rfl
theorem y2d:cFunc Proofs.Tryz.prog brs [(0,0,[2,3]),(1,0,[2,3,9]),(2,0,[11]),(3,0,[4]),(4,0,[4]),(5,0,[2,3,13]),(6,0,[4]),(7,0,[4])] Id.y2d=some Fn.y2d:=by kernel_rfl
theorem y2l:cFunc Proofs.Tryz.prog brs [(0,0,[2,3,4]),(1,0,[4])] Id.y2l=some Fn.y2l:=by kernel_rfl
theorem y5k:cFunc Proofs.Tryz.prog brs [(0,0,[1]),(1,0,[1,18]),(2,0,[2]),(3,0,[1,20,21,22]),(4,0,[1,20,21,22,23]),(5,0,[1,4,20,21,22]),(6,0,[1,20,21,22,31]),(7,0,[2]),(8,0,[1,20,21,22]),(9,0,[2])] Id.y5k=some Fn.y5k:=by kernel_rfl
theorem y3o:cFunc Proofs.Tryz.prog brs [(0,0,[0,1]),(1,0,[3])] Id.y3o=some Fn.y3o:=by kernel_rfl
theorem y0j:cFunc Proofs.Tryz.prog brs [(0,0,[0,1]),(1,0,[4])] Id.y0j=some Fn.y0j:=by kernel_rfl
theorem y3f:cFunc Proofs.Tryz.prog brs [(0,0,[1,2]),(1,0,[2])] Id.y3f=some Fn.y3f:=by kernel_rfl
theorem y1w:cFunc Proofs.Tryz.prog brs [(0,0,[2,3,4]),(1,0,[4])] Id.y1w=some Fn.y1w:=by kernel_rfl
theorem y18:cFunc Proofs.Tryz.prog brs [(0,0,[2,3,4]),(1,0,[4])] Id.y18=some Fn.y18:=by kernel_rfl
theorem y0d:cFunc Proofs.Tryz.prog brs [(0,0,[1,2]),(1,0,[1,2,7]),(2,0,[2]),(3,0,[2])] Id.y0d=some Fn.y0d:=by kernel_rfl
theorem y0k:cFunc Proofs.Tryz.prog brs [(0,0,[0,2]),(1,0,[0,2,3]),(2,0,[0,2,3,4]),(3,0,[0,2,3,4,8]),(5,0,[0,2,3,4,21]),(6,0,[0,2,3,4]),(4,0,[0,2,3,4]),(7,0,[2])] Id.y0k=some Fn.y0k:=by kernel_rfl
theorem y1h:cFunc Proofs.Tryz.prog brs [(0,0,[2,3,4]),(1,0,[2,3,4,5]),(2,0,[2,3,4,5,6]),(3,0,[2,4,5,6,7]),(4,0,[2,4,5,6,7,18]),(6,0,[2,4,5,6,7]),(7,0,[2,4,5,6,25]),(8,0,[2,4,5,6,7]),(5,0,[2,4,5,6,7]),(9,0,[4])] Id.y1h=some Fn.y1h:=by kernel_rfl
theorem y1p:cFunc Proofs.Tryz.prog brs [(0,0,[2,3,4,6]),(1,0,[2,3,6,7]),(2,0,[2,3,6,7,20]),(3,0,[6]),(4,0,[2,6,7,8]),(5,0,[2,6,7,8,9]),(7,0,[2,6,7,8,9,10]),(8,0,[2,6,7,8,9,10,52]),(9,0,[6]),(6,0,[2,6,7,8,9])] Id.y1p=some Fn.y1p:=by kernel_rfl
theorem y0x:cFunc Proofs.Tryz.prog brs [(0,0,[0,2]),(1,0,[0,2,3]),(2,0,[0,2,3,4]),(3,0,[0,2,3,4,8]),(5,0,[0,2,3,4,21]),(6,0,[0,2,3,4]),(4,0,[0,2,3,4]),(7,0,[2])] Id.y0x=some Fn.y0x:=by kernel_rfl
theorem y1q:cFunc Proofs.Tryz.prog brs [(0,0,[2,3,4]),(1,0,[4])] Id.y1q=some Fn.y1q:=by kernel_rfl
theorem y3p:cFunc Proofs.Tryz.prog brs [(0,0,[1,2]),(1,0,[2])] Id.y3p=some Fn.y3p:=by kernel_rfl
theorem y5o:cFunc Proofs.Tryz.prog brs [(0,0,[1,2]),(1,0,[2])] Id.y5o=some Fn.y5o:=by kernel_rfl
theorem y2f:cFunc Proofs.Tryz.prog brs [(0,0,[0]),(1,0,[0,4]),(2,0,[2]),(3,0,[2])] Id.y2f=some Fn.y2f:=by kernel_rfl
theorem y5l:cFunc Proofs.Tryz.prog brs [(0,0,[0,1,4]),(1,0,[0,1,4,5]),(2,0,[0,1,4,5,14]),(3,0,[4]),(4,0,[1,4,5]),(5,0,[1,4,5,6]),(6,0,[1,4,5,6,30]),(7,5,[4]),(8,0,[4,5,7]),(9,5,[4])] Id.y5l=some Fn.y5l:=by kernel_rfl
theorem y3u:cFunc Proofs.Tryz.prog ycv [(0,0,[1,3,4,6]),(1,0,[1,3,4,6,15,16,17]),(2,0,[1,3,4,6,15,16,17,18]),(3,0,[1,3,4,6,9,10,15,16,17]),(4,0,[1,3,4,6,9,10,11,15,16,17]),(5,0,[1,3,4,6,9,10,11,15,16,17,22,23,24]),(6,0,[1,3,4,6,9,10,11,15,16,17,22,23,24,25]),(7,0,[1,3,4,6,9,10,11,13,15,16,17,22,23,24]),(8,0,[1,3,4,6,9,10,11,15,16,17,22,23,24]),(9,0,[1,3,4,6,9,10,11,15,16,17,22,23,24]),(10,5,[1,3,4,6,15,16,17]),(11,0,[1,3,4,6,15,16,17]),(12,0,[8])] Id.y3u=some Fn.y3u:=by kernel_rfl
theorem y60:cFunc Proofs.Tryz.prog brs [(0,0,[0,1,2]),(1,0,[1,2,7]),(2,0,[7]),(3,0,[6])] Id.y60=some Fn.y60:=by kernel_rfl
theorem y36:cFunc Proofs.Tryz.prog brs [(0,0,[1,2]),(1,0,[2])] Id.y36=some Fn.y36:=by kernel_rfl
theorem y1d:cFunc Proofs.Tryz.prog brs [(0,0,[2,3,4]),(1,0,[2,3,4,11]),(2,0,[2,3,4]),(3,0,[2,3,4,5]),(4,0,[2,3,4,5,29]),(5,0,[4]),(6,0,[2,3,4,5,6]),(7,0,[2,4,6,8]),(8,0,[4])] Id.y1d=some Fn.y1d:=by kernel_rfl
theorem y1o:cFunc Proofs.Tryz.prog brs [(0,0,[3,4,5,6]),(1,0,[3,4,5,6,11]),(2,0,[4,5]),(3,0,[8])] Id.y1o=some Fn.y1o:=by kernel_rfl
theorem y1u:cFunc Proofs.Tryz.prog brs [(0,0,[1,2]),(1,0,[2])] Id.y1u=some Fn.y1u:=by kernel_rfl
theorem y0g:cFunc Proofs.Tryz.prog brs [(0,0,[2,3,4,6]),(1,0,[2,3,6,7]),(2,0,[2,3,6,7,23]),(3,0,[6]),(4,0,[3,6,7,8,9]),(5,0,[3,6,7,8,9,10]),(6,4,[3,6,7,8,9,10,11,12]),(7,5,[3,6,7,8,9,10,11,12,36]),(8,0,[3,6,7,8,9,10,11,12]),(9,0,[3,6,7,8,9,10,11,12,46]),(10,0,[3,6,7,8,9,10,11,12,13]),(11,5,[3,6,7,8,9,10,11,12,13,58]),(12,0,[3,6,7,8,9,10,11,12]),(13,0,[3,6,7,8,9,10,11,12]),(14,0,[6])] Id.y0g=some Fn.y0g:=by kernel_rfl
theorem y0y:cFunc Proofs.Tryz.prog brs [(0,0,[1,2]),(1,0,[2])] Id.y0y=some Fn.y0y:=by kernel_rfl
theorem y17:cFunc Proofs.Tryz.prog brs [(0,0,[2,3,4]),(1,0,[4,5]),(2,0,[4])] Id.y17=some Fn.y17:=by kernel_rfl
theorem y3b:cFunc Proofs.Tryz.prog brs [(0,0,[0,1]),(1,0,[0,1,12]),(2,0,[0,1]),(3,0,[0,1,5]),(4,0,[0,1,5,6]),(5,0,[0,1,5,6,20,21]),(6,0,[0,1,5,6,20,21,22]),(7,0,[0,1,5,6,7,20,21]),(8,0,[0,1,5,6,7,20,21]),(9,0,[0,1,5,6,7,20,21,34]),(10,0,[0,1,5,6,7,20,21]),(11,0,[0,1,5,6,20,21]),(12,0,[0,1,5,6,20,21]),(13,0,[0,1,5,6,20,21]),(14,0,[5]),(15,0,[4])] Id.y3b=some Fn.y3b:=by kernel_rfl
theorem y2i:cFunc Proofs.Tryz.prog brs [(0,0,[0]),(1,0,[2])] Id.y2i=some Fn.y2i:=by kernel_rfl
theorem y49:cFunc Proofs.Tryz.prog brs [(0,0,[0,1]),(1,0,[0,1,11]),(2,0,[0,1,19]),(3,0,[5,6]),(4,0,[5,6,25]),(5,0,[5,6]),(6,0,[4]),(7,0,[1,8]),(8,0,[0,1]),(9,0,[4])] Id.y49=some Fn.y49:=by kernel_rfl
theorem y1j:cFunc Proofs.Tryz.prog brs [(0,0,[0,1]),(1,0,[0,1,15]),(2,0,[4,5]),(3,0,[0,1,21]),(4,0,[4,5]),(5,0,[0,1,6]),(6,0,[0,6,7]),(7,0,[0,6,7,8]),(8,0,[0,6,7,8,9]),(9,0,[0,6,7,8,9]),(10,0,[0,6,7,8,9]),(11,0,[6,7,8,9,10]),(12,0,[6,7,8,9,10,11]),(13,0,[6,7,8,9,10,11,68]),(15,0,[6,7,8,9,10,11,12]),(16,0,[6,7,8,9,10,11,13,14]),(17,0,[6,7,8,9,10,11,13,14,127]),(18,0,[6,7,8,9,10,11,13,14]),(19,0,[6,7,8,9,10,11,13,14]),(20,0,[6,7,8,9,10,11,13,14,139]),(21,0,[6,7,8,9,10,11,13,144]),(22,0,[6,7,8,9,10,11,13]),(23,0,[6,7,8,9,10,11,13]),(24,0,[6,7,8,9,10,11]),(14,0,[6,7,8,9,10,11]),(25,0,[4,5])] Id.y1j=some Fn.y1j:=by kernel_rfl
theorem y3y:cFunc Proofs.Tryz.prog brs [(0,0,[0,1]),(1,0,[0,1,5]),(2,0,[0,1,5,6]),(3,0,[0,1,5,6,13,14]),(4,0,[0,1,5,6,13,14,15]),(5,0,[0,1,5,6,7,13,14]),(6,0,[0,1,5,6,7,8,13,14]),(7,0,[0,1,5,6,7,8,13,14,20]),(8,0,[0,1,5,6,7,8,13,14]),(9,0,[0,1,5,6,13,14]),(10,0,[0,1,5,6,13,14]),(11,0,[4])] Id.y3y=some Fn.y3y:=by kernel_rfl
theorem y20:cFunc Proofs.Tryz.prog brs [(0,0,[0,1]),(1,0,[0,1,10]),(2,0,[15]),(3,0,[4]),(4,0,[4]),(5,0,[0,1,5]),(6,0,[0,1,5,20]),(8,0,[0,1,5,31]),(9,0,[40]),(10,0,[4]),(11,0,[4]),(7,0,[0,1,5]),(12,0,[4])] Id.y20=some Fn.y20:=by kernel_rfl
theorem y12:cFunc Proofs.Tryz.prog brs [(0,0,[0]),(1,0,[0,3]),(2,0,[0,3,15]),(3,0,[0,3]),(4,0,[2])] Id.y12=some Fn.y12:=by kernel_rfl
theorem y45:cFunc Proofs.Tryz.prog brs [(0,0,[2,3,4]),(1,0,[2,3,4,8]),(2,0,[4,5]),(3,0,[4,5])] Id.y45=some Fn.y45:=by kernel_rfl
theorem y5i:cFunc Proofs.Tryz.prog brs [(0,0,[1,2,4]),(1,0,[1,2,4,8]),(2,0,[4,5]),(3,0,[1,2,4,16]),(4,0,[4,5]),(5,0,[1,4,6]),(6,0,[4,5])] Id.y5i=some Fn.y5i:=by kernel_rfl
theorem y5e:cFunc Proofs.Tryz.prog brs [(0,0,[0,1,4]),(1,0,[0,1,4,5]),(2,0,[0,4,5,8,9,10]),(3,0,[0,4,5,8,9,10,11]),(4,0,[0,4,5,6,7,8,9,10]),(5,0,[0,4,5,7,8,9,10,22]),(6,0,[0,4,5,8,9,10]),(7,0,[0,4,5,8,9,10]),(8,0,[4])] Id.y5e=some Fn.y5e:=by kernel_rfl
theorem y4s:cFunc Proofs.Tryz.prog brs [(0,0,[2,3]),(1,0,[4])] Id.y4s=some Fn.y4s:=by kernel_rfl
theorem y4o:cFunc Proofs.Tryz.prog brs [(0,0,[2,3]),(1,0,[4])] Id.y4o=some Fn.y4o:=by kernel_rfl
theorem y2e:cFunc Proofs.Tryz.prog brs [(0,0,[0]),(1,0,[0,10]),(2,0,[2]),(3,0,[0,3]),(4,0,[0,3,13]),(5,0,[3,4,5]),(6,0,[3,4,6]),(7,0,[3,4,6,7]),(8,0,[3,4,6,7,31]),(10,0,[3,4,6,7]),(11,0,[3,4,6,7]),(9,0,[3,4,6,7]),(12,0,[0,3]),(13,0,[3]),(14,0,[2])] Id.y2e=some Fn.y2e:=by kernel_rfl
theorem y2c:cFunc Proofs.Tryz.prog brs [(0,0,[1]),(1,0,[1,10]),(2,0,[2]),(3,0,[1,3]),(4,0,[1,3,4]),(5,0,[1,3,4,15]),(7,0,[1,3,4,5]),(8,0,[1,3,4,5,6]),(9,0,[1,3,4,5,6,24]),(11,0,[1,3,4,5,6]),(12,0,[1,3,4,5,6]),(10,0,[1,3,4,5,6]),(6,0,[1,3,4]),(13,0,[1,3,39]),(14,0,[1,3]),(15,0,[3,43]),(16,0,[2]),(17,0,[2])] Id.y2c=some Fn.y2c:=by kernel_rfl
theorem y0p:cFunc Proofs.Tryz.prog brs [(0,0,[0,1,4]),(1,0,[4])] Id.y0p=some Fn.y0p:=by kernel_rfl
theorem y3z:cFunc Proofs.Tryz.prog brs [(0,0,[0,1]),(1,0,[0,1,5]),(2,0,[0,1,5,6]),(3,0,[0,1,5,6,7]),(4,0,[0,1,5,6,7,21]),(6,0,[0,1,5,6,7,27]),(7,0,[0,1,5,6,7]),(8,0,[0,1,5,6,7,37]),(9,0,[0,1,5,6,7]),(10,0,[0,1,5,6,7]),(11,0,[0,1,5,6,7]),(5,0,[0,1,5,6,7]),(12,0,[4])] Id.y3z=some Fn.y3z:=by kernel_rfl
theorem y1x:cFunc Proofs.Tryz.prog brs [(0,0,[0,1]),(1,0,[0,1,10]),(2,0,[15]),(3,0,[4]),(4,0,[4]),(5,0,[0,1,5]),(6,0,[0,1,5,20]),(8,0,[0,1,5,31]),(9,0,[40]),(10,0,[4]),(11,0,[4]),(7,0,[0,1,5]),(12,0,[4])] Id.y1x=some Fn.y1x:=by kernel_rfl
theorem y2b:cFunc Proofs.Tryz.prog brs [(0,0,[0,1]),(1,0,[0,1,5]),(2,0,[0,1,5,6]),(3,0,[0,1,5,6,7]),(4,0,[0,1,5,6,7,12]),(6,0,[0,1,5,7,8]),(7,0,[0,1,5,7,8,24]),(8,0,[0,1,5,7,8]),(9,0,[0,1,5,6,7,8]),(10,0,[0,1,5,6,7,8,32]),(11,0,[0,1,5,7,8]),(12,0,[0,1,5,6,7,8]),(13,0,[0,1,5,6,7]),(5,0,[0,1,5,6,7]),(14,0,[4])] Id.y2b=some Fn.y2b:=by kernel_rfl
theorem y2s:cFunc Proofs.Tryz.prog brs [(0,0,[0,1]),(1,0,[0,1,6]),(2,0,[0,1,6,7]),(3,0,[0,1,6,7,8]),(4,0,[0,1,6,7,8,17]),(6,0,[0,1,6,7,8]),(7,0,[0,1,6,7,8,9]),(8,0,[0,1,6,7,8,9,30]),(9,0,[0,1,6,7,8,9]),(10,0,[0,1,6,7,8,9,40]),(11,0,[0,1,6,7,8,9]),(12,0,[0,1,6,7,8,9]),(13,0,[0,1,6,7,8,9,63]),(14,0,[0,1,6,7,8,9]),(15,0,[0,1,6,7,8,9]),(16,0,[0,1,6,7,8]),(5,0,[0,1,6,7,8]),(17,0,[4,5])] Id.y2s=some Fn.y2s:=by kernel_rfl
theorem y0q:cFunc Proofs.Tryz.prog brs [(0,0,[0,1]),(1,0,[0,1,7,8]),(2,0,[0,1,7,8,9]),(3,0,[0,1,5,7,8]),(4,0,[0,1,5,7,8,16]),(5,0,[4]),(6,0,[0,1,7,8]),(7,0,[4])] Id.y0q=some Fn.y0q:=by kernel_rfl
theorem y39:cFunc Proofs.Tryz.prog brs [(0,0,[0,1]),(1,0,[0,1,5]),(2,0,[0,1,5,6]),(3,0,[0,1,5,6,19]),(5,0,[0,1,5,6,7]),(6,0,[0,1,5,6,7,8]),(7,0,[0,1,5,6,7,8,29]),(9,0,[0,1,5,6,8,9]),(10,0,[0,1,5,6,8,9,43]),(11,0,[0,1,5,6,8,9]),(12,0,[0,1,5,6,8,9]),(13,0,[0,1,5,6,7,8]),(8,0,[0,1,5,6,7,8]),(4,0,[0,1,5,6]),(14,0,[4])] Id.y39=some Fn.y39:=by kernel_rfl
theorem y2g:cFunc Proofs.Tryz.prog brs [(0,0,[1,2,4]),(1,0,[2,4,5,6]),(2,0,[2,4,5,20]),(3,0,[2,4,5]),(4,0,[4])] Id.y2g=some Fn.y2g:=by kernel_rfl
theorem y6a:cFunc Proofs.Tryz.prog brs [(0,0,[0,1]),(1,0,[0,1,5]),(2,0,[0,1,5,19,20]),(3,0,[0,1,5,19,20,21]),(4,0,[0,1,5,6,19,20]),(5,0,[0,1,5,19,20]),(6,0,[0,1,5,19,20]),(7,0,[0,5,34,35,36]),(8,0,[0,5,34,35,36,37]),(9,0,[0,5,7,8,34,35,36]),(10,0,[0,5,7,8,9,34,35,36]),(11,0,[0,5,7,8,9,34,35,36,45,46,47]),(12,0,[0,5,7,8,9,34,35,36,45,46,47,48]),(13,0,[0,5,7,8,9,10,11,34,35,36,45,46,47]),(14,0,[0,5,7,8,9,34,35,36,45,46,47]),(15,0,[0,5,7,8,9,34,35,36,45,46,47]),(16,0,[0,5,7,8,34,35,36]),(17,0,[0,5,7,34,35,36]),(18,0,[0,5,34,35,36]),(19,0,[0,5,34,35,36]),(20,0,[4])] Id.y6a=some Fn.y6a:=by kernel_rfl
theorem y32:cFunc Proofs.Tryz.prog brs [(0,0,[0]),(1,0,[0,3]),(2,0,[0,3,14,15,16]),(3,0,[0,3,14,15,16,17]),(4,0,[0,3,4,5,14,15,16]),(5,0,[0,3,4,14,15,16,39]),(6,0,[0,3,14,15,16]),(7,0,[0,3,14,15,16]),(8,0,[0,3,43]),(9,0,[2]),(10,0,[0,3,6]),(11,0,[0,3,6]),(12,0,[0,3,6,69,70]),(13,0,[0,3,6,69,70,71]),(14,0,[0,3,6,7,69,70]),(15,5,[0,3,6,69,70]),(16,0,[0,3,6,69,70]),(17,0,[0,3,6]),(18,0,[0,6]),(19,0,[0,6]),(20,0,[0,6,120]),(21,0,[2]),(22,0,[0,6,124,125,126]),(23,0,[0,6,124,125,126,127]),(24,0,[0,6,8,9,124,125,126]),(25,0,[0,6,8,124,125,126,133]),(26,0,[0,6,8,124,125,126,138,139]),(27,0,[0,6,8,124,125,126,138,139,140]),(28,0,[0,6,8,10,124,125,126,138,139]),(29,0,[0,6,8,10,124,125,126,138,139,153]),(30,0,[0,6,124,125,126]),(31,0,[0,6,8,124,125,126,138,139]),(32,0,[0,6,124,125,126]),(33,0,[]),(34,0,[2])] Id.y32=some Fn.y32:=by kernel_rfl
theorem y2v:cFunc Proofs.Tryz.prog brs [(0,0,[0,1]),(1,0,[0,1,5]),(2,0,[0,1,5,14,15,16]),(3,0,[0,1,5,14,15,16,17]),(4,0,[0,1,5,6,7,14,15,16]),(5,0,[0,1,5,6,8,14,15,16]),(6,0,[0,1,5,6,8,14,15,16,34]),(7,0,[0,1,5,14,15,16]),(8,0,[0,1,5,14,15,16]),(9,0,[4])] Id.y2v=some Fn.y2v:=by kernel_rfl
theorem y4c:cFunc Proofs.Tryz.prog brs [(0,5,[0,1]),(1,0,[0,21,22,23]),(2,0,[0,21,22,23,24]),(3,0,[0,4,5,21,22,23]),(4,0,[0,4,5,21,22,23,28]),(5,0,[0,4,5,21,22,23,28,29]),(6,0,[0,4,5,6,21,22,23,28]),(7,0,[0,4,5,6,7,21,22,23,28]),(8,0,[0,4,5,6,7,21,22,23,28,33]),(9,0,[0,4,5,6,7,21,22,23,28]),(10,0,[0,4,5,21,22,23,28]),(11,0,[0,4,5,21,22,23,28]),(12,0,[0,21,22,23])] Id.y4c=some Fn.y4c:=by kernel_rfl
theorem y3e:cFunc Proofs.Tryz.prog brs [(0,0,[0,1,2]),(1,0,[0,1,2,7]),(2,0,[0,1,2,7,12]),(3,0,[6]),(4,0,[0,1,2,7,8]),(5,0,[0,1,2,7,8,17]),(6,0,[6]),(7,0,[0,1,2])] Id.y3e=some Fn.y3e:=by kernel_rfl
theorem y35:cFunc Proofs.Tryz.prog brs [(0,0,[0]),(1,0,[0,3]),(2,0,[0,3,9,10,11]),(3,0,[0,3,9,10,11,12]),(4,0,[0,3,4,5,9,10,11]),(5,0,[0,3,4,9,10,11,39]),(6,0,[0,3,9,10,11]),(7,0,[0,3,9,10,11]),(8,0,[2])] Id.y35=some Fn.y35:=by kernel_rfl
theorem y34:cFunc Proofs.Tryz.prog brs [(0,0,[0,1]),(1,0,[0,1,5]),(2,0,[0,1,5,6]),(3,0,[0,1,5,6,14,15]),(4,0,[0,1,5,6,14,15,16]),(5,0,[0,1,5,6,7,14,15]),(6,0,[0,1,5,6,7,14,15,29]),(7,0,[0,1,5,6,7,8,14,15]),(8,0,[0,1,5,6,7,8,9,14,15]),(9,0,[0,1,5,6,7,8,14,15,77]),(10,0,[0,1,5,6,14,15]),(11,0,[0,1,5,6,14,15]),(12,0,[4])] Id.y34=some Fn.y34:=by kernel_rfl
theorem y2y:cFunc Proofs.Tryz.prog brs [(0,0,[0,1]),(1,0,[1,5]),(2,0,[1,5,13,14]),(3,0,[1,5,13,14,15]),(4,0,[1,5,6,13,14]),(5,0,[1,5,13,14]),(6,0,[1,5,13,14]),(7,0,[4])] Id.y2y=some Fn.y2y:=by kernel_rfl
theorem y3v:cFunc Proofs.Tryz.prog brs [(0,0,[0,1,4]),(1,0,[0,1,4,10,11,12]),(2,0,[0,1,4,10,11,12,13]),(3,0,[0,1,4,5,6,10,11,12]),(4,0,[0,1,4,5,10,11,12,19]),(5,0,[4]),(6,0,[0,1,4,10,11,12]),(7,0,[4])] Id.y3v=some Fn.y3v:=by kernel_rfl
theorem y5h:cFunc Proofs.Tryz.prog brs [(0,0,[0,1,2,4]),(1,0,[0,1,2,4,15]),(2,0,[4]),(3,0,[0,1,2,4,20,21,22]),(4,0,[0,1,2,4,20,21,22,23]),(5,0,[0,1,2,4,5,6,20,21,22]),(6,0,[0,1,2,4,5,20,21,22,29]),(7,0,[4]),(8,0,[0,1,2,4,20,21,22]),(9,0,[4])] Id.y5h=some Fn.y5h:=by kernel_rfl
theorem y6o:cFunc Proofs.Tryz.prog brs [(0,0,[0]),(1,0,[0])] Id.y6o=some Fn.y6o:=by kernel_rfl
theorem y5w:cFunc Proofs.Tryz.prog brs [(0,0,[0]),(1,0,[0])] Id.y5w=some Fn.y5w:=by kernel_rfl
theorem y3h:cFunc Proofs.Tryz.prog brs [(0,0,[2,3,4]),(1,0,[4,5,6]),(2,0,[4,5,6,19]),(3,0,[4,5,6,7,8]),(4,0,[4,5,6,7,8,9,10]),(5,0,[4,5,6,7,9,35]),(6,0,[4,7,9,37]),(7,0,[4,7,9]),(8,0,[4]),(9,0,[4,6,12]),(10,0,[4,5,6]),(11,0,[4])] Id.y3h=some Fn.y3h:=by kernel_rfl
theorem y2w:cFunc Proofs.Tryz.prog brs [(0,0,[2,3,4]),(1,0,[2,3,4,5]),(2,0,[4])] Id.y2w=some Fn.y2w:=by kernel_rfl
theorem y1e:cFunc Proofs.Tryz.prog brs [(0,0,[1,2,3,4,5]),(1,0,[5])] Id.y1e=some Fn.y1e:=by kernel_rfl
theorem y44:cFunc Proofs.Tryz.prog brs [(0,0,[1,2]),(1,0,[2])] Id.y44=some Fn.y44:=by kernel_rfl
theorem y37:cFunc Proofs.Tryz.prog brs [(0,0,[0]),(1,0,[0,3]),(2,0,[3,6,7,8]),(3,0,[3,6,7,8,9]),(4,0,[3,4,5,6,7,8]),(5,0,[3,6,7,8]),(6,0,[3,6,7,8]),(7,0,[2])] Id.y37=some Fn.y37:=by kernel_rfl
theorem y3k:cFunc Proofs.Tryz.prog brs [(0,0,[0,1]),(1,0,[0,1,6]),(2,0,[0,1,6,7]),(3,0,[0,1,6,7,8]),(4,0,[0,1,6,7,8,16]),(6,0,[0,1,6,7,8]),(7,0,[0,1,6,7,8]),(8,0,[0,1,6,7,8]),(5,0,[0,1,6,7,8]),(9,0,[4,5])] Id.y3k=some Fn.y3k:=by kernel_rfl
theorem y1b:cFunc Proofs.Tryz.prog brs [(0,0,[0]),(1,0,[2])] Id.y1b=some Fn.y1b:=by kernel_rfl
theorem y2z:cFunc Proofs.Tryz.prog brs [(0,0,[0,1]),(1,0,[0,1,5]),(2,0,[1,5]),(3,0,[1,5,6]),(4,0,[1,5,6,25]),(5,0,[1,5,6,7]),(6,0,[5,6,7,8]),(7,0,[5,6,7,8,31]),(9,0,[5,6,7,8]),(8,0,[5,6,7,8]),(10,0,[4])] Id.y2z=some Fn.y2z:=by kernel_rfl
theorem y3x:cFunc Proofs.Tryz.prog brs [(0,0,[0,1,2,3]),(1,0,[0,1,2,3,9,10]),(2,0,[0,1,2,3,9,10,13,14,15]),(3,0,[0,1,2,3,9,10,13,14,15,16]),(4,0,[0,1,2,3,9,10,11,12,13,14,15]),(5,0,[0,1,2,3,9,10,11,13,14,15]),(6,0,[0,1,2,3,9,10,13,14,15]),(7,0,[0,1,2,3,9,10,13,14,15]),(8,0,[0,1,2,3,9,10,13,14,15]),(9,0,[10]),(10,0,[8])] Id.y3x=some Fn.y3x:=by kernel_rfl
theorem y3w:cFunc Proofs.Tryz.prog brs [(0,0,[0,1,2,6]),(1,0,[0,1,2,6,9,10,11]),(2,0,[0,1,2,6,9,10,11,12]),(3,0,[0,1,2,6,7,8,9,10,11]),(4,0,[0,1,2,6,9,10,11]),(5,0,[0,1,2,6,9,10,11]),(6,0,[])] Id.y3w=some Fn.y3w:=by kernel_rfl
theorem y3r:cFunc Proofs.Tryz.prog brs [(0,0,[0,1]),(1,0,[0,1,12]),(2,0,[4]),(3,0,[1,5]),(4,0,[5,6]),(5,0,[5,6,21]),(6,0,[5,6,23,24]),(7,0,[5,6,23,24,25]),(8,0,[5,6,7,23,24]),(9,0,[5,6,7,23,24]),(10,0,[5,6,7,23,24,38]),(11,0,[5,6,23,24]),(12,0,[5,6,23,24]),(13,0,[4])] Id.y3r=some Fn.y3r:=by kernel_rfl
theorem y2h:cFunc Proofs.Tryz.prog brs [(0,0,[0,1,2]),(1,0,[0,1,6]),(2,0,[6,7])] Id.y2h=some Fn.y2h:=by kernel_rfl
theorem y4h:cFunc Proofs.Tryz.prog brs [(0,0,[2,3,4]),(1,0,[4])] Id.y4h=some Fn.y4h:=by kernel_rfl
theorem y4q:cFunc Proofs.Tryz.prog brs [(0,0,[0]),(1,0,[0,9]),(2,0,[2]),(3,0,[0,3]),(4,0,[0,3,4]),(5,0,[0,3,6]),(6,0,[0,3,6,29]),(7,0,[2]),(8,0,[0,3])] Id.y4q=some Fn.y4q:=by kernel_rfl
theorem y6b:cFunc Proofs.Tryz.prog brs [(0,0,[0,2]),(1,0,[2])] Id.y6b=some Fn.y6b:=by kernel_rfl
theorem y1c:cFunc Proofs.Tryz.prog brs [(0,0,[0,2,3]),(1,0,[0,2,3,9]),(3,0,[0,2,3]),(2,0,[0,2,3])] Id.y1c=some Fn.y1c:=by kernel_rfl
theorem y23:cFunc Proofs.Tryz.prog brs [(0,0,[0]),(1,0,[0,14]),(2,0,[0]),(3,0,[2])] Id.y23=some Fn.y23:=by kernel_rfl
theorem y3a:cFunc Proofs.Tryz.prog brs [(0,0,[0,1]),(1,0,[0,1,5]),(2,0,[0,1,5,6]),(3,0,[0,1,5,6,12]),(5,0,[0,1,5,6]),(4,0,[0,1,5,6]),(6,0,[4])] Id.y3a=some Fn.y3a:=by kernel_rfl
theorem y30:cFunc Proofs.Tryz.prog brs [(0,0,[3,4,5]),(1,0,[3,4,5,6]),(2,0,[3,4,5,6,7]),(3,0,[3,4,5,6,7,31,32]),(4,0,[3,4,5,6,7,31,32,33]),(5,0,[3,4,5,6,7,8,31,32]),(6,0,[3,4,5,6,7,31,32]),(7,0,[3,4,5,6,7,31,32]),(8,0,[3,4,5,6,7]),(9,0,[3,4,5,7]),(10,0,[3,4,5,9]),(11,0,[3,4,5,9,69,70]),(12,0,[3,4,5,9,69,70,71]),(13,0,[3,4,5,9,10,69,70]),(14,0,[3,4,5,9,10,69,70,75]),(15,5,[3,4,5,9,69,70]),(16,0,[3,4,5,9,69,70]),(17,5,[3,4,5]),(18,5,[])] Id.y30=some Fn.y30:=by kernel_rfl
theorem y46:cFunc Proofs.Tryz.prog brs [(0,0,[0,1,13,14,15]),(1,0,[0,1,13,14,15,16]),(2,0,[0,1,4,5,13,14,15]),(3,0,[0,1,4,13,14,15,22]),(4,0,[0,4,6]),(5,0,[0,6]),(6,0,[0,6,46,47]),(7,0,[0,6,46,47,48]),(8,0,[0,6,7,46,47]),(9,5,[0,6,46,47]),(10,0,[0,6,46,47]),(11,0,[]),(12,0,[0,1,13,14,15]),(13,0,[0,1,79,80,81]),(14,0,[0,1,79,80,81,82]),(15,0,[0,1,8,9,79,80,81]),(16,0,[0,1,8,79,80,81,88]),(17,0,[0,8]),(18,0,[0,8]),(19,0,[]),(20,0,[0,1,79,80,81])] Id.y46=some Fn.y46:=by kernel_rfl
theorem y43:cFunc Proofs.Tryz.prog yco [(0,0,[0,1,5]),(1,0,[0,1,5,13,14,15]),(2,0,[0,1,5,13,14,15,16]),(3,0,[0,1,5,6,7,13,14,15]),(4,0,[0,1,5,6,13,14,15,22]),(5,0,[0,1,5,13,14,15]),(6,0,[0,1,5,13,14,15]),(7,0,[0,1,5,42,43,44]),(8,0,[0,1,5,42,43,44,45]),(9,0,[0,1,5,8,9,42,43,44]),(10,0,[0,1,5,8,42,43,44,51]),(11,0,[0,1,5,8,42,43,44]),(12,0,[0,1,5,42,43,44]),(13,0,[0,1,5,42,43,44])] Id.y43=some Fn.y43:=by kernel_rfl
theorem y6i:cFunc Proofs.Tryz.prog brs [(0,0,[2,3,4]),(1,0,[4,5]),(2,0,[4])] Id.y6i=some Fn.y6i:=by kernel_rfl
theorem y2u:cFunc Proofs.Tryz.prog brs [(0,0,[1]),(1,0,[1,9]),(2,0,[2,3]),(3,0,[1,4]),(4,0,[1,4,5]),(5,0,[1,4,5,15]),(7,0,[1,4,5]),(6,0,[1,4,5]),(8,0,[2,3])] Id.y2u=some Fn.y2u:=by kernel_rfl
theorem y3l:cFunc Proofs.Tryz.prog brs [(0,0,[0,2]),(1,0,[0,2,4]),(2,0,[0]),(3,0,[0,2]),(4,0,[0,2,8]),(5,0,[0,2]),(6,0,[0,2]),(7,0,[2])] Id.y3l=some Fn.y3l:=by kernel_rfl
theorem y3m:cFunc Proofs.Tryz.prog brs [(0,0,[0,1,2]),(1,0,[8]),(2,0,[6,8]),(3,0,[6,7])] Id.y3m=some Fn.y3m:=by kernel_rfl
theorem y0o:cFunc Proofs.Tryz.prog brs [(0,0,[0]),(1,0,[0,4]),(2,0,[2]),(3,0,[2])] Id.y0o=some Fn.y0o:=by kernel_rfl
theorem y4n:cFunc Proofs.Tryz.prog brs [(0,0,[0]),(1,0,[0,5]),(2,0,[2]),(3,0,[2])] Id.y4n=some Fn.y4n:=by kernel_rfl
theorem y3d:cFunc Proofs.Tryz.prog brs [(0,0,[0,3,4,5,6,8,9,10]),(1,0,[0,3,4,5,6,8,9,10,11]),(2,0,[0,3,4,5,6,8,9,10,11,19]),(3,0,[10]),(4,0,[0,4,5,6,8,9,10,11]),(5,0,[0,4,5,6,8,9,10,11,26,27]),(6,0,[0,4,5,6,8,9,10,11,26,27,28]),(7,0,[0,4,5,6,8,9,10,11,12,26,27]),(8,0,[0,4,5,6,8,9,10,11,26,27]),(9,0,[0,4,5,6,8,9,10,11,26,27]),(10,0,[10])] Id.y3d=some Fn.y3d:=by kernel_rfl
theorem y3n:cFunc Proofs.Tryz.prog brs [(0,0,[0,1]),(1,0,[3])] Id.y3n=some Fn.y3n:=by kernel_rfl
theorem y6z:cFunc Proofs.Tryz.prog brs [(0,0,[0,2,4]),(1,0,[0,2,4,7]),(2,0,[0,2,4,7,13,14]),(3,0,[0,2,4,7,13,14,15]),(4,0,[0,2,4,7,8,13,14]),(5,0,[0,2,4,7,13,14]),(6,0,[0,2,4,7,13,14]),(7,0,[6])] Id.y6z=some Fn.y6z:=by kernel_rfl
end Ck
theorem y02 {P:Program} {f k:Nat} {a fn:AFn} {r:Option AFn} (hk:∃br hs,cFunc P br hs k=some a) (hr:r=some fn→∃br hs,cFunc P br hs f=some fn):(bif Nat.beq f k then some a else r)=some fn→∃br hs,cFunc P br hs f=some fn:=by
 intro h
 cases hb:Nat.beq f k with
 | true=>rw [hb] at h;cases h;rw [Nat.eq_of_beq_eq_true hb];exact hk
 | false=>rw [hb] at h;exact hr h
theorem y67 {P:Program} {f k:Nat} {fn:AFn} {X:Env} {r:Option AFn} (hX:EnvOk P X) (hr:r=some fn→∃br hs,cFunc P br hs f=some fn):(bif Nat.ble f k then X f else r)=some fn→∃br hs,cFunc P br hs f=some fn:=by
 intro h
 cases hb:Nat.ble f k with
 | true=>rw [hb] at h;exact hX f fn h
 | false=>rw [hb] at h;exact hr h
def E0:Env:=fun f=>
 bif Nat.beq f Id.y04 then some Fn.y04 else
 bif Nat.beq f Id.y0m then some Fn.y0m else
 bif Nat.beq f Id.y4i then some Fn.y4i else
 bif Nat.beq f Id.y1a then some Fn.y1a else
 bif Nat.beq f Id.y0l then some Fn.y0l else
 bif Nat.beq f Id.y2k then some Fn.y2k else
 none
theorem E0_ok:EnvOk Proofs.Tryz.prog E0:=by
 intro f fn
 unfold E0
 refine y02 ⟨_,_,Ck.y04⟩ ?_
 refine y02 ⟨_,_,Ck.y0m⟩ ?_
 refine y02 ⟨_,_,Ck.y4i⟩ ?_
 refine y02 ⟨_,_,Ck.y1a⟩ ?_
 refine y02 ⟨_,_,Ck.y0l⟩ ?_
 refine y02 ⟨_,_,Ck.y2k⟩ ?_
 intro h
 cases h
def E1:Env:=fun f=>
 bif Nat.beq f Id.y0h then some Fn.y0h else
 bif Nat.beq f Id.y08 then some Fn.y08 else
 bif Nat.beq f Id.y4a then some Fn.y4a else
 bif Nat.beq f Id.y5c then some Fn.y5c else
 bif Nat.beq f Id.y1z then some Fn.y1z else
 bif Nat.beq f Id.y1f then some Fn.y1f else
 bif Nat.beq f Id.y3g then some Fn.y3g else
 bif Nat.beq f Id.y4j then some Fn.y4j else
 bif Nat.beq f Id.y0c then some Fn.y0c else
 bif Nat.beq f Id.y1v then some Fn.y1v else
 bif Nat.beq f Id.y47 then some Fn.y47 else
 bif Nat.beq f Id.y14 then some Fn.y14 else
 bif Nat.beq f Id.y0u then some Fn.y0u else
 bif Nat.beq f Id.y0b then some Fn.y0b else
 none
theorem E1_ok:EnvOk Proofs.Tryz.prog E1:=by
 intro f fn
 unfold E1
 refine y02 ⟨_,_,Ck.y0h⟩ ?_
 refine y02 ⟨_,_,Ck.y08⟩ ?_
 refine y02 ⟨_,_,Ck.y4a⟩ ?_
 refine y02 ⟨_,_,Ck.y5c⟩ ?_
 refine y02 ⟨_,_,Ck.y1z⟩ ?_
 refine y02 ⟨_,_,Ck.y1f⟩ ?_
 refine y02 ⟨_,_,Ck.y3g⟩ ?_
 refine y02 ⟨_,_,Ck.y4j⟩ ?_
 refine y02 ⟨_,_,Ck.y0c⟩ ?_
 refine y02 ⟨_,_,Ck.y1v⟩ ?_
 refine y02 ⟨_,_,Ck.y47⟩ ?_
 refine y02 ⟨_,_,Ck.y14⟩ ?_
 refine y02 ⟨_,_,Ck.y0u⟩ ?_
 refine y02 ⟨_,_,Ck.y0b⟩ ?_
 intro h
 cases h
def E2:Env:=fun f=>
 bif Nat.beq f Id.y0f then some Fn.y0f else
 bif Nat.beq f Id.y19 then some Fn.y19 else
 bif Nat.beq f Id.y1i then some Fn.y1i else
 bif Nat.beq f Id.y11 then some Fn.y11 else
 bif Nat.beq f Id.y24 then some Fn.y24 else
 none
theorem E2_ok:EnvOk Proofs.Tryz.prog E2:=by
 intro f fn
 unfold E2
 refine y02 ⟨_,_,Ck.y0f⟩ ?_
 refine y02 ⟨_,_,Ck.y19⟩ ?_
 refine y02 ⟨_,_,Ck.y1i⟩ ?_
 refine y02 ⟨_,_,Ck.y11⟩ ?_
 refine y02 ⟨_,_,Ck.y24⟩ ?_
 intro h
 cases h
def E3:Env:=fun f=>
 bif Nat.beq f Id.y2x then some Fn.y2x else
 bif Nat.beq f Id.y0s then some Fn.y0s else
 bif Nat.beq f Id.y3q then some Fn.y3q else
 bif Nat.beq f Id.y4l then some Fn.y4l else
 bif Nat.beq f Id.y3s then some Fn.y3s else
 bif Nat.beq f Id.y0r then some Fn.y0r else
 bif Nat.beq f Id.y3c then some Fn.y3c else
 bif Nat.beq f Id.y0z then some Fn.y0z else
 bif Nat.beq f Id.y6d then some Fn.y6d else
 bif Nat.beq f Id.y2p then some Fn.y2p else
 bif Nat.beq f Id.y13 then some Fn.y13 else
 bif Nat.beq f Id.y0w then some Fn.y0w else
 bif Nat.beq f Id.y09 then some Fn.y09 else
 none
theorem E3_ok:EnvOk Proofs.Tryz.prog E3:=by
 intro f fn
 unfold E3
 refine y02 ⟨_,_,Ck.y2x⟩ ?_
 refine y02 ⟨_,_,Ck.y0s⟩ ?_
 refine y02 ⟨_,_,Ck.y3q⟩ ?_
 refine y02 ⟨_,_,Ck.y4l⟩ ?_
 refine y02 ⟨_,_,Ck.y3s⟩ ?_
 refine y02 ⟨_,_,Ck.y0r⟩ ?_
 refine y02 ⟨_,_,Ck.y3c⟩ ?_
 refine y02 ⟨_,_,Ck.y0z⟩ ?_
 refine y02 ⟨_,_,Ck.y6d⟩ ?_
 refine y02 ⟨_,_,Ck.y2p⟩ ?_
 refine y02 ⟨_,_,Ck.y13⟩ ?_
 refine y02 ⟨_,_,Ck.y0w⟩ ?_
 refine y02 ⟨_,_,Ck.y09⟩ ?_
 intro h
 cases h
def E4:Env:=fun f=>
 bif Nat.beq f Id.y1l then some Fn.y1l else
 bif Nat.beq f Id.y6q then some Fn.y6q else
 bif Nat.beq f Id.y4f then some Fn.y4f else
 bif Nat.beq f Id.y0n then some Fn.y0n else
 bif Nat.beq f Id.y1m then some Fn.y1m else
 bif Nat.beq f Id.y21 then some Fn.y21 else
 bif Nat.beq f Id.y28 then some Fn.y28 else
 bif Nat.beq f Id.y25 then some Fn.y25 else
 bif Nat.beq f Id.y1n then some Fn.y1n else
 bif Nat.beq f Id.y2q then some Fn.y2q else
 bif Nat.beq f Id.y2n then some Fn.y2n else
 bif Nat.beq f Id.y0v then some Fn.y0v else
 bif Nat.beq f Id.y2t then some Fn.y2t else
 bif Nat.beq f Id.y4r then some Fn.y4r else
 bif Nat.beq f Id.y27 then some Fn.y27 else
 bif Nat.beq f Id.y5f then some Fn.y5f else
 bif Nat.beq f Id.y57 then some Fn.y57 else
 bif Nat.beq f Id.y31 then some Fn.y31 else
 bif Nat.beq f Id.y2r then some Fn.y2r else
 bif Nat.beq f Id.y3t then some Fn.y3t else
 bif Nat.beq f Id.y3i then some Fn.y3i else
 bif Nat.beq f Id.y38 then some Fn.y38 else
 none
theorem E4_ok:EnvOk Proofs.Tryz.prog E4:=by
 intro f fn
 unfold E4
 refine y02 ⟨_,_,Ck.y1l⟩ ?_
 refine y02 ⟨_,_,Ck.y6q⟩ ?_
 refine y02 ⟨_,_,Ck.y4f⟩ ?_
 refine y02 ⟨_,_,Ck.y0n⟩ ?_
 refine y02 ⟨_,_,Ck.y1m⟩ ?_
 refine y02 ⟨_,_,Ck.y21⟩ ?_
 refine y02 ⟨_,_,Ck.y28⟩ ?_
 refine y02 ⟨_,_,Ck.y25⟩ ?_
 refine y02 ⟨_,_,Ck.y1n⟩ ?_
 refine y02 ⟨_,_,Ck.y2q⟩ ?_
 refine y02 ⟨_,_,Ck.y2n⟩ ?_
 refine y02 ⟨_,_,Ck.y0v⟩ ?_
 refine y02 ⟨_,_,Ck.y2t⟩ ?_
 refine y02 ⟨_,_,Ck.y4r⟩ ?_
 refine y02 ⟨_,_,Ck.y27⟩ ?_
 refine y02 ⟨_,_,Ck.y5f⟩ ?_
 refine y02 ⟨_,_,Ck.y57⟩ ?_
 refine y02 ⟨_,_,Ck.y31⟩ ?_
 refine y02 ⟨_,_,Ck.y2r⟩ ?_
 refine y02 ⟨_,_,Ck.y3t⟩ ?_
 refine y02 ⟨_,_,Ck.y3i⟩ ?_
 refine y02 ⟨_,_,Ck.y38⟩ ?_
 intro h
 cases h
def E5:Env:=fun f=>
 bif Nat.beq f Id.y1s then some Fn.y1s else
 bif Nat.beq f Id.y2d then some Fn.y2d else
 bif Nat.beq f Id.y2l then some Fn.y2l else
 bif Nat.beq f Id.y5k then some Fn.y5k else
 bif Nat.beq f Id.y3o then some Fn.y3o else
 bif Nat.beq f Id.y0j then some Fn.y0j else
 bif Nat.beq f Id.y3f then some Fn.y3f else
 bif Nat.beq f Id.y1w then some Fn.y1w else
 bif Nat.beq f Id.y18 then some Fn.y18 else
 bif Nat.beq f Id.y0d then some Fn.y0d else
 bif Nat.beq f Id.y0k then some Fn.y0k else
 bif Nat.beq f Id.y1h then some Fn.y1h else
 bif Nat.beq f Id.y1p then some Fn.y1p else
 bif Nat.beq f Id.y0x then some Fn.y0x else
 bif Nat.beq f Id.y1q then some Fn.y1q else
 none
theorem E5_ok:EnvOk Proofs.Tryz.prog E5:=by
 intro f fn
 unfold E5
 refine y02 ⟨_,_,Ck.y1s⟩ ?_
 refine y02 ⟨_,_,Ck.y2d⟩ ?_
 refine y02 ⟨_,_,Ck.y2l⟩ ?_
 refine y02 ⟨_,_,Ck.y5k⟩ ?_
 refine y02 ⟨_,_,Ck.y3o⟩ ?_
 refine y02 ⟨_,_,Ck.y0j⟩ ?_
 refine y02 ⟨_,_,Ck.y3f⟩ ?_
 refine y02 ⟨_,_,Ck.y1w⟩ ?_
 refine y02 ⟨_,_,Ck.y18⟩ ?_
 refine y02 ⟨_,_,Ck.y0d⟩ ?_
 refine y02 ⟨_,_,Ck.y0k⟩ ?_
 refine y02 ⟨_,_,Ck.y1h⟩ ?_
 refine y02 ⟨_,_,Ck.y1p⟩ ?_
 refine y02 ⟨_,_,Ck.y0x⟩ ?_
 refine y02 ⟨_,_,Ck.y1q⟩ ?_
 intro h
 cases h
def E6:Env:=fun f=>
 bif Nat.beq f Id.y3p then some Fn.y3p else
 none
theorem E6_ok:EnvOk Proofs.Tryz.prog E6:=by
 intro f fn
 unfold E6
 refine y02 ⟨_,_,Ck.y3p⟩ ?_
 intro h
 cases h
def E7:Env:=fun f=>
 bif Nat.beq f Id.y5o then some Fn.y5o else
 bif Nat.beq f Id.y2f then some Fn.y2f else
 bif Nat.beq f Id.y5l then some Fn.y5l else
 bif Nat.beq f Id.y3u then some Fn.y3u else
 bif Nat.beq f Id.y60 then some Fn.y60 else
 none
theorem E7_ok:EnvOk Proofs.Tryz.prog E7:=by
 intro f fn
 unfold E7
 refine y02 ⟨_,_,Ck.y5o⟩ ?_
 refine y02 ⟨_,_,Ck.y2f⟩ ?_
 refine y02 ⟨_,_,Ck.y5l⟩ ?_
 refine y02 ⟨_,_,Ck.y3u⟩ ?_
 refine y02 ⟨_,_,Ck.y60⟩ ?_
 intro h
 cases h
def E8:Env:=fun f=>
 bif Nat.beq f Id.y36 then some Fn.y36 else
 bif Nat.beq f Id.y1d then some Fn.y1d else
 bif Nat.beq f Id.y1o then some Fn.y1o else
 bif Nat.beq f Id.y1u then some Fn.y1u else
 bif Nat.beq f Id.y0g then some Fn.y0g else
 bif Nat.beq f Id.y0y then some Fn.y0y else
 bif Nat.beq f Id.y17 then some Fn.y17 else
 bif Nat.beq f Id.y3b then some Fn.y3b else
 bif Nat.beq f Id.y2i then some Fn.y2i else
 bif Nat.beq f Id.y49 then some Fn.y49 else
 bif Nat.beq f Id.y1j then some Fn.y1j else
 bif Nat.beq f Id.y3y then some Fn.y3y else
 bif Nat.beq f Id.y20 then some Fn.y20 else
 bif Nat.beq f Id.y12 then some Fn.y12 else
 bif Nat.beq f Id.y45 then some Fn.y45 else
 bif Nat.beq f Id.y5i then some Fn.y5i else
 bif Nat.beq f Id.y5e then some Fn.y5e else
 bif Nat.beq f Id.y4s then some Fn.y4s else
 bif Nat.beq f Id.y4o then some Fn.y4o else
 bif Nat.beq f Id.y2e then some Fn.y2e else
 bif Nat.beq f Id.y2c then some Fn.y2c else
 bif Nat.beq f Id.y0p then some Fn.y0p else
 bif Nat.beq f Id.y3z then some Fn.y3z else
 none
theorem E8_ok:EnvOk Proofs.Tryz.prog E8:=by
 intro f fn
 unfold E8
 refine y02 ⟨_,_,Ck.y36⟩ ?_
 refine y02 ⟨_,_,Ck.y1d⟩ ?_
 refine y02 ⟨_,_,Ck.y1o⟩ ?_
 refine y02 ⟨_,_,Ck.y1u⟩ ?_
 refine y02 ⟨_,_,Ck.y0g⟩ ?_
 refine y02 ⟨_,_,Ck.y0y⟩ ?_
 refine y02 ⟨_,_,Ck.y17⟩ ?_
 refine y02 ⟨_,_,Ck.y3b⟩ ?_
 refine y02 ⟨_,_,Ck.y2i⟩ ?_
 refine y02 ⟨_,_,Ck.y49⟩ ?_
 refine y02 ⟨_,_,Ck.y1j⟩ ?_
 refine y02 ⟨_,_,Ck.y3y⟩ ?_
 refine y02 ⟨_,_,Ck.y20⟩ ?_
 refine y02 ⟨_,_,Ck.y12⟩ ?_
 refine y02 ⟨_,_,Ck.y45⟩ ?_
 refine y02 ⟨_,_,Ck.y5i⟩ ?_
 refine y02 ⟨_,_,Ck.y5e⟩ ?_
 refine y02 ⟨_,_,Ck.y4s⟩ ?_
 refine y02 ⟨_,_,Ck.y4o⟩ ?_
 refine y02 ⟨_,_,Ck.y2e⟩ ?_
 refine y02 ⟨_,_,Ck.y2c⟩ ?_
 refine y02 ⟨_,_,Ck.y0p⟩ ?_
 refine y02 ⟨_,_,Ck.y3z⟩ ?_
 intro h
 cases h
def E9:Env:=fun f=>
 bif Nat.beq f Id.y1x then some Fn.y1x else
 bif Nat.beq f Id.y2b then some Fn.y2b else
 bif Nat.beq f Id.y2s then some Fn.y2s else
 bif Nat.beq f Id.y0q then some Fn.y0q else
 bif Nat.beq f Id.y39 then some Fn.y39 else
 bif Nat.beq f Id.y2g then some Fn.y2g else
 none
theorem E9_ok:EnvOk Proofs.Tryz.prog E9:=by
 intro f fn
 unfold E9
 refine y02 ⟨_,_,Ck.y1x⟩ ?_
 refine y02 ⟨_,_,Ck.y2b⟩ ?_
 refine y02 ⟨_,_,Ck.y2s⟩ ?_
 refine y02 ⟨_,_,Ck.y0q⟩ ?_
 refine y02 ⟨_,_,Ck.y39⟩ ?_
 refine y02 ⟨_,_,Ck.y2g⟩ ?_
 intro h
 cases h
def E10:Env:=fun f=>
 bif Nat.beq f Id.y6a then some Fn.y6a else
 bif Nat.beq f Id.y32 then some Fn.y32 else
 bif Nat.beq f Id.y2v then some Fn.y2v else
 bif Nat.beq f Id.y4c then some Fn.y4c else
 bif Nat.beq f Id.y3e then some Fn.y3e else
 bif Nat.beq f Id.y35 then some Fn.y35 else
 bif Nat.beq f Id.y34 then some Fn.y34 else
 bif Nat.beq f Id.y2y then some Fn.y2y else
 bif Nat.beq f Id.y3v then some Fn.y3v else
 bif Nat.beq f Id.y5h then some Fn.y5h else
 bif Nat.beq f Id.y6o then some Fn.y6o else
 bif Nat.beq f Id.y5w then some Fn.y5w else
 bif Nat.beq f Id.y3h then some Fn.y3h else
 bif Nat.beq f Id.y2w then some Fn.y2w else
 bif Nat.beq f Id.y1e then some Fn.y1e else
 bif Nat.beq f Id.y44 then some Fn.y44 else
 bif Nat.beq f Id.y37 then some Fn.y37 else
 bif Nat.beq f Id.y3k then some Fn.y3k else
 none
theorem y13c:EnvOk Proofs.Tryz.prog E10:=by
 intro f fn
 unfold E10
 refine y02 ⟨_,_,Ck.y6a⟩ ?_
 refine y02 ⟨_,_,Ck.y32⟩ ?_
 refine y02 ⟨_,_,Ck.y2v⟩ ?_
 refine y02 ⟨_,_,Ck.y4c⟩ ?_
 refine y02 ⟨_,_,Ck.y3e⟩ ?_
 refine y02 ⟨_,_,Ck.y35⟩ ?_
 refine y02 ⟨_,_,Ck.y34⟩ ?_
 refine y02 ⟨_,_,Ck.y2y⟩ ?_
 refine y02 ⟨_,_,Ck.y3v⟩ ?_
 refine y02 ⟨_,_,Ck.y5h⟩ ?_
 refine y02 ⟨_,_,Ck.y6o⟩ ?_
 refine y02 ⟨_,_,Ck.y5w⟩ ?_
 refine y02 ⟨_,_,Ck.y3h⟩ ?_
 refine y02 ⟨_,_,Ck.y2w⟩ ?_
 refine y02 ⟨_,_,Ck.y1e⟩ ?_
 refine y02 ⟨_,_,Ck.y44⟩ ?_
 refine y02 ⟨_,_,Ck.y37⟩ ?_
 refine y02 ⟨_,_,Ck.y3k⟩ ?_
 intro h
 cases h
def E11:Env:=fun f=>
 bif Nat.beq f Id.y1b then some Fn.y1b else
 bif Nat.beq f Id.y2z then some Fn.y2z else
 bif Nat.beq f Id.y3x then some Fn.y3x else
 bif Nat.beq f Id.y3w then some Fn.y3w else
 bif Nat.beq f Id.y3r then some Fn.y3r else
 bif Nat.beq f Id.y2h then some Fn.y2h else
 bif Nat.beq f Id.y4h then some Fn.y4h else
 bif Nat.beq f Id.y4q then some Fn.y4q else
 bif Nat.beq f Id.y6b then some Fn.y6b else
 bif Nat.beq f Id.y1c then some Fn.y1c else
 bif Nat.beq f Id.y23 then some Fn.y23 else
 bif Nat.beq f Id.y3a then some Fn.y3a else
 bif Nat.beq f Id.y30 then some Fn.y30 else
 bif Nat.beq f Id.y46 then some Fn.y46 else
 bif Nat.beq f Id.y43 then some Fn.y43 else
 bif Nat.beq f Id.y6i then some Fn.y6i else
 none
theorem y12v:EnvOk Proofs.Tryz.prog E11:=by
 intro f fn
 unfold E11
 refine y02 ⟨_,_,Ck.y1b⟩ ?_
 refine y02 ⟨_,_,Ck.y2z⟩ ?_
 refine y02 ⟨_,_,Ck.y3x⟩ ?_
 refine y02 ⟨_,_,Ck.y3w⟩ ?_
 refine y02 ⟨_,_,Ck.y3r⟩ ?_
 refine y02 ⟨_,_,Ck.y2h⟩ ?_
 refine y02 ⟨_,_,Ck.y4h⟩ ?_
 refine y02 ⟨_,_,Ck.y4q⟩ ?_
 refine y02 ⟨_,_,Ck.y6b⟩ ?_
 refine y02 ⟨_,_,Ck.y1c⟩ ?_
 refine y02 ⟨_,_,Ck.y23⟩ ?_
 refine y02 ⟨_,_,Ck.y3a⟩ ?_
 refine y02 ⟨_,_,Ck.y30⟩ ?_
 refine y02 ⟨_,_,Ck.y46⟩ ?_
 refine y02 ⟨_,_,Ck.y43⟩ ?_
 refine y02 ⟨_,_,Ck.y6i⟩ ?_
 intro h
 cases h
def E12:Env:=fun f=>
 bif Nat.beq f Id.y2u then some Fn.y2u else
 bif Nat.beq f Id.y3l then some Fn.y3l else
 bif Nat.beq f Id.y3m then some Fn.y3m else
 bif Nat.beq f Id.y0o then some Fn.y0o else
 bif Nat.beq f Id.y4n then some Fn.y4n else
 bif Nat.beq f Id.y3d then some Fn.y3d else
 bif Nat.beq f Id.y3n then some Fn.y3n else
 bif Nat.beq f Id.y6z then some Fn.y6z else
 none
theorem y13l:EnvOk Proofs.Tryz.prog E12:=by
 intro f fn
 unfold E12
 refine y02 ⟨_,_,Ck.y2u⟩ ?_
 refine y02 ⟨_,_,Ck.y3l⟩ ?_
 refine y02 ⟨_,_,Ck.y3m⟩ ?_
 refine y02 ⟨_,_,Ck.y0o⟩ ?_
 refine y02 ⟨_,_,Ck.y4n⟩ ?_
 refine y02 ⟨_,_,Ck.y3d⟩ ?_
 refine y02 ⟨_,_,Ck.y3n⟩ ?_
 refine y02 ⟨_,_,Ck.y6z⟩ ?_
 intro h
 cases h
def E:Env:=fun f=>
 bif Nat.ble f 26 then E0 f else
 bif Nat.ble f 50 then E1 f else
 bif Nat.ble f 74 then E2 f else
 bif Nat.ble f 98 then E3 f else
 bif Nat.ble f 122 then E4 f else
 bif Nat.ble f 147 then E5 f else
 bif Nat.ble f 173 then E6 f else
 bif Nat.ble f 197 then E7 f else
 bif Nat.ble f 221 then E8 f else
 bif Nat.ble f 246 then E9 f else
 bif Nat.ble f 270 then E10 f else
 bif Nat.ble f 294 then E11 f else
 bif Nat.ble f 323 then E12 f else
 none
theorem y8a:E Id.y04=some Fn.y04:=rfl
theorem yu8:E Id.y0m=some Fn.y0m:=rfl
theorem yyv:E Id.y4i=some Fn.y4i:=rfl
theorem ybr:E Id.y1a=some Fn.y1a:=rfl
theorem ygc:E Id.y0l=some Fn.y0l:=rfl
theorem ya0:E Id.y2k=some Fn.y2k:=rfl
theorem ymr:E Id.y0h=some Fn.y0h:=rfl
theorem yme:E Id.y08=some Fn.y08:=rfl
theorem ycx:E Id.y4a=some Fn.y4a:=rfl
theorem yms:E Id.y5c=some Fn.y5c:=rfl
theorem ymp:E Id.y1z=some Fn.y1z:=rfl
theorem ymh:E Id.y1f=some Fn.y1f:=rfl
theorem yg8:E Id.y3g=some Fn.y3g:=rfl
theorem ywi:E Id.y4j=some Fn.y4j:=rfl
theorem yk2:E Id.y0c=some Fn.y0c:=rfl
theorem yfx:E Id.y1v=some Fn.y1v:=rfl
theorem yt2:E Id.y47=some Fn.y47:=rfl
theorem yex:E Id.y14=some Fn.y14:=rfl
theorem y7j:E Id.y0u=some Fn.y0u:=rfl
theorem yhf:E Id.y0b=some Fn.y0b:=rfl
theorem yg5:E Id.y0f=some Fn.y0f:=rfl
theorem yg1:E Id.y19=some Fn.y19:=rfl
theorem ygb:E Id.y1i=some Fn.y1i:=rfl
theorem yep:E Id.y11=some Fn.y11:=rfl
theorem yh9:E Id.y24=some Fn.y24:=rfl
theorem yxk:E Id.y2x=some Fn.y2x:=rfl
theorem ypt:E Id.y0s=some Fn.y0s:=rfl
theorem yzg:E Id.y3q=some Fn.y3q:=rfl
theorem yzh:E Id.y4l=some Fn.y4l:=rfl
theorem yt4:E Id.y3s=some Fn.y3s:=rfl
theorem yio:E Id.y0r=some Fn.y0r:=rfl
theorem ypv:E Id.y3c=some Fn.y3c:=rfl
theorem ymw:E Id.y0z=some Fn.y0z:=rfl
theorem y126:E Id.y6d=some Fn.y6d:=rfl
theorem ypw:E Id.y2p=some Fn.y2p:=rfl
theorem yh0:E Id.y13=some Fn.y13:=rfl
theorem yh6:E Id.y0w=some Fn.y0w:=rfl
theorem ybi:E Id.y09=some Fn.y09:=rfl
theorem ygz:E Id.y1l=some Fn.y1l:=rfl
theorem ys9:E Id.y6q=some Fn.y6q:=rfl
theorem yik:E Id.y4f=some Fn.y4f:=rfl
theorem yd7:E Id.y0n=some Fn.y0n:=rfl
theorem yea:E Id.y1m=some Fn.y1m:=rfl
theorem ye5:E Id.y21=some Fn.y21:=rfl
theorem yma:E Id.y28=some Fn.y28:=rfl
theorem yi1:E Id.y25=some Fn.y25:=rfl
theorem ye4:E Id.y1n=some Fn.y1n:=rfl
theorem ygi:E Id.y2q=some Fn.y2q:=rfl
theorem yjq:E Id.y2n=some Fn.y2n:=rfl
theorem yj7:E Id.y0v=some Fn.y0v:=rfl
theorem yg7:E Id.y2t=some Fn.y2t:=rfl
theorem ywx:E Id.y4r=some Fn.y4r:=rfl
theorem ymn:E Id.y27=some Fn.y27:=rfl
theorem yqd:E Id.y5f=some Fn.y5f:=rfl
theorem yqb:E Id.y57=some Fn.y57:=rfl
theorem ypo:E Id.y31=some Fn.y31:=rfl
theorem yf2:E Id.y2r=some Fn.y2r:=rfl
theorem yk3:E Id.y3t=some Fn.y3t:=rfl
theorem yfv:E Id.y3i=some Fn.y3i:=rfl
theorem ygd:E Id.y38=some Fn.y38:=rfl
theorem yg9:E Id.y1s=some Fn.y1s:=rfl
theorem yfr:E Id.y2d=some Fn.y2d:=rfl
theorem yi3:E Id.y2l=some Fn.y2l:=rfl
theorem y11t:E Id.y5k=some Fn.y5k:=rfl
theorem yqj:E Id.y3o=some Fn.y3o:=rfl
theorem ye2:E Id.y0j=some Fn.y0j:=rfl
theorem yhc:E Id.y3f=some Fn.y3f:=rfl
theorem ycf:E Id.y1w=some Fn.y1w:=rfl
theorem yge:E Id.y18=some Fn.y18:=rfl
theorem ya9:E Id.y0d=some Fn.y0d:=rfl
theorem yhy:E Id.y0k=some Fn.y0k:=rfl
theorem yg4:E Id.y1h=some Fn.y1h:=rfl
theorem y9i:E Id.y1p=some Fn.y1p:=rfl
theorem yh7:E Id.y0x=some Fn.y0x:=rfl
theorem yd1:E Id.y1q=some Fn.y1q:=rfl
theorem yim:E Id.y3p=some Fn.y3p:=rfl
theorem ys4:E Id.y5o=some Fn.y5o:=rfl
theorem yfu:E Id.y2f=some Fn.y2f:=rfl
theorem y12b:E Id.y5l=some Fn.y5l:=rfl
theorem yt6:E Id.y3u=some Fn.y3u:=rfl
theorem y141:E Id.y60=some Fn.y60:=rfl
theorem ygg:E Id.y36=some Fn.y36:=rfl
theorem yh2:E Id.y1d=some Fn.y1d:=rfl
theorem yds:E Id.y1o=some Fn.y1o:=rfl
theorem ycy:E Id.y1u=some Fn.y1u:=rfl
theorem y8v:E Id.y0g=some Fn.y0g:=rfl
theorem ydc:E Id.y0y=some Fn.y0y:=rfl
theorem yf9:E Id.y17=some Fn.y17:=rfl
theorem yi8:E Id.y3b=some Fn.y3b:=rfl
theorem ymq:E Id.y2i=some Fn.y2i:=rfl
theorem yih:E Id.y49=some Fn.y49:=rfl
theorem y9m:E Id.y1j=some Fn.y1j:=rfl
theorem yj1:E Id.y3y=some Fn.y3y:=rfl
theorem yir:E Id.y20=some Fn.y20:=rfl
theorem yh5:E Id.y12=some Fn.y12:=rfl
theorem ymj:E Id.y45=some Fn.y45:=rfl
theorem yzv:E Id.y5i=some Fn.y5i:=rfl
theorem yo4:E Id.y5e=some Fn.y5e:=rfl
theorem ymg:E Id.y4s=some Fn.y4s:=rfl
theorem ymt:E Id.y4o=some Fn.y4o:=rfl
theorem ye6:E Id.y2e=some Fn.y2e:=rfl
theorem yem:E Id.y2c=some Fn.y2c:=rfl
theorem yec:E Id.y0p=some Fn.y0p:=rfl
theorem yfy:E Id.y3z=some Fn.y3z:=rfl
theorem yhj:E Id.y1x=some Fn.y1x:=rfl
theorem yet:E Id.y2b=some Fn.y2b:=rfl
theorem ygh:E Id.y2s=some Fn.y2s:=rfl
theorem yej:E Id.y0q=some Fn.y0q:=rfl
theorem yez:E Id.y39=some Fn.y39:=rfl
theorem ye9:E Id.y2g=some Fn.y2g:=rfl
theorem y133:E Id.y6a=some Fn.y6a:=rfl
theorem ypn:E Id.y32=some Fn.y32:=rfl
theorem yqc:E Id.y2v=some Fn.y2v:=rfl
theorem yul:E Id.y4c=some Fn.y4c:=rfl
theorem yru:E Id.y3e=some Fn.y3e:=rfl
theorem yqx:E Id.y35=some Fn.y35:=rfl
theorem yqh:E Id.y34=some Fn.y34:=rfl
theorem ysa:E Id.y2y=some Fn.y2y:=rfl
theorem yt7:E Id.y3v=some Fn.y3v:=rfl
theorem y111:E Id.y5h=some Fn.y5h:=rfl
theorem y145:E Id.y6o=some Fn.y6o:=rfl
theorem y144:E Id.y5w=some Fn.y5w:=rfl
theorem ygf:E Id.y3h=some Fn.y3h:=rfl
theorem ye7:E Id.y2w=some Fn.y2w:=rfl
theorem ybh:E Id.y1e=some Fn.y1e:=rfl
theorem ymm:E Id.y44=some Fn.y44:=rfl
theorem yft:E Id.y37=some Fn.y37:=rfl
theorem yfs:E Id.y3k=some Fn.y3k:=rfl
theorem yao:E Id.y1b=some Fn.y1b:=rfl
theorem yin:E Id.y2z=some Fn.y2z:=rfl
theorem yh1:E Id.y3x=some Fn.y3x:=rfl
theorem yhh:E Id.y3w=some Fn.y3w:=rfl
theorem yif:E Id.y3r=some Fn.y3r:=rfl
theorem yfz:E Id.y2h=some Fn.y2h:=rfl
theorem ykc:E Id.y4h=some Fn.y4h:=rfl
theorem ywt:E Id.y4q=some Fn.y4q:=rfl
theorem y13m:E Id.y6b=some Fn.y6b:=rfl
theorem yan:E Id.y1c=some Fn.y1c:=rfl
theorem yg2:E Id.y23=some Fn.y23:=rfl
theorem yhu:E Id.y3a=some Fn.y3a:=rfl
theorem ysn:E Id.y30=some Fn.y30:=rfl
theorem yt5:E Id.y46=some Fn.y46:=rfl
theorem yt3:E Id.y43=some Fn.y43:=rfl
theorem y143:E Id.y6i=some Fn.y6i:=rfl
theorem yev:E Id.y2u=some Fn.y2u:=rfl
theorem yg0:E Id.y3l=some Fn.y3l:=rfl
theorem yg6:E Id.y3m=some Fn.y3m:=rfl
theorem y9g:E Id.y0o=some Fn.y0o:=rfl
theorem ywv:E Id.y4n=some Fn.y4n:=rfl
theorem ypp:E Id.y3d=some Fn.y3d:=rfl
theorem yrd:E Id.y3n=some Fn.y3n:=rfl
theorem y142:E Id.y6z=some Fn.y6z:=rfl
theorem E_ok:EnvOk Proofs.Tryz.prog E:=by
 intro f fn
 unfold E
 refine y67 E0_ok ?_
 refine y67 E1_ok ?_
 refine y67 E2_ok ?_
 refine y67 E3_ok ?_
 refine y67 E4_ok ?_
 refine y67 E5_ok ?_
 refine y67 E6_ok ?_
 refine y67 E7_ok ?_
 refine y67 E8_ok ?_
 refine y67 E9_ok ?_
 refine y67 y13c ?_
 refine y67 y12v ?_
 refine y67 y13l ?_
 intro h
 cases h
theorem mixed:Proofs.Tryz.prog.follows .mixedOrders=true:=by kernel_rfl
end Go.Ev
