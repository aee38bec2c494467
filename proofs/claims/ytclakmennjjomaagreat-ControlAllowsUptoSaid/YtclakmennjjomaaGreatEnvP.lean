import Derived.Test.YtclakmennjjomaaGreatFnP
import Derived.Test.YtclakmennjjomaaGreatChecked
import Derived.KernelRfl
namespace Go.Ev
def brs (f:FuncId):Bool:=memN f [135,159,184,194,226,240,241,248,249,250,251,252,253,254,255,256,257,273,274,280,283,285,286,287,298,300,301]
def y96 (f:FuncId):Bool:=memN f [135,159,184,194,226,240,241,248,249,250,251,252,253,254,255,256,257,273,274,280,283,285,286,287,298,300,301,35]
def yl6 (f:FuncId):Bool:=memN f [135,159,184,194,226,240,241,248,249,250,251,252,253,254,255,256,257,273,274,280,283,285,286,287,298,300,301,35]
def yaq (f:FuncId):Bool:=memN f [135,159,184,194,226,240,241,248,249,250,251,252,253,254,255,256,257,273,274,280,283,285,286,287,298,300,301,88]
def yac (f:FuncId):Bool:=memN f [135,159,184,194,226,240,241,248,249,250,251,252,253,254,255,256,257,273,274,280,283,285,286,287,298,300,301,84,298]
def yc6 (f:FuncId):Bool:=memN f [135,159,184,194,226,240,241,248,249,250,251,252,253,254,255,256,257,273,274,280,283,285,286,287,298,300,301,84,298]
def ybv (f:FuncId):Bool:=memN f [135,159,184,194,226,240,241,248,249,250,251,252,253,254,255,256,257,273,274,280,283,285,286,287,298,300,301,302]
namespace Ck
theorem y03:cFunc Proofs.Tryz.prog y96 [(0,0,[1,3,4,6]),(1,0,[1,3,4,6,46]),(2,0,[8]),(3,0,[1,3,4,6,9,10,11,12,13,14]),(4,0,[3,4,6,9,10,11,12,13,14,15,16]),(5,0,[3,4,6,9,10,11,12,13,14,15,16,63]),(6,0,[3,4,6,9,10,11,12,13,14,15,16]),(7,0,[3,4,6,9,10,11,12,13,14,15,16,70]),(8,0,[3,4,6,9,10,11,12,13,14,15,16]),(9,0,[4,6,9,10,11,12,13,14,15,16,17,18]),(10,0,[4,6,12,13,14,15,16,17,18,19,20]),(11,0,[4,6,12,13,14,15,16,17,18,19,20,21]),(12,0,[4,6,12,13,14,15,16,17,18,19,20,21,103]),(13,0,[4,6,12,13,14,15,16,17,18,19,20,21]),(14,0,[4,6,12,13,14,15,16,17,18,19,20,21,121]),(15,0,[4,6,12,13,14,15,16,17,18,19,20,21]),(16,0,[4,6,12,13,14,15,16,17,18,19,20,21,123]),(17,0,[8]),(18,0,[4,6,12,13,14,15,16,19,20,159]),(19,0,[8]),(20,0,[4,6,12,13,14,16,19,20,162]),(21,0,[8]),(22,0,[4,6,12,13,14,16,19,20,180]),(23,0,[8]),(24,0,[19,20,22]),(25,0,[19,22,212]),(26,0,[8]),(27,0,[19,22,23]),(28,0,[19,22,23,216]),(30,0,[19,22,23,244]),(31,0,[8]),(29,0,[19,22,23]),(32,0,[8])] Id.y03=some Fn.y03:=by kernel_rfl
theorem y0v:cFunc Proofs.Tryz.prog brs [(0,0,[]),(1,0,[1]),(2,0,[1,2,3]),(3,0,[2,3,4,5]),(4,0,[2,3,4,5,6,7]),(5,0,[2,3,4,5,6,7,8,9]),(6,0,[0])] Id.y0v=some Fn.y0v:=by kernel_rfl
theorem y4g:cFunc Proofs.Tryz.prog brs [(0,0,[1,2,4]),(1,0,[1,2,4,6]),(2,0,[1,2,4,6,18]),(3,0,[4,5]),(4,0,[1,2,4,7]),(5,0,[1,2,4,39]),(6,0,[4,5]),(7,0,[1,2,4,9]),(8,0,[1,2,4,9,46,47]),(9,0,[1,2,4,9,46,47,48]),(10,0,[1,2,4,9,10,46,47]),(11,0,[1,2,4,9,46,47,54]),(12,0,[1,2,4,9,11,46,47]),(13,4,[1,2,4,9,46,47]),(14,0,[1,2,4,9,46,47]),(15,0,[4,9,13,14]),(16,0,[4,9,13,89]),(17,0,[4,5]),(18,0,[4,9]),(19,0,[4,5])] Id.y4g=some Fn.y4g:=by kernel_rfl
theorem y0m:cFunc Proofs.Tryz.prog brs [(0,0,[1,2,3]),(1,0,[1,2,3,12]),(2,0,[1,2,3]),(3,0,[1,2,3,4]),(4,0,[1,2,3,4,6]),(5,4,[1,2,3,4,6,7,8]),(6,0,[1,2,3,4,6,7,8,9]),(7,0,[1,2,3,4,6,7,8,9,33]),(9,0,[1,2,3,4,6,7,8,9]),(10,0,[1,2,3,4,6,7,8,9]),(8,0,[1,2,3,4,6,7,8,9]),(11,4,[2,3])] Id.y0m=some Fn.y0m:=by kernel_rfl
theorem y5g:cFunc Proofs.Tryz.prog brs [(0,0,[4,5,6,7,8,10]),(1,0,[4,5,6,7,8,10,12]),(2,0,[4,5,6,7,8,10,12,17]),(3,0,[10,11]),(4,0,[4,5,6,7,8,10,25]),(5,0,[10,11]),(6,0,[10,11])] Id.y5g=some Fn.y5g:=by kernel_rfl
theorem y0l:cFunc Proofs.Tryz.prog brs [(0,0,[2,3,4]),(1,0,[2,3,4,5,6]),(2,0,[4])] Id.y0l=some Fn.y0l:=by kernel_rfl
theorem y0a:cFunc Proofs.Tryz.prog brs [(0,0,[2,3,4]),(1,0,[4])] Id.y0a=some Fn.y0a:=by kernel_rfl
theorem y56:cFunc Proofs.Tryz.prog brs [(0,0,[1,2]),(1,0,[2])] Id.y56=some Fn.y56:=by kernel_rfl
theorem y1t:cFunc Proofs.Tryz.prog brs [(0,0,[2,3]),(1,0,[4])] Id.y1t=some Fn.y1t:=by kernel_rfl
theorem y1r:cFunc Proofs.Tryz.prog brs [(0,0,[2,3,4]),(1,0,[4])] Id.y1r=some Fn.y1r:=by kernel_rfl
theorem y11:cFunc Proofs.Tryz.prog brs [(0,0,[1,2,3,4,5,6,7]),(1,0,[1,2,3,4,5,6,7,8,9]),(2,0,[1,2,3,4,5,6,7,8,9,10,11]),(3,0,[1,2,3,4,5,6,7,8,9,10,11,12,13]),(4,0,[1,2,3,4,5,6,7,8,9,10,11,12,13,14,15]),(5,0,[1,2,3,4,5,6,7,8,9,10,11,12,13,14,15,16,17]),(6,0,[2,3,4,5,6,7,8,9,10,11,12,13,14,15,16,17,18,19]),(7,4,[2,3,4,5,6,7])] Id.y11=some Fn.y11:=by kernel_rfl
theorem y3k:cFunc Proofs.Tryz.prog brs [(0,0,[0]),(1,0,[0,4]),(2,0,[0,4,5]),(3,0,[0,4,5,6]),(4,0,[0,4,5,6,12]),(6,0,[0,4,5,6,7,8]),(7,0,[0,4,5,6,8]),(8,0,[0,4,5,6]),(5,0,[0,4,5,6]),(9,0,[2,3])] Id.y3k=some Fn.y3k:=by kernel_rfl
theorem y24:cFunc Proofs.Tryz.prog brs [(0,0,[3,4,5,6,7,10]),(1,0,[7,10,12,13]),(2,0,[7,10,12,13,24]),(3,0,[10,11]),(4,0,[10,11])] Id.y24=some Fn.y24:=by kernel_rfl
theorem y1a:cFunc Proofs.Tryz.prog brs [(0,0,[3,4,5,7,8,9,13]),(1,0,[3,5,9,13,16,17]),(2,0,[3,5,9,13,16,17,35]),(3,0,[14,15]),(4,0,[3,5,9,13,16,39]),(5,0,[14,15]),(6,0,[3,5,9,13,16,43]),(7,0,[14,15]),(8,0,[3,5,9,13,16,18]),(9,0,[3,5,9,13,16,18,19]),(10,0,[3,5,9,13,16,18,19,20]),(11,0,[3,9,13,16,18,19,20,53,54,55]),(12,0,[3,9,13,16,18,19,20,53,54,55,56]),(13,0,[3,9,13,16,18,19,20,21,22,53,54,55]),(14,0,[3,9,13,16,18,19,20,21,22,53,54,55,68]),(15,0,[3,9,13,16,18,19,20,21,22,53,54,55]),(16,0,[3,9,13,16,18,19,20,21,22,23,53,54,55]),(17,0,[3,9,13,16,18,19,20,21,24,53,54,55]),(18,0,[3,9,13,16,18,19,20,21,24,53,54,55,89]),(19,0,[3,9,13,16,18,19,20,24,25,53,54,55]),(20,0,[3,9,13,16,18,19,20,24,53,54,55,96]),(21,0,[3,9,13,16,18,19,20,24,53,54,55]),(22,0,[3,9,13,16,18,19,20,24,53,54,55,105]),(23,0,[3,9,13,16,18,19,20,24,53,54,55]),(24,4,[3,9,13,16,18,19,20,24,53,54,55]),(25,0,[3,9,13,16,18,19,20,53,54,55]),(26,0,[3,9,13,16,18,19,20,53,54,55]),(27,0,[14,15])] Id.y1a=some Fn.y1a:=by kernel_rfl
theorem y07:cFunc Proofs.Tryz.prog brs [(0,0,[3,4,5]),(1,0,[6])] Id.y07=some Fn.y07:=by kernel_rfl
theorem y0j:cFunc Proofs.Tryz.prog brs [(0,0,[1]),(1,0,[2])] Id.y0j=some Fn.y0j:=by kernel_rfl
theorem y1y:cFunc Proofs.Tryz.prog brs [(0,0,[2,3]),(1,0,[4])] Id.y1y=some Fn.y1y:=by kernel_rfl
theorem y0h:cFunc Proofs.Tryz.prog brs [(0,0,[3,4,5,6,7,10]),(1,0,[3,5,6,7,10,11]),(2,0,[3,5,6,7,10,11,12,13]),(3,0,[3,5,6,7,10,11,12,13,31]),(4,0,[3,5,6,7,10,11,12,13,14]),(5,0,[3,5,6,7,10,11,12,13,14,49]),(6,0,[3,5,6,7,10,11,12,13]),(7,0,[3,5,6,7,10,11,12,13]),(8,0,[10])] Id.y0h=some Fn.y0h:=by kernel_rfl
theorem y0x:cFunc Proofs.Tryz.prog brs [(0,0,[3,4,5,6,7,8,9,10]),(1,0,[3,4,5,6,7,8,9,17]),(2,0,[3,4,5,6,7,8,9,17,18]),(3,0,[3,4,5,6,7,8,9,17,18,19]),(4,0,[3,4,5,6,7,8,9,17,18,19,31]),(6,0,[3,4,5,6,7,8,9,17,18,19,20]),(7,0,[3,4,5,6,7,8,9,17,18,19,20,21]),(8,0,[3,4,5,6,7,8,9,17,18,19,20,21,22]),(9,0,[3,4,5,6,7,8,9,17,18,19,20,21,22,61]),(10,0,[3,4,5,6,7,8,9,17,18,19,20,21,22]),(11,0,[3,4,5,6,7,8,9,17,18,19,20,21,23]),(12,0,[3,4,5,6,7,8,9,17,18,19,20,21,23,24]),(13,0,[3,4,5,6,7,8,9,17,18,19,20,21,23,24,79]),(14,0,[3,4,5,6,7,8,9,17,18,19,20,21,23,24]),(15,0,[3,4,5,6,7,8,9,17,18,19,20,21,23,24,85]),(16,0,[3,4,5,6,7,8,9,17,18,19,20,21,24]),(17,0,[3,4,5,6,7,8,9,17,18,19,20,21,24,92]),(18,0,[3,4,5,6,7,8,9,17,18,19,20,21,24]),(19,0,[3,4,5,6,7,8,9,17,18,19,20,21,24,95]),(20,0,[3,4,5,6,7,8,9,17,18,19,20,21,24]),(21,0,[3,4,5,6,7,8,9,17,18,19,24,109]),(22,0,[3,4,5,6,7,8,9,17,18,19,24]),(23,0,[3,4,5,6,7,8,9,17,18,19,24,25]),(24,0,[3,4,5,6,7,8,9,17,18,19,24,25]),(25,0,[3,4,5,6,7,8,9,17,18,19]),(5,0,[3,4,5,6,7,8,9,17,18,19]),(26,0,[16])] Id.y0x=some Fn.y0x:=by kernel_rfl
theorem y40:cFunc Proofs.Tryz.prog brs [(0,0,[1]),(1,0,[1,3]),(2,0,[1,3,41]),(3,0,[2]),(4,0,[3,43,44,45]),(5,0,[3,43,44,45,46]),(6,0,[3,5,43,44,45]),(7,0,[3,5,6,43,44,45]),(8,0,[3,43,44,45,74]),(9,0,[2]),(10,0,[3,43,44,45]),(11,0,[2])] Id.y40=some Fn.y40:=by kernel_rfl
theorem y1l:cFunc Proofs.Tryz.prog brs [(0,0,[2,3]),(1,0,[4])] Id.y1l=some Fn.y1l:=by kernel_rfl
theorem y1h:cFunc Proofs.Tryz.prog brs [(0,0,[1]),(1,0,[2])] Id.y1h=some Fn.y1h:=by kernel_rfl
theorem y35:cFunc Proofs.Tryz.prog brs [(0,0,[0,2]),(1,0,[2])] Id.y35=some Fn.y35:=by kernel_rfl
theorem y2o:cFunc Proofs.Tryz.prog brs [(0,0,[0]),(1,0,[0,3]),(2,0,[0,3,4]),(3,0,[0,3,4,8]),(5,0,[0,3,4]),(4,0,[0,3,4]),(6,0,[2])] Id.y2o=some Fn.y2o:=by kernel_rfl
theorem y0u:cFunc Proofs.Tryz.prog brs [(0,0,[0,2]),(1,0,[2])] Id.y0u=some Fn.y0u:=by kernel_rfl
theorem y3n:cFunc Proofs.Tryz.prog brs [(0,0,[1,2]),(1,0,[4])] Id.y3n=some Fn.y3n:=by kernel_rfl
theorem y4p:cFunc Proofs.Tryz.prog brs [(0,0,[0,3,4]),(1,0,[0,3,4,15]),(2,0,[4,5]),(3,0,[4,5])] Id.y4p=some Fn.y4p:=by kernel_rfl
theorem y3o:cFunc Proofs.Tryz.prog brs [(0,0,[1,2]),(1,0,[1,2,5]),(2,0,[1,2,5,6]),(3,0,[2,5,6,22,23,24]),(4,0,[2,5,6,22,23,24,25]),(5,0,[2,5,6,8,22,23,24]),(6,0,[2,5,6,22,23,24]),(7,0,[2,5,6,22,23,24]),(8,0,[2,5,6,22,23,24]),(9,0,[4])] Id.y3o=some Fn.y3o:=by kernel_rfl
theorem y0s:cFunc Proofs.Tryz.prog brs [(0,0,[0]),(1,0,[0,4]),(2,0,[2]),(3,0,[2])] Id.y0s=some Fn.y0s:=by kernel_rfl
theorem y39:cFunc Proofs.Tryz.prog yaq [(0,0,[1,2,5]),(1,0,[1,2,5,6]),(2,0,[5,6]),(3,0,[5,6,7]),(4,0,[5,6,7]),(5,0,[4,5])] Id.y39=some Fn.y39:=by kernel_rfl
theorem y10:cFunc Proofs.Tryz.prog brs [(0,0,[1,2]),(1,0,[2])] Id.y10=some Fn.y10:=by kernel_rfl
theorem y68:cFunc Proofs.Tryz.prog brs [(0,0,[1]),(1,0,[1,10]),(2,0,[2,3]),(3,0,[1,4]),(4,0,[1,4,21]),(5,0,[2,3]),(6,0,[1,4,5]),(7,0,[1,4,5,26,27]),(8,0,[1,4,5,26,27,28]),(9,0,[1,4,5,6,26,27]),(10,0,[1,4,5,6,7,26,27]),(11,0,[1,4,5,6,7,26,27,38]),(12,0,[2,3]),(13,0,[1,4,5,6,7,26,27]),(14,0,[1,4,5,26,27]),(15,0,[1,4,5,26,27]),(16,0,[2,3])] Id.y68=some Fn.y68:=by kernel_rfl
theorem y2j:cFunc Proofs.Tryz.prog yac [(0,0,[1,2,3,6]),(1,0,[1,2,3,6,7]),(2,0,[1,2,3,6,7,21,22,23]),(3,0,[1,2,3,6,7,21,22,23,24]),(4,0,[1,2,3,6,7,9,21,22,23]),(5,5,[1,2,3,6,7,21,22,23]),(6,0,[1,2,3,6,7,21,22,23]),(7,0,[2,3,6,7,41,42,43]),(8,0,[2,3,6,7,41,42,43,44]),(9,0,[2,3,6,7,10,11,41,42,43]),(10,0,[2,3,6,7,41,42,43]),(11,0,[2,3,6,7,41,42,43]),(12,0,[6])] Id.y2j=some Fn.y2j:=by kernel_rfl
theorem y2b:cFunc Proofs.Tryz.prog brs [(0,0,[1,2]),(1,0,[2])] Id.y2b=some Fn.y2b:=by kernel_rfl
theorem y2p:cFunc Proofs.Tryz.prog brs [(0,0,[2,3,4]),(1,0,[4])] Id.y2p=some Fn.y2p:=by kernel_rfl
theorem y13:cFunc Proofs.Tryz.prog brs [(0,0,[2,3,4]),(1,0,[4])] Id.y13=some Fn.y13:=by kernel_rfl
theorem y3g:cFunc Proofs.Tryz.prog brs [(0,0,[2,3,4]),(1,0,[4])] Id.y3g=some Fn.y3g:=by kernel_rfl
theorem y6m:cFunc Proofs.Tryz.prog brs [(0,0,[0,1,4]),(1,0,[0,1,4,7]),(2,0,[4,5]),(3,0,[4,5])] Id.y6m=some Fn.y6m:=by kernel_rfl
theorem y4f:cFunc Proofs.Tryz.prog brs [(0,0,[0,1,4]),(1,0,[4])] Id.y4f=some Fn.y4f:=by kernel_rfl
theorem y3s:cFunc Proofs.Tryz.prog brs [(0,0,[1,2]),(1,0,[1,5]),(2,0,[4]),(3,0,[24]),(4,0,[4]),(5,0,[4])] Id.y3s=some Fn.y3s:=by kernel_rfl
theorem y45:cFunc Proofs.Tryz.prog brs [(0,0,[3,4,5,6]),(1,0,[8])] Id.y45=some Fn.y45:=by kernel_rfl
theorem y44:cFunc Proofs.Tryz.prog brs [(0,0,[4,5,6,7,8,10]),(1,0,[4,5,6,7,8,10,11]),(2,0,[5,7,8,10,11,12]),(3,0,[5,7,10,13]),(4,0,[10])] Id.y44=some Fn.y44:=by kernel_rfl
theorem y1u:cFunc Proofs.Tryz.prog brs [(0,0,[1]),(1,0,[2])] Id.y1u=some Fn.y1u:=by kernel_rfl
theorem y1z:cFunc Proofs.Tryz.prog brs [(0,0,[1,2,4]),(1,0,[1,2,4,5]),(2,0,[1,2,4,5,18]),(3,0,[1,2,4,5]),(4,0,[1,2,4]),(5,0,[4])] Id.y1z=some Fn.y1z:=by kernel_rfl
theorem y1m:cFunc Proofs.Tryz.prog brs [(0,0,[1,2,4]),(1,0,[4])] Id.y1m=some Fn.y1m:=by kernel_rfl
theorem y2g:cFunc Proofs.Tryz.prog brs [(0,0,[2,3,4]),(1,0,[2,3,4,5]),(2,0,[4]),(3,0,[2,3,4,19]),(4,0,[4]),(5,0,[4])] Id.y2g=some Fn.y2g:=by kernel_rfl
theorem y2c:cFunc Proofs.Tryz.prog brs [(0,0,[0,1]),(1,0,[0,1,5]),(2,0,[1,5,17,18,19]),(3,0,[1,5,17,18,19,20]),(4,0,[1,5,6,7,17,18,19]),(5,0,[1,5,6,7,8,17,18,19]),(6,0,[1,5,6,7,8,17,18,19,24,25,26]),(7,0,[1,5,6,7,8,17,18,19,24,25,26,27]),(8,0,[1,5,6,7,8,9,10,17,18,19,24,25,26]),(9,0,[1,5,6,7,8,9,17,18,19,24,25,26]),(10,0,[1,5,6,7,8,17,18,19,24,25,26]),(11,0,[1,5,6,7,8,17,18,19,24,25,26]),(12,0,[1,5,6,7,8,17,18,19,24,25,26]),(13,0,[1,5,17,18,19]),(14,0,[1,5,17,18,19]),(15,0,[4])] Id.y2c=some Fn.y2c:=by kernel_rfl
theorem y0w:cFunc Proofs.Tryz.prog brs [(0,0,[0,1,4]),(1,0,[4])] Id.y0w=some Fn.y0w:=by kernel_rfl
theorem y2f:cFunc Proofs.Tryz.prog brs [(0,0,[2,3]),(1,0,[2,3,5]),(2,0,[4]),(3,0,[2,3,15]),(4,0,[4]),(5,0,[2,3,21]),(6,0,[4]),(7,0,[4])] Id.y2f=some Fn.y2f:=by kernel_rfl
theorem y0n:cFunc Proofs.Tryz.prog brs [(0,0,[3,4,5,6,7,10]),(1,0,[3,4,5,6,7,10,12]),(2,0,[3,4,5,6,10,61]),(3,0,[10,11]),(4,0,[3,4,5,6,10,76]),(5,0,[10,11]),(6,0,[10,11])] Id.y0n=some Fn.y0n:=by kernel_rfl
theorem y08:cFunc Proofs.Tryz.prog brs [(0,0,[2,3,4]),(1,0,[2,3,4,5]),(2,0,[2,3,4,5,6]),(3,0,[2,3,4,5,6,20,21]),(4,0,[2,3,4,5,6,20,21,22]),(5,0,[2,3,4,5,6,20,21]),(6,0,[2,3,4,5,6,20,21]),(7,0,[2,3,4,5,6,7,8,20,21]),(8,0,[2,3,4,5,6,7,20,21,55]),(9,0,[2,3,4,5,6,20,21]),(10,0,[2,3,4,5,6,20,21]),(11,0,[4,9]),(12,0,[4])] Id.y08=some Fn.y08:=by kernel_rfl
theorem y5d:cFunc Proofs.Tryz.prog brs [(0,0,[0,2]),(1,0,[2])] Id.y5d=some Fn.y5d:=by kernel_rfl
theorem y4v:cFunc Proofs.Tryz.prog brs [(0,0,[0,2]),(1,0,[2])] Id.y4v=some Fn.y4v:=by kernel_rfl
theorem y0o:cFunc Proofs.Tryz.prog brs [(0,0,[3,4,5,6]),(1,0,[6])] Id.y0o=some Fn.y0o:=by kernel_rfl
theorem y2h:cFunc Proofs.Tryz.prog brs [(0,0,[1]),(1,0,[1,3]),(2,0,[2]),(3,0,[6]),(4,0,[2]),(5,0,[2])] Id.y2h=some Fn.y2h:=by kernel_rfl
theorem y3p:cFunc Proofs.Tryz.prog brs [(0,0,[1]),(1,0,[1,3]),(2,0,[1,3,10]),(3,0,[1,3]),(4,0,[1,3,16]),(5,0,[3]),(6,0,[2])] Id.y3p=some Fn.y3p:=by kernel_rfl
theorem y3d:cFunc Proofs.Tryz.prog brs [(0,0,[1]),(1,0,[1,3]),(2,0,[3,4]),(3,0,[3,4,12]),(4,0,[2]),(5,0,[2])] Id.y3d=some Fn.y3d:=by kernel_rfl
theorem y1i:cFunc Proofs.Tryz.prog brs [(0,0,[0,2]),(1,0,[0,2,3]),(2,0,[0,2,3,4]),(3,0,[0,2,3,4,8]),(5,0,[0,2,3,4]),(4,0,[0,2,3,4]),(6,0,[2])] Id.y1i=some Fn.y1i:=by kernel_rfl
theorem y1e:cFunc Proofs.Tryz.prog brs [(0,0,[2,3,4]),(1,0,[2,3,4,9]),(2,0,[4]),(3,0,[2,3,4,23]),(4,0,[4]),(5,0,[4])] Id.y1e=some Fn.y1e:=by kernel_rfl
theorem y31:cFunc Proofs.Tryz.prog brs [(0,0,[1,2]),(1,0,[2,3]),(2,0,[2])] Id.y31=some Fn.y31:=by kernel_rfl
theorem y0q:cFunc Proofs.Tryz.prog brs [(0,0,[0,2]),(1,0,[0,2,3]),(2,0,[0,2,3]),(3,0,[0,2,3,9]),(4,0,[0,2,3,4]),(5,0,[0,2,3,4,13]),(6,0,[0,2,3,4]),(7,0,[0,2,3]),(8,0,[0,2,3]),(9,0,[2])] Id.y0q=some Fn.y0q:=by kernel_rfl
theorem y1k:cFunc Proofs.Tryz.prog brs [(0,0,[2,3]),(1,0,[2,3,9]),(2,0,[11]),(3,0,[4]),(4,0,[4]),(5,0,[2,3,13]),(6,0,[4]),(7,0,[4])] Id.y1k=some Fn.y1k:=by kernel_rfl
theorem y30:cFunc Proofs.Tryz.prog brs [(0,0,[2,3,4]),(1,0,[4])] Id.y30=some Fn.y30:=by kernel_rfl
theorem y27:cFunc Proofs.Tryz.prog brs [(0,0,[2,3,4,5]),(1,0,[2,3,4,5,6,7]),(2,0,[3,4,5,6,7,18]),(3,0,[4,5]),(4,0,[3,4,5,6,7,25]),(5,0,[4,5]),(6,0,[4,5])] Id.y27=some Fn.y27:=by kernel_rfl
theorem y1f:cFunc Proofs.Tryz.prog brs [(0,0,[4,5,6,7,8]),(1,0,[4,5,6,7,8,11]),(2,0,[4,5,6,7,8,11,14]),(4,0,[4,5,6,7,8,11]),(5,0,[4,5,6,7,8,11,26]),(6,0,[10]),(3,0,[4,5,6,7,8,11]),(7,0,[10])] Id.y1f=some Fn.y1f:=by kernel_rfl
theorem y32:cFunc Proofs.Tryz.prog brs [(0,0,[2,3,4]),(1,0,[4])] Id.y32=some Fn.y32:=by kernel_rfl
theorem y21:cFunc Proofs.Tryz.prog brs [(0,0,[1,2]),(1,0,[2])] Id.y21=some Fn.y21:=by kernel_rfl
theorem y2i:cFunc Proofs.Tryz.prog brs [(0,0,[4,5,6,7,8]),(1,0,[8])] Id.y2i=some Fn.y2i:=by kernel_rfl
theorem y5j:cFunc Proofs.Tryz.prog brs [(0,0,[1]),(1,0,[1,18]),(2,0,[2]),(3,0,[1,20,21,22]),(4,0,[1,20,21,22,23]),(5,0,[1,4,20,21,22]),(6,0,[1,20,21,22,31]),(7,0,[2]),(8,0,[1,20,21,22]),(9,0,[2])] Id.y5j=some Fn.y5j:=by kernel_rfl
theorem y3m:cFunc Proofs.Tryz.prog brs [(0,0,[0,1]),(1,0,[3])] Id.y3m=some Fn.y3m:=by kernel_rfl
theorem y0k:cFunc Proofs.Tryz.prog brs [(0,0,[0,1]),(1,0,[4])] Id.y0k=some Fn.y0k:=by kernel_rfl
theorem y15:cFunc Proofs.Tryz.prog brs [(0,0,[2,3,4]),(1,0,[4])] Id.y15=some Fn.y15:=by kernel_rfl
theorem y0g:cFunc Proofs.Tryz.prog brs [(0,0,[1,2]),(1,0,[1,2,7]),(2,0,[2]),(3,0,[2])] Id.y0g=some Fn.y0g:=by kernel_rfl
theorem y4o:cFunc Proofs.Tryz.prog brs [(0,0,[1,2]),(1,0,[2])] Id.y4o=some Fn.y4o:=by kernel_rfl
theorem y5c:cFunc Proofs.Tryz.prog brs [(0,0,[1,2]),(1,0,[2])] Id.y5c=some Fn.y5c:=by kernel_rfl
theorem y26:cFunc Proofs.Tryz.prog brs [(0,0,[0]),(1,0,[0,4]),(2,0,[2]),(3,0,[2])] Id.y26=some Fn.y26:=by kernel_rfl
theorem y5i:cFunc Proofs.Tryz.prog brs [(0,0,[0,1,4]),(1,0,[0,1,4,5]),(2,0,[0,1,4,5,14]),(3,0,[4]),(4,0,[1,4,5]),(5,0,[1,4,5,6]),(6,0,[1,4,5,6,30]),(7,5,[4]),(8,0,[4,5,7]),(9,5,[4])] Id.y5i=some Fn.y5i:=by kernel_rfl
theorem y3q:cFunc Proofs.Tryz.prog yc6 [(0,0,[1,3,4,6]),(1,0,[1,3,4,6,15,16,17]),(2,0,[1,3,4,6,15,16,17,18]),(3,0,[1,3,4,6,9,10,15,16,17]),(4,0,[1,3,4,6,9,10,11,15,16,17]),(5,0,[1,3,4,6,9,10,11,15,16,17,22,23,24]),(6,0,[1,3,4,6,9,10,11,15,16,17,22,23,24,25]),(7,0,[1,3,4,6,9,10,11,13,15,16,17,22,23,24]),(8,0,[1,3,4,6,9,10,11,15,16,17,22,23,24]),(9,0,[1,3,4,6,9,10,11,15,16,17,22,23,24]),(10,5,[1,3,4,6,15,16,17]),(11,0,[1,3,4,6,15,16,17]),(12,0,[8])] Id.y3q=some Fn.y3q:=by kernel_rfl
theorem y5v:cFunc Proofs.Tryz.prog brs [(0,0,[0,1,2]),(1,0,[1,2,7]),(2,0,[7]),(3,0,[6])] Id.y5v=some Fn.y5v:=by kernel_rfl
theorem y2n:cFunc Proofs.Tryz.prog brs [(0,0,[1,2]),(1,0,[2])] Id.y2n=some Fn.y2n:=by kernel_rfl
theorem y1c:cFunc Proofs.Tryz.prog brs [(0,0,[2,3,4]),(1,0,[2,3,4,11]),(2,0,[2,3,4]),(3,0,[2,3,4,5]),(4,0,[2,3,4,5,29]),(5,0,[4]),(6,0,[2,3,4,5,6]),(7,0,[2,4,6,8]),(8,0,[4])] Id.y1c=some Fn.y1c:=by kernel_rfl
theorem y3a:cFunc Proofs.Tryz.prog brs [(0,0,[3,4,5,6]),(1,0,[3,4,5,6,11]),(2,0,[4,5]),(3,0,[8])] Id.y3a=some Fn.y3a:=by kernel_rfl
theorem y2x:cFunc Proofs.Tryz.prog brs [(0,0,[1,2]),(1,0,[2])] Id.y2x=some Fn.y2x:=by kernel_rfl
theorem y2m:cFunc Proofs.Tryz.prog brs [(0,0,[2,3,4,6]),(1,0,[2,3,6,7]),(2,0,[2,3,6,7,23]),(3,0,[6]),(4,0,[3,6,7,8,9]),(5,0,[3,6,7,8,9,10]),(6,4,[3,6,7,8,9,10,11,12]),(7,5,[3,6,7,8,9,10,11,12,36]),(8,0,[3,6,7,8,9,10,11,12]),(9,0,[3,6,7,8,9,10,11,12,46]),(10,0,[3,6,7,8,9,10,11,12,13]),(11,5,[3,6,7,8,9,10,11,12,13,58]),(12,0,[3,6,7,8,9,10,11,12]),(13,0,[3,6,7,8,9,10,11,12]),(14,0,[6])] Id.y2m=some Fn.y2m:=by kernel_rfl
theorem y1n:cFunc Proofs.Tryz.prog brs [(0,0,[1,2]),(1,0,[2])] Id.y1n=some Fn.y1n:=by kernel_rfl
theorem y22:cFunc Proofs.Tryz.prog brs [(0,0,[2,3,4]),(1,0,[4,5]),(2,0,[4])] Id.y22=some Fn.y22:=by kernel_rfl
theorem y2r:cFunc Proofs.Tryz.prog brs [(0,0,[0,1]),(1,0,[0,1,12]),(2,0,[0,1]),(3,0,[0,1,5]),(4,0,[0,1,5,6]),(5,0,[0,1,5,6,20,21]),(6,0,[0,1,5,6,20,21,22]),(7,0,[0,1,5,6,7,20,21]),(8,0,[0,1,5,6,7,20,21]),(9,0,[0,1,5,6,7,20,21,34]),(10,0,[0,1,5,6,7,20,21]),(11,0,[0,1,5,6,20,21]),(12,0,[0,1,5,6,20,21]),(13,0,[0,1,5,6,20,21]),(14,0,[5]),(15,0,[4])] Id.y2r=some Fn.y2r:=by kernel_rfl
theorem y20:cFunc Proofs.Tryz.prog brs [(0,0,[0]),(1,0,[2])] Id.y20=some Fn.y20:=by kernel_rfl
theorem y47:cFunc Proofs.Tryz.prog brs [(0,0,[0,1]),(1,0,[0,1,11]),(2,0,[0,1,19]),(3,0,[5,6]),(4,0,[5,6,25]),(5,0,[5,6]),(6,0,[4]),(7,0,[1,8]),(8,0,[0,1]),(9,0,[4])] Id.y47=some Fn.y47:=by kernel_rfl
theorem y17:cFunc Proofs.Tryz.prog brs [(0,0,[0,1]),(1,0,[0,1,15]),(2,0,[4,5]),(3,0,[0,1,21]),(4,0,[4,5]),(5,0,[0,1,6]),(6,0,[0,6,7]),(7,0,[0,6,7,8]),(8,0,[0,6,7,8,9]),(9,0,[0,6,7,8,9]),(10,0,[0,6,7,8,9]),(11,0,[6,7,8,9,10]),(12,0,[6,7,8,9,10,11]),(13,0,[6,7,8,9,10,11,68]),(15,0,[6,7,8,9,10,11,12]),(16,0,[6,7,8,9,10,11,13,14]),(17,0,[6,7,8,9,10,11,13,14,127]),(18,0,[6,7,8,9,10,11,13,14]),(19,0,[6,7,8,9,10,11,13,14]),(20,0,[6,7,8,9,10,11,13,14,139]),(21,0,[6,7,8,9,10,11,13,144]),(22,0,[6,7,8,9,10,11,13]),(23,0,[6,7,8,9,10,11,13]),(24,0,[6,7,8,9,10,11]),(14,0,[6,7,8,9,10,11]),(25,0,[4,5])] Id.y17=some Fn.y17:=by kernel_rfl
theorem y3w:cFunc Proofs.Tryz.prog brs [(0,0,[0,1]),(1,0,[0,1,5]),(2,0,[0,1,5,6]),(3,0,[0,1,5,6,13,14]),(4,0,[0,1,5,6,13,14,15]),(5,0,[0,1,5,6,7,13,14]),(6,0,[0,1,5,6,7,8,13,14]),(7,0,[0,1,5,6,7,8,13,14,20]),(8,0,[0,1,5,6,7,8,13,14]),(9,0,[0,1,5,6,13,14]),(10,0,[0,1,5,6,13,14]),(11,0,[4])] Id.y3w=some Fn.y3w:=by kernel_rfl
theorem y1p:cFunc Proofs.Tryz.prog brs [(0,0,[0,1]),(1,0,[0,1,10]),(2,0,[15]),(3,0,[4]),(4,0,[4]),(5,0,[0,1,5]),(6,0,[0,1,5,20]),(8,0,[0,1,5,31]),(9,0,[40]),(10,0,[4]),(11,0,[4]),(7,0,[0,1,5]),(12,0,[4])] Id.y1p=some Fn.y1p:=by kernel_rfl
theorem y0z:cFunc Proofs.Tryz.prog brs [(0,0,[0]),(1,0,[0,3]),(2,0,[0,3,15]),(3,0,[0,3]),(4,0,[2])] Id.y0z=some Fn.y0z:=by kernel_rfl
theorem y37:cFunc Proofs.Tryz.prog brs [(0,0,[2,3,4]),(1,0,[2,3,4,8]),(2,0,[4,5]),(3,0,[4,5])] Id.y37=some Fn.y37:=by kernel_rfl
theorem y49:cFunc Proofs.Tryz.prog brs [(0,0,[1,2,4]),(1,0,[1,2,4,8]),(2,0,[4,5]),(3,0,[1,2,4,16]),(4,0,[4,5]),(5,0,[1,4,6]),(6,0,[4,5])] Id.y49=some Fn.y49:=by kernel_rfl
theorem y5b:cFunc Proofs.Tryz.prog brs [(0,0,[0,1,4]),(1,0,[0,1,4,5]),(2,0,[0,4,5,8,9,10]),(3,0,[0,4,5,8,9,10,11]),(4,0,[0,4,5,6,7,8,9,10]),(5,0,[0,4,5,7,8,9,10,22]),(6,0,[0,4,5,8,9,10]),(7,0,[0,4,5,8,9,10]),(8,0,[4])] Id.y5b=some Fn.y5b:=by kernel_rfl
theorem y4q:cFunc Proofs.Tryz.prog brs [(0,0,[2,3]),(1,0,[4])] Id.y4q=some Fn.y4q:=by kernel_rfl
theorem y4r:cFunc Proofs.Tryz.prog brs [(0,0,[2,3]),(1,0,[4])] Id.y4r=some Fn.y4r:=by kernel_rfl
theorem y29:cFunc Proofs.Tryz.prog brs [(0,0,[0]),(1,0,[0,10]),(2,0,[2]),(3,0,[0,3]),(4,0,[0,3,13]),(5,0,[3,4,5]),(6,0,[3,4,6]),(7,0,[3,4,6,7]),(8,0,[3,4,6,7,31]),(10,0,[3,4,6,7]),(11,0,[3,4,6,7]),(9,0,[3,4,6,7]),(12,0,[0,3]),(13,0,[3]),(14,0,[2])] Id.y29=some Fn.y29:=by kernel_rfl
theorem y23:cFunc Proofs.Tryz.prog brs [(0,0,[1]),(1,0,[1,10]),(2,0,[2]),(3,0,[1,3]),(4,0,[1,3,4]),(5,0,[1,3,4,15]),(7,0,[1,3,4,5]),(8,0,[1,3,4,5,6]),(9,0,[1,3,4,5,6,24]),(11,0,[1,3,4,5,6]),(12,0,[1,3,4,5,6]),(10,0,[1,3,4,5,6]),(6,0,[1,3,4]),(13,0,[1,3,39]),(14,0,[1,3]),(15,0,[3,43]),(16,0,[2]),(17,0,[2])] Id.y23=some Fn.y23:=by kernel_rfl
theorem y0e:cFunc Proofs.Tryz.prog brs [(0,0,[0,1,4]),(1,0,[4])] Id.y0e=some Fn.y0e:=by kernel_rfl
theorem y3f:cFunc Proofs.Tryz.prog brs [(0,0,[0,1]),(1,0,[0,1,5]),(2,0,[0,1,5,6]),(3,0,[0,1,5,6,7]),(4,0,[0,1,5,6,7,21]),(6,0,[0,1,5,6,7,27]),(7,0,[0,1,5,6,7]),(8,0,[0,1,5,6,7,37]),(9,0,[0,1,5,6,7]),(10,0,[0,1,5,6,7]),(11,0,[0,1,5,6,7]),(5,0,[0,1,5,6,7]),(12,0,[4])] Id.y3f=some Fn.y3f:=by kernel_rfl
theorem y1s:cFunc Proofs.Tryz.prog brs [(0,0,[0,1]),(1,0,[0,1,10]),(2,0,[15]),(3,0,[4]),(4,0,[4]),(5,0,[0,1,5]),(6,0,[0,1,5,20]),(8,0,[0,1,5,31]),(9,0,[40]),(10,0,[4]),(11,0,[4]),(7,0,[0,1,5]),(12,0,[4])] Id.y1s=some Fn.y1s:=by kernel_rfl
theorem y1v:cFunc Proofs.Tryz.prog brs [(0,0,[0,1]),(1,0,[0,1,5]),(2,0,[0,1,5,6]),(3,0,[0,1,5,6,7]),(4,0,[0,1,5,6,7,12]),(6,0,[0,1,5,7,8]),(7,0,[0,1,5,7,8,24]),(8,0,[0,1,5,7,8]),(9,0,[0,1,5,6,7,8]),(10,0,[0,1,5,6,7,8,32]),(11,0,[0,1,5,7,8]),(12,0,[0,1,5,6,7,8]),(13,0,[0,1,5,6,7]),(5,0,[0,1,5,6,7]),(14,0,[4])] Id.y1v=some Fn.y1v:=by kernel_rfl
theorem y28:cFunc Proofs.Tryz.prog brs [(0,0,[0,1]),(1,0,[0,1,6]),(2,0,[0,1,6,7]),(3,0,[0,1,6,7,8]),(4,0,[0,1,6,7,8,17]),(6,0,[0,1,6,7,8]),(7,0,[0,1,6,7,8,9]),(8,0,[0,1,6,7,8,9,30]),(9,0,[0,1,6,7,8,9]),(10,0,[0,1,6,7,8,9,40]),(11,0,[0,1,6,7,8,9]),(12,0,[0,1,6,7,8,9]),(13,0,[0,1,6,7,8,9,63]),(14,0,[0,1,6,7,8,9]),(15,0,[0,1,6,7,8,9]),(16,0,[0,1,6,7,8]),(5,0,[0,1,6,7,8]),(17,0,[4,5])] Id.y28=some Fn.y28:=by kernel_rfl
theorem y0r:cFunc Proofs.Tryz.prog brs [(0,0,[0,1]),(1,0,[0,1,7,8]),(2,0,[0,1,7,8,9]),(3,0,[0,1,5,7,8]),(4,0,[0,1,5,7,8,16]),(5,0,[4]),(6,0,[0,1,7,8]),(7,0,[4])] Id.y0r=some Fn.y0r:=by kernel_rfl
theorem y33:cFunc Proofs.Tryz.prog brs [(0,0,[0,1]),(1,0,[0,1,5]),(2,0,[0,1,5,6]),(3,0,[0,1,5,6,19]),(5,0,[0,1,5,6,7]),(6,0,[0,1,5,6,7,8]),(7,0,[0,1,5,6,7,8,29]),(9,0,[0,1,5,6,8,9]),(10,0,[0,1,5,6,8,9,43]),(11,0,[0,1,5,6,8,9]),(12,0,[0,1,5,6,8,9]),(13,0,[0,1,5,6,7,8]),(8,0,[0,1,5,6,7,8]),(4,0,[0,1,5,6]),(14,0,[4])] Id.y33=some Fn.y33:=by kernel_rfl
theorem y41:cFunc Proofs.Tryz.prog brs [(0,0,[1,2,4]),(1,0,[2,4,5,6]),(2,0,[2,4,5,20]),(3,0,[2,4,5]),(4,0,[4])] Id.y41=some Fn.y41:=by kernel_rfl
theorem y67:cFunc Proofs.Tryz.prog brs [(0,0,[0,1]),(1,0,[0,1,5]),(2,0,[0,1,5,19,20]),(3,0,[0,1,5,19,20,21]),(4,0,[0,1,5,6,19,20]),(5,0,[0,1,5,19,20]),(6,0,[0,1,5,19,20]),(7,0,[0,5,34,35,36]),(8,0,[0,5,34,35,36,37]),(9,0,[0,5,7,8,34,35,36]),(10,0,[0,5,7,8,9,34,35,36]),(11,0,[0,5,7,8,9,34,35,36,45,46,47]),(12,0,[0,5,7,8,9,34,35,36,45,46,47,48]),(13,0,[0,5,7,8,9,10,11,34,35,36,45,46,47]),(14,0,[0,5,7,8,9,34,35,36,45,46,47]),(15,0,[0,5,7,8,9,34,35,36,45,46,47]),(16,0,[0,5,7,8,34,35,36]),(17,0,[0,5,7,34,35,36]),(18,0,[0,5,34,35,36]),(19,0,[0,5,34,35,36]),(20,0,[4])] Id.y67=some Fn.y67:=by kernel_rfl
theorem y2t:cFunc Proofs.Tryz.prog brs [(0,0,[0]),(1,0,[0,3]),(2,0,[0,3,14,15,16]),(3,0,[0,3,14,15,16,17]),(4,0,[0,3,4,5,14,15,16]),(5,0,[0,3,4,14,15,16,39]),(6,0,[0,3,14,15,16]),(7,0,[0,3,14,15,16]),(8,0,[0,3,43]),(9,0,[2]),(10,0,[0,3,6]),(11,0,[0,3,6]),(12,0,[0,3,6,69,70]),(13,0,[0,3,6,69,70,71]),(14,0,[0,3,6,7,69,70]),(15,5,[0,3,6,69,70]),(16,0,[0,3,6,69,70]),(17,0,[0,3,6]),(18,0,[0,6]),(19,0,[0,6]),(20,0,[0,6,120]),(21,0,[2]),(22,0,[0,6,124,125,126]),(23,0,[0,6,124,125,126,127]),(24,0,[0,6,8,9,124,125,126]),(25,0,[0,6,8,124,125,126,133]),(26,0,[0,6,8,124,125,126,138,139]),(27,0,[0,6,8,124,125,126,138,139,140]),(28,0,[0,6,8,10,124,125,126,138,139]),(29,0,[0,6,8,10,124,125,126,138,139,153]),(30,0,[0,6,124,125,126]),(31,0,[0,6,8,124,125,126,138,139]),(32,0,[0,6,124,125,126]),(33,0,[]),(34,0,[2])] Id.y2t=some Fn.y2t:=by kernel_rfl
theorem y2l:cFunc Proofs.Tryz.prog brs [(0,0,[0,1]),(1,0,[0,1,5]),(2,0,[0,1,5,14,15,16]),(3,0,[0,1,5,14,15,16,17]),(4,0,[0,1,5,6,7,14,15,16]),(5,0,[0,1,5,6,8,14,15,16]),(6,0,[0,1,5,6,8,14,15,16,34]),(7,0,[0,1,5,14,15,16]),(8,0,[0,1,5,14,15,16]),(9,0,[4])] Id.y2l=some Fn.y2l:=by kernel_rfl
theorem y4d:cFunc Proofs.Tryz.prog brs [(0,5,[0,1]),(1,0,[0,21,22,23]),(2,0,[0,21,22,23,24]),(3,0,[0,4,5,21,22,23]),(4,0,[0,4,5,21,22,23,28]),(5,0,[0,4,5,21,22,23,28,29]),(6,0,[0,4,5,6,21,22,23,28]),(7,0,[0,4,5,6,7,21,22,23,28]),(8,0,[0,4,5,6,7,21,22,23,28,33]),(9,0,[0,4,5,6,7,21,22,23,28]),(10,0,[0,4,5,21,22,23,28]),(11,0,[0,4,5,21,22,23,28]),(12,0,[0,21,22,23])] Id.y4d=some Fn.y4d:=by kernel_rfl
theorem y3b:cFunc Proofs.Tryz.prog brs [(0,0,[0,1,2]),(1,0,[0,1,2,7]),(2,0,[0,1,2,7,12]),(3,0,[6]),(4,0,[0,1,2,7,8]),(5,0,[0,1,2,7,8,17]),(6,0,[6]),(7,0,[0,1,2])] Id.y3b=some Fn.y3b:=by kernel_rfl
theorem y2w:cFunc Proofs.Tryz.prog brs [(0,0,[0]),(1,0,[0,3]),(2,0,[0,3,9,10,11]),(3,0,[0,3,9,10,11,12]),(4,0,[0,3,4,5,9,10,11]),(5,0,[0,3,4,9,10,11,39]),(6,0,[0,3,9,10,11]),(7,0,[0,3,9,10,11]),(8,0,[2])] Id.y2w=some Fn.y2w:=by kernel_rfl
theorem y2v:cFunc Proofs.Tryz.prog brs [(0,0,[0,1]),(1,0,[0,1,5]),(2,0,[0,1,5,6]),(3,0,[0,1,5,6,14,15]),(4,0,[0,1,5,6,14,15,16]),(5,0,[0,1,5,6,7,14,15]),(6,0,[0,1,5,6,7,14,15,29]),(7,0,[0,1,5,6,7,8,14,15]),(8,0,[0,1,5,6,7,8,9,14,15]),(9,0,[0,1,5,6,7,8,14,15,77]),(10,0,[0,1,5,6,14,15]),(11,0,[0,1,5,6,14,15]),(12,0,[4])] Id.y2v=some Fn.y2v:=by kernel_rfl
theorem y2s:cFunc Proofs.Tryz.prog brs [(0,0,[0,1]),(1,0,[1,5]),(2,0,[1,5,13,14]),(3,0,[1,5,13,14,15]),(4,0,[1,5,6,13,14]),(5,0,[1,5,13,14]),(6,0,[1,5,13,14]),(7,0,[4])] Id.y2s=some Fn.y2s:=by kernel_rfl
theorem y3r:cFunc Proofs.Tryz.prog brs [(0,0,[0,1,4]),(1,0,[0,1,4,10,11,12]),(2,0,[0,1,4,10,11,12,13]),(3,0,[0,1,4,5,6,10,11,12]),(4,0,[0,1,4,5,10,11,12,19]),(5,0,[4]),(6,0,[0,1,4,10,11,12]),(7,0,[4])] Id.y3r=some Fn.y3r:=by kernel_rfl
theorem y5h:cFunc Proofs.Tryz.prog brs [(0,0,[0,1,2,4]),(1,0,[0,1,2,4,15]),(2,0,[4]),(3,0,[0,1,2,4,20,21,22]),(4,0,[0,1,2,4,20,21,22,23]),(5,0,[0,1,2,4,5,6,20,21,22]),(6,0,[0,1,2,4,5,20,21,22,29]),(7,0,[4]),(8,0,[0,1,2,4,20,21,22]),(9,0,[4])] Id.y5h=some Fn.y5h:=by kernel_rfl
theorem y6l:cFunc Proofs.Tryz.prog brs [(0,0,[0]),(1,0,[0])] Id.y6l=some Fn.y6l:=by kernel_rfl
theorem y5o:cFunc Proofs.Tryz.prog brs [(0,0,[0]),(1,0,[0])] Id.y5o=some Fn.y5o:=by kernel_rfl
theorem y3j:cFunc Proofs.Tryz.prog brs [(0,0,[2,3,4]),(1,0,[4,5,6]),(2,0,[4,5,6,19]),(3,0,[4,5,6,7,8]),(4,0,[4,5,6,7,8,9,10]),(5,0,[4,5,6,7,9,35]),(6,0,[4,7,9,37]),(7,0,[4,7,9]),(8,0,[4]),(9,0,[4,6,12]),(10,0,[4,5,6]),(11,0,[4])] Id.y3j=some Fn.y3j:=by kernel_rfl
theorem y3z:cFunc Proofs.Tryz.prog brs [(0,0,[2,3,4]),(1,0,[2,3,4,5]),(2,0,[4])] Id.y3z=some Fn.y3z:=by kernel_rfl
theorem y2e:cFunc Proofs.Tryz.prog brs [(0,0,[1,2,3,4,5]),(1,0,[5])] Id.y2e=some Fn.y2e:=by kernel_rfl
theorem y57:cFunc Proofs.Tryz.prog brs [(0,0,[1,2]),(1,0,[2])] Id.y57=some Fn.y57:=by kernel_rfl
theorem y2y:cFunc Proofs.Tryz.prog brs [(0,0,[0]),(1,0,[0,3]),(2,0,[3,6,7,8]),(3,0,[3,6,7,8,9]),(4,0,[3,4,5,6,7,8]),(5,0,[3,6,7,8]),(6,0,[3,6,7,8]),(7,0,[2])] Id.y2y=some Fn.y2y:=by kernel_rfl
theorem y3h:cFunc Proofs.Tryz.prog brs [(0,0,[0,1]),(1,0,[0,1,6]),(2,0,[0,1,6,7]),(3,0,[0,1,6,7,8]),(4,0,[0,1,6,7,8,16]),(6,0,[0,1,6,7,8]),(7,0,[0,1,6,7,8]),(8,0,[0,1,6,7,8]),(5,0,[0,1,6,7,8]),(9,0,[4,5])] Id.y3h=some Fn.y3h:=by kernel_rfl
theorem y19:cFunc Proofs.Tryz.prog brs [(0,0,[0]),(1,0,[2])] Id.y19=some Fn.y19:=by kernel_rfl
theorem y1q:cFunc Proofs.Tryz.prog brs [(0,0,[0,1]),(1,0,[0,1,5]),(2,0,[1,5]),(3,0,[1,5,6]),(4,0,[1,5,6,25]),(5,0,[1,5,6,7]),(6,0,[5,6,7,8]),(7,0,[5,6,7,8,31]),(9,0,[5,6,7,8]),(8,0,[5,6,7,8]),(10,0,[4])] Id.y1q=some Fn.y1q:=by kernel_rfl
theorem y3u:cFunc Proofs.Tryz.prog brs [(0,0,[0,1,2,3]),(1,0,[0,1,2,3,9,10]),(2,0,[0,1,2,3,9,10,13,14,15]),(3,0,[0,1,2,3,9,10,13,14,15,16]),(4,0,[0,1,2,3,9,10,11,12,13,14,15]),(5,0,[0,1,2,3,9,10,11,13,14,15]),(6,0,[0,1,2,3,9,10,13,14,15]),(7,0,[0,1,2,3,9,10,13,14,15]),(8,0,[0,1,2,3,9,10,13,14,15]),(9,0,[10]),(10,0,[8])] Id.y3u=some Fn.y3u:=by kernel_rfl
theorem y3t:cFunc Proofs.Tryz.prog brs [(0,0,[0,1,2,6]),(1,0,[0,1,2,6,9,10,11]),(2,0,[0,1,2,6,9,10,11,12]),(3,0,[0,1,2,6,7,8,9,10,11]),(4,0,[0,1,2,6,9,10,11]),(5,0,[0,1,2,6,9,10,11]),(6,0,[])] Id.y3t=some Fn.y3t:=by kernel_rfl
theorem y36:cFunc Proofs.Tryz.prog brs [(0,0,[0,1]),(1,0,[0,1,12]),(2,0,[4]),(3,0,[1,5]),(4,0,[5,6]),(5,0,[5,6,21]),(6,0,[5,6,23,24]),(7,0,[5,6,23,24,25]),(8,0,[5,6,7,23,24]),(9,0,[5,6,7,23,24]),(10,0,[5,6,7,23,24,38]),(11,0,[5,6,23,24]),(12,0,[5,6,23,24]),(13,0,[4])] Id.y36=some Fn.y36:=by kernel_rfl
theorem y25:cFunc Proofs.Tryz.prog brs [(0,0,[0,1,2]),(1,0,[0,1,6]),(2,0,[6,7])] Id.y25=some Fn.y25:=by kernel_rfl
theorem y48:cFunc Proofs.Tryz.prog brs [(0,0,[2,3,4]),(1,0,[4])] Id.y48=some Fn.y48:=by kernel_rfl
theorem y3i:cFunc Proofs.Tryz.prog brs [(0,0,[0]),(1,0,[0,9]),(2,0,[2]),(3,0,[0,3]),(4,0,[0,3,4]),(5,0,[0,3,6]),(6,0,[0,3,6,29]),(7,0,[2]),(8,0,[0,3])] Id.y3i=some Fn.y3i:=by kernel_rfl
theorem y59:cFunc Proofs.Tryz.prog brs [(0,0,[0,2]),(1,0,[2])] Id.y59=some Fn.y59:=by kernel_rfl
theorem y1b:cFunc Proofs.Tryz.prog brs [(0,0,[0,2,3]),(1,0,[0,2,3,9]),(3,0,[0,2,3]),(2,0,[0,2,3])] Id.y1b=some Fn.y1b:=by kernel_rfl
theorem y1x:cFunc Proofs.Tryz.prog brs [(0,0,[0]),(1,0,[0,14]),(2,0,[0]),(3,0,[2])] Id.y1x=some Fn.y1x:=by kernel_rfl
theorem y34:cFunc Proofs.Tryz.prog brs [(0,0,[0,1]),(1,0,[0,1,5]),(2,0,[0,1,5,6]),(3,0,[0,1,5,6,12]),(5,0,[0,1,5,6]),(4,0,[0,1,5,6]),(6,0,[4])] Id.y34=some Fn.y34:=by kernel_rfl
theorem y2q:cFunc Proofs.Tryz.prog brs [(0,0,[3,4,5]),(1,0,[3,4,5,6]),(2,0,[3,4,5,6,7]),(3,0,[3,4,5,6,7,31,32]),(4,0,[3,4,5,6,7,31,32,33]),(5,0,[3,4,5,6,7,8,31,32]),(6,0,[3,4,5,6,7,31,32]),(7,0,[3,4,5,6,7,31,32]),(8,0,[3,4,5,6,7]),(9,0,[3,4,5,7]),(10,0,[3,4,5,9]),(11,0,[3,4,5,9,69,70]),(12,0,[3,4,5,9,69,70,71]),(13,0,[3,4,5,9,10,69,70]),(14,0,[3,4,5,9,10,69,70,75]),(15,5,[3,4,5,9,69,70]),(16,0,[3,4,5,9,69,70]),(17,5,[3,4,5]),(18,5,[])] Id.y2q=some Fn.y2q:=by kernel_rfl
theorem y43:cFunc Proofs.Tryz.prog brs [(0,0,[0,1,13,14,15]),(1,0,[0,1,13,14,15,16]),(2,0,[0,1,4,5,13,14,15]),(3,0,[0,1,4,13,14,15,22]),(4,0,[0,4,6]),(5,0,[0,6]),(6,0,[0,6,46,47]),(7,0,[0,6,46,47,48]),(8,0,[0,6,7,46,47]),(9,5,[0,6,46,47]),(10,0,[0,6,46,47]),(11,0,[]),(12,0,[0,1,13,14,15]),(13,0,[0,1,79,80,81]),(14,0,[0,1,79,80,81,82]),(15,0,[0,1,8,9,79,80,81]),(16,0,[0,1,8,79,80,81,88]),(17,0,[0,8]),(18,0,[0,8]),(19,0,[]),(20,0,[0,1,79,80,81])] Id.y43=some Fn.y43:=by kernel_rfl
theorem y42:cFunc Proofs.Tryz.prog ybv [(0,0,[0,1,5]),(1,0,[0,1,5,13,14,15]),(2,0,[0,1,5,13,14,15,16]),(3,0,[0,1,5,6,7,13,14,15]),(4,0,[0,1,5,6,13,14,15,22]),(5,0,[0,1,5,13,14,15]),(6,0,[0,1,5,13,14,15]),(7,0,[0,1,5,42,43,44]),(8,0,[0,1,5,42,43,44,45]),(9,0,[0,1,5,8,9,42,43,44]),(10,0,[0,1,5,8,42,43,44,51]),(11,0,[0,1,5,8,42,43,44]),(12,0,[0,1,5,42,43,44]),(13,0,[0,1,5,42,43,44])] Id.y42=some Fn.y42:=by kernel_rfl
theorem y6e:cFunc Proofs.Tryz.prog brs [(0,0,[2,3,4]),(1,0,[4,5]),(2,0,[4])] Id.y6e=some Fn.y6e:=by kernel_rfl
theorem y2k:cFunc Proofs.Tryz.prog brs [(0,0,[1]),(1,0,[1,9]),(2,0,[2,3]),(3,0,[1,4]),(4,0,[1,4,5]),(5,0,[1,4,5,15]),(7,0,[1,4,5]),(6,0,[1,4,5]),(8,0,[2,3])] Id.y2k=some Fn.y2k:=by kernel_rfl
theorem y2z:cFunc Proofs.Tryz.prog brs [(0,0,[0,2]),(1,0,[0,2,4]),(2,0,[0]),(3,0,[0,2]),(4,0,[0,2,8]),(5,0,[0,2]),(6,0,[0,2]),(7,0,[2])] Id.y2z=some Fn.y2z:=by kernel_rfl
theorem y3e:cFunc Proofs.Tryz.prog brs [(0,0,[0,1,2]),(1,0,[8]),(2,0,[6,8]),(3,0,[6,7])] Id.y3e=some Fn.y3e:=by kernel_rfl
theorem y0p:cFunc Proofs.Tryz.prog brs [(0,0,[0]),(1,0,[0,4]),(2,0,[2]),(3,0,[2])] Id.y0p=some Fn.y0p:=by kernel_rfl
theorem y3v:cFunc Proofs.Tryz.prog brs [(0,0,[0]),(1,0,[0,5]),(2,0,[2]),(3,0,[2])] Id.y3v=some Fn.y3v:=by kernel_rfl
theorem y38:cFunc Proofs.Tryz.prog brs [(0,0,[0,3,4,5,6,8,9,10]),(1,0,[0,3,4,5,6,8,9,10,11]),(2,0,[0,3,4,5,6,8,9,10,11,19]),(3,0,[10]),(4,0,[0,4,5,6,8,9,10,11]),(5,0,[0,4,5,6,8,9,10,11,26,27]),(6,0,[0,4,5,6,8,9,10,11,26,27,28]),(7,0,[0,4,5,6,8,9,10,11,12,26,27]),(8,0,[0,4,5,6,8,9,10,11,26,27]),(9,0,[0,4,5,6,8,9,10,11,26,27]),(10,0,[10])] Id.y38=some Fn.y38:=by kernel_rfl
theorem y3l:cFunc Proofs.Tryz.prog brs [(0,0,[0,1]),(1,0,[3])] Id.y3l=some Fn.y3l:=by kernel_rfl
theorem y6t:cFunc Proofs.Tryz.prog brs [(0,0,[0,2,4]),(1,0,[0,2,4,7]),(2,0,[0,2,4,7,13,14]),(3,0,[0,2,4,7,13,14,15]),(4,0,[0,2,4,7,8,13,14]),(5,0,[0,2,4,7,13,14]),(6,0,[0,2,4,7,13,14]),(7,0,[6])] Id.y6t=some Fn.y6t:=by kernel_rfl
end Ck
theorem y02 {P:Program} {f k:Nat} {a fn:AFn} {r:Option AFn} (hk:∃br hs,cFunc P br hs k=some a) (hr:r=some fn→∃br hs,cFunc P br hs f=some fn):(bif Nat.beq f k then some a else r)=some fn→∃br hs,cFunc P br hs f=some fn:=by
 intro h
 cases hb:Nat.beq f k with
 | true=>rw [hb] at h;cases h;rw [Nat.eq_of_beq_eq_true hb];exact hk
 | false=>rw [hb] at h;exact hr h
theorem y61 {P:Program} {f k:Nat} {fn:AFn} {X:Env} {r:Option AFn} (hX:EnvOk P X) (hr:r=some fn→∃br hs,cFunc P br hs f=some fn):(bif Nat.ble f k then X f else r)=some fn→∃br hs,cFunc P br hs f=some fn:=by
 intro h
 cases hb:Nat.ble f k with
 | true=>rw [hb] at h;exact hX f fn h
 | false=>rw [hb] at h;exact hr h
def E0:Env:=fun f=>
 bif Nat.beq f Id.y03 then some Fn.y03 else
 bif Nat.beq f Id.y0v then some Fn.y0v else
 bif Nat.beq f Id.y4g then some Fn.y4g else
 bif Nat.beq f Id.y0m then some Fn.y0m else
 bif Nat.beq f Id.y5g then some Fn.y5g else
 none
theorem E0_ok:EnvOk Proofs.Tryz.prog E0:=by
 intro f fn
 unfold E0
 refine y02 ⟨_,_,Ck.y03⟩ ?_
 refine y02 ⟨_,_,Ck.y0v⟩ ?_
 refine y02 ⟨_,_,Ck.y4g⟩ ?_
 refine y02 ⟨_,_,Ck.y0m⟩ ?_
 refine y02 ⟨_,_,Ck.y5g⟩ ?_
 intro h
 cases h
def E1:Env:=fun f=>
 bif Nat.beq f Id.y0l then some Fn.y0l else
 bif Nat.beq f Id.y0a then some Fn.y0a else
 bif Nat.beq f Id.y56 then some Fn.y56 else
 bif Nat.beq f Id.y1t then some Fn.y1t else
 bif Nat.beq f Id.y1r then some Fn.y1r else
 bif Nat.beq f Id.y11 then some Fn.y11 else
 bif Nat.beq f Id.y3k then some Fn.y3k else
 bif Nat.beq f Id.y24 then some Fn.y24 else
 bif Nat.beq f Id.y1a then some Fn.y1a else
 bif Nat.beq f Id.y07 then some Fn.y07 else
 bif Nat.beq f Id.y0j then some Fn.y0j else
 bif Nat.beq f Id.y1y then some Fn.y1y else
 bif Nat.beq f Id.y0h then some Fn.y0h else
 bif Nat.beq f Id.y0x then some Fn.y0x else
 bif Nat.beq f Id.y40 then some Fn.y40 else
 bif Nat.beq f Id.y1l then some Fn.y1l else
 none
theorem E1_ok:EnvOk Proofs.Tryz.prog E1:=by
 intro f fn
 unfold E1
 refine y02 ⟨_,_,Ck.y0l⟩ ?_
 refine y02 ⟨_,_,Ck.y0a⟩ ?_
 refine y02 ⟨_,_,Ck.y56⟩ ?_
 refine y02 ⟨_,_,Ck.y1t⟩ ?_
 refine y02 ⟨_,_,Ck.y1r⟩ ?_
 refine y02 ⟨_,_,Ck.y11⟩ ?_
 refine y02 ⟨_,_,Ck.y3k⟩ ?_
 refine y02 ⟨_,_,Ck.y24⟩ ?_
 refine y02 ⟨_,_,Ck.y1a⟩ ?_
 refine y02 ⟨_,_,Ck.y07⟩ ?_
 refine y02 ⟨_,_,Ck.y0j⟩ ?_
 refine y02 ⟨_,_,Ck.y1y⟩ ?_
 refine y02 ⟨_,_,Ck.y0h⟩ ?_
 refine y02 ⟨_,_,Ck.y0x⟩ ?_
 refine y02 ⟨_,_,Ck.y40⟩ ?_
 refine y02 ⟨_,_,Ck.y1l⟩ ?_
 intro h
 cases h
def E2:Env:=fun f=>
 bif Nat.beq f Id.y1h then some Fn.y1h else
 bif Nat.beq f Id.y35 then some Fn.y35 else
 none
theorem E2_ok:EnvOk Proofs.Tryz.prog E2:=by
 intro f fn
 unfold E2
 refine y02 ⟨_,_,Ck.y1h⟩ ?_
 refine y02 ⟨_,_,Ck.y35⟩ ?_
 intro h
 cases h
def E3:Env:=fun f=>
 bif Nat.beq f Id.y2o then some Fn.y2o else
 bif Nat.beq f Id.y0u then some Fn.y0u else
 bif Nat.beq f Id.y3n then some Fn.y3n else
 bif Nat.beq f Id.y4p then some Fn.y4p else
 bif Nat.beq f Id.y3o then some Fn.y3o else
 bif Nat.beq f Id.y0s then some Fn.y0s else
 bif Nat.beq f Id.y39 then some Fn.y39 else
 bif Nat.beq f Id.y10 then some Fn.y10 else
 bif Nat.beq f Id.y68 then some Fn.y68 else
 bif Nat.beq f Id.y2j then some Fn.y2j else
 bif Nat.beq f Id.y2b then some Fn.y2b else
 bif Nat.beq f Id.y2p then some Fn.y2p else
 bif Nat.beq f Id.y13 then some Fn.y13 else
 none
theorem E3_ok:EnvOk Proofs.Tryz.prog E3:=by
 intro f fn
 unfold E3
 refine y02 ⟨_,_,Ck.y2o⟩ ?_
 refine y02 ⟨_,_,Ck.y0u⟩ ?_
 refine y02 ⟨_,_,Ck.y3n⟩ ?_
 refine y02 ⟨_,_,Ck.y4p⟩ ?_
 refine y02 ⟨_,_,Ck.y3o⟩ ?_
 refine y02 ⟨_,_,Ck.y0s⟩ ?_
 refine y02 ⟨_,_,Ck.y39⟩ ?_
 refine y02 ⟨_,_,Ck.y10⟩ ?_
 refine y02 ⟨_,_,Ck.y68⟩ ?_
 refine y02 ⟨_,_,Ck.y2j⟩ ?_
 refine y02 ⟨_,_,Ck.y2b⟩ ?_
 refine y02 ⟨_,_,Ck.y2p⟩ ?_
 refine y02 ⟨_,_,Ck.y13⟩ ?_
 intro h
 cases h
def E4:Env:=fun f=>
 bif Nat.beq f Id.y3g then some Fn.y3g else
 bif Nat.beq f Id.y6m then some Fn.y6m else
 bif Nat.beq f Id.y4f then some Fn.y4f else
 bif Nat.beq f Id.y3s then some Fn.y3s else
 bif Nat.beq f Id.y45 then some Fn.y45 else
 bif Nat.beq f Id.y44 then some Fn.y44 else
 bif Nat.beq f Id.y1u then some Fn.y1u else
 bif Nat.beq f Id.y1z then some Fn.y1z else
 bif Nat.beq f Id.y1m then some Fn.y1m else
 bif Nat.beq f Id.y2g then some Fn.y2g else
 bif Nat.beq f Id.y2c then some Fn.y2c else
 bif Nat.beq f Id.y0w then some Fn.y0w else
 bif Nat.beq f Id.y2f then some Fn.y2f else
 bif Nat.beq f Id.y0n then some Fn.y0n else
 bif Nat.beq f Id.y08 then some Fn.y08 else
 bif Nat.beq f Id.y5d then some Fn.y5d else
 bif Nat.beq f Id.y4v then some Fn.y4v else
 bif Nat.beq f Id.y0o then some Fn.y0o else
 bif Nat.beq f Id.y2h then some Fn.y2h else
 bif Nat.beq f Id.y3p then some Fn.y3p else
 bif Nat.beq f Id.y3d then some Fn.y3d else
 bif Nat.beq f Id.y1i then some Fn.y1i else
 bif Nat.beq f Id.y1e then some Fn.y1e else
 none
theorem E4_ok:EnvOk Proofs.Tryz.prog E4:=by
 intro f fn
 unfold E4
 refine y02 ⟨_,_,Ck.y3g⟩ ?_
 refine y02 ⟨_,_,Ck.y6m⟩ ?_
 refine y02 ⟨_,_,Ck.y4f⟩ ?_
 refine y02 ⟨_,_,Ck.y3s⟩ ?_
 refine y02 ⟨_,_,Ck.y45⟩ ?_
 refine y02 ⟨_,_,Ck.y44⟩ ?_
 refine y02 ⟨_,_,Ck.y1u⟩ ?_
 refine y02 ⟨_,_,Ck.y1z⟩ ?_
 refine y02 ⟨_,_,Ck.y1m⟩ ?_
 refine y02 ⟨_,_,Ck.y2g⟩ ?_
 refine y02 ⟨_,_,Ck.y2c⟩ ?_
 refine y02 ⟨_,_,Ck.y0w⟩ ?_
 refine y02 ⟨_,_,Ck.y2f⟩ ?_
 refine y02 ⟨_,_,Ck.y0n⟩ ?_
 refine y02 ⟨_,_,Ck.y08⟩ ?_
 refine y02 ⟨_,_,Ck.y5d⟩ ?_
 refine y02 ⟨_,_,Ck.y4v⟩ ?_
 refine y02 ⟨_,_,Ck.y0o⟩ ?_
 refine y02 ⟨_,_,Ck.y2h⟩ ?_
 refine y02 ⟨_,_,Ck.y3p⟩ ?_
 refine y02 ⟨_,_,Ck.y3d⟩ ?_
 refine y02 ⟨_,_,Ck.y1i⟩ ?_
 refine y02 ⟨_,_,Ck.y1e⟩ ?_
 intro h
 cases h
def E5:Env:=fun f=>
 bif Nat.beq f Id.y31 then some Fn.y31 else
 bif Nat.beq f Id.y0q then some Fn.y0q else
 bif Nat.beq f Id.y1k then some Fn.y1k else
 bif Nat.beq f Id.y30 then some Fn.y30 else
 bif Nat.beq f Id.y27 then some Fn.y27 else
 bif Nat.beq f Id.y1f then some Fn.y1f else
 bif Nat.beq f Id.y32 then some Fn.y32 else
 bif Nat.beq f Id.y21 then some Fn.y21 else
 bif Nat.beq f Id.y2i then some Fn.y2i else
 bif Nat.beq f Id.y5j then some Fn.y5j else
 bif Nat.beq f Id.y3m then some Fn.y3m else
 bif Nat.beq f Id.y0k then some Fn.y0k else
 bif Nat.beq f Id.y15 then some Fn.y15 else
 bif Nat.beq f Id.y0g then some Fn.y0g else
 none
theorem E5_ok:EnvOk Proofs.Tryz.prog E5:=by
 intro f fn
 unfold E5
 refine y02 ⟨_,_,Ck.y31⟩ ?_
 refine y02 ⟨_,_,Ck.y0q⟩ ?_
 refine y02 ⟨_,_,Ck.y1k⟩ ?_
 refine y02 ⟨_,_,Ck.y30⟩ ?_
 refine y02 ⟨_,_,Ck.y27⟩ ?_
 refine y02 ⟨_,_,Ck.y1f⟩ ?_
 refine y02 ⟨_,_,Ck.y32⟩ ?_
 refine y02 ⟨_,_,Ck.y21⟩ ?_
 refine y02 ⟨_,_,Ck.y2i⟩ ?_
 refine y02 ⟨_,_,Ck.y5j⟩ ?_
 refine y02 ⟨_,_,Ck.y3m⟩ ?_
 refine y02 ⟨_,_,Ck.y0k⟩ ?_
 refine y02 ⟨_,_,Ck.y15⟩ ?_
 refine y02 ⟨_,_,Ck.y0g⟩ ?_
 intro h
 cases h
def E6:Env:=fun f=>
 bif Nat.beq f Id.y4o then some Fn.y4o else
 none
theorem E6_ok:EnvOk Proofs.Tryz.prog E6:=by
 intro f fn
 unfold E6
 refine y02 ⟨_,_,Ck.y4o⟩ ?_
 intro h
 cases h
def E7:Env:=fun f=>
 bif Nat.beq f Id.y5c then some Fn.y5c else
 bif Nat.beq f Id.y26 then some Fn.y26 else
 bif Nat.beq f Id.y5i then some Fn.y5i else
 bif Nat.beq f Id.y3q then some Fn.y3q else
 bif Nat.beq f Id.y5v then some Fn.y5v else
 none
theorem E7_ok:EnvOk Proofs.Tryz.prog E7:=by
 intro f fn
 unfold E7
 refine y02 ⟨_,_,Ck.y5c⟩ ?_
 refine y02 ⟨_,_,Ck.y26⟩ ?_
 refine y02 ⟨_,_,Ck.y5i⟩ ?_
 refine y02 ⟨_,_,Ck.y3q⟩ ?_
 refine y02 ⟨_,_,Ck.y5v⟩ ?_
 intro h
 cases h
def E8:Env:=fun f=>
 bif Nat.beq f Id.y2n then some Fn.y2n else
 bif Nat.beq f Id.y1c then some Fn.y1c else
 bif Nat.beq f Id.y3a then some Fn.y3a else
 bif Nat.beq f Id.y2x then some Fn.y2x else
 bif Nat.beq f Id.y2m then some Fn.y2m else
 bif Nat.beq f Id.y1n then some Fn.y1n else
 bif Nat.beq f Id.y22 then some Fn.y22 else
 bif Nat.beq f Id.y2r then some Fn.y2r else
 bif Nat.beq f Id.y20 then some Fn.y20 else
 bif Nat.beq f Id.y47 then some Fn.y47 else
 bif Nat.beq f Id.y17 then some Fn.y17 else
 bif Nat.beq f Id.y3w then some Fn.y3w else
 bif Nat.beq f Id.y1p then some Fn.y1p else
 bif Nat.beq f Id.y0z then some Fn.y0z else
 bif Nat.beq f Id.y37 then some Fn.y37 else
 bif Nat.beq f Id.y49 then some Fn.y49 else
 bif Nat.beq f Id.y5b then some Fn.y5b else
 bif Nat.beq f Id.y4q then some Fn.y4q else
 bif Nat.beq f Id.y4r then some Fn.y4r else
 bif Nat.beq f Id.y29 then some Fn.y29 else
 bif Nat.beq f Id.y23 then some Fn.y23 else
 bif Nat.beq f Id.y0e then some Fn.y0e else
 bif Nat.beq f Id.y3f then some Fn.y3f else
 none
theorem E8_ok:EnvOk Proofs.Tryz.prog E8:=by
 intro f fn
 unfold E8
 refine y02 ⟨_,_,Ck.y2n⟩ ?_
 refine y02 ⟨_,_,Ck.y1c⟩ ?_
 refine y02 ⟨_,_,Ck.y3a⟩ ?_
 refine y02 ⟨_,_,Ck.y2x⟩ ?_
 refine y02 ⟨_,_,Ck.y2m⟩ ?_
 refine y02 ⟨_,_,Ck.y1n⟩ ?_
 refine y02 ⟨_,_,Ck.y22⟩ ?_
 refine y02 ⟨_,_,Ck.y2r⟩ ?_
 refine y02 ⟨_,_,Ck.y20⟩ ?_
 refine y02 ⟨_,_,Ck.y47⟩ ?_
 refine y02 ⟨_,_,Ck.y17⟩ ?_
 refine y02 ⟨_,_,Ck.y3w⟩ ?_
 refine y02 ⟨_,_,Ck.y1p⟩ ?_
 refine y02 ⟨_,_,Ck.y0z⟩ ?_
 refine y02 ⟨_,_,Ck.y37⟩ ?_
 refine y02 ⟨_,_,Ck.y49⟩ ?_
 refine y02 ⟨_,_,Ck.y5b⟩ ?_
 refine y02 ⟨_,_,Ck.y4q⟩ ?_
 refine y02 ⟨_,_,Ck.y4r⟩ ?_
 refine y02 ⟨_,_,Ck.y29⟩ ?_
 refine y02 ⟨_,_,Ck.y23⟩ ?_
 refine y02 ⟨_,_,Ck.y0e⟩ ?_
 refine y02 ⟨_,_,Ck.y3f⟩ ?_
 intro h
 cases h
def E9:Env:=fun f=>
 bif Nat.beq f Id.y1s then some Fn.y1s else
 bif Nat.beq f Id.y1v then some Fn.y1v else
 bif Nat.beq f Id.y28 then some Fn.y28 else
 bif Nat.beq f Id.y0r then some Fn.y0r else
 bif Nat.beq f Id.y33 then some Fn.y33 else
 bif Nat.beq f Id.y41 then some Fn.y41 else
 none
theorem E9_ok:EnvOk Proofs.Tryz.prog E9:=by
 intro f fn
 unfold E9
 refine y02 ⟨_,_,Ck.y1s⟩ ?_
 refine y02 ⟨_,_,Ck.y1v⟩ ?_
 refine y02 ⟨_,_,Ck.y28⟩ ?_
 refine y02 ⟨_,_,Ck.y0r⟩ ?_
 refine y02 ⟨_,_,Ck.y33⟩ ?_
 refine y02 ⟨_,_,Ck.y41⟩ ?_
 intro h
 cases h
def E10:Env:=fun f=>
 bif Nat.beq f Id.y67 then some Fn.y67 else
 bif Nat.beq f Id.y2t then some Fn.y2t else
 bif Nat.beq f Id.y2l then some Fn.y2l else
 bif Nat.beq f Id.y4d then some Fn.y4d else
 bif Nat.beq f Id.y3b then some Fn.y3b else
 bif Nat.beq f Id.y2w then some Fn.y2w else
 bif Nat.beq f Id.y2v then some Fn.y2v else
 bif Nat.beq f Id.y2s then some Fn.y2s else
 bif Nat.beq f Id.y3r then some Fn.y3r else
 bif Nat.beq f Id.y5h then some Fn.y5h else
 bif Nat.beq f Id.y6l then some Fn.y6l else
 bif Nat.beq f Id.y5o then some Fn.y5o else
 bif Nat.beq f Id.y3j then some Fn.y3j else
 bif Nat.beq f Id.y3z then some Fn.y3z else
 bif Nat.beq f Id.y2e then some Fn.y2e else
 bif Nat.beq f Id.y57 then some Fn.y57 else
 bif Nat.beq f Id.y2y then some Fn.y2y else
 bif Nat.beq f Id.y3h then some Fn.y3h else
 none
theorem y11x:EnvOk Proofs.Tryz.prog E10:=by
 intro f fn
 unfold E10
 refine y02 ⟨_,_,Ck.y67⟩ ?_
 refine y02 ⟨_,_,Ck.y2t⟩ ?_
 refine y02 ⟨_,_,Ck.y2l⟩ ?_
 refine y02 ⟨_,_,Ck.y4d⟩ ?_
 refine y02 ⟨_,_,Ck.y3b⟩ ?_
 refine y02 ⟨_,_,Ck.y2w⟩ ?_
 refine y02 ⟨_,_,Ck.y2v⟩ ?_
 refine y02 ⟨_,_,Ck.y2s⟩ ?_
 refine y02 ⟨_,_,Ck.y3r⟩ ?_
 refine y02 ⟨_,_,Ck.y5h⟩ ?_
 refine y02 ⟨_,_,Ck.y6l⟩ ?_
 refine y02 ⟨_,_,Ck.y5o⟩ ?_
 refine y02 ⟨_,_,Ck.y3j⟩ ?_
 refine y02 ⟨_,_,Ck.y3z⟩ ?_
 refine y02 ⟨_,_,Ck.y2e⟩ ?_
 refine y02 ⟨_,_,Ck.y57⟩ ?_
 refine y02 ⟨_,_,Ck.y2y⟩ ?_
 refine y02 ⟨_,_,Ck.y3h⟩ ?_
 intro h
 cases h
def E11:Env:=fun f=>
 bif Nat.beq f Id.y19 then some Fn.y19 else
 bif Nat.beq f Id.y1q then some Fn.y1q else
 bif Nat.beq f Id.y3u then some Fn.y3u else
 bif Nat.beq f Id.y3t then some Fn.y3t else
 bif Nat.beq f Id.y36 then some Fn.y36 else
 bif Nat.beq f Id.y25 then some Fn.y25 else
 bif Nat.beq f Id.y48 then some Fn.y48 else
 bif Nat.beq f Id.y3i then some Fn.y3i else
 bif Nat.beq f Id.y59 then some Fn.y59 else
 bif Nat.beq f Id.y1b then some Fn.y1b else
 bif Nat.beq f Id.y1x then some Fn.y1x else
 bif Nat.beq f Id.y34 then some Fn.y34 else
 bif Nat.beq f Id.y2q then some Fn.y2q else
 bif Nat.beq f Id.y43 then some Fn.y43 else
 bif Nat.beq f Id.y42 then some Fn.y42 else
 bif Nat.beq f Id.y6e then some Fn.y6e else
 none
theorem y12t:EnvOk Proofs.Tryz.prog E11:=by
 intro f fn
 unfold E11
 refine y02 ⟨_,_,Ck.y19⟩ ?_
 refine y02 ⟨_,_,Ck.y1q⟩ ?_
 refine y02 ⟨_,_,Ck.y3u⟩ ?_
 refine y02 ⟨_,_,Ck.y3t⟩ ?_
 refine y02 ⟨_,_,Ck.y36⟩ ?_
 refine y02 ⟨_,_,Ck.y25⟩ ?_
 refine y02 ⟨_,_,Ck.y48⟩ ?_
 refine y02 ⟨_,_,Ck.y3i⟩ ?_
 refine y02 ⟨_,_,Ck.y59⟩ ?_
 refine y02 ⟨_,_,Ck.y1b⟩ ?_
 refine y02 ⟨_,_,Ck.y1x⟩ ?_
 refine y02 ⟨_,_,Ck.y34⟩ ?_
 refine y02 ⟨_,_,Ck.y2q⟩ ?_
 refine y02 ⟨_,_,Ck.y43⟩ ?_
 refine y02 ⟨_,_,Ck.y42⟩ ?_
 refine y02 ⟨_,_,Ck.y6e⟩ ?_
 intro h
 cases h
def E12:Env:=fun f=>
 bif Nat.beq f Id.y2k then some Fn.y2k else
 bif Nat.beq f Id.y2z then some Fn.y2z else
 bif Nat.beq f Id.y3e then some Fn.y3e else
 bif Nat.beq f Id.y0p then some Fn.y0p else
 bif Nat.beq f Id.y3v then some Fn.y3v else
 bif Nat.beq f Id.y38 then some Fn.y38 else
 bif Nat.beq f Id.y3l then some Fn.y3l else
 bif Nat.beq f Id.y6t then some Fn.y6t else
 none
theorem y11q:EnvOk Proofs.Tryz.prog E12:=by
 intro f fn
 unfold E12
 refine y02 ⟨_,_,Ck.y2k⟩ ?_
 refine y02 ⟨_,_,Ck.y2z⟩ ?_
 refine y02 ⟨_,_,Ck.y3e⟩ ?_
 refine y02 ⟨_,_,Ck.y0p⟩ ?_
 refine y02 ⟨_,_,Ck.y3v⟩ ?_
 refine y02 ⟨_,_,Ck.y38⟩ ?_
 refine y02 ⟨_,_,Ck.y3l⟩ ?_
 refine y02 ⟨_,_,Ck.y6t⟩ ?_
 intro h
 cases h
def E:Env:=fun f=>
 bif Nat.ble f 26 then E0 f else
 bif Nat.ble f 50 then E1 f else
 bif Nat.ble f 74 then E2 f else
 bif Nat.ble f 98 then E3 f else
 bif Nat.ble f 122 then E4 f else
 bif Nat.ble f 147 then E5 f else
 bif Nat.ble f 173 then E6 f else
 bif Nat.ble f 197 then E7 f else
 bif Nat.ble f 221 then E8 f else
 bif Nat.ble f 246 then E9 f else
 bif Nat.ble f 270 then E10 f else
 bif Nat.ble f 294 then E11 f else
 bif Nat.ble f 323 then E12 f else
 none
theorem y7t:E Id.y03=some Fn.y03:=rfl
theorem yuu:E Id.y0v=some Fn.y0v:=rfl
theorem yxt:E Id.y4g=some Fn.y4g:=rfl
theorem yfm:E Id.y0m=some Fn.y0m:=rfl
theorem yz9:E Id.y5g=some Fn.y5g:=rfl
theorem ylv:E Id.y0l=some Fn.y0l:=rfl
theorem ylm:E Id.y0a=some Fn.y0a:=rfl
theorem ylt:E Id.y56=some Fn.y56:=rfl
theorem ylf:E Id.y1t=some Fn.y1t:=rfl
theorem yll:E Id.y1r=some Fn.y1r:=rfl
theorem yae:E Id.y11=some Fn.y11:=rfl
theorem yfp:E Id.y3k=some Fn.y3k:=rfl
theorem y9v:E Id.y24=some Fn.y24:=rfl
theorem y80:E Id.y1a=some Fn.y1a:=rfl
theorem yb3:E Id.y07=some Fn.y07:=rfl
theorem yjr:E Id.y0j=some Fn.y0j:=rfl
theorem yfe:E Id.y1y=some Fn.y1y:=rfl
theorem ycv:E Id.y0h=some Fn.y0h:=rfl
theorem ye5:E Id.y0x=some Fn.y0x:=rfl
theorem ys5:E Id.y40=some Fn.y40:=rfl
theorem yh9:E Id.y1l=some Fn.y1l:=rfl
theorem yfc:E Id.y1h=some Fn.y1h:=rfl
theorem yh4:E Id.y35=some Fn.y35:=rfl
theorem yy5:E Id.y2o=some Fn.y2o:=rfl
theorem yph:E Id.y0u=some Fn.y0u:=rfl
theorem yyl:E Id.y3n=some Fn.y3n:=rfl
theorem yyj:E Id.y4p=some Fn.y4p:=rfl
theorem ysb:E Id.y3o=some Fn.y3o:=rfl
theorem yj1:E Id.y0s=some Fn.y0s:=rfl
theorem yp1:E Id.y39=some Fn.y39:=rfl
theorem ylh:E Id.y10=some Fn.y10:=rfl
theorem y11f:E Id.y68=some Fn.y68:=rfl
theorem yp4:E Id.y2j=some Fn.y2j:=rfl
theorem ygv:E Id.y2b=some Fn.y2b:=rfl
theorem ygi:E Id.y2p=some Fn.y2p:=rfl
theorem yag:E Id.y13=some Fn.y13:=rfl
theorem yh6:E Id.y3g=some Fn.y3g:=rfl
theorem yr3:E Id.y6m=some Fn.y6m:=rfl
theorem yi6:E Id.y4f=some Fn.y4f:=rfl
theorem yrd:E Id.y3s=some Fn.y3s:=rfl
theorem ys7:E Id.y45=some Fn.y45:=rfl
theorem ys4:E Id.y44=some Fn.y44:=rfl
theorem yly:E Id.y1u=some Fn.y1u:=rfl
theorem yh3:E Id.y1z=some Fn.y1z:=rfl
theorem ydb:E Id.y1m=some Fn.y1m:=rfl
theorem yfg:E Id.y2g=some Fn.y2g:=rfl
theorem yhm:E Id.y2c=some Fn.y2c:=rfl
theorem yik:E Id.y0w=some Fn.y0w:=rfl
theorem yfk:E Id.y2f=some Fn.y2f:=rfl
theorem ygr:E Id.y0n=some Fn.y0n:=rfl
theorem y9t:E Id.y08=some Fn.y08:=rfl
theorem yp6:E Id.y5d=some Fn.y5d:=rfl
theorem yp5:E Id.y4v=some Fn.y4v:=rfl
theorem yaz:E Id.y0o=some Fn.y0o:=rfl
theorem yei:E Id.y2h=some Fn.y2h:=rfl
theorem yji:E Id.y3p=some Fn.y3p:=rfl
theorem yfh:E Id.y3d=some Fn.y3d:=rfl
theorem yf6:E Id.y1i=some Fn.y1i:=rfl
theorem yfs:E Id.y1e=some Fn.y1e:=rfl
theorem yeh:E Id.y31=some Fn.y31:=rfl
theorem yfj:E Id.y0q=some Fn.y0q:=rfl
theorem yf5:E Id.y1k=some Fn.y1k:=rfl
theorem yfi:E Id.y30=some Fn.y30:=rfl
theorem ydc:E Id.y27=some Fn.y27:=rfl
theorem yf8:E Id.y1f=some Fn.y1f:=rfl
theorem ygj:E Id.y32=some Fn.y32:=rfl
theorem yds:E Id.y21=some Fn.y21:=rfl
theorem yfd:E Id.y2i=some Fn.y2i:=rfl
theorem y11a:E Id.y5j=some Fn.y5j:=rfl
theorem yq3:E Id.y3m=some Fn.y3m:=rfl
theorem yd6:E Id.y0k=some Fn.y0k:=rfl
theorem yff:E Id.y15=some Fn.y15:=rfl
theorem y9i:E Id.y0g=some Fn.y0g:=rfl
theorem yyk:E Id.y4o=some Fn.y4o:=rfl
theorem yr0:E Id.y5c=some Fn.y5c:=rfl
theorem yf4:E Id.y26=some Fn.y26:=rfl
theorem y13q:E Id.y5i=some Fn.y5i:=rfl
theorem ys3:E Id.y3q=some Fn.y3q:=rfl
theorem y143:E Id.y5v=some Fn.y5v:=rfl
theorem yfl:E Id.y2n=some Fn.y2n:=rfl
theorem ygy:E Id.y1c=some Fn.y1c:=rfl
theorem yrf:E Id.y3a=some Fn.y3a:=rfl
theorem yq2:E Id.y2x=some Fn.y2x:=rfl
theorem ypc:E Id.y2m=some Fn.y2m:=rfl
theorem yqy:E Id.y1n=some Fn.y1n:=rfl
theorem yso:E Id.y22=some Fn.y22:=rfl
theorem yj2:E Id.y2r=some Fn.y2r:=rfl
theorem ylq:E Id.y20=some Fn.y20:=rfl
theorem yin:E Id.y47=some Fn.y47:=rfl
theorem y8t:E Id.y17=some Fn.y17:=rfl
theorem yig:E Id.y3w=some Fn.y3w:=rfl
theorem yie:E Id.y1p=some Fn.y1p:=rfl
theorem ygn:E Id.y0z=some Fn.y0z:=rfl
theorem yd7:E Id.y37=some Fn.y37:=rfl
theorem yc7:E Id.y49=some Fn.y49:=rfl
theorem ymw:E Id.y5b=some Fn.y5b:=rfl
theorem ylr:E Id.y4q=some Fn.y4q:=rfl
theorem yls:E Id.y4r=some Fn.y4r:=rfl
theorem yde:E Id.y29=some Fn.y29:=rfl
theorem yef:E Id.y23=some Fn.y23:=rfl
theorem ydf:E Id.y0e=some Fn.y0e:=rfl
theorem yfa:E Id.y3f=some Fn.y3f:=rfl
theorem ygf:E Id.y1s=some Fn.y1s:=rfl
theorem ydt:E Id.y1v=some Fn.y1v:=rfl
theorem yfb:E Id.y28=some Fn.y28:=rfl
theorem ydp:E Id.y0r=some Fn.y0r:=rfl
theorem ydw:E Id.y33=some Fn.y33:=rfl
theorem ys9:E Id.y41=some Fn.y41:=rfl
theorem y13b:E Id.y67=some Fn.y67:=rfl
theorem you:E Id.y2t=some Fn.y2t:=rfl
theorem yp8:E Id.y2l=some Fn.y2l:=rfl
theorem yuf:E Id.y4d=some Fn.y4d:=rfl
theorem yrs:E Id.y3b=some Fn.y3b:=rfl
theorem yqh:E Id.y2w=some Fn.y2w:=rfl
theorem yqv:E Id.y2v=some Fn.y2v:=rfl
theorem yrh:E Id.y2s=some Fn.y2s:=rfl
theorem ys2:E Id.y3r=some Fn.y3r:=rfl
theorem yza:E Id.y5h=some Fn.y5h:=rfl
theorem y144:E Id.y6l=some Fn.y6l:=rfl
theorem y141:E Id.y5o=some Fn.y5o:=rfl
theorem yf9:E Id.y3j=some Fn.y3j:=rfl
theorem ys8:E Id.y3z=some Fn.y3z:=rfl
theorem yn6:E Id.y2e=some Fn.y2e:=rfl
theorem y113:E Id.y57=some Fn.y57:=rfl
theorem yfo:E Id.y2y=some Fn.y2y:=rfl
theorem yf3:E Id.y3h=some Fn.y3h:=rfl
theorem y9s:E Id.y19=some Fn.y19:=rfl
theorem yb8:E Id.y1q=some Fn.y1q:=rfl
theorem yge:E Id.y3u=some Fn.y3u:=rfl
theorem ygp:E Id.y3t=some Fn.y3t:=rfl
theorem yif:E Id.y36=some Fn.y36:=rfl
theorem yft:E Id.y25=some Fn.y25:=rfl
theorem yj5:E Id.y48=some Fn.y48:=rfl
theorem yas:E Id.y3i=some Fn.y3i:=rfl
theorem yo3:E Id.y59=some Fn.y59:=rfl
theorem y9r:E Id.y1b=some Fn.y1b:=rfl
theorem yfn:E Id.y1x=some Fn.y1x:=rfl
theorem ygd:E Id.y34=some Fn.y34:=rfl
theorem yro:E Id.y2q=some Fn.y2q:=rfl
theorem ys6:E Id.y43=some Fn.y43:=rfl
theorem ysa:E Id.y42=some Fn.y42:=rfl
theorem y140:E Id.y6e=some Fn.y6e:=rfl
theorem ydx:E Id.y2k=some Fn.y2k:=rfl
theorem yfr:E Id.y2z=some Fn.y2z:=rfl
theorem yf2:E Id.y3e=some Fn.y3e:=rfl
theorem y8q:E Id.y0p=some Fn.y0p:=rfl
theorem yao:E Id.y3v=some Fn.y3v:=rfl
theorem ype:E Id.y38=some Fn.y38:=rfl
theorem yqp:E Id.y3l=some Fn.y3l:=rfl
theorem y142:E Id.y6t=some Fn.y6t:=rfl
theorem E_ok:EnvOk Proofs.Tryz.prog E:=by
 intro f fn
 unfold E
 refine y61 E0_ok ?_
 refine y61 E1_ok ?_
 refine y61 E2_ok ?_
 refine y61 E3_ok ?_
 refine y61 E4_ok ?_
 refine y61 E5_ok ?_
 refine y61 E6_ok ?_
 refine y61 E7_ok ?_
 refine y61 E8_ok ?_
 refine y61 E9_ok ?_
 refine y61 y11x ?_
 refine y61 y12t ?_
 refine y61 y11q ?_
 intro h
 cases h
theorem mixed:Proofs.Tryz.prog.follows .mixedOrders=true:=by kernel_rfl
end Go.Ev
