import Derived.Test.YtclakmennjjomaaGreatFnP
import Derived.Test.YtclakmennjjomaaGreatChecked
import Derived.KernelRfl
namespace Go.Ev
def brs (f:FuncId):Bool:=memN f [135,159,184,194,226,240,241,248,249,250,251,252,253,254,255,256,257,273,274,280,283,285,286,287,298,300,301]
def y8k (f:FuncId):Bool:=memN f [135,159,184,194,226,240,241,248,249,250,251,252,253,254,255,256,257,273,274,280,283,285,286,287,298,300,301,88]
def y8u (f:FuncId):Bool:=memN f [135,159,184,194,226,240,241,248,249,250,251,252,253,254,255,256,257,273,274,280,283,285,286,287,298,300,301,84,298]
def y9w (f:FuncId):Bool:=memN f [135,159,184,194,226,240,241,248,249,250,251,252,253,254,255,256,257,273,274,280,283,285,286,287,298,300,301,84,298]
def ya3 (f:FuncId):Bool:=memN f [135,159,184,194,226,240,241,248,249,250,251,252,253,254,255,256,257,273,274,280,283,285,286,287,298,300,301,302]
namespace Ck
theorem y08:cFunc Proofs.Tryz.prog brs [(0,0,[1,3,5]),(1,0,[1,3,5,20]),(2,0,[6]),(3,0,[1,3,5,7,8,9]),(4,0,[3,5,7,8,9,13]),(5,0,[7,13,15,16]),(6,0,[7,13,15,50]),(7,0,[6]),(8,0,[7,15,56]),(9,0,[6]),(10,0,[7,15,17]),(11,0,[7,15,17,60]),(13,0,[7,15,17,92]),(14,0,[6]),(12,0,[7,15,17]),(15,0,[6])] Id.y08=some Fn.y08:=by kernel_rfl
theorem y1c:cFunc Proofs.Tryz.prog brs [(0,0,[]),(1,0,[1]),(2,0,[1,2,3]),(3,0,[2,3,4,5]),(4,0,[2,3,4,5,6,7]),(5,0,[2,3,4,5,6,7,8,9]),(6,0,[0])] Id.y1c=some Fn.y1c:=by kernel_rfl
theorem y3i:cFunc Proofs.Tryz.prog brs [(0,0,[1,2,4]),(1,0,[1,2,4,6]),(2,0,[1,2,4,6,18]),(3,0,[4,5]),(4,0,[1,2,4,7]),(5,0,[1,2,4,39]),(6,0,[4,5]),(7,0,[1,2,4,9]),(8,0,[1,2,4,9,46,47]),(9,0,[1,2,4,9,46,47,48]),(10,0,[1,2,4,9,10,46,47]),(11,0,[1,2,4,9,46,47,54]),(12,0,[1,2,4,9,11,46,47]),(13,4,[1,2,4,9,46,47]),(14,0,[1,2,4,9,46,47]),(15,0,[4,9,13,14]),(16,0,[4,9,13,89]),(17,0,[4,5]),(18,0,[4,9]),(19,0,[4,5])] Id.y3i=some Fn.y3i:=by kernel_rfl
theorem y0e:cFunc Proofs.Tryz.prog brs [(0,0,[1,2,3]),(1,0,[1,2,3,12]),(2,0,[1,2,3]),(3,0,[1,2,3,4]),(4,0,[1,2,3,4,6]),(5,4,[1,2,3,4,6,7,8]),(6,0,[1,2,3,4,6,7,8,9]),(7,0,[1,2,3,4,6,7,8,9,33]),(9,0,[1,2,3,4,6,7,8,9]),(10,0,[1,2,3,4,6,7,8,9]),(8,0,[1,2,3,4,6,7,8,9]),(11,4,[2,3])] Id.y0e=some Fn.y0e:=by kernel_rfl
theorem y49:cFunc Proofs.Tryz.prog brs [(0,0,[4,5,6,7,8,10]),(1,0,[4,5,6,7,8,10,12]),(2,0,[4,5,6,7,8,10,12,17]),(3,0,[10,11]),(4,0,[4,5,6,7,8,10,25]),(5,0,[10,11]),(6,0,[10,11])] Id.y49=some Fn.y49:=by kernel_rfl
theorem y0d:cFunc Proofs.Tryz.prog brs [(0,0,[2,3,4]),(1,0,[2,3,4,5,6]),(2,0,[4])] Id.y0d=some Fn.y0d:=by kernel_rfl
theorem y06:cFunc Proofs.Tryz.prog brs [(0,0,[2,3,4]),(1,0,[4])] Id.y06=some Fn.y06:=by kernel_rfl
theorem y3k:cFunc Proofs.Tryz.prog brs [(0,0,[1,2]),(1,0,[2])] Id.y3k=some Fn.y3k:=by kernel_rfl
theorem y0w:cFunc Proofs.Tryz.prog brs [(0,0,[2,3]),(1,0,[4])] Id.y0w=some Fn.y0w:=by kernel_rfl
theorem y10:cFunc Proofs.Tryz.prog brs [(0,0,[2,3,4]),(1,0,[4])] Id.y10=some Fn.y10:=by kernel_rfl
theorem y0u:cFunc Proofs.Tryz.prog brs [(0,0,[1,2,3,4,5,6,7]),(1,0,[1,2,3,4,5,6,7,8,9]),(2,0,[1,2,3,4,5,6,7,8,9,10,11]),(3,0,[1,2,3,4,5,6,7,8,9,10,11,12,13]),(4,0,[1,2,3,4,5,6,7,8,9,10,11,12,13,14,15]),(5,0,[1,2,3,4,5,6,7,8,9,10,11,12,13,14,15,16,17]),(6,0,[2,3,4,5,6,7,8,9,10,11,12,13,14,15,16,17,18,19]),(7,4,[2,3,4,5,6,7])] Id.y0u=some Fn.y0u:=by kernel_rfl
theorem y2j:cFunc Proofs.Tryz.prog brs [(0,0,[0]),(1,0,[0,4]),(2,0,[0,4,5]),(3,0,[0,4,5,6]),(4,0,[0,4,5,6,12]),(6,0,[0,4,5,6,7,8]),(7,0,[0,4,5,6,8]),(8,0,[0,4,5,6]),(5,0,[0,4,5,6]),(9,0,[2,3])] Id.y2j=some Fn.y2j:=by kernel_rfl
theorem y3j:cFunc Proofs.Tryz.prog brs [(0,0,[3,4,5,6,7,10]),(1,0,[7,10,12,13]),(2,0,[7,10,12,13,24]),(3,0,[10,11]),(4,0,[10,11])] Id.y3j=some Fn.y3j:=by kernel_rfl
theorem y0s:cFunc Proofs.Tryz.prog brs [(0,0,[3,4,5,7,8,9,13]),(1,0,[3,5,9,13,16,17]),(2,0,[3,5,9,13,16,17,35]),(3,0,[14,15]),(4,0,[3,5,9,13,16,39]),(5,0,[14,15]),(6,0,[3,5,9,13,16,43]),(7,0,[14,15]),(8,0,[3,5,9,13,16,18]),(9,0,[3,5,9,13,16,18,19]),(10,0,[3,5,9,13,16,18,19,20]),(11,0,[3,9,13,16,18,19,20,53,54,55]),(12,0,[3,9,13,16,18,19,20,53,54,55,56]),(13,0,[3,9,13,16,18,19,20,21,22,53,54,55]),(14,0,[3,9,13,16,18,19,20,21,22,53,54,55,68]),(15,0,[3,9,13,16,18,19,20,21,22,53,54,55]),(16,0,[3,9,13,16,18,19,20,21,22,23,53,54,55]),(17,0,[3,9,13,16,18,19,20,21,24,53,54,55]),(18,0,[3,9,13,16,18,19,20,21,24,53,54,55,89]),(19,0,[3,9,13,16,18,19,20,24,25,53,54,55]),(20,0,[3,9,13,16,18,19,20,24,53,54,55,96]),(21,0,[3,9,13,16,18,19,20,24,53,54,55]),(22,0,[3,9,13,16,18,19,20,24,53,54,55,105]),(23,0,[3,9,13,16,18,19,20,24,53,54,55]),(24,4,[3,9,13,16,18,19,20,24,53,54,55]),(25,0,[3,9,13,16,18,19,20,53,54,55]),(26,0,[3,9,13,16,18,19,20,53,54,55]),(27,0,[14,15])] Id.y0s=some Fn.y0s:=by kernel_rfl
theorem y0c:cFunc Proofs.Tryz.prog brs [(0,0,[1]),(1,0,[2])] Id.y0c=some Fn.y0c:=by kernel_rfl
theorem y31:cFunc Proofs.Tryz.prog brs [(0,0,[1]),(1,0,[1,3]),(2,0,[1,3,41]),(3,0,[2]),(4,0,[3,43,44,45]),(5,0,[3,43,44,45,46]),(6,0,[3,5,43,44,45]),(7,0,[3,5,6,43,44,45]),(8,0,[3,43,44,45,74]),(9,0,[2]),(10,0,[3,43,44,45]),(11,0,[2])] Id.y31=some Fn.y31:=by kernel_rfl
theorem y1w:cFunc Proofs.Tryz.prog brs [(0,0,[0]),(1,0,[0,3]),(2,0,[0,3,4]),(3,0,[0,3,4,8]),(5,0,[0,3,4]),(4,0,[0,3,4]),(6,0,[2])] Id.y1w=some Fn.y1w:=by kernel_rfl
theorem y0k:cFunc Proofs.Tryz.prog brs [(0,0,[0,2]),(1,0,[2])] Id.y0k=some Fn.y0k:=by kernel_rfl
theorem y2q:cFunc Proofs.Tryz.prog brs [(0,0,[1,2]),(1,0,[4])] Id.y2q=some Fn.y2q:=by kernel_rfl
theorem y3p:cFunc Proofs.Tryz.prog brs [(0,0,[0,3,4]),(1,0,[0,3,4,15]),(2,0,[4,5]),(3,0,[4,5])] Id.y3p=some Fn.y3p:=by kernel_rfl
theorem y2u:cFunc Proofs.Tryz.prog brs [(0,0,[1,2]),(1,0,[1,2,5]),(2,0,[1,2,5,6]),(3,0,[2,5,6,22,23,24]),(4,0,[2,5,6,22,23,24,25]),(5,0,[2,5,6,8,22,23,24]),(6,0,[2,5,6,22,23,24]),(7,0,[2,5,6,22,23,24]),(8,0,[2,5,6,22,23,24]),(9,0,[4])] Id.y2u=some Fn.y2u:=by kernel_rfl
theorem y0j:cFunc Proofs.Tryz.prog brs [(0,0,[0]),(1,0,[0,4]),(2,0,[2]),(3,0,[2])] Id.y0j=some Fn.y0j:=by kernel_rfl
theorem y2d:cFunc Proofs.Tryz.prog y8k [(0,0,[1,2,5]),(1,0,[1,2,5,6]),(2,0,[5,6]),(3,0,[5,6,7]),(4,0,[5,6,7]),(5,0,[4,5])] Id.y2d=some Fn.y2d:=by kernel_rfl
theorem y0q:cFunc Proofs.Tryz.prog brs [(0,0,[1,2]),(1,0,[2])] Id.y0q=some Fn.y0q:=by kernel_rfl
theorem y4s:cFunc Proofs.Tryz.prog brs [(0,0,[1]),(1,0,[1,10]),(2,0,[2,3]),(3,0,[1,4]),(4,0,[1,4,21]),(5,0,[2,3]),(6,0,[1,4,5]),(7,0,[1,4,5,26,27]),(8,0,[1,4,5,26,27,28]),(9,0,[1,4,5,6,26,27]),(10,0,[1,4,5,6,7,26,27]),(11,0,[1,4,5,6,7,26,27,38]),(12,0,[2,3]),(13,0,[1,4,5,6,7,26,27]),(14,0,[1,4,5,26,27]),(15,0,[1,4,5,26,27]),(16,0,[2,3])] Id.y4s=some Fn.y4s:=by kernel_rfl
theorem y1r:cFunc Proofs.Tryz.prog y8u [(0,0,[1,2,3,6]),(1,0,[1,2,3,6,7]),(2,0,[1,2,3,6,7,21,22,23]),(3,0,[1,2,3,6,7,21,22,23,24]),(4,0,[1,2,3,6,7,9,21,22,23]),(5,5,[1,2,3,6,7,21,22,23]),(6,0,[1,2,3,6,7,21,22,23]),(7,0,[2,3,6,7,41,42,43]),(8,0,[2,3,6,7,41,42,43,44]),(9,0,[2,3,6,7,10,11,41,42,43]),(10,0,[2,3,6,7,41,42,43]),(11,0,[2,3,6,7,41,42,43]),(12,0,[6])] Id.y1r=some Fn.y1r:=by kernel_rfl
theorem y39:cFunc Proofs.Tryz.prog brs [(0,0,[2,3,4]),(1,0,[4])] Id.y39=some Fn.y39:=by kernel_rfl
theorem y51:cFunc Proofs.Tryz.prog brs [(0,0,[0,1,4]),(1,0,[0,1,4,7]),(2,0,[4,5]),(3,0,[4,5])] Id.y51=some Fn.y51:=by kernel_rfl
theorem y3g:cFunc Proofs.Tryz.prog brs [(0,0,[0,1,4]),(1,0,[4])] Id.y3g=some Fn.y3g:=by kernel_rfl
theorem y2v:cFunc Proofs.Tryz.prog brs [(0,0,[1,2]),(1,0,[1,5]),(2,0,[4]),(3,0,[24]),(4,0,[4]),(5,0,[4])] Id.y2v=some Fn.y2v:=by kernel_rfl
theorem y35:cFunc Proofs.Tryz.prog brs [(0,0,[3,4,5,6]),(1,0,[8])] Id.y35=some Fn.y35:=by kernel_rfl
theorem y33:cFunc Proofs.Tryz.prog brs [(0,0,[4,5,6,7,8,10]),(1,0,[4,5,6,7,8,10,11]),(2,0,[5,7,8,10,11,12]),(3,0,[5,7,10,13]),(4,0,[10])] Id.y33=some Fn.y33:=by kernel_rfl
theorem y15:cFunc Proofs.Tryz.prog brs [(0,0,[1]),(1,0,[2])] Id.y15=some Fn.y15:=by kernel_rfl
theorem y19:cFunc Proofs.Tryz.prog brs [(0,0,[1,2,4]),(1,0,[1,2,4,5]),(2,0,[1,2,4,5,18]),(3,0,[1,2,4,5]),(4,0,[1,2,4]),(5,0,[4])] Id.y19=some Fn.y19:=by kernel_rfl
theorem y0x:cFunc Proofs.Tryz.prog brs [(0,0,[1,2,4]),(1,0,[4])] Id.y0x=some Fn.y0x:=by kernel_rfl
theorem y1p:cFunc Proofs.Tryz.prog brs [(0,0,[2,3,4]),(1,0,[2,3,4,5]),(2,0,[4]),(3,0,[2,3,4,19]),(4,0,[4]),(5,0,[4])] Id.y1p=some Fn.y1p:=by kernel_rfl
theorem y1k:cFunc Proofs.Tryz.prog brs [(0,0,[0,1]),(1,0,[0,1,5]),(2,0,[1,5,17,18,19]),(3,0,[1,5,17,18,19,20]),(4,0,[1,5,6,7,17,18,19]),(5,0,[1,5,6,7,8,17,18,19]),(6,0,[1,5,6,7,8,17,18,19,24,25,26]),(7,0,[1,5,6,7,8,17,18,19,24,25,26,27]),(8,0,[1,5,6,7,8,9,10,17,18,19,24,25,26]),(9,0,[1,5,6,7,8,9,17,18,19,24,25,26]),(10,0,[1,5,6,7,8,17,18,19,24,25,26]),(11,0,[1,5,6,7,8,17,18,19,24,25,26]),(12,0,[1,5,6,7,8,17,18,19,24,25,26]),(13,0,[1,5,17,18,19]),(14,0,[1,5,17,18,19]),(15,0,[4])] Id.y1k=some Fn.y1k:=by kernel_rfl
theorem y0m:cFunc Proofs.Tryz.prog brs [(0,0,[0,1,4]),(1,0,[4])] Id.y0m=some Fn.y0m:=by kernel_rfl
theorem y1q:cFunc Proofs.Tryz.prog brs [(0,0,[2,3]),(1,0,[2,3,5]),(2,0,[4]),(3,0,[2,3,15]),(4,0,[4]),(5,0,[2,3,21]),(6,0,[4]),(7,0,[4])] Id.y1q=some Fn.y1q:=by kernel_rfl
theorem y0f:cFunc Proofs.Tryz.prog brs [(0,0,[3,4,5,6,7,10]),(1,0,[3,4,5,6,7,10,12]),(2,0,[3,4,5,6,10,61]),(3,0,[10,11]),(4,0,[3,4,5,6,10,76]),(5,0,[10,11]),(6,0,[10,11])] Id.y0f=some Fn.y0f:=by kernel_rfl
theorem y05:cFunc Proofs.Tryz.prog brs [(0,0,[2,3,4]),(1,0,[2,3,4,5]),(2,0,[2,3,4,5,6]),(3,0,[2,3,4,5,6,20,21]),(4,0,[2,3,4,5,6,20,21,22]),(5,0,[2,3,4,5,6,20,21]),(6,0,[2,3,4,5,6,20,21]),(7,0,[2,3,4,5,6,7,8,20,21]),(8,0,[2,3,4,5,6,7,20,21,55]),(9,0,[2,3,4,5,6,20,21]),(10,0,[2,3,4,5,6,20,21]),(11,0,[4,9]),(12,0,[4])] Id.y05=some Fn.y05:=by kernel_rfl
theorem y45:cFunc Proofs.Tryz.prog brs [(0,0,[0,2]),(1,0,[2])] Id.y45=some Fn.y45:=by kernel_rfl
theorem y3v:cFunc Proofs.Tryz.prog brs [(0,0,[0,2]),(1,0,[2])] Id.y3v=some Fn.y3v:=by kernel_rfl
theorem y0g:cFunc Proofs.Tryz.prog brs [(0,0,[3,4,5,6]),(1,0,[6])] Id.y0g=some Fn.y0g:=by kernel_rfl
theorem y1t:cFunc Proofs.Tryz.prog brs [(0,0,[1]),(1,0,[1,3]),(2,0,[2]),(3,0,[6]),(4,0,[2]),(5,0,[2])] Id.y1t=some Fn.y1t:=by kernel_rfl
theorem y4b:cFunc Proofs.Tryz.prog brs [(0,0,[1]),(1,0,[1,3]),(2,0,[1,3,10]),(3,0,[1,3]),(4,0,[1,3,16]),(5,0,[3]),(6,0,[2])] Id.y4b=some Fn.y4b:=by kernel_rfl
theorem y1g:cFunc Proofs.Tryz.prog brs [(0,0,[0,2]),(1,0,[0,2,3]),(2,0,[0,2,3]),(3,0,[0,2,3,9]),(4,0,[0,2,3,4]),(5,0,[0,2,3,4,13]),(6,0,[0,2,3,4]),(7,0,[0,2,3]),(8,0,[0,2,3]),(9,0,[2])] Id.y1g=some Fn.y1g:=by kernel_rfl
theorem y4c:cFunc Proofs.Tryz.prog brs [(0,0,[1]),(1,0,[1,18]),(2,0,[2]),(3,0,[1,20,21,22]),(4,0,[1,20,21,22,23]),(5,0,[1,4,20,21,22]),(6,0,[1,20,21,22,31]),(7,0,[2]),(8,0,[1,20,21,22]),(9,0,[2])] Id.y4c=some Fn.y4c:=by kernel_rfl
theorem y2o:cFunc Proofs.Tryz.prog brs [(0,0,[0,1]),(1,0,[3])] Id.y2o=some Fn.y2o:=by kernel_rfl
theorem y0b:cFunc Proofs.Tryz.prog brs [(0,0,[0,1]),(1,0,[4])] Id.y0b=some Fn.y0b:=by kernel_rfl
theorem y2n:cFunc Proofs.Tryz.prog brs [(0,0,[2,3,4]),(1,0,[4])] Id.y2n=some Fn.y2n:=by kernel_rfl
theorem y28:cFunc Proofs.Tryz.prog brs [(0,0,[1,2]),(1,0,[1,2,7]),(2,0,[2]),(3,0,[2])] Id.y28=some Fn.y28:=by kernel_rfl
theorem y3o:cFunc Proofs.Tryz.prog brs [(0,0,[1,2]),(1,0,[2])] Id.y3o=some Fn.y3o:=by kernel_rfl
theorem y44:cFunc Proofs.Tryz.prog brs [(0,0,[1,2]),(1,0,[2])] Id.y44=some Fn.y44:=by kernel_rfl
theorem y1e:cFunc Proofs.Tryz.prog brs [(0,0,[0]),(1,0,[0,4]),(2,0,[2]),(3,0,[2])] Id.y1e=some Fn.y1e:=by kernel_rfl
theorem y4d:cFunc Proofs.Tryz.prog brs [(0,0,[0,1,4]),(1,0,[0,1,4,5]),(2,0,[0,1,4,5,14]),(3,0,[4]),(4,0,[1,4,5]),(5,0,[1,4,5,6]),(6,0,[1,4,5,6,30]),(7,5,[4]),(8,0,[4,5,7]),(9,5,[4])] Id.y4d=some Fn.y4d:=by kernel_rfl
theorem y2s:cFunc Proofs.Tryz.prog y9w [(0,0,[1,3,4,6]),(1,0,[1,3,4,6,15,16,17]),(2,0,[1,3,4,6,15,16,17,18]),(3,0,[1,3,4,6,9,10,15,16,17]),(4,0,[1,3,4,6,9,10,11,15,16,17]),(5,0,[1,3,4,6,9,10,11,15,16,17,22,23,24]),(6,0,[1,3,4,6,9,10,11,15,16,17,22,23,24,25]),(7,0,[1,3,4,6,9,10,11,13,15,16,17,22,23,24]),(8,0,[1,3,4,6,9,10,11,15,16,17,22,23,24]),(9,0,[1,3,4,6,9,10,11,15,16,17,22,23,24]),(10,5,[1,3,4,6,15,16,17]),(11,0,[1,3,4,6,15,16,17]),(12,0,[8])] Id.y2s=some Fn.y2s:=by kernel_rfl
theorem y4m:cFunc Proofs.Tryz.prog brs [(0,0,[0,1,2]),(1,0,[1,2,7]),(2,0,[7]),(3,0,[6])] Id.y4m=some Fn.y4m:=by kernel_rfl
theorem y2k:cFunc Proofs.Tryz.prog brs [(0,0,[1,2]),(1,0,[2])] Id.y2k=some Fn.y2k:=by kernel_rfl
theorem y14:cFunc Proofs.Tryz.prog brs [(0,0,[2,3,4]),(1,0,[2,3,4,11]),(2,0,[2,3,4]),(3,0,[2,3,4,5]),(4,0,[2,3,4,5,29]),(5,0,[4]),(6,0,[2,3,4,5,6]),(7,0,[2,4,6,8]),(8,0,[4])] Id.y14=some Fn.y14:=by kernel_rfl
theorem y2f:cFunc Proofs.Tryz.prog brs [(0,0,[3,4,5,6]),(1,0,[3,4,5,6,11]),(2,0,[4,5]),(3,0,[8])] Id.y2f=some Fn.y2f:=by kernel_rfl
theorem y21:cFunc Proofs.Tryz.prog brs [(0,0,[1,2]),(1,0,[2])] Id.y21=some Fn.y21:=by kernel_rfl
theorem y1n:cFunc Proofs.Tryz.prog brs [(0,0,[2,3,4,6]),(1,0,[2,3,6,7]),(2,0,[2,3,6,7,23]),(3,0,[6]),(4,0,[3,6,7,8,9]),(5,0,[3,6,7,8,9,10]),(6,4,[3,6,7,8,9,10,11,12]),(7,5,[3,6,7,8,9,10,11,12,36]),(8,0,[3,6,7,8,9,10,11,12]),(9,0,[3,6,7,8,9,10,11,12,46]),(10,0,[3,6,7,8,9,10,11,12,13]),(11,5,[3,6,7,8,9,10,11,12,13,58]),(12,0,[3,6,7,8,9,10,11,12]),(13,0,[3,6,7,8,9,10,11,12]),(14,0,[6])] Id.y1n=some Fn.y1n:=by kernel_rfl
theorem y0y:cFunc Proofs.Tryz.prog brs [(0,0,[1,2]),(1,0,[2])] Id.y0y=some Fn.y0y:=by kernel_rfl
theorem y1d:cFunc Proofs.Tryz.prog brs [(0,0,[2,3,4]),(1,0,[4,5]),(2,0,[4])] Id.y1d=some Fn.y1d:=by kernel_rfl
theorem y1y:cFunc Proofs.Tryz.prog brs [(0,0,[0,1]),(1,0,[0,1,12]),(2,0,[0,1]),(3,0,[0,1,5]),(4,0,[0,1,5,6]),(5,0,[0,1,5,6,20,21]),(6,0,[0,1,5,6,20,21,22]),(7,0,[0,1,5,6,7,20,21]),(8,0,[0,1,5,6,7,20,21]),(9,0,[0,1,5,6,7,20,21,34]),(10,0,[0,1,5,6,7,20,21]),(11,0,[0,1,5,6,20,21]),(12,0,[0,1,5,6,20,21]),(13,0,[0,1,5,6,20,21]),(14,0,[5]),(15,0,[4])] Id.y1y=some Fn.y1y:=by kernel_rfl
theorem y1b:cFunc Proofs.Tryz.prog brs [(0,0,[0]),(1,0,[2])] Id.y1b=some Fn.y1b:=by kernel_rfl
theorem y38:cFunc Proofs.Tryz.prog brs [(0,0,[0,1]),(1,0,[0,1,11]),(2,0,[0,1,19]),(3,0,[5,6]),(4,0,[5,6,25]),(5,0,[5,6]),(6,0,[4]),(7,0,[1,8]),(8,0,[0,1]),(9,0,[4])] Id.y38=some Fn.y38:=by kernel_rfl
theorem y0t:cFunc Proofs.Tryz.prog brs [(0,0,[0,1]),(1,0,[0,1,15]),(2,0,[4,5]),(3,0,[0,1,21]),(4,0,[4,5]),(5,0,[0,1,6]),(6,0,[0,6,7]),(7,0,[0,6,7,8]),(8,0,[0,6,7,8,9]),(9,0,[0,6,7,8,9]),(10,0,[0,6,7,8,9]),(11,0,[6,7,8,9,10]),(12,0,[6,7,8,9,10,11]),(13,0,[6,7,8,9,10,11,68]),(15,0,[6,7,8,9,10,11,12]),(16,0,[6,7,8,9,10,11,13,14]),(17,0,[6,7,8,9,10,11,13,14,127]),(18,0,[6,7,8,9,10,11,13,14]),(19,0,[6,7,8,9,10,11,13,14]),(20,0,[6,7,8,9,10,11,13,14,139]),(21,0,[6,7,8,9,10,11,13,144]),(22,0,[6,7,8,9,10,11,13]),(23,0,[6,7,8,9,10,11,13]),(24,0,[6,7,8,9,10,11]),(14,0,[6,7,8,9,10,11]),(25,0,[4,5])] Id.y0t=some Fn.y0t:=by kernel_rfl
theorem y2z:cFunc Proofs.Tryz.prog brs [(0,0,[0,1]),(1,0,[0,1,5]),(2,0,[0,1,5,6]),(3,0,[0,1,5,6,13,14]),(4,0,[0,1,5,6,13,14,15]),(5,0,[0,1,5,6,7,13,14]),(6,0,[0,1,5,6,7,8,13,14]),(7,0,[0,1,5,6,7,8,13,14,20]),(8,0,[0,1,5,6,7,8,13,14]),(9,0,[0,1,5,6,13,14]),(10,0,[0,1,5,6,13,14]),(11,0,[4])] Id.y2z=some Fn.y2z:=by kernel_rfl
theorem y11:cFunc Proofs.Tryz.prog brs [(0,0,[0,1]),(1,0,[0,1,10]),(2,0,[15]),(3,0,[4]),(4,0,[4]),(5,0,[0,1,5]),(6,0,[0,1,5,20]),(8,0,[0,1,5,31]),(9,0,[40]),(10,0,[4]),(11,0,[4]),(7,0,[0,1,5]),(12,0,[4])] Id.y11=some Fn.y11:=by kernel_rfl
theorem y0p:cFunc Proofs.Tryz.prog brs [(0,0,[0]),(1,0,[0,3]),(2,0,[0,3,15]),(3,0,[0,3]),(4,0,[2])] Id.y0p=some Fn.y0p:=by kernel_rfl
theorem y2c:cFunc Proofs.Tryz.prog brs [(0,0,[2,3,4]),(1,0,[2,3,4,8]),(2,0,[4,5]),(3,0,[4,5])] Id.y2c=some Fn.y2c:=by kernel_rfl
theorem y3b:cFunc Proofs.Tryz.prog brs [(0,0,[1,2,4]),(1,0,[1,2,4,8]),(2,0,[4,5]),(3,0,[1,2,4,16]),(4,0,[4,5]),(5,0,[1,4,6]),(6,0,[4,5])] Id.y3b=some Fn.y3b:=by kernel_rfl
theorem y43:cFunc Proofs.Tryz.prog brs [(0,0,[0,1,4]),(1,0,[0,1,4,5]),(2,0,[0,4,5,8,9,10]),(3,0,[0,4,5,8,9,10,11]),(4,0,[0,4,5,6,7,8,9,10]),(5,0,[0,4,5,7,8,9,10,22]),(6,0,[0,4,5,8,9,10]),(7,0,[0,4,5,8,9,10]),(8,0,[4])] Id.y43=some Fn.y43:=by kernel_rfl
theorem y3r:cFunc Proofs.Tryz.prog brs [(0,0,[2,3]),(1,0,[4])] Id.y3r=some Fn.y3r:=by kernel_rfl
theorem y3q:cFunc Proofs.Tryz.prog brs [(0,0,[2,3]),(1,0,[4])] Id.y3q=some Fn.y3q:=by kernel_rfl
theorem y2r:cFunc Proofs.Tryz.prog brs [(0,0,[0]),(1,0,[0,10]),(2,0,[2]),(3,0,[0,3]),(4,0,[0,3,13]),(5,0,[3,4,5]),(6,0,[3,4,6]),(7,0,[3,4,6,7]),(8,0,[3,4,6,7,31]),(10,0,[3,4,6,7]),(11,0,[3,4,6,7]),(9,0,[3,4,6,7]),(12,0,[0,3]),(13,0,[3]),(14,0,[2])] Id.y2r=some Fn.y2r:=by kernel_rfl
theorem y0v:cFunc Proofs.Tryz.prog brs [(0,0,[0,1,4]),(1,0,[4])] Id.y0v=some Fn.y0v:=by kernel_rfl
theorem y1v:cFunc Proofs.Tryz.prog brs [(0,0,[0,1]),(1,0,[0,1,10]),(2,0,[15]),(3,0,[4]),(4,0,[4]),(5,0,[0,1,5]),(6,0,[0,1,5,20]),(8,0,[0,1,5,31]),(9,0,[40]),(10,0,[4]),(11,0,[4]),(7,0,[0,1,5]),(12,0,[4])] Id.y1v=some Fn.y1v:=by kernel_rfl
theorem y26:cFunc Proofs.Tryz.prog brs [(0,0,[0,1]),(1,0,[0,1,5]),(2,0,[0,1,5,6]),(3,0,[0,1,5,6,7]),(4,0,[0,1,5,6,7,12]),(6,0,[0,1,5,7,8]),(7,0,[0,1,5,7,8,24]),(8,0,[0,1,5,7,8]),(9,0,[0,1,5,6,7,8]),(10,0,[0,1,5,6,7,8,32]),(11,0,[0,1,5,7,8]),(12,0,[0,1,5,6,7,8]),(13,0,[0,1,5,6,7]),(5,0,[0,1,5,6,7]),(14,0,[4])] Id.y26=some Fn.y26:=by kernel_rfl
theorem y1o:cFunc Proofs.Tryz.prog brs [(0,0,[0,1]),(1,0,[0,1,6]),(2,0,[0,1,6,7]),(3,0,[0,1,6,7,8]),(4,0,[0,1,6,7,8,17]),(6,0,[0,1,6,7,8]),(7,0,[0,1,6,7,8,9]),(8,0,[0,1,6,7,8,9,30]),(9,0,[0,1,6,7,8,9]),(10,0,[0,1,6,7,8,9,40]),(11,0,[0,1,6,7,8,9]),(12,0,[0,1,6,7,8,9]),(13,0,[0,1,6,7,8,9,63]),(14,0,[0,1,6,7,8,9]),(15,0,[0,1,6,7,8,9]),(16,0,[0,1,6,7,8]),(5,0,[0,1,6,7,8]),(17,0,[4,5])] Id.y1o=some Fn.y1o:=by kernel_rfl
theorem y0i:cFunc Proofs.Tryz.prog brs [(0,0,[0,1]),(1,0,[0,1,7,8]),(2,0,[0,1,7,8,9]),(3,0,[0,1,5,7,8]),(4,0,[0,1,5,7,8,16]),(5,0,[4]),(6,0,[0,1,7,8]),(7,0,[4])] Id.y0i=some Fn.y0i:=by kernel_rfl
theorem y27:cFunc Proofs.Tryz.prog brs [(0,0,[0,1]),(1,0,[0,1,5]),(2,0,[0,1,5,6]),(3,0,[0,1,5,6,19]),(5,0,[0,1,5,6,7]),(6,0,[0,1,5,6,7,8]),(7,0,[0,1,5,6,7,8,29]),(9,0,[0,1,5,6,8,9]),(10,0,[0,1,5,6,8,9,43]),(11,0,[0,1,5,6,8,9]),(12,0,[0,1,5,6,8,9]),(13,0,[0,1,5,6,7,8]),(8,0,[0,1,5,6,7,8]),(4,0,[0,1,5,6]),(14,0,[4])] Id.y27=some Fn.y27:=by kernel_rfl
theorem y32:cFunc Proofs.Tryz.prog brs [(0,0,[1,2,4]),(1,0,[2,4,5,6]),(2,0,[2,4,5,20]),(3,0,[2,4,5]),(4,0,[4])] Id.y32=some Fn.y32:=by kernel_rfl
theorem y4t:cFunc Proofs.Tryz.prog brs [(0,0,[0,1]),(1,0,[0,1,5]),(2,0,[0,1,5,19,20]),(3,0,[0,1,5,19,20,21]),(4,0,[0,1,5,6,19,20]),(5,0,[0,1,5,19,20]),(6,0,[0,1,5,19,20]),(7,0,[0,5,34,35,36]),(8,0,[0,5,34,35,36,37]),(9,0,[0,5,7,8,34,35,36]),(10,0,[0,5,7,8,9,34,35,36]),(11,0,[0,5,7,8,9,34,35,36,45,46,47]),(12,0,[0,5,7,8,9,34,35,36,45,46,47,48]),(13,0,[0,5,7,8,9,10,11,34,35,36,45,46,47]),(14,0,[0,5,7,8,9,34,35,36,45,46,47]),(15,0,[0,5,7,8,9,34,35,36,45,46,47]),(16,0,[0,5,7,8,34,35,36]),(17,0,[0,5,7,34,35,36]),(18,0,[0,5,34,35,36]),(19,0,[0,5,34,35,36]),(20,0,[4])] Id.y4t=some Fn.y4t:=by kernel_rfl
theorem y20:cFunc Proofs.Tryz.prog brs [(0,0,[0]),(1,0,[0,3]),(2,0,[0,3,14,15,16]),(3,0,[0,3,14,15,16,17]),(4,0,[0,3,4,5,14,15,16]),(5,0,[0,3,4,14,15,16,39]),(6,0,[0,3,14,15,16]),(7,0,[0,3,14,15,16]),(8,0,[0,3,43]),(9,0,[2]),(10,0,[0,3,6]),(11,0,[0,3,6]),(12,0,[0,3,6,69,70]),(13,0,[0,3,6,69,70,71]),(14,0,[0,3,6,7,69,70]),(15,5,[0,3,6,69,70]),(16,0,[0,3,6,69,70]),(17,0,[0,3,6]),(18,0,[0,6]),(19,0,[0,6]),(20,0,[0,6,120]),(21,0,[2]),(22,0,[0,6,124,125,126]),(23,0,[0,6,124,125,126,127]),(24,0,[0,6,8,9,124,125,126]),(25,0,[0,6,8,124,125,126,133]),(26,0,[0,6,8,124,125,126,138,139]),(27,0,[0,6,8,124,125,126,138,139,140]),(28,0,[0,6,8,10,124,125,126,138,139]),(29,0,[0,6,8,10,124,125,126,138,139,153]),(30,0,[0,6,124,125,126]),(31,0,[0,6,8,124,125,126,138,139]),(32,0,[0,6,124,125,126]),(33,0,[]),(34,0,[2])] Id.y20=some Fn.y20:=by kernel_rfl
theorem y1s:cFunc Proofs.Tryz.prog brs [(0,0,[0,1]),(1,0,[0,1,5]),(2,0,[0,1,5,14,15,16]),(3,0,[0,1,5,14,15,16,17]),(4,0,[0,1,5,6,7,14,15,16]),(5,0,[0,1,5,6,8,14,15,16]),(6,0,[0,1,5,6,8,14,15,16,34]),(7,0,[0,1,5,14,15,16]),(8,0,[0,1,5,14,15,16]),(9,0,[4])] Id.y1s=some Fn.y1s:=by kernel_rfl
theorem y3d:cFunc Proofs.Tryz.prog brs [(0,5,[0,1]),(1,0,[0,21,22,23]),(2,0,[0,21,22,23,24]),(3,0,[0,4,5,21,22,23]),(4,0,[0,4,5,21,22,23,28]),(5,0,[0,4,5,21,22,23,28,29]),(6,0,[0,4,5,6,21,22,23,28]),(7,0,[0,4,5,6,7,21,22,23,28]),(8,0,[0,4,5,6,7,21,22,23,28,33]),(9,0,[0,4,5,6,7,21,22,23,28]),(10,0,[0,4,5,21,22,23,28]),(11,0,[0,4,5,21,22,23,28]),(12,0,[0,21,22,23])] Id.y3d=some Fn.y3d:=by kernel_rfl
theorem y2g:cFunc Proofs.Tryz.prog brs [(0,0,[0,1,2]),(1,0,[0,1,2,7]),(2,0,[0,1,2,7,12]),(3,0,[6]),(4,0,[0,1,2,7,8]),(5,0,[0,1,2,7,8,17]),(6,0,[6]),(7,0,[0,1,2])] Id.y2g=some Fn.y2g:=by kernel_rfl
theorem y23:cFunc Proofs.Tryz.prog brs [(0,0,[0]),(1,0,[0,3]),(2,0,[0,3,9,10,11]),(3,0,[0,3,9,10,11,12]),(4,0,[0,3,4,5,9,10,11]),(5,0,[0,3,4,9,10,11,39]),(6,0,[0,3,9,10,11]),(7,0,[0,3,9,10,11]),(8,0,[2])] Id.y23=some Fn.y23:=by kernel_rfl
theorem y22:cFunc Proofs.Tryz.prog brs [(0,0,[0,1]),(1,0,[0,1,5]),(2,0,[0,1,5,6]),(3,0,[0,1,5,6,14,15]),(4,0,[0,1,5,6,14,15,16]),(5,0,[0,1,5,6,7,14,15]),(6,0,[0,1,5,6,7,14,15,29]),(7,0,[0,1,5,6,7,8,14,15]),(8,0,[0,1,5,6,7,8,9,14,15]),(9,0,[0,1,5,6,7,8,14,15,77]),(10,0,[0,1,5,6,14,15]),(11,0,[0,1,5,6,14,15]),(12,0,[4])] Id.y22=some Fn.y22:=by kernel_rfl
theorem y1x:cFunc Proofs.Tryz.prog brs [(0,0,[0,1]),(1,0,[1,5]),(2,0,[1,5,13,14]),(3,0,[1,5,13,14,15]),(4,0,[1,5,6,13,14]),(5,0,[1,5,13,14]),(6,0,[1,5,13,14]),(7,0,[4])] Id.y1x=some Fn.y1x:=by kernel_rfl
theorem y2t:cFunc Proofs.Tryz.prog brs [(0,0,[0,1,4]),(1,0,[0,1,4,10,11,12]),(2,0,[0,1,4,10,11,12,13]),(3,0,[0,1,4,5,6,10,11,12]),(4,0,[0,1,4,5,10,11,12,19]),(5,0,[4]),(6,0,[0,1,4,10,11,12]),(7,0,[4])] Id.y2t=some Fn.y2t:=by kernel_rfl
theorem y4a:cFunc Proofs.Tryz.prog brs [(0,0,[0,1,2,4]),(1,0,[0,1,2,4,15]),(2,0,[4]),(3,0,[0,1,2,4,20,21,22]),(4,0,[0,1,2,4,20,21,22,23]),(5,0,[0,1,2,4,5,6,20,21,22]),(6,0,[0,1,2,4,5,20,21,22,29]),(7,0,[4]),(8,0,[0,1,2,4,20,21,22]),(9,0,[4])] Id.y4a=some Fn.y4a:=by kernel_rfl
theorem y56:cFunc Proofs.Tryz.prog brs [(0,0,[0]),(1,0,[0])] Id.y56=some Fn.y56:=by kernel_rfl
theorem y4h:cFunc Proofs.Tryz.prog brs [(0,0,[0]),(1,0,[0])] Id.y4h=some Fn.y4h:=by kernel_rfl
theorem y2h:cFunc Proofs.Tryz.prog brs [(0,0,[2,3,4]),(1,0,[4,5,6]),(2,0,[4,5,6,19]),(3,0,[4,5,6,7,8]),(4,0,[4,5,6,7,8,9,10]),(5,0,[4,5,6,7,9,35]),(6,0,[4,7,9,37]),(7,0,[4,7,9]),(8,0,[4]),(9,0,[4,6,12]),(10,0,[4,5,6]),(11,0,[4])] Id.y2h=some Fn.y2h:=by kernel_rfl
theorem y36:cFunc Proofs.Tryz.prog brs [(0,0,[2,3,4]),(1,0,[2,3,4,5]),(2,0,[4])] Id.y36=some Fn.y36:=by kernel_rfl
theorem y1m:cFunc Proofs.Tryz.prog brs [(0,0,[1,2,3,4,5]),(1,0,[5])] Id.y1m=some Fn.y1m:=by kernel_rfl
theorem y41:cFunc Proofs.Tryz.prog brs [(0,0,[1,2]),(1,0,[2])] Id.y41=some Fn.y41:=by kernel_rfl
theorem y25:cFunc Proofs.Tryz.prog brs [(0,0,[0]),(1,0,[0,3]),(2,0,[3,6,7,8]),(3,0,[3,6,7,8,9]),(4,0,[3,4,5,6,7,8]),(5,0,[3,6,7,8]),(6,0,[3,6,7,8]),(7,0,[2])] Id.y25=some Fn.y25:=by kernel_rfl
theorem y2l:cFunc Proofs.Tryz.prog brs [(0,0,[0,1]),(1,0,[0,1,6]),(2,0,[0,1,6,7]),(3,0,[0,1,6,7,8]),(4,0,[0,1,6,7,8,16]),(6,0,[0,1,6,7,8]),(7,0,[0,1,6,7,8]),(8,0,[0,1,6,7,8]),(5,0,[0,1,6,7,8]),(9,0,[4,5])] Id.y2l=some Fn.y2l:=by kernel_rfl
theorem y0r:cFunc Proofs.Tryz.prog brs [(0,0,[0]),(1,0,[2])] Id.y0r=some Fn.y0r:=by kernel_rfl
theorem y12:cFunc Proofs.Tryz.prog brs [(0,0,[0,1]),(1,0,[0,1,5]),(2,0,[1,5]),(3,0,[1,5,6]),(4,0,[1,5,6,25]),(5,0,[1,5,6,7]),(6,0,[5,6,7,8]),(7,0,[5,6,7,8,31]),(9,0,[5,6,7,8]),(8,0,[5,6,7,8]),(10,0,[4])] Id.y12=some Fn.y12:=by kernel_rfl
theorem y2y:cFunc Proofs.Tryz.prog brs [(0,0,[0,1,2,3]),(1,0,[0,1,2,3,9,10]),(2,0,[0,1,2,3,9,10,13,14,15]),(3,0,[0,1,2,3,9,10,13,14,15,16]),(4,0,[0,1,2,3,9,10,11,12,13,14,15]),(5,0,[0,1,2,3,9,10,11,13,14,15]),(6,0,[0,1,2,3,9,10,13,14,15]),(7,0,[0,1,2,3,9,10,13,14,15]),(8,0,[0,1,2,3,9,10,13,14,15]),(9,0,[10]),(10,0,[8])] Id.y2y=some Fn.y2y:=by kernel_rfl
theorem y2x:cFunc Proofs.Tryz.prog brs [(0,0,[0,1,2,6]),(1,0,[0,1,2,6,9,10,11]),(2,0,[0,1,2,6,9,10,11,12]),(3,0,[0,1,2,6,7,8,9,10,11]),(4,0,[0,1,2,6,9,10,11]),(5,0,[0,1,2,6,9,10,11]),(6,0,[])] Id.y2x=some Fn.y2x:=by kernel_rfl
theorem y2a:cFunc Proofs.Tryz.prog brs [(0,0,[0,1]),(1,0,[0,1,12]),(2,0,[4]),(3,0,[1,5]),(4,0,[5,6]),(5,0,[5,6,21]),(6,0,[5,6,23,24]),(7,0,[5,6,23,24,25]),(8,0,[5,6,7,23,24]),(9,0,[5,6,7,23,24]),(10,0,[5,6,7,23,24,38]),(11,0,[5,6,23,24]),(12,0,[5,6,23,24]),(13,0,[4])] Id.y2a=some Fn.y2a:=by kernel_rfl
theorem y1f:cFunc Proofs.Tryz.prog brs [(0,0,[0,1,2]),(1,0,[0,1,6]),(2,0,[6,7])] Id.y1f=some Fn.y1f:=by kernel_rfl
theorem y3c:cFunc Proofs.Tryz.prog brs [(0,0,[2,3,4]),(1,0,[4])] Id.y3c=some Fn.y3c:=by kernel_rfl
theorem y2i:cFunc Proofs.Tryz.prog brs [(0,0,[0]),(1,0,[0,9]),(2,0,[2]),(3,0,[0,3]),(4,0,[0,3,4]),(5,0,[0,3,6]),(6,0,[0,3,6,29]),(7,0,[2]),(8,0,[0,3])] Id.y2i=some Fn.y2i:=by kernel_rfl
theorem y42:cFunc Proofs.Tryz.prog brs [(0,0,[0,2]),(1,0,[2])] Id.y42=some Fn.y42:=by kernel_rfl
theorem y1a:cFunc Proofs.Tryz.prog brs [(0,0,[0,2,3]),(1,0,[0,2,3,9]),(3,0,[0,2,3]),(2,0,[0,2,3])] Id.y1a=some Fn.y1a:=by kernel_rfl
theorem y17:cFunc Proofs.Tryz.prog brs [(0,0,[0]),(1,0,[0,14]),(2,0,[0]),(3,0,[2])] Id.y17=some Fn.y17:=by kernel_rfl
theorem y29:cFunc Proofs.Tryz.prog brs [(0,0,[0,1]),(1,0,[0,1,5]),(2,0,[0,1,5,6]),(3,0,[0,1,5,6,12]),(5,0,[0,1,5,6]),(4,0,[0,1,5,6]),(6,0,[4])] Id.y29=some Fn.y29:=by kernel_rfl
theorem y1z:cFunc Proofs.Tryz.prog brs [(0,0,[3,4,5]),(1,0,[3,4,5,6]),(2,0,[3,4,5,6,7]),(3,0,[3,4,5,6,7,31,32]),(4,0,[3,4,5,6,7,31,32,33]),(5,0,[3,4,5,6,7,8,31,32]),(6,0,[3,4,5,6,7,31,32]),(7,0,[3,4,5,6,7,31,32]),(8,0,[3,4,5,6,7]),(9,0,[3,4,5,7]),(10,0,[3,4,5,9]),(11,0,[3,4,5,9,69,70]),(12,0,[3,4,5,9,69,70,71]),(13,0,[3,4,5,9,10,69,70]),(14,0,[3,4,5,9,10,69,70,75]),(15,5,[3,4,5,9,69,70]),(16,0,[3,4,5,9,69,70]),(17,5,[3,4,5]),(18,5,[])] Id.y1z=some Fn.y1z:=by kernel_rfl
theorem y34:cFunc Proofs.Tryz.prog brs [(0,0,[0,1,13,14,15]),(1,0,[0,1,13,14,15,16]),(2,0,[0,1,4,5,13,14,15]),(3,0,[0,1,4,13,14,15,22]),(4,0,[0,4,6]),(5,0,[0,6]),(6,0,[0,6,46,47]),(7,0,[0,6,46,47,48]),(8,0,[0,6,7,46,47]),(9,5,[0,6,46,47]),(10,0,[0,6,46,47]),(11,0,[]),(12,0,[0,1,13,14,15]),(13,0,[0,1,79,80,81]),(14,0,[0,1,79,80,81,82]),(15,0,[0,1,8,9,79,80,81]),(16,0,[0,1,8,79,80,81,88]),(17,0,[0,8]),(18,0,[0,8]),(19,0,[]),(20,0,[0,1,79,80,81])] Id.y34=some Fn.y34:=by kernel_rfl
theorem y37:cFunc Proofs.Tryz.prog ya3 [(0,0,[0,1,5]),(1,0,[0,1,5,13,14,15]),(2,0,[0,1,5,13,14,15,16]),(3,0,[0,1,5,6,7,13,14,15]),(4,0,[0,1,5,6,13,14,15,22]),(5,0,[0,1,5,13,14,15]),(6,0,[0,1,5,13,14,15]),(7,0,[0,1,5,42,43,44]),(8,0,[0,1,5,42,43,44,45]),(9,0,[0,1,5,8,9,42,43,44]),(10,0,[0,1,5,8,42,43,44,51]),(11,0,[0,1,5,8,42,43,44]),(12,0,[0,1,5,42,43,44]),(13,0,[0,1,5,42,43,44])] Id.y37=some Fn.y37:=by kernel_rfl
theorem y4v:cFunc Proofs.Tryz.prog brs [(0,0,[2,3,4]),(1,0,[4,5]),(2,0,[4])] Id.y4v=some Fn.y4v:=by kernel_rfl
theorem y1u:cFunc Proofs.Tryz.prog brs [(0,0,[1]),(1,0,[1,9]),(2,0,[2,3]),(3,0,[1,4]),(4,0,[1,4,5]),(5,0,[1,4,5,15]),(7,0,[1,4,5]),(6,0,[1,4,5]),(8,0,[2,3])] Id.y1u=some Fn.y1u:=by kernel_rfl
theorem y24:cFunc Proofs.Tryz.prog brs [(0,0,[0,2]),(1,0,[0,2,4]),(2,0,[0]),(3,0,[0,2]),(4,0,[0,2,8]),(5,0,[0,2]),(6,0,[0,2]),(7,0,[2])] Id.y24=some Fn.y24:=by kernel_rfl
theorem y2m:cFunc Proofs.Tryz.prog brs [(0,0,[0,1,2]),(1,0,[8]),(2,0,[6,8]),(3,0,[6,7])] Id.y2m=some Fn.y2m:=by kernel_rfl
theorem y0h:cFunc Proofs.Tryz.prog brs [(0,0,[0]),(1,0,[0,4]),(2,0,[2]),(3,0,[2])] Id.y0h=some Fn.y0h:=by kernel_rfl
theorem y2w:cFunc Proofs.Tryz.prog brs [(0,0,[0]),(1,0,[0,5]),(2,0,[2]),(3,0,[2])] Id.y2w=some Fn.y2w:=by kernel_rfl
theorem y2b:cFunc Proofs.Tryz.prog brs [(0,0,[0,3,4,5,6,8,9,10]),(1,0,[0,3,4,5,6,8,9,10,11]),(2,0,[0,3,4,5,6,8,9,10,11,19]),(3,0,[10]),(4,0,[0,4,5,6,8,9,10,11]),(5,0,[0,4,5,6,8,9,10,11,26,27]),(6,0,[0,4,5,6,8,9,10,11,26,27,28]),(7,0,[0,4,5,6,8,9,10,11,12,26,27]),(8,0,[0,4,5,6,8,9,10,11,26,27]),(9,0,[0,4,5,6,8,9,10,11,26,27]),(10,0,[10])] Id.y2b=some Fn.y2b:=by kernel_rfl
theorem y2p:cFunc Proofs.Tryz.prog brs [(0,0,[0,1]),(1,0,[3])] Id.y2p=some Fn.y2p:=by kernel_rfl
theorem y5e:cFunc Proofs.Tryz.prog brs [(0,0,[0,2,4]),(1,0,[0,2,4,7]),(2,0,[0,2,4,7,13,14]),(3,0,[0,2,4,7,13,14,15]),(4,0,[0,2,4,7,8,13,14]),(5,0,[0,2,4,7,13,14]),(6,0,[0,2,4,7,13,14]),(7,0,[6])] Id.y5e=some Fn.y5e:=by kernel_rfl
end Ck
theorem y01 {P:Program} {f k:Nat} {a fn:AFn} {r:Option AFn} (hk:∃br hs,cFunc P br hs k=some a) (hr:r=some fn→∃br hs,cFunc P br hs f=some fn):(bif Nat.beq f k then some a else r)=some fn→∃br hs,cFunc P br hs f=some fn:=by
 intro h
 cases hb:Nat.beq f k with
 | true=>rw [hb] at h;cases h;rw [Nat.eq_of_beq_eq_true hb];exact hk
 | false=>rw [hb] at h;exact hr h
theorem y4q {P:Program} {f k:Nat} {fn:AFn} {X:Env} {r:Option AFn} (hX:EnvOk P X) (hr:r=some fn→∃br hs,cFunc P br hs f=some fn):(bif Nat.ble f k then X f else r)=some fn→∃br hs,cFunc P br hs f=some fn:=by
 intro h
 cases hb:Nat.ble f k with
 | true=>rw [hb] at h;exact hX f fn h
 | false=>rw [hb] at h;exact hr h
def E0:Env:=fun f=>
 bif Nat.beq f Id.y08 then some Fn.y08 else
 bif Nat.beq f Id.y1c then some Fn.y1c else
 bif Nat.beq f Id.y3i then some Fn.y3i else
 bif Nat.beq f Id.y0e then some Fn.y0e else
 bif Nat.beq f Id.y49 then some Fn.y49 else
 none
theorem E0_ok:EnvOk Proofs.Tryz.prog E0:=by
 intro f fn
 unfold E0
 refine y01 ⟨_,_,Ck.y08⟩ ?_
 refine y01 ⟨_,_,Ck.y1c⟩ ?_
 refine y01 ⟨_,_,Ck.y3i⟩ ?_
 refine y01 ⟨_,_,Ck.y0e⟩ ?_
 refine y01 ⟨_,_,Ck.y49⟩ ?_
 intro h
 cases h
def E1:Env:=fun f=>
 bif Nat.beq f Id.y0d then some Fn.y0d else
 bif Nat.beq f Id.y06 then some Fn.y06 else
 bif Nat.beq f Id.y3k then some Fn.y3k else
 bif Nat.beq f Id.y0w then some Fn.y0w else
 bif Nat.beq f Id.y10 then some Fn.y10 else
 bif Nat.beq f Id.y0u then some Fn.y0u else
 bif Nat.beq f Id.y2j then some Fn.y2j else
 bif Nat.beq f Id.y3j then some Fn.y3j else
 bif Nat.beq f Id.y0s then some Fn.y0s else
 bif Nat.beq f Id.y0c then some Fn.y0c else
 bif Nat.beq f Id.y31 then some Fn.y31 else
 none
theorem E1_ok:EnvOk Proofs.Tryz.prog E1:=by
 intro f fn
 unfold E1
 refine y01 ⟨_,_,Ck.y0d⟩ ?_
 refine y01 ⟨_,_,Ck.y06⟩ ?_
 refine y01 ⟨_,_,Ck.y3k⟩ ?_
 refine y01 ⟨_,_,Ck.y0w⟩ ?_
 refine y01 ⟨_,_,Ck.y10⟩ ?_
 refine y01 ⟨_,_,Ck.y0u⟩ ?_
 refine y01 ⟨_,_,Ck.y2j⟩ ?_
 refine y01 ⟨_,_,Ck.y3j⟩ ?_
 refine y01 ⟨_,_,Ck.y0s⟩ ?_
 refine y01 ⟨_,_,Ck.y0c⟩ ?_
 refine y01 ⟨_,_,Ck.y31⟩ ?_
 intro h
 cases h
def E2:Env:=fun f=>
 none
theorem E2_ok:EnvOk Proofs.Tryz.prog E2:=by
 intro f fn
 unfold E2
 intro h
 cases h
def E3:Env:=fun f=>
 bif Nat.beq f Id.y1w then some Fn.y1w else
 bif Nat.beq f Id.y0k then some Fn.y0k else
 bif Nat.beq f Id.y2q then some Fn.y2q else
 bif Nat.beq f Id.y3p then some Fn.y3p else
 bif Nat.beq f Id.y2u then some Fn.y2u else
 bif Nat.beq f Id.y0j then some Fn.y0j else
 bif Nat.beq f Id.y2d then some Fn.y2d else
 bif Nat.beq f Id.y0q then some Fn.y0q else
 bif Nat.beq f Id.y4s then some Fn.y4s else
 bif Nat.beq f Id.y1r then some Fn.y1r else
 bif Nat.beq f Id.y39 then some Fn.y39 else
 none
theorem E3_ok:EnvOk Proofs.Tryz.prog E3:=by
 intro f fn
 unfold E3
 refine y01 ⟨_,_,Ck.y1w⟩ ?_
 refine y01 ⟨_,_,Ck.y0k⟩ ?_
 refine y01 ⟨_,_,Ck.y2q⟩ ?_
 refine y01 ⟨_,_,Ck.y3p⟩ ?_
 refine y01 ⟨_,_,Ck.y2u⟩ ?_
 refine y01 ⟨_,_,Ck.y0j⟩ ?_
 refine y01 ⟨_,_,Ck.y2d⟩ ?_
 refine y01 ⟨_,_,Ck.y0q⟩ ?_
 refine y01 ⟨_,_,Ck.y4s⟩ ?_
 refine y01 ⟨_,_,Ck.y1r⟩ ?_
 refine y01 ⟨_,_,Ck.y39⟩ ?_
 intro h
 cases h
def E4:Env:=fun f=>
 bif Nat.beq f Id.y51 then some Fn.y51 else
 bif Nat.beq f Id.y3g then some Fn.y3g else
 bif Nat.beq f Id.y2v then some Fn.y2v else
 bif Nat.beq f Id.y35 then some Fn.y35 else
 bif Nat.beq f Id.y33 then some Fn.y33 else
 bif Nat.beq f Id.y15 then some Fn.y15 else
 bif Nat.beq f Id.y19 then some Fn.y19 else
 bif Nat.beq f Id.y0x then some Fn.y0x else
 bif Nat.beq f Id.y1p then some Fn.y1p else
 bif Nat.beq f Id.y1k then some Fn.y1k else
 bif Nat.beq f Id.y0m then some Fn.y0m else
 bif Nat.beq f Id.y1q then some Fn.y1q else
 bif Nat.beq f Id.y0f then some Fn.y0f else
 bif Nat.beq f Id.y05 then some Fn.y05 else
 bif Nat.beq f Id.y45 then some Fn.y45 else
 bif Nat.beq f Id.y3v then some Fn.y3v else
 bif Nat.beq f Id.y0g then some Fn.y0g else
 bif Nat.beq f Id.y1t then some Fn.y1t else
 bif Nat.beq f Id.y4b then some Fn.y4b else
 none
theorem E4_ok:EnvOk Proofs.Tryz.prog E4:=by
 intro f fn
 unfold E4
 refine y01 ⟨_,_,Ck.y51⟩ ?_
 refine y01 ⟨_,_,Ck.y3g⟩ ?_
 refine y01 ⟨_,_,Ck.y2v⟩ ?_
 refine y01 ⟨_,_,Ck.y35⟩ ?_
 refine y01 ⟨_,_,Ck.y33⟩ ?_
 refine y01 ⟨_,_,Ck.y15⟩ ?_
 refine y01 ⟨_,_,Ck.y19⟩ ?_
 refine y01 ⟨_,_,Ck.y0x⟩ ?_
 refine y01 ⟨_,_,Ck.y1p⟩ ?_
 refine y01 ⟨_,_,Ck.y1k⟩ ?_
 refine y01 ⟨_,_,Ck.y0m⟩ ?_
 refine y01 ⟨_,_,Ck.y1q⟩ ?_
 refine y01 ⟨_,_,Ck.y0f⟩ ?_
 refine y01 ⟨_,_,Ck.y05⟩ ?_
 refine y01 ⟨_,_,Ck.y45⟩ ?_
 refine y01 ⟨_,_,Ck.y3v⟩ ?_
 refine y01 ⟨_,_,Ck.y0g⟩ ?_
 refine y01 ⟨_,_,Ck.y1t⟩ ?_
 refine y01 ⟨_,_,Ck.y4b⟩ ?_
 intro h
 cases h
def E5:Env:=fun f=>
 bif Nat.beq f Id.y1g then some Fn.y1g else
 bif Nat.beq f Id.y4c then some Fn.y4c else
 bif Nat.beq f Id.y2o then some Fn.y2o else
 bif Nat.beq f Id.y0b then some Fn.y0b else
 bif Nat.beq f Id.y2n then some Fn.y2n else
 bif Nat.beq f Id.y28 then some Fn.y28 else
 none
theorem E5_ok:EnvOk Proofs.Tryz.prog E5:=by
 intro f fn
 unfold E5
 refine y01 ⟨_,_,Ck.y1g⟩ ?_
 refine y01 ⟨_,_,Ck.y4c⟩ ?_
 refine y01 ⟨_,_,Ck.y2o⟩ ?_
 refine y01 ⟨_,_,Ck.y0b⟩ ?_
 refine y01 ⟨_,_,Ck.y2n⟩ ?_
 refine y01 ⟨_,_,Ck.y28⟩ ?_
 intro h
 cases h
def E6:Env:=fun f=>
 bif Nat.beq f Id.y3o then some Fn.y3o else
 none
theorem E6_ok:EnvOk Proofs.Tryz.prog E6:=by
 intro f fn
 unfold E6
 refine y01 ⟨_,_,Ck.y3o⟩ ?_
 intro h
 cases h
def E7:Env:=fun f=>
 bif Nat.beq f Id.y44 then some Fn.y44 else
 bif Nat.beq f Id.y1e then some Fn.y1e else
 bif Nat.beq f Id.y4d then some Fn.y4d else
 bif Nat.beq f Id.y2s then some Fn.y2s else
 bif Nat.beq f Id.y4m then some Fn.y4m else
 none
theorem E7_ok:EnvOk Proofs.Tryz.prog E7:=by
 intro f fn
 unfold E7
 refine y01 ⟨_,_,Ck.y44⟩ ?_
 refine y01 ⟨_,_,Ck.y1e⟩ ?_
 refine y01 ⟨_,_,Ck.y4d⟩ ?_
 refine y01 ⟨_,_,Ck.y2s⟩ ?_
 refine y01 ⟨_,_,Ck.y4m⟩ ?_
 intro h
 cases h
def E8:Env:=fun f=>
 bif Nat.beq f Id.y2k then some Fn.y2k else
 bif Nat.beq f Id.y14 then some Fn.y14 else
 bif Nat.beq f Id.y2f then some Fn.y2f else
 bif Nat.beq f Id.y21 then some Fn.y21 else
 bif Nat.beq f Id.y1n then some Fn.y1n else
 bif Nat.beq f Id.y0y then some Fn.y0y else
 bif Nat.beq f Id.y1d then some Fn.y1d else
 bif Nat.beq f Id.y1y then some Fn.y1y else
 bif Nat.beq f Id.y1b then some Fn.y1b else
 bif Nat.beq f Id.y38 then some Fn.y38 else
 bif Nat.beq f Id.y0t then some Fn.y0t else
 bif Nat.beq f Id.y2z then some Fn.y2z else
 bif Nat.beq f Id.y11 then some Fn.y11 else
 bif Nat.beq f Id.y0p then some Fn.y0p else
 bif Nat.beq f Id.y2c then some Fn.y2c else
 bif Nat.beq f Id.y3b then some Fn.y3b else
 bif Nat.beq f Id.y43 then some Fn.y43 else
 bif Nat.beq f Id.y3r then some Fn.y3r else
 bif Nat.beq f Id.y3q then some Fn.y3q else
 bif Nat.beq f Id.y2r then some Fn.y2r else
 bif Nat.beq f Id.y0v then some Fn.y0v else
 none
theorem E8_ok:EnvOk Proofs.Tryz.prog E8:=by
 intro f fn
 unfold E8
 refine y01 ⟨_,_,Ck.y2k⟩ ?_
 refine y01 ⟨_,_,Ck.y14⟩ ?_
 refine y01 ⟨_,_,Ck.y2f⟩ ?_
 refine y01 ⟨_,_,Ck.y21⟩ ?_
 refine y01 ⟨_,_,Ck.y1n⟩ ?_
 refine y01 ⟨_,_,Ck.y0y⟩ ?_
 refine y01 ⟨_,_,Ck.y1d⟩ ?_
 refine y01 ⟨_,_,Ck.y1y⟩ ?_
 refine y01 ⟨_,_,Ck.y1b⟩ ?_
 refine y01 ⟨_,_,Ck.y38⟩ ?_
 refine y01 ⟨_,_,Ck.y0t⟩ ?_
 refine y01 ⟨_,_,Ck.y2z⟩ ?_
 refine y01 ⟨_,_,Ck.y11⟩ ?_
 refine y01 ⟨_,_,Ck.y0p⟩ ?_
 refine y01 ⟨_,_,Ck.y2c⟩ ?_
 refine y01 ⟨_,_,Ck.y3b⟩ ?_
 refine y01 ⟨_,_,Ck.y43⟩ ?_
 refine y01 ⟨_,_,Ck.y3r⟩ ?_
 refine y01 ⟨_,_,Ck.y3q⟩ ?_
 refine y01 ⟨_,_,Ck.y2r⟩ ?_
 refine y01 ⟨_,_,Ck.y0v⟩ ?_
 intro h
 cases h
def E9:Env:=fun f=>
 bif Nat.beq f Id.y1v then some Fn.y1v else
 bif Nat.beq f Id.y26 then some Fn.y26 else
 bif Nat.beq f Id.y1o then some Fn.y1o else
 bif Nat.beq f Id.y0i then some Fn.y0i else
 bif Nat.beq f Id.y27 then some Fn.y27 else
 bif Nat.beq f Id.y32 then some Fn.y32 else
 none
theorem E9_ok:EnvOk Proofs.Tryz.prog E9:=by
 intro f fn
 unfold E9
 refine y01 ⟨_,_,Ck.y1v⟩ ?_
 refine y01 ⟨_,_,Ck.y26⟩ ?_
 refine y01 ⟨_,_,Ck.y1o⟩ ?_
 refine y01 ⟨_,_,Ck.y0i⟩ ?_
 refine y01 ⟨_,_,Ck.y27⟩ ?_
 refine y01 ⟨_,_,Ck.y32⟩ ?_
 intro h
 cases h
def E10:Env:=fun f=>
 bif Nat.beq f Id.y4t then some Fn.y4t else
 bif Nat.beq f Id.y20 then some Fn.y20 else
 bif Nat.beq f Id.y1s then some Fn.y1s else
 bif Nat.beq f Id.y3d then some Fn.y3d else
 bif Nat.beq f Id.y2g then some Fn.y2g else
 bif Nat.beq f Id.y23 then some Fn.y23 else
 bif Nat.beq f Id.y22 then some Fn.y22 else
 bif Nat.beq f Id.y1x then some Fn.y1x else
 bif Nat.beq f Id.y2t then some Fn.y2t else
 bif Nat.beq f Id.y4a then some Fn.y4a else
 bif Nat.beq f Id.y56 then some Fn.y56 else
 bif Nat.beq f Id.y4h then some Fn.y4h else
 bif Nat.beq f Id.y2h then some Fn.y2h else
 bif Nat.beq f Id.y36 then some Fn.y36 else
 bif Nat.beq f Id.y1m then some Fn.y1m else
 bif Nat.beq f Id.y41 then some Fn.y41 else
 bif Nat.beq f Id.y25 then some Fn.y25 else
 bif Nat.beq f Id.y2l then some Fn.y2l else
 none
theorem yxs:EnvOk Proofs.Tryz.prog E10:=by
 intro f fn
 unfold E10
 refine y01 ⟨_,_,Ck.y4t⟩ ?_
 refine y01 ⟨_,_,Ck.y20⟩ ?_
 refine y01 ⟨_,_,Ck.y1s⟩ ?_
 refine y01 ⟨_,_,Ck.y3d⟩ ?_
 refine y01 ⟨_,_,Ck.y2g⟩ ?_
 refine y01 ⟨_,_,Ck.y23⟩ ?_
 refine y01 ⟨_,_,Ck.y22⟩ ?_
 refine y01 ⟨_,_,Ck.y1x⟩ ?_
 refine y01 ⟨_,_,Ck.y2t⟩ ?_
 refine y01 ⟨_,_,Ck.y4a⟩ ?_
 refine y01 ⟨_,_,Ck.y56⟩ ?_
 refine y01 ⟨_,_,Ck.y4h⟩ ?_
 refine y01 ⟨_,_,Ck.y2h⟩ ?_
 refine y01 ⟨_,_,Ck.y36⟩ ?_
 refine y01 ⟨_,_,Ck.y1m⟩ ?_
 refine y01 ⟨_,_,Ck.y41⟩ ?_
 refine y01 ⟨_,_,Ck.y25⟩ ?_
 refine y01 ⟨_,_,Ck.y2l⟩ ?_
 intro h
 cases h
def E11:Env:=fun f=>
 bif Nat.beq f Id.y0r then some Fn.y0r else
 bif Nat.beq f Id.y12 then some Fn.y12 else
 bif Nat.beq f Id.y2y then some Fn.y2y else
 bif Nat.beq f Id.y2x then some Fn.y2x else
 bif Nat.beq f Id.y2a then some Fn.y2a else
 bif Nat.beq f Id.y1f then some Fn.y1f else
 bif Nat.beq f Id.y3c then some Fn.y3c else
 bif Nat.beq f Id.y2i then some Fn.y2i else
 bif Nat.beq f Id.y42 then some Fn.y42 else
 bif Nat.beq f Id.y1a then some Fn.y1a else
 bif Nat.beq f Id.y17 then some Fn.y17 else
 bif Nat.beq f Id.y29 then some Fn.y29 else
 bif Nat.beq f Id.y1z then some Fn.y1z else
 bif Nat.beq f Id.y34 then some Fn.y34 else
 bif Nat.beq f Id.y37 then some Fn.y37 else
 bif Nat.beq f Id.y4v then some Fn.y4v else
 none
theorem yvg:EnvOk Proofs.Tryz.prog E11:=by
 intro f fn
 unfold E11
 refine y01 ⟨_,_,Ck.y0r⟩ ?_
 refine y01 ⟨_,_,Ck.y12⟩ ?_
 refine y01 ⟨_,_,Ck.y2y⟩ ?_
 refine y01 ⟨_,_,Ck.y2x⟩ ?_
 refine y01 ⟨_,_,Ck.y2a⟩ ?_
 refine y01 ⟨_,_,Ck.y1f⟩ ?_
 refine y01 ⟨_,_,Ck.y3c⟩ ?_
 refine y01 ⟨_,_,Ck.y2i⟩ ?_
 refine y01 ⟨_,_,Ck.y42⟩ ?_
 refine y01 ⟨_,_,Ck.y1a⟩ ?_
 refine y01 ⟨_,_,Ck.y17⟩ ?_
 refine y01 ⟨_,_,Ck.y29⟩ ?_
 refine y01 ⟨_,_,Ck.y1z⟩ ?_
 refine y01 ⟨_,_,Ck.y34⟩ ?_
 refine y01 ⟨_,_,Ck.y37⟩ ?_
 refine y01 ⟨_,_,Ck.y4v⟩ ?_
 intro h
 cases h
def E12:Env:=fun f=>
 bif Nat.beq f Id.y1u then some Fn.y1u else
 bif Nat.beq f Id.y24 then some Fn.y24 else
 bif Nat.beq f Id.y2m then some Fn.y2m else
 bif Nat.beq f Id.y0h then some Fn.y0h else
 bif Nat.beq f Id.y2w then some Fn.y2w else
 bif Nat.beq f Id.y2b then some Fn.y2b else
 bif Nat.beq f Id.y2p then some Fn.y2p else
 bif Nat.beq f Id.y5e then some Fn.y5e else
 none
theorem ywj:EnvOk Proofs.Tryz.prog E12:=by
 intro f fn
 unfold E12
 refine y01 ⟨_,_,Ck.y1u⟩ ?_
 refine y01 ⟨_,_,Ck.y24⟩ ?_
 refine y01 ⟨_,_,Ck.y2m⟩ ?_
 refine y01 ⟨_,_,Ck.y0h⟩ ?_
 refine y01 ⟨_,_,Ck.y2w⟩ ?_
 refine y01 ⟨_,_,Ck.y2b⟩ ?_
 refine y01 ⟨_,_,Ck.y2p⟩ ?_
 refine y01 ⟨_,_,Ck.y5e⟩ ?_
 intro h
 cases h
def E:Env:=fun f=>
 bif Nat.ble f 26 then E0 f else
 bif Nat.ble f 50 then E1 f else
 bif Nat.ble f 74 then E2 f else
 bif Nat.ble f 98 then E3 f else
 bif Nat.ble f 122 then E4 f else
 bif Nat.ble f 147 then E5 f else
 bif Nat.ble f 173 then E6 f else
 bif Nat.ble f 197 then E7 f else
 bif Nat.ble f 221 then E8 f else
 bif Nat.ble f 246 then E9 f else
 bif Nat.ble f 270 then E10 f else
 bif Nat.ble f 294 then E11 f else
 bif Nat.ble f 323 then E12 f else
 none
theorem y5c:E Id.y08=some Fn.y08:=rfl
theorem yo5:E Id.y1c=some Fn.y1c:=rfl
theorem yr6:E Id.y3i=some Fn.y3i:=rfl
theorem ycq:E Id.y0e=some Fn.y0e:=rfl
theorem yta:E Id.y49=some Fn.y49:=rfl
theorem yhx:E Id.y0d=some Fn.y0d:=rfl
theorem yhv:E Id.y06=some Fn.y06:=rfl
theorem yhz:E Id.y3k=some Fn.y3k:=rfl
theorem yi0:E Id.y0w=some Fn.y0w:=rfl
theorem yhr:E Id.y10=some Fn.y10:=rfl
theorem y8i:E Id.y0u=some Fn.y0u:=rfl
theorem ycr:E Id.y2j=some Fn.y2j:=rfl
theorem yqb:E Id.y3j=some Fn.y3j:=rfl
theorem y6f:E Id.y0s=some Fn.y0s:=rfl
theorem yg4:E Id.y0c=some Fn.y0c:=rfl
theorem ynf:E Id.y31=some Fn.y31:=rfl
theorem yrf:E Id.y1w=some Fn.y1w:=rfl
theorem ykx:E Id.y0k=some Fn.y0k:=rfl
theorem yst:E Id.y2q=some Fn.y2q:=rfl
theorem ysr:E Id.y3p=some Fn.y3p:=rfl
theorem yne:E Id.y2u=some Fn.y2u:=rfl
theorem yf2:E Id.y0j=some Fn.y0j:=rfl
theorem ykk:E Id.y2d=some Fn.y2d:=rfl
theorem yi1:E Id.y0q=some Fn.y0q:=rfl
theorem ywn:E Id.y4s=some Fn.y4s:=rfl
theorem yku:E Id.y1r=some Fn.y1r:=rfl
theorem ydo:E Id.y39=some Fn.y39:=rfl
theorem ymr:E Id.y51=some Fn.y51:=rfl
theorem yen:E Id.y3g=some Fn.y3g:=rfl
theorem ymx:E Id.y2v=some Fn.y2v:=rfl
theorem yn8:E Id.y35=some Fn.y35:=rfl
theorem yn9:E Id.y33=some Fn.y33:=rfl
theorem yhn:E Id.y15=some Fn.y15:=rfl
theorem ye6:E Id.y19=some Fn.y19:=rfl
theorem yb6:E Id.y0x=some Fn.y0x:=rfl
theorem ycv:E Id.y1p=some Fn.y1p:=rfl
theorem yex:E Id.y1k=some Fn.y1k:=rfl
theorem yef:E Id.y0m=some Fn.y0m:=rfl
theorem yd2:E Id.y1q=some Fn.y1q:=rfl
theorem ydt:E Id.y0f=some Fn.y0f:=rfl
theorem y86:E Id.y05=some Fn.y05:=rfl
theorem yl2:E Id.y45=some Fn.y45:=rfl
theorem ykz:E Id.y3v=some Fn.y3v:=rfl
theorem y94:E Id.y0g=some Fn.y0g:=rfl
theorem yc5:E Id.y1t=some Fn.y1t:=rfl
theorem yuf:E Id.y4b=some Fn.y4b:=rfl
theorem yct:E Id.y1g=some Fn.y1g:=rfl
theorem yxh:E Id.y4c=some Fn.y4c:=rfl
theorem ym4:E Id.y2o=some Fn.y2o:=rfl
theorem yb2:E Id.y0b=some Fn.y0b:=rfl
theorem yd0:E Id.y2n=some Fn.y2n:=rfl
theorem ybx:E Id.y28=some Fn.y28:=rfl
theorem yss:E Id.y3o=some Fn.y3o:=rfl
theorem ymg:E Id.y44=some Fn.y44:=rfl
theorem ycx:E Id.y1e=some Fn.y1e:=rfl
theorem ywt:E Id.y4d=some Fn.y4d:=rfl
theorem ync:E Id.y2s=some Fn.y2s:=rfl
theorem yxy:E Id.y4m=some Fn.y4m:=rfl
theorem yd4:E Id.y2k=some Fn.y2k:=rfl
theorem ydx:E Id.y14=some Fn.y14:=rfl
theorem ymf:E Id.y2f=some Fn.y2f:=rfl
theorem ylv:E Id.y21=some Fn.y21:=rfl
theorem yl1:E Id.y1n=some Fn.y1n:=rfl
theorem yn3:E Id.y0y=some Fn.y0y:=rfl
theorem yp1:E Id.y1d=some Fn.y1d:=rfl
theorem yfu:E Id.y1y=some Fn.y1y:=rfl
theorem yhu:E Id.y1b=some Fn.y1b:=rfl
theorem yfg:E Id.y38=some Fn.y38:=rfl
theorem y77:E Id.y0t=some Fn.y0t:=rfl
theorem yf8:E Id.y2z=some Fn.y2z:=rfl
theorem yeu:E Id.y11=some Fn.y11:=rfl
theorem ydh:E Id.y0p=some Fn.y0p:=rfl
theorem yb3:E Id.y2c=some Fn.y2c:=rfl
theorem ya1:E Id.y3b=some Fn.y3b:=rfl
theorem yjz:E Id.y43=some Fn.y43:=rfl
theorem yhm:E Id.y3r=some Fn.y3r:=rfl
theorem yi2:E Id.y3q=some Fn.y3q:=rfl
theorem ynh:E Id.y2r=some Fn.y2r:=rfl
theorem yb5:E Id.y0v=some Fn.y0v:=rfl
theorem ydw:E Id.y1v=some Fn.y1v:=rfl
theorem ybl:E Id.y26=some Fn.y26:=rfl
theorem ycw:E Id.y1o=some Fn.y1o:=rfl
theorem ybf:E Id.y0i=some Fn.y0i:=rfl
theorem ybh:E Id.y27=some Fn.y27:=rfl
theorem yng:E Id.y32=some Fn.y32:=rfl
theorem yxq:E Id.y4t=some Fn.y4t:=rfl
theorem ykh:E Id.y20=some Fn.y20:=rfl
theorem ykr:E Id.y1s=some Fn.y1s:=rfl
theorem yo6:E Id.y3d=some Fn.y3d:=rfl
theorem ymw:E Id.y2g=some Fn.y2g:=rfl
theorem yln:E Id.y23=some Fn.y23:=rfl
theorem ym3:E Id.y22=some Fn.y22:=rfl
theorem ymc:E Id.y1x=some Fn.y1x:=rfl
theorem ynb:E Id.y2t=some Fn.y2t:=rfl
theorem yuw:E Id.y4a=some Fn.y4a:=rfl
theorem yy1:E Id.y56=some Fn.y56:=rfl
theorem yy0:E Id.y4h=some Fn.y4h:=rfl
theorem yd1:E Id.y2h=some Fn.y2h:=rfl
theorem yn7:E Id.y36=some Fn.y36:=rfl
theorem yjv:E Id.y1m=some Fn.y1m:=rfl
theorem yv3:E Id.y41=some Fn.y41:=rfl
theorem ycz:E Id.y25=some Fn.y25:=rfl
theorem yd3:E Id.y2l=some Fn.y2l:=rfl
theorem y88:E Id.y0r=some Fn.y0r:=rfl
theorem y9i:E Id.y12=some Fn.y12:=rfl
theorem ydn:E Id.y2y=some Fn.y2y:=rfl
theorem ye2:E Id.y2x=some Fn.y2x:=rfl
theorem yfp:E Id.y2a=some Fn.y2a:=rfl
theorem ycn:E Id.y1f=some Fn.y1f:=rfl
theorem yg5:E Id.y3c=some Fn.y3c:=rfl
theorem y8t:E Id.y2i=some Fn.y2i:=rfl
theorem yiq:E Id.y42=some Fn.y42:=rfl
theorem yhy:E Id.y1a=some Fn.y1a:=rfl
theorem yco:E Id.y17=some Fn.y17:=rfl
theorem ydr:E Id.y29=some Fn.y29:=rfl
theorem ymy:E Id.y1z=some Fn.y1z:=rfl
theorem yna:E Id.y34=some Fn.y34:=rfl
theorem ynd:E Id.y37=some Fn.y37:=rfl
theorem yxx:E Id.y4v=some Fn.y4v:=rfl
theorem ybb:E Id.y1u=some Fn.y1u:=rfl
theorem ycs:E Id.y24=some Fn.y24:=rfl
theorem ycy:E Id.y2m=some Fn.y2m:=rfl
theorem y76:E Id.y0h=some Fn.y0h:=rfl
theorem y90:E Id.y2w=some Fn.y2w:=rfl
theorem ykp:E Id.y2b=some Fn.y2b:=rfl
theorem ylr:E Id.y2p=some Fn.y2p:=rfl
theorem yxz:E Id.y5e=some Fn.y5e:=rfl
theorem E_ok:EnvOk Proofs.Tryz.prog E:=by
 intro f fn
 unfold E
 refine y4q E0_ok ?_
 refine y4q E1_ok ?_
 refine y4q E2_ok ?_
 refine y4q E3_ok ?_
 refine y4q E4_ok ?_
 refine y4q E5_ok ?_
 refine y4q E6_ok ?_
 refine y4q E7_ok ?_
 refine y4q E8_ok ?_
 refine y4q E9_ok ?_
 refine y4q yxs ?_
 refine y4q yvg ?_
 refine y4q ywj ?_
 intro h
 cases h
theorem mixed:Proofs.Tryz.prog.follows .mixedOrders=true:=by kernel_rfl
end Go.Ev
