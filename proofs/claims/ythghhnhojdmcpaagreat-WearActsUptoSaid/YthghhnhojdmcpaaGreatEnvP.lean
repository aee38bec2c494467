import Derived.Test.YthghhnhojdmcpaaGreatFnP
import Derived.Test.YthghhnhojdmcpaaGreatChecked
import Derived.KernelRfl
namespace Go.Ev
def brs (f:FuncId):Bool:=memN f [63,75,86,119,128,165,166,174,196]
def yaw (f:FuncId):Bool:=memN f [63,75,86,119,128,165,166,174,196,14]
def ym0 (f:FuncId):Bool:=memN f [63,75,86,119,128,165,166,174,196,35]
namespace Ck
theorem y0x:cFunc Proofs.Tryz.prog yaw [(0,0,[1,2,3]),(1,0,[1,2,3,27]),(2,0,[6]),(3,0,[1,2,7,8]),(4,0,[2,7,8,9,10]),(5,0,[2,7,8,9,10,40]),(6,0,[2,7,8,9,10]),(7,0,[2,7,8,9,10,47]),(8,0,[2,7,8,9,10]),(9,0,[7,8,9,10,11,12]),(10,0,[7,8,9,10,11,12,13,14]),(11,0,[8,9,10,11,12,13,14,15,16]),(12,0,[8,9,10,11,12,13,14,15,16,17]),(13,0,[8,9,10,11,12,13,14,15,16,17,72]),(14,0,[8,10,11,12,13,14,15,16,17]),(15,0,[8,10,11,12,13,14,15,16,17,75]),(16,0,[8,10,11,12,13,14,15,16,17]),(17,0,[8,10,11,12,13,14,15,16,17,77]),(18,0,[6]),(19,0,[8,10,11,12,13,14,15,16,18]),(20,0,[11,13,18,139]),(21,0,[6]),(22,0,[11,13,18,19]),(23,0,[11,13,18,19,143]),(25,0,[11,13,18,19,182]),(26,0,[6]),(24,0,[11,13,18,19]),(27,0,[6])] Id.y0x=some Fn.y0x:=by kernel_rfl
theorem y18:cFunc Proofs.Tryz.prog brs [(0,0,[1,2,3]),(1,0,[1,2,3,4,5]),(2,4,[1,2,3,6,7]),(3,0,[1,2,3,6,7,8]),(4,0,[1,2,3,6,7,8,31]),(6,0,[1,2,3,6,7,8,9,10]),(7,0,[1,2,3,6,7,8,10]),(8,0,[1,2,3,6,7,8]),(5,0,[1,2,3,6,7,8]),(9,0,[1,2,3,6,7,11]),(10,0,[1,2,3,6,7,11,98]),(12,0,[1,2,3,6,7,11,12,13]),(13,4,[1,2,3,6,7,11]),(11,0,[1,2,3,6,7,11]),(14,0,[1,2,3,6,7,14]),(15,0,[1,2,3,6,7,14,126]),(17,0,[1,2,3,6,7,14,15,16]),(18,4,[1,2,3,6,7,14]),(16,0,[1,2,3,6,7,14]),(19,4,[2,3])] Id.y18=some Fn.y18:=by kernel_rfl
theorem y1i:cFunc Proofs.Tryz.prog brs [(0,0,[1]),(1,0,[1,3]),(2,0,[1,3,8]),(4,0,[1,3,17]),(5,0,[2]),(3,0,[1,3]),(6,0,[2])] Id.y1i=some Fn.y1i:=by kernel_rfl
theorem y3l:cFunc Proofs.Tryz.prog brs [(0,0,[1]),(1,0,[1,27]),(2,0,[2]),(3,0,[1,29,30,31]),(4,0,[1,29,30,31,32]),(5,0,[1,4,29,30,31]),(6,0,[1,29,30,31,65]),(7,0,[2]),(8,0,[1,29,30,31]),(9,0,[1,5]),(10,0,[75]),(11,0,[2]),(12,0,[2])] Id.y3l=some Fn.y3l:=by kernel_rfl
theorem y28:cFunc Proofs.Tryz.prog brs [(0,0,[]),(1,0,[1]),(2,0,[2,3]),(3,0,[2,3,4,5]),(4,0,[0])] Id.y28=some Fn.y28:=by kernel_rfl
theorem y3m:cFunc Proofs.Tryz.prog brs [(0,0,[0]),(1,0,[0,4]),(2,0,[0,4,5]),(3,0,[0,4,5,6]),(4,0,[0,4,5,6,12]),(6,0,[0,4,5,6,7,8]),(7,4,[0,4,5,6]),(5,0,[0,4,5,6]),(8,0,[2,3])] Id.y3m=some Fn.y3m:=by kernel_rfl
theorem y5w:cFunc Proofs.Tryz.prog brs [(0,0,[1,2]),(1,0,[1,2,6]),(2,0,[1,2,6,14]),(3,0,[4,5]),(4,0,[1,2,7]),(5,0,[7,18]),(6,0,[7,9]),(7,0,[]),(8,0,[4,5])] Id.y5w=some Fn.y5w:=by kernel_rfl
theorem y4w:cFunc Proofs.Tryz.prog brs [(0,0,[1,2]),(1,0,[1,2,6]),(2,0,[1,2,6,15]),(3,0,[4,5]),(4,0,[1,2,7]),(5,0,[1,2,7,8]),(6,0,[7,8,21]),(7,0,[8,9,23]),(8,0,[8,9,10]),(9,0,[]),(10,0,[4,5])] Id.y4w=some Fn.y4w:=by kernel_rfl
theorem y2q:cFunc Proofs.Tryz.prog brs [(0,0,[1]),(1,0,[2])] Id.y2q=some Fn.y2q:=by kernel_rfl
theorem y1t:cFunc Proofs.Tryz.prog brs [(0,0,[2,3,4]),(1,0,[4])] Id.y1t=some Fn.y1t:=by kernel_rfl
theorem y23:cFunc Proofs.Tryz.prog brs [(0,0,[2,3,4]),(1,0,[2,3,4,5,6]),(2,0,[4])] Id.y23=some Fn.y23:=by kernel_rfl
theorem y1j:cFunc Proofs.Tryz.prog brs [(0,0,[2,3]),(1,0,[4])] Id.y1j=some Fn.y1j:=by kernel_rfl
theorem y46:cFunc Proofs.Tryz.prog brs [(0,0,[1,2]),(1,0,[2])] Id.y46=some Fn.y46:=by kernel_rfl
theorem y1z:cFunc Proofs.Tryz.prog brs [(0,0,[0]),(1,0,[0,4]),(2,0,[0,4,5]),(3,0,[0,4,5,6]),(4,0,[0,4,5,6,12]),(6,0,[0,4,5,6,7,8]),(7,4,[0,4,5,6]),(5,0,[0,4,5,6]),(8,0,[2,3])] Id.y1z=some Fn.y1z:=by kernel_rfl
theorem y0t:cFunc Proofs.Tryz.prog brs [(0,0,[1,2,3]),(1,0,[1,2,3,12]),(2,0,[1,2,3]),(3,0,[1,2,3,4]),(4,0,[1,2,3,4,6]),(5,4,[1,2,3,4,6,7,8]),(6,0,[1,2,3,4,6,7,8,9]),(7,0,[1,2,3,4,6,7,8,9,33]),(9,0,[1,2,3,4,6,7,8,9]),(10,0,[1,2,3,4,6,7,8,9]),(8,0,[1,2,3,4,6,7,8,9]),(11,4,[2,3])] Id.y0t=some Fn.y0t:=by kernel_rfl
theorem y83:cFunc Proofs.Tryz.prog brs [(0,0,[0,3,4]),(1,0,[0,3,4,8]),(2,0,[4,5]),(3,0,[4,5])] Id.y83=some Fn.y83:=by kernel_rfl
theorem y10:cFunc Proofs.Tryz.prog brs [(0,0,[1]),(1,0,[1,27]),(2,0,[2]),(3,0,[1,3]),(4,0,[1,3,32]),(6,0,[1,3,4]),(7,0,[1,3,70]),(8,0,[2]),(5,0,[1,3]),(9,0,[1,5]),(10,0,[1,5,72]),(12,0,[1,5,101]),(13,0,[2]),(11,0,[1,5]),(14,0,[2])] Id.y10=some Fn.y10:=by kernel_rfl
theorem y0o:cFunc Proofs.Tryz.prog brs [(0,0,[0]),(1,0,[0,3]),(2,0,[0,3,7]),(4,0,[0,3,22]),(5,0,[2]),(3,0,[0,3]),(6,0,[2])] Id.y0o=some Fn.y0o:=by kernel_rfl
theorem y2e:cFunc Proofs.Tryz.prog brs [(0,0,[2,3]),(1,0,[4])] Id.y2e=some Fn.y2e:=by kernel_rfl
theorem y3y:cFunc Proofs.Tryz.prog brs [(0,0,[0,3,4]),(1,0,[0,3,4,5]),(2,0,[0,4,5,6]),(3,0,[0,4,5,6,7]),(4,0,[0,4,5,6,7,14]),(6,0,[0,4,5,6,7]),(5,0,[0,4,5,6,7]),(7,0,[4])] Id.y3y=some Fn.y3y:=by kernel_rfl
theorem y4s:cFunc Proofs.Tryz.prog brs [(0,0,[1,2]),(1,0,[1,2,6]),(2,0,[1,2,6,14]),(3,0,[4,5]),(4,0,[1,2,7]),(5,0,[7,18]),(6,0,[7,9]),(7,0,[]),(8,0,[4,5])] Id.y4s=some Fn.y4s:=by kernel_rfl
theorem y3g:cFunc Proofs.Tryz.prog brs [(0,0,[1,2]),(1,0,[1,2,5]),(2,0,[1,2,5,6]),(3,0,[1,2,5,6,7]),(4,0,[1,2,5,6,7,8]),(5,0,[1,2,5,6,7,8,15]),(7,0,[1,2,5,6,7,8]),(8,0,[1,2,5,6,7,8,9]),(9,0,[1,2,5,6,7,8,9]),(10,0,[1,2,5,6,7,8]),(11,0,[1,2,5,6,7,8,72]),(12,0,[1,2,5,6,7,8]),(13,0,[1,2,5,6,7,8]),(6,0,[1,2,5,6,7,8]),(14,0,[4])] Id.y3g=some Fn.y3g:=by kernel_rfl
theorem y35:cFunc Proofs.Tryz.prog brs [(0,0,[0,1]),(1,0,[0,1,10]),(2,0,[4]),(3,0,[0,1,5]),(4,0,[0,1,5,14]),(6,0,[0,1,5,26]),(7,0,[4]),(5,0,[0,1,5]),(8,0,[4])] Id.y35=some Fn.y35:=by kernel_rfl
theorem y3f:cFunc Proofs.Tryz.prog brs [(0,0,[1,2]),(1,0,[1,2,5]),(2,0,[1,2,5,6]),(3,0,[1,2,5,6,7]),(4,0,[1,2,5,6,7,15]),(6,0,[1,2,5,6,7]),(5,0,[1,2,5,6,7]),(7,0,[4])] Id.y3f=some Fn.y3f:=by kernel_rfl
theorem y0l:cFunc Proofs.Tryz.prog brs [(0,0,[2,3]),(1,0,[4])] Id.y0l=some Fn.y0l:=by kernel_rfl
theorem y39:cFunc Proofs.Tryz.prog brs [(0,0,[2,3]),(1,0,[2,3,5]),(2,0,[2,3,5,7]),(4,0,[2,3,5,29]),(5,0,[4]),(3,0,[2,3,5]),(6,0,[4])] Id.y39=some Fn.y39:=by kernel_rfl
theorem y0g:cFunc Proofs.Tryz.prog brs [(0,0,[1,2,3]),(1,0,[1,2,3,4,5]),(2,0,[2,3,4,5,6,7]),(3,4,[2,3])] Id.y0g=some Fn.y0g:=by kernel_rfl
theorem y3b:cFunc Proofs.Tryz.prog brs [(0,0,[2,3,4]),(1,0,[4])] Id.y3b=some Fn.y3b:=by kernel_rfl
theorem y0z:cFunc Proofs.Tryz.prog brs [(0,0,[1,2,3]),(1,0,[1,2,3,4,5]),(2,0,[2,3,4,5,6,7]),(3,4,[2,3])] Id.y0z=some Fn.y0z:=by kernel_rfl
theorem y2z:cFunc Proofs.Tryz.prog brs [(0,0,[1]),(1,0,[3,4]),(2,0,[3,4,12]),(3,0,[3,4,12,13]),(4,0,[3,4,5,12]),(5,0,[3,4,12,22]),(6,0,[2]),(7,0,[3,4,12]),(8,0,[2])] Id.y2z=some Fn.y2z:=by kernel_rfl
theorem y4b:cFunc Proofs.Tryz.prog brs [(0,0,[1]),(1,0,[2])] Id.y4b=some Fn.y4b:=by kernel_rfl
theorem y0a:cFunc Proofs.Tryz.prog brs [(0,0,[0,1]),(1,0,[4])] Id.y0a=some Fn.y0a:=by kernel_rfl
theorem y4l:cFunc Proofs.Tryz.prog brs [(0,0,[0]),(1,0,[2])] Id.y4l=some Fn.y4l:=by kernel_rfl
theorem y1u:cFunc Proofs.Tryz.prog brs [(0,0,[0]),(1,0,[0,3]),(2,0,[0,3,7]),(4,0,[0,3,22]),(5,0,[2]),(3,0,[0,3]),(6,0,[2])] Id.y1u=some Fn.y1u:=by kernel_rfl
theorem y0b:cFunc Proofs.Tryz.prog brs [(0,0,[0,1]),(1,0,[4])] Id.y0b=some Fn.y0b:=by kernel_rfl
theorem y0q:cFunc Proofs.Tryz.prog brs [(0,0,[0,1,2,6]),(1,0,[6])] Id.y0q=some Fn.y0q:=by kernel_rfl
theorem y4t:cFunc Proofs.Tryz.prog brs [(0,0,[0]),(1,0,[0,1]),(2,0,[0,3]),(3,0,[0,3,4]),(4,0,[0,3,4,25]),(6,0,[0,3,4]),(7,0,[0,3,4]),(5,0,[0,3,4]),(8,0,[0])] Id.y4t=some Fn.y4t:=by kernel_rfl
theorem y2n:cFunc Proofs.Tryz.prog brs [(0,0,[0,2]),(1,0,[2])] Id.y2n=some Fn.y2n:=by kernel_rfl
theorem y4e:cFunc Proofs.Tryz.prog brs [(0,0,[0,1,2]),(1,0,[0,1,2,12]),(2,0,[6]),(3,0,[0,1,2,7]),(4,0,[0,1,2,7,16]),(6,0,[0,1,2,7,42]),(7,0,[6]),(5,0,[0,1,2,7]),(8,0,[6])] Id.y4e=some Fn.y4e:=by kernel_rfl
theorem y0v:cFunc Proofs.Tryz.prog brs [(0,0,[1,2,3]),(1,0,[1,2,3,4,5]),(2,0,[1,2,3,4,5,6,7]),(3,0,[2,3,4,5,6,7,8,9]),(4,4,[2,3])] Id.y0v=some Fn.y0v:=by kernel_rfl
theorem y58:cFunc Proofs.Tryz.prog brs [(0,0,[1,2]),(1,0,[1,5]),(2,0,[1,5,9]),(3,0,[4]),(4,0,[13]),(5,0,[4]),(6,0,[4])] Id.y58=some Fn.y58:=by kernel_rfl
theorem y2s:cFunc Proofs.Tryz.prog brs [(0,0,[2,3]),(1,0,[4])] Id.y2s=some Fn.y2s:=by kernel_rfl
theorem y47:cFunc Proofs.Tryz.prog brs [(0,0,[0,2,3,5]),(1,0,[])] Id.y47=some Fn.y47:=by kernel_rfl
theorem y2v:cFunc Proofs.Tryz.prog brs [(0,0,[1]),(1,0,[1,3]),(2,0,[2]),(3,0,[6]),(4,0,[2]),(5,0,[2])] Id.y2v=some Fn.y2v:=by kernel_rfl
theorem y21:cFunc Proofs.Tryz.prog brs [(0,0,[1,2,4]),(1,0,[1,2,4,5]),(2,0,[1,2,4,5,18]),(3,0,[1,2,4,5]),(4,0,[1,2,4]),(5,0,[4])] Id.y21=some Fn.y21:=by kernel_rfl
theorem y16:cFunc Proofs.Tryz.prog brs [(0,0,[0,1,4]),(1,0,[4])] Id.y16=some Fn.y16:=by kernel_rfl
theorem y2k:cFunc Proofs.Tryz.prog brs [(0,0,[0,1]),(1,0,[0,1,5]),(2,0,[1,5,17,18,19]),(3,0,[1,5,17,18,19,20]),(4,0,[1,5,6,7,17,18,19]),(5,0,[1,5,6,7,8,17,18,19]),(6,0,[1,5,6,7,8,17,18,19,24,25,26]),(7,0,[1,5,6,7,8,17,18,19,24,25,26,27]),(8,0,[1,5,6,7,8,9,10,17,18,19,24,25,26]),(9,0,[1,5,6,7,8,9,17,18,19,24,25,26]),(10,0,[1,5,6,7,8,17,18,19,24,25,26]),(11,0,[1,5,6,7,8,17,18,19,24,25,26]),(12,0,[1,5,6,7,8,17,18,19,24,25,26]),(13,0,[1,5,17,18,19]),(14,0,[1,5,17,18,19]),(15,0,[4])] Id.y2k=some Fn.y2k:=by kernel_rfl
theorem y2o:cFunc Proofs.Tryz.prog brs [(0,0,[1]),(1,0,[2])] Id.y2o=some Fn.y2o:=by kernel_rfl
theorem y1n:cFunc Proofs.Tryz.prog brs [(0,0,[1,2,4]),(1,0,[4])] Id.y1n=some Fn.y1n:=by kernel_rfl
theorem y2x:cFunc Proofs.Tryz.prog brs [(0,0,[2,3,4]),(1,0,[2,3,4,5]),(2,0,[4]),(3,0,[2,3,4,19]),(4,0,[4]),(5,0,[4])] Id.y2x=some Fn.y2x:=by kernel_rfl
theorem y2u:cFunc Proofs.Tryz.prog brs [(0,0,[2,3]),(1,0,[2,3,5]),(2,0,[4]),(3,0,[2,3,15]),(4,0,[4]),(5,0,[2,3,21]),(6,0,[4]),(7,0,[4])] Id.y2u=some Fn.y2u:=by kernel_rfl
theorem y6a:cFunc Proofs.Tryz.prog brs [(0,0,[0,1,4]),(1,0,[0,1,4,7]),(2,0,[4,5]),(3,0,[4,5])] Id.y6a=some Fn.y6a:=by kernel_rfl
theorem y4k:cFunc Proofs.Tryz.prog brs [(0,0,[0,1,4]),(1,0,[4])] Id.y4k=some Fn.y4k:=by kernel_rfl
theorem y0y:cFunc Proofs.Tryz.prog brs [(0,0,[2,3,4]),(1,0,[4])] Id.y0y=some Fn.y0y:=by kernel_rfl
theorem y24:cFunc Proofs.Tryz.prog brs [(0,0,[0,3,4]),(1,0,[0,3,4,5]),(2,0,[0,4,5,10,11,12]),(3,0,[0,4,5,10,11,12,13]),(4,0,[0,4,5,7,10,11,12]),(5,0,[0,4,5,10,11,12]),(6,0,[0,4,5,10,11,12]),(7,0,[4])] Id.y24=some Fn.y24:=by kernel_rfl
theorem y0u:cFunc Proofs.Tryz.prog brs [(0,0,[1]),(1,0,[2])] Id.y0u=some Fn.y0u:=by kernel_rfl
theorem y17:cFunc Proofs.Tryz.prog brs [(0,0,[1]),(1,0,[1,3]),(2,0,[1,3,5]),(4,0,[1,3,17]),(5,0,[2]),(3,0,[1,3]),(6,0,[2])] Id.y17=some Fn.y17:=by kernel_rfl
theorem y42:cFunc Proofs.Tryz.prog brs [(0,0,[1]),(1,0,[1,3]),(2,0,[1,3,10]),(3,0,[1,3]),(4,0,[1,3,16]),(5,0,[3]),(6,0,[2])] Id.y42=some Fn.y42:=by kernel_rfl
theorem y3e:cFunc Proofs.Tryz.prog brs [(0,0,[1]),(1,0,[1,3]),(2,0,[3,4]),(3,0,[3,4,12]),(4,0,[2]),(5,0,[2])] Id.y3e=some Fn.y3e:=by kernel_rfl
theorem y1w:cFunc Proofs.Tryz.prog brs [(0,0,[0,3]),(1,0,[0,3,5]),(2,0,[0,3,5,6]),(3,0,[0,3,5,6,20]),(4,0,[5]),(5,0,[4]),(6,0,[0,3,5,6,32]),(7,0,[5]),(8,0,[4]),(9,0,[0,3,5,7]),(10,0,[0,3,5,7,46]),(11,0,[0,3,5,7]),(12,0,[5,7]),(13,0,[5]),(14,0,[4])] Id.y1w=some Fn.y1w:=by kernel_rfl
theorem y1r:cFunc Proofs.Tryz.prog brs [(0,0,[2,3,4]),(1,0,[4])] Id.y1r=some Fn.y1r:=by kernel_rfl
theorem y2p:cFunc Proofs.Tryz.prog brs [(0,0,[1,2,4]),(1,0,[4])] Id.y2p=some Fn.y2p:=by kernel_rfl
theorem y32:cFunc Proofs.Tryz.prog brs [(0,0,[3,4,5,6]),(1,0,[3,4,5,6,7]),(2,0,[3,4,5,6,7,8]),(3,0,[3,4,5,6,7,8,18]),(5,0,[3,4,5,6,7,8,39]),(6,0,[3,4,5,6,7,8]),(4,0,[3,4,5,6,7,8]),(7,0,[3,6,7,9]),(8,0,[3,6,7,9,54]),(10,0,[3,6,7,9,68]),(11,0,[6]),(9,0,[3,6,7,9]),(12,0,[6])] Id.y32=some Fn.y32:=by kernel_rfl
theorem y2b:cFunc Proofs.Tryz.prog brs [(0,0,[3,4,5,6]),(1,0,[6])] Id.y2b=some Fn.y2b:=by kernel_rfl
theorem y22:cFunc Proofs.Tryz.prog brs [(0,0,[2,3,4]),(1,0,[4])] Id.y22=some Fn.y22:=by kernel_rfl
theorem y36:cFunc Proofs.Tryz.prog brs [(0,0,[1,2]),(1,0,[2])] Id.y36=some Fn.y36:=by kernel_rfl
theorem y3c:cFunc Proofs.Tryz.prog brs [(0,0,[2,3]),(1,0,[4])] Id.y3c=some Fn.y3c:=by kernel_rfl
theorem y2f:cFunc Proofs.Tryz.prog brs [(0,0,[2,3]),(1,0,[2,3,9]),(2,0,[11]),(3,0,[4]),(4,0,[4]),(5,0,[2,3,13]),(6,0,[4]),(7,0,[4])] Id.y2f=some Fn.y2f:=by kernel_rfl
theorem y1a:cFunc Proofs.Tryz.prog brs [(0,0,[2,3,4]),(1,0,[4])] Id.y1a=some Fn.y1a:=by kernel_rfl
theorem y0i:cFunc Proofs.Tryz.prog brs [(0,0,[1,2]),(1,0,[1,2,7]),(2,0,[2]),(3,0,[2])] Id.y0i=some Fn.y0i:=by kernel_rfl
theorem y61:cFunc Proofs.Tryz.prog brs [(0,0,[0,2]),(1,0,[2])] Id.y61=some Fn.y61:=by kernel_rfl
theorem y5z:cFunc Proofs.Tryz.prog brs [(0,0,[0,2]),(1,0,[2])] Id.y5z=some Fn.y5z:=by kernel_rfl
theorem y3t:cFunc Proofs.Tryz.prog brs [(0,0,[0,2]),(1,0,[0,2,3]),(2,0,[0,2,3,4]),(3,0,[0,2,3,4,8]),(5,0,[0,2,3,4,21]),(6,0,[0,2,3,4]),(4,0,[0,2,3,4]),(7,0,[2])] Id.y3t=some Fn.y3t:=by kernel_rfl
theorem y1p:cFunc Proofs.Tryz.prog brs [(0,0,[1,2]),(1,0,[2])] Id.y1p=some Fn.y1p:=by kernel_rfl
theorem y0d:cFunc Proofs.Tryz.prog brs [(0,0,[0,1]),(1,0,[0,1,7,8]),(2,0,[0,1,7,8,9]),(3,0,[0,1,5,7,8]),(4,0,[0,1,5,7,8,16]),(5,0,[4]),(6,0,[0,1,7,8]),(7,0,[4])] Id.y0d=some Fn.y0d:=by kernel_rfl
theorem y0c:cFunc Proofs.Tryz.prog brs [(0,0,[0,1]),(1,0,[0,1,7,8]),(2,0,[0,1,7,8,9]),(3,0,[0,1,5,7,8]),(4,0,[0,1,5,7,8,16]),(5,0,[4]),(6,0,[0,1,7,8]),(7,0,[4])] Id.y0c=some Fn.y0c:=by kernel_rfl
theorem y6o:cFunc Proofs.Tryz.prog brs [(0,0,[1,2]),(1,0,[2])] Id.y6o=some Fn.y6o:=by kernel_rfl
theorem y2c:cFunc Proofs.Tryz.prog brs [(0,0,[0]),(1,0,[0,4]),(2,0,[2]),(3,0,[2])] Id.y2c=some Fn.y2c:=by kernel_rfl
theorem y09:cFunc Proofs.Tryz.prog brs [(0,0,[0,1,2,4]),(1,0,[0,1,2,4,5]),(2,0,[0,1,4,5,13,14,15]),(3,0,[0,1,4,5,13,14,15,16]),(4,0,[0,1,4,5,7,13,14,15]),(5,0,[0,1,4,5,7,13,14,15]),(6,0,[0,1,4,5,7,8,13,14,15]),(7,0,[0,1,4,5,7,8,13,14,15]),(8,0,[0,1,4,5,7,13,14,15]),(9,0,[0,1,4,5,7,13,14,15,69]),(10,0,[0,1,4,5,7,13,14,15]),(11,0,[0,1,4,5,13,14,15,80]),(12,0,[0,1,4,5,13,14,15])] Id.y09=some Fn.y09:=by kernel_rfl
theorem y1v:cFunc Proofs.Tryz.prog brs [(0,0,[0,3]),(1,0,[0,3,4]),(2,0,[0,3,4,11,12,13]),(3,0,[0,3,4,11,12,13,14]),(4,0,[0,3,4,5,6,11,12,13]),(5,0,[0,3,4,5,6,11,12,13,24]),(6,0,[0,3,4,5,6,11,12,13,29]),(7,0,[0,3,4,11,12,13]),(8,0,[0,3,4,5,6,11,12,13]),(9,0,[0,3,4,5,11,12,13,54]),(10,0,[0,3,4,11,12,13]),(11,0,[0,3,4,11,12,13]),(12,0,[0,4,58]),(13,0,[0]),(14,0,[])] Id.y1v=some Fn.y1v:=by kernel_rfl
theorem y4i:cFunc Proofs.Tryz.prog brs [(0,0,[3,4,5,6]),(1,0,[6])] Id.y4i=some Fn.y4i:=by kernel_rfl
theorem y4a:cFunc Proofs.Tryz.prog brs [(0,0,[0,1]),(1,0,[0,1,11]),(2,0,[0,1,19]),(3,0,[5,6]),(4,0,[5,6,25]),(5,0,[5,6]),(6,0,[4]),(7,0,[1,8]),(8,0,[0,1]),(9,0,[4])] Id.y4a=some Fn.y4a:=by kernel_rfl
theorem y26:cFunc Proofs.Tryz.prog brs [(0,0,[0,1]),(1,0,[0,1,15]),(2,0,[4,5]),(3,0,[0,1,21]),(4,0,[4,5]),(5,0,[0,1,6]),(6,0,[0,6,7]),(7,0,[0,6,7,8]),(8,0,[0,6,7,8,9]),(9,0,[0,6,7,8,9]),(10,0,[0,6,7,8,9]),(11,0,[6,7,8,9,10]),(12,0,[6,7,8,9,10,11]),(13,0,[6,7,8,9,10,11,68]),(15,0,[6,7,8,9,10,11,12]),(16,0,[6,7,8,9,10,11,13,14]),(17,0,[6,7,8,9,10,11,13,14,127]),(18,0,[6,7,8,9,10,11,13,14]),(19,0,[6,7,8,9,10,11,13,14]),(20,0,[6,7,8,9,10,11,13,14,139]),(21,0,[6,7,8,9,10,11,13,144]),(22,0,[6,7,8,9,10,11,13]),(23,0,[6,7,8,9,10,11,13]),(24,0,[6,7,8,9,10,11]),(14,0,[6,7,8,9,10,11]),(25,0,[4,5])] Id.y26=some Fn.y26:=by kernel_rfl
theorem y3z:cFunc Proofs.Tryz.prog brs [(0,0,[0,1]),(1,0,[0,1,5]),(2,0,[0,1,5,6]),(3,0,[0,1,5,6,13,14]),(4,0,[0,1,5,6,13,14,15]),(5,0,[0,1,5,6,7,13,14]),(6,0,[0,1,5,6,7,8,13,14]),(7,0,[0,1,5,6,7,8,13,14,20]),(8,0,[0,1,5,6,7,8,13,14]),(9,0,[0,1,5,6,13,14]),(10,0,[0,1,5,6,13,14]),(11,0,[4])] Id.y3z=some Fn.y3z:=by kernel_rfl
theorem y3a:cFunc Proofs.Tryz.prog brs [(0,0,[0]),(1,0,[2])] Id.y3a=some Fn.y3a:=by kernel_rfl
theorem y11:cFunc Proofs.Tryz.prog brs [(0,0,[0]),(1,0,[0,3]),(2,0,[0,3,15]),(3,0,[0,3]),(4,0,[2])] Id.y11=some Fn.y11:=by kernel_rfl
theorem y40:cFunc Proofs.Tryz.prog brs [(0,0,[0,1]),(1,0,[0,1,12]),(2,0,[0,1]),(3,0,[0,1,5]),(4,0,[0,1,5,6]),(5,0,[0,1,5,6,20,21]),(6,0,[0,1,5,6,20,21,22]),(7,0,[0,1,5,6,7,20,21]),(8,0,[0,1,5,6,7,20,21]),(9,0,[0,1,5,6,7,20,21,34]),(10,0,[0,1,5,6,7,20,21]),(11,0,[0,1,5,6,20,21]),(12,0,[0,1,5,6,20,21]),(13,0,[0,1,5,6,20,21]),(14,0,[5]),(15,0,[4])] Id.y40=some Fn.y40:=by kernel_rfl
theorem y25:cFunc Proofs.Tryz.prog brs [(0,0,[0,1]),(1,0,[0,1,10]),(2,0,[15]),(3,0,[4]),(4,0,[4]),(5,0,[0,1,5]),(6,0,[0,1,5,20]),(8,0,[0,1,5,31]),(9,0,[40]),(10,0,[4]),(11,0,[4]),(7,0,[0,1,5]),(12,0,[4])] Id.y25=some Fn.y25:=by kernel_rfl
theorem y1e:cFunc Proofs.Tryz.prog brs [(0,0,[2,3,4]),(1,0,[2,3,4,11]),(2,0,[2,3,4]),(3,0,[2,3,4,5]),(4,0,[2,3,4,5,29]),(5,0,[4]),(6,0,[2,3,4,5,6]),(7,0,[2,4,6,8]),(8,0,[4])] Id.y1e=some Fn.y1e:=by kernel_rfl
theorem y1o:cFunc Proofs.Tryz.prog brs [(0,0,[0,2]),(1,0,[0,2,3]),(2,0,[0,2,3]),(3,0,[0,2,3,9]),(4,0,[0,2,3,4]),(5,0,[0,2,3,4,13]),(6,0,[0,2,3,4]),(7,0,[0,2,3]),(8,0,[0,2,3]),(9,0,[2])] Id.y1o=some Fn.y1o:=by kernel_rfl
theorem y1y:cFunc Proofs.Tryz.prog brs [(0,0,[0,3]),(1,0,[0,3,5]),(2,0,[0,3,5,6]),(3,0,[0,3,5,6,17]),(4,0,[4]),(5,0,[0,3,5,6,27]),(6,0,[4]),(7,0,[5,6,8]),(8,0,[4])] Id.y1y=some Fn.y1y:=by kernel_rfl
theorem y2d:cFunc Proofs.Tryz.prog brs [(0,0,[0]),(1,0,[0,10]),(2,0,[2]),(3,0,[0,3]),(4,0,[0,3,13]),(5,0,[3,4,5]),(6,0,[3,4,6]),(7,0,[3,4,6,7]),(8,0,[3,4,6,7,31]),(10,0,[3,4,6,7]),(11,0,[3,4,6,7]),(9,0,[3,4,6,7]),(12,0,[0,3]),(13,0,[3]),(14,0,[2])] Id.y2d=some Fn.y2d:=by kernel_rfl
theorem y29:cFunc Proofs.Tryz.prog brs [(0,0,[1]),(1,0,[1,10]),(2,0,[2]),(3,0,[1,3]),(4,0,[1,3,4]),(5,0,[1,3,4,15]),(7,0,[1,3,4,5]),(8,0,[1,3,4,5,6]),(9,0,[1,3,4,5,6,24]),(11,0,[1,3,4,5,6]),(12,0,[1,3,4,5,6]),(10,0,[1,3,4,5,6]),(6,0,[1,3,4]),(13,0,[1,3,39]),(14,0,[1,3]),(15,0,[3,43]),(16,0,[2]),(17,0,[2])] Id.y29=some Fn.y29:=by kernel_rfl
theorem y2y:cFunc Proofs.Tryz.prog brs [(0,0,[0,2]),(1,0,[2])] Id.y2y=some Fn.y2y:=by kernel_rfl
theorem y3h:cFunc Proofs.Tryz.prog brs [(0,0,[2,3,4]),(1,0,[4])] Id.y3h=some Fn.y3h:=by kernel_rfl
theorem y30:cFunc Proofs.Tryz.prog brs [(0,0,[2,3,4]),(1,0,[2,3,4,9]),(2,0,[4]),(3,0,[2,3,4,23]),(4,0,[4]),(5,0,[4])] Id.y30=some Fn.y30:=by kernel_rfl
theorem y3s:cFunc Proofs.Tryz.prog brs [(0,0,[0,2]),(1,0,[0,2,3]),(2,0,[0,2,3,4]),(3,0,[0,2,3,4,8]),(5,0,[0,2,3,4,21]),(6,0,[0,2,3,4]),(4,0,[0,2,3,4]),(7,0,[2])] Id.y3s=some Fn.y3s:=by kernel_rfl
theorem y31:cFunc Proofs.Tryz.prog brs [(0,0,[1,2]),(1,0,[2])] Id.y31=some Fn.y31:=by kernel_rfl
theorem y4j:cFunc Proofs.Tryz.prog brs [(0,0,[3,4,5]),(1,0,[6])] Id.y4j=some Fn.y4j:=by kernel_rfl
theorem y1q:cFunc Proofs.Tryz.prog brs [(0,0,[0,1]),(1,0,[0,1,10]),(2,0,[15]),(3,0,[4]),(4,0,[4]),(5,0,[0,1,5]),(6,0,[0,1,5,20]),(8,0,[0,1,5,31]),(9,0,[40]),(10,0,[4]),(11,0,[4]),(7,0,[0,1,5]),(12,0,[4])] Id.y1q=some Fn.y1q:=by kernel_rfl
theorem y0w:cFunc Proofs.Tryz.prog brs [(0,0,[0,1,4]),(1,0,[4])] Id.y0w=some Fn.y0w:=by kernel_rfl
theorem y37:cFunc Proofs.Tryz.prog brs [(0,0,[0,1]),(1,0,[0,1,5]),(2,0,[0,1,5,6]),(3,0,[0,1,5,6,19]),(5,0,[0,1,5,6,7]),(6,0,[0,1,5,6,7,8]),(7,0,[0,1,5,6,7,8,29]),(9,0,[0,1,5,6,8,9]),(10,0,[0,1,5,6,8,9,43]),(11,0,[0,1,5,6,8,9]),(12,0,[0,1,5,6,8,9]),(13,0,[0,1,5,6,7,8]),(8,0,[0,1,5,6,7,8]),(4,0,[0,1,5,6]),(14,0,[4])] Id.y37=some Fn.y37:=by kernel_rfl
theorem y5c:cFunc Proofs.Tryz.prog brs [(0,0,[0,1,4]),(1,0,[0,1,4,5]),(2,0,[0,4,5,8,9,10]),(3,0,[0,4,5,8,9,10,11]),(4,0,[0,4,5,6,7,8,9,10]),(5,0,[0,4,5,7,8,9,10,22]),(6,0,[0,4,5,8,9,10]),(7,0,[0,4,5,8,9,10]),(8,0,[4])] Id.y5c=some Fn.y5c:=by kernel_rfl
theorem y4r:cFunc Proofs.Tryz.prog brs [(0,0,[2,3]),(1,0,[4])] Id.y4r=some Fn.y4r:=by kernel_rfl
theorem y4q:cFunc Proofs.Tryz.prog brs [(0,0,[2,3]),(1,0,[4])] Id.y4q=some Fn.y4q:=by kernel_rfl
theorem y33:cFunc Proofs.Tryz.prog brs [(0,0,[0]),(1,0,[0,3]),(2,0,[3,6,7,8]),(3,0,[3,6,7,8,9]),(4,0,[3,4,5,6,7,8]),(5,0,[3,6,7,8]),(6,0,[3,6,7,8]),(7,0,[2])] Id.y33=some Fn.y33:=by kernel_rfl
theorem y3k:cFunc Proofs.Tryz.prog brs [(0,0,[0,1]),(1,0,[0,1,6]),(2,0,[0,1,6,7]),(3,0,[0,1,6,7,8]),(4,0,[0,1,6,7,8,16]),(6,0,[0,1,6,7,8]),(7,0,[0,1,6,7,8]),(8,0,[0,1,6,7,8]),(5,0,[0,1,6,7,8]),(9,0,[4,5])] Id.y3k=some Fn.y3k:=by kernel_rfl
theorem y1c:cFunc Proofs.Tryz.prog brs [(0,0,[0]),(1,0,[2])] Id.y1c=some Fn.y1c:=by kernel_rfl
theorem y3x:cFunc Proofs.Tryz.prog brs [(0,0,[0,1]),(1,0,[0,1,5]),(2,0,[1,5]),(3,0,[1,5,6]),(4,0,[1,5,6,25]),(5,0,[1,5,6,7]),(6,0,[5,6,7,8]),(7,0,[5,6,7,8,31]),(9,0,[5,6,7,8]),(8,0,[5,6,7,8]),(10,0,[4])] Id.y3x=some Fn.y3x:=by kernel_rfl
theorem y3r:cFunc Proofs.Tryz.prog brs [(0,0,[0,1,2,3]),(1,0,[0,1,2,3,9,10]),(2,0,[0,1,2,3,9,10,13,14,15]),(3,0,[0,1,2,3,9,10,13,14,15,16]),(4,0,[0,1,2,3,9,10,11,12,13,14,15]),(5,0,[0,1,2,3,9,10,11,13,14,15]),(6,0,[0,1,2,3,9,10,13,14,15]),(7,0,[0,1,2,3,9,10,13,14,15]),(8,0,[0,1,2,3,9,10,13,14,15]),(9,0,[10]),(10,0,[8])] Id.y3r=some Fn.y3r:=by kernel_rfl
theorem y3u:cFunc Proofs.Tryz.prog brs [(0,0,[0,1,2,6]),(1,0,[0,1,2,6,9,10,11]),(2,0,[0,1,2,6,9,10,11,12]),(3,0,[0,1,2,6,7,8,9,10,11]),(4,0,[0,1,2,6,9,10,11]),(5,0,[0,1,2,6,9,10,11]),(6,0,[])] Id.y3u=some Fn.y3u:=by kernel_rfl
theorem y41:cFunc Proofs.Tryz.prog brs [(0,0,[0,1]),(1,0,[0,1,12]),(2,0,[4]),(3,0,[1,5]),(4,0,[5,6]),(5,0,[5,6,21]),(6,0,[5,6,23,24]),(7,0,[5,6,23,24,25]),(8,0,[5,6,7,23,24]),(9,0,[5,6,7,23,24]),(10,0,[5,6,7,23,24,38]),(11,0,[5,6,23,24]),(12,0,[5,6,23,24]),(13,0,[4])] Id.y41=some Fn.y41:=by kernel_rfl
theorem y2g:cFunc Proofs.Tryz.prog brs [(0,0,[0,1,2]),(1,0,[0,1,6]),(2,0,[6,7])] Id.y2g=some Fn.y2g:=by kernel_rfl
theorem y3i:cFunc Proofs.Tryz.prog brs [(0,0,[2,3,4]),(1,0,[4,5,6]),(2,0,[4,5,6,19]),(3,0,[4,5,6,7,8]),(4,0,[4,5,6,7,8,9,10]),(5,0,[4,5,6,7,9,35]),(6,0,[4,7,9,37]),(7,0,[4,7,9]),(8,0,[4]),(9,0,[4,6,12]),(10,0,[4,5,6]),(11,0,[4])] Id.y3i=some Fn.y3i:=by kernel_rfl
theorem y2w:cFunc Proofs.Tryz.prog brs [(0,0,[0,1]),(1,0,[0,1,6]),(2,0,[0,1,6,7]),(3,0,[0,1,6,7,8]),(4,0,[0,1,6,7,8,17]),(6,0,[0,1,6,7,8]),(7,0,[0,1,6,7,8,9]),(8,0,[0,1,6,7,8,9,30]),(9,0,[0,1,6,7,8,9]),(10,0,[0,1,6,7,8,9,40]),(11,0,[0,1,6,7,8,9]),(12,0,[0,1,6,7,8,9]),(13,0,[0,1,6,7,8,9,63]),(14,0,[0,1,6,7,8,9]),(15,0,[0,1,6,7,8,9]),(16,0,[0,1,6,7,8]),(5,0,[0,1,6,7,8]),(17,0,[4,5])] Id.y2w=some Fn.y2w:=by kernel_rfl
theorem y04:cFunc Proofs.Tryz.prog brs [(0,0,[0,2,4]),(1,0,[0,2,4,8]),(2,0,[0,2,4,8,9,10]),(3,0,[0,2,4,8,9,10,17]),(4,0,[0,2,4,8,9,10,11]),(5,0,[0,2,4,8,9,10,11,31]),(6,0,[0,2,4,8,9,10]),(7,0,[0,2,4,8,9,10]),(8,0,[6,7])] Id.y04=some Fn.y04:=by kernel_rfl
theorem y0j:cFunc Proofs.Tryz.prog brs [(0,0,[2,3]),(1,0,[4])] Id.y0j=some Fn.y0j:=by kernel_rfl
theorem y4m:cFunc Proofs.Tryz.prog brs [(0,0,[2,3,4]),(1,0,[2,3,4,8]),(2,0,[4,5]),(3,0,[4,5])] Id.y4m=some Fn.y4m:=by kernel_rfl
theorem y1d:cFunc Proofs.Tryz.prog brs [(0,0,[0,2,3]),(1,0,[0,2,3,9]),(3,0,[0,2,3]),(2,0,[0,2,3])] Id.y1d=some Fn.y1d:=by kernel_rfl
theorem y3v:cFunc Proofs.Tryz.prog brs [(0,0,[0,1]),(1,0,[0,1,5]),(2,0,[0,1,5,6]),(3,0,[0,1,5,6,7]),(4,0,[0,1,5,6,7,21]),(6,0,[0,1,5,6,7,27]),(7,0,[0,1,5,6,7]),(8,0,[0,1,5,6,7,37]),(9,0,[0,1,5,6,7]),(10,0,[0,1,5,6,7]),(11,0,[0,1,5,6,7]),(5,0,[0,1,5,6,7]),(12,0,[4])] Id.y3v=some Fn.y3v:=by kernel_rfl
theorem y2a:cFunc Proofs.Tryz.prog brs [(0,0,[0,1]),(1,0,[0,1,5]),(2,0,[0,1,5,6]),(3,0,[0,1,5,6,7]),(4,0,[0,1,5,6,7,12]),(6,0,[0,1,5,7,8]),(7,0,[0,1,5,7,8,24]),(8,0,[0,1,5,7,8]),(9,0,[0,1,5,6,7,8]),(10,0,[0,1,5,6,7,8,32]),(11,0,[0,1,5,7,8]),(12,0,[0,1,5,6,7,8]),(13,0,[0,1,5,6,7]),(5,0,[0,1,5,6,7]),(14,0,[4])] Id.y2a=some Fn.y2a:=by kernel_rfl
theorem y20:cFunc Proofs.Tryz.prog brs [(0,0,[0]),(1,0,[0,14]),(2,0,[0]),(3,0,[2])] Id.y20=some Fn.y20:=by kernel_rfl
theorem y3w:cFunc Proofs.Tryz.prog brs [(0,0,[0,2]),(1,0,[0,2,4]),(2,0,[0]),(3,0,[0,2]),(4,0,[0,2,8]),(5,0,[0,2]),(6,0,[0,2]),(7,0,[2])] Id.y3w=some Fn.y3w:=by kernel_rfl
theorem y3j:cFunc Proofs.Tryz.prog brs [(0,0,[0,1,2]),(1,0,[8]),(2,0,[6,8]),(3,0,[6,7])] Id.y3j=some Fn.y3j:=by kernel_rfl
theorem y0p:cFunc Proofs.Tryz.prog brs [(0,0,[0]),(1,0,[0,4]),(2,0,[2]),(3,0,[2])] Id.y0p=some Fn.y0p:=by kernel_rfl
theorem y2r:cFunc Proofs.Tryz.prog brs [(0,0,[1]),(1,0,[1,9]),(2,0,[2,3]),(3,0,[1,4]),(4,0,[1,4,5]),(5,0,[1,4,5,15]),(7,0,[1,4,5]),(6,0,[1,4,5]),(8,0,[2,3])] Id.y2r=some Fn.y2r:=by kernel_rfl
theorem y38:cFunc Proofs.Tryz.prog brs [(0,0,[0,1]),(1,0,[0,1,5]),(2,0,[0,1,5,6]),(3,0,[0,1,5,6,12]),(5,0,[0,1,5,6]),(4,0,[0,1,5,6]),(6,0,[4])] Id.y38=some Fn.y38:=by kernel_rfl
theorem y4o:cFunc Proofs.Tryz.prog brs [(0,0,[2,3,4]),(1,0,[4])] Id.y4o=some Fn.y4o:=by kernel_rfl
end Ck
def E:Env:=fun f=>
 bif Nat.beq f Id.y0x then some Fn.y0x else
 bif Nat.beq f Id.y18 then some Fn.y18 else
 bif Nat.beq f Id.y1i then some Fn.y1i else
 bif Nat.beq f Id.y3l then some Fn.y3l else
 bif Nat.beq f Id.y28 then some Fn.y28 else
 bif Nat.beq f Id.y3m then some Fn.y3m else
 bif Nat.beq f Id.y5w then some Fn.y5w else
 bif Nat.beq f Id.y4w then some Fn.y4w else
 bif Nat.beq f Id.y2q then some Fn.y2q else
 bif Nat.beq f Id.y1t then some Fn.y1t else
 bif Nat.beq f Id.y23 then some Fn.y23 else
 bif Nat.beq f Id.y1j then some Fn.y1j else
 bif Nat.beq f Id.y46 then some Fn.y46 else
 bif Nat.beq f Id.y1z then some Fn.y1z else
 bif Nat.beq f Id.y0t then some Fn.y0t else
 bif Nat.beq f Id.y83 then some Fn.y83 else
 bif Nat.beq f Id.y10 then some Fn.y10 else
 bif Nat.beq f Id.y0o then some Fn.y0o else
 bif Nat.beq f Id.y2e then some Fn.y2e else
 bif Nat.beq f Id.y3y then some Fn.y3y else
 bif Nat.beq f Id.y4s then some Fn.y4s else
 bif Nat.beq f Id.y3g then some Fn.y3g else
 bif Nat.beq f Id.y35 then some Fn.y35 else
 bif Nat.beq f Id.y3f then some Fn.y3f else
 bif Nat.beq f Id.y0l then some Fn.y0l else
 bif Nat.beq f Id.y39 then some Fn.y39 else
 bif Nat.beq f Id.y0g then some Fn.y0g else
 bif Nat.beq f Id.y3b then some Fn.y3b else
 bif Nat.beq f Id.y0z then some Fn.y0z else
 bif Nat.beq f Id.y2z then some Fn.y2z else
 bif Nat.beq f Id.y4b then some Fn.y4b else
 bif Nat.beq f Id.y0a then some Fn.y0a else
 bif Nat.beq f Id.y4l then some Fn.y4l else
 bif Nat.beq f Id.y1u then some Fn.y1u else
 bif Nat.beq f Id.y0b then some Fn.y0b else
 bif Nat.beq f Id.y0q then some Fn.y0q else
 bif Nat.beq f Id.y4t then some Fn.y4t else
 bif Nat.beq f Id.y2n then some Fn.y2n else
 bif Nat.beq f Id.y4e then some Fn.y4e else
 bif Nat.beq f Id.y0v then some Fn.y0v else
 bif Nat.beq f Id.y58 then some Fn.y58 else
 bif Nat.beq f Id.y2s then some Fn.y2s else
 bif Nat.beq f Id.y47 then some Fn.y47 else
 bif Nat.beq f Id.y2v then some Fn.y2v else
 bif Nat.beq f Id.y21 then some Fn.y21 else
 bif Nat.beq f Id.y16 then some Fn.y16 else
 bif Nat.beq f Id.y2k then some Fn.y2k else
 bif Nat.beq f Id.y2o then some Fn.y2o else
 bif Nat.beq f Id.y1n then some Fn.y1n else
 bif Nat.beq f Id.y2x then some Fn.y2x else
 bif Nat.beq f Id.y2u then some Fn.y2u else
 bif Nat.beq f Id.y6a then some Fn.y6a else
 bif Nat.beq f Id.y4k then some Fn.y4k else
 bif Nat.beq f Id.y0y then some Fn.y0y else
 bif Nat.beq f Id.y24 then some Fn.y24 else
 bif Nat.beq f Id.y0u then some Fn.y0u else
 bif Nat.beq f Id.y17 then some Fn.y17 else
 bif Nat.beq f Id.y42 then some Fn.y42 else
 bif Nat.beq f Id.y3e then some Fn.y3e else
 bif Nat.beq f Id.y1w then some Fn.y1w else
 bif Nat.beq f Id.y1r then some Fn.y1r else
 bif Nat.beq f Id.y2p then some Fn.y2p else
 bif Nat.beq f Id.y32 then some Fn.y32 else
 bif Nat.beq f Id.y2b then some Fn.y2b else
 bif Nat.beq f Id.y22 then some Fn.y22 else
 bif Nat.beq f Id.y36 then some Fn.y36 else
 bif Nat.beq f Id.y3c then some Fn.y3c else
 bif Nat.beq f Id.y2f then some Fn.y2f else
 bif Nat.beq f Id.y1a then some Fn.y1a else
 bif Nat.beq f Id.y0i then some Fn.y0i else
 bif Nat.beq f Id.y61 then some Fn.y61 else
 bif Nat.beq f Id.y5z then some Fn.y5z else
 bif Nat.beq f Id.y3t then some Fn.y3t else
 bif Nat.beq f Id.y1p then some Fn.y1p else
 bif Nat.beq f Id.y0d then some Fn.y0d else
 bif Nat.beq f Id.y0c then some Fn.y0c else
 bif Nat.beq f Id.y6o then some Fn.y6o else
 bif Nat.beq f Id.y2c then some Fn.y2c else
 bif Nat.beq f Id.y09 then some Fn.y09 else
 bif Nat.beq f Id.y1v then some Fn.y1v else
 bif Nat.beq f Id.y4i then some Fn.y4i else
 bif Nat.beq f Id.y4a then some Fn.y4a else
 bif Nat.beq f Id.y26 then some Fn.y26 else
 bif Nat.beq f Id.y3z then some Fn.y3z else
 bif Nat.beq f Id.y3a then some Fn.y3a else
 bif Nat.beq f Id.y11 then some Fn.y11 else
 bif Nat.beq f Id.y40 then some Fn.y40 else
 bif Nat.beq f Id.y25 then some Fn.y25 else
 bif Nat.beq f Id.y1e then some Fn.y1e else
 bif Nat.beq f Id.y1o then some Fn.y1o else
 bif Nat.beq f Id.y1y then some Fn.y1y else
 bif Nat.beq f Id.y2d then some Fn.y2d else
 bif Nat.beq f Id.y29 then some Fn.y29 else
 bif Nat.beq f Id.y2y then some Fn.y2y else
 bif Nat.beq f Id.y3h then some Fn.y3h else
 bif Nat.beq f Id.y30 then some Fn.y30 else
 bif Nat.beq f Id.y3s then some Fn.y3s else
 bif Nat.beq f Id.y31 then some Fn.y31 else
 bif Nat.beq f Id.y4j then some Fn.y4j else
 bif Nat.beq f Id.y1q then some Fn.y1q else
 bif Nat.beq f Id.y0w then some Fn.y0w else
 bif Nat.beq f Id.y37 then some Fn.y37 else
 bif Nat.beq f Id.y5c then some Fn.y5c else
 bif Nat.beq f Id.y4r then some Fn.y4r else
 bif Nat.beq f Id.y4q then some Fn.y4q else
 bif Nat.beq f Id.y33 then some Fn.y33 else
 bif Nat.beq f Id.y3k then some Fn.y3k else
 bif Nat.beq f Id.y1c then some Fn.y1c else
 bif Nat.beq f Id.y3x then some Fn.y3x else
 bif Nat.beq f Id.y3r then some Fn.y3r else
 bif Nat.beq f Id.y3u then some Fn.y3u else
 bif Nat.beq f Id.y41 then some Fn.y41 else
 bif Nat.beq f Id.y2g then some Fn.y2g else
 bif Nat.beq f Id.y3i then some Fn.y3i else
 bif Nat.beq f Id.y2w then some Fn.y2w else
 bif Nat.beq f Id.y04 then some Fn.y04 else
 bif Nat.beq f Id.y0j then some Fn.y0j else
 bif Nat.beq f Id.y4m then some Fn.y4m else
 bif Nat.beq f Id.y1d then some Fn.y1d else
 bif Nat.beq f Id.y3v then some Fn.y3v else
 bif Nat.beq f Id.y2a then some Fn.y2a else
 bif Nat.beq f Id.y20 then some Fn.y20 else
 bif Nat.beq f Id.y3w then some Fn.y3w else
 bif Nat.beq f Id.y3j then some Fn.y3j else
 bif Nat.beq f Id.y0p then some Fn.y0p else
 bif Nat.beq f Id.y2r then some Fn.y2r else
 bif Nat.beq f Id.y38 then some Fn.y38 else
 bif Nat.beq f Id.y4o then some Fn.y4o else
 none
theorem y5s:E Id.y0x=some Fn.y0x:=rfl
theorem ybu:E Id.y18=some Fn.y18:=rfl
theorem ybn:E Id.y1i=some Fn.y1i:=rfl
theorem ylu:E Id.y3l=some Fn.y3l:=rfl
theorem ytj:E Id.y28=some Fn.y28:=rfl
theorem ydj:E Id.y3m=some Fn.y3m:=rfl
theorem yhc:E Id.y5w=some Fn.y5w:=rfl
theorem yfj:E Id.y4w=some Fn.y4w:=rfl
theorem yix:E Id.y2q=some Fn.y2q:=rfl
theorem ylk:E Id.y1t=some Fn.y1t:=rfl
theorem ylq:E Id.y23=some Fn.y23:=rfl
theorem yli:E Id.y1j=some Fn.y1j:=rfl
theorem ylt:E Id.y46=some Fn.y46:=rfl
theorem ye5:E Id.y1z=some Fn.y1z:=rfl
theorem yeu:E Id.y0t=some Fn.y0t:=rfl
theorem y10v:E Id.y83=some Fn.y83:=rfl
theorem yde:E Id.y10=some Fn.y10:=rfl
theorem yax:E Id.y0o=some Fn.y0o:=rfl
theorem yez:E Id.y2e=some Fn.y2e:=rfl
theorem yi5:E Id.y3y=some Fn.y3y:=rfl
theorem ycs:E Id.y4s=some Fn.y4s:=rfl
theorem ygf:E Id.y3g=some Fn.y3g:=rfl
theorem yd2:E Id.y35=some Fn.y35:=rfl
theorem yf8:E Id.y3f=some Fn.y3f:=rfl
theorem ygp:E Id.y0l=some Fn.y0l:=rfl
theorem yi9:E Id.y39=some Fn.y39:=rfl
theorem yav:E Id.y0g=some Fn.y0g:=rfl
theorem ylj:E Id.y3b=some Fn.y3b:=rfl
theorem yau:E Id.y0z=some Fn.y0z:=rfl
theorem ygx:E Id.y2z=some Fn.y2z:=rfl
theorem yiw:E Id.y4b=some Fn.y4b:=rfl
theorem y7i:E Id.y0a=some Fn.y0a:=rfl
theorem yjl:E Id.y4l=some Fn.y4l:=rfl
theorem ydc:E Id.y1u=some Fn.y1u:=rfl
theorem y7j:E Id.y0b=some Fn.y0b:=rfl
theorem yrx:E Id.y0q=some Fn.y0q:=rfl
theorem ywp:E Id.y4t=some Fn.y4t:=rfl
theorem ypc:E Id.y2n=some Fn.y2n:=rfl
theorem yt4:E Id.y4e=some Fn.y4e:=rfl
theorem ybi:E Id.y0v=some Fn.y0v:=rfl
theorem yrv:E Id.y58=some Fn.y58:=rfl
theorem yd3:E Id.y2s=some Fn.y2s:=rfl
theorem ylf:E Id.y47=some Fn.y47:=rfl
theorem yd6:E Id.y2v=some Fn.y2v:=rfl
theorem yh3:E Id.y21=some Fn.y21:=rfl
theorem yhm:E Id.y16=some Fn.y16:=rfl
theorem yij:E Id.y2k=some Fn.y2k:=rfl
theorem yll:E Id.y2o=some Fn.y2o:=rfl
theorem ycv:E Id.y1n=some Fn.y1n:=rfl
theorem yfb:E Id.y2x=some Fn.y2x:=rfl
theorem yfd:E Id.y2u=some Fn.y2u:=rfl
theorem yr2:E Id.y6a=some Fn.y6a:=rfl
theorem yhn:E Id.y4k=some Fn.y4k:=rfl
theorem yaq:E Id.y0y=some Fn.y0y:=rfl
theorem yhu:E Id.y24=some Fn.y24:=rfl
theorem yf1:E Id.y0u=some Fn.y0u:=rfl
theorem ybp:E Id.y17=some Fn.y17:=rfl
theorem yje:E Id.y42=some Fn.y42:=rfl
theorem yes:E Id.y3e=some Fn.y3e:=rfl
theorem y84:E Id.y1w=some Fn.y1w:=rfl
theorem ygk:E Id.y1r=some Fn.y1r:=rfl
theorem ye6:E Id.y2p=some Fn.y2p:=rfl
theorem yex:E Id.y32=some Fn.y32:=rfl
theorem yd7:E Id.y2b=some Fn.y2b:=rfl
theorem ygo:E Id.y22=some Fn.y22:=rfl
theorem ygj:E Id.y36=some Fn.y36:=rfl
theorem yj8:E Id.y3c=some Fn.y3c:=rfl
theorem yey:E Id.y2f=some Fn.y2f:=rfl
theorem yet:E Id.y1a=some Fn.y1a:=rfl
theorem y9h:E Id.y0i=some Fn.y0i:=rfl
theorem yoo:E Id.y61=some Fn.y61:=rfl
theorem yon:E Id.y5z=some Fn.y5z:=rfl
theorem yh0:E Id.y3t=some Fn.y3t:=rfl
theorem ybt:E Id.y1p=some Fn.y1p:=rfl
theorem y7s:E Id.y0d=some Fn.y0d:=rfl
theorem y7z:E Id.y0c=some Fn.y0c:=rfl
theorem yrm:E Id.y6o=some Fn.y6o:=rfl
theorem yf9:E Id.y2c=some Fn.y2c:=rfl
theorem yco:E Id.y09=some Fn.y09:=rfl
theorem ydq:E Id.y1v=some Fn.y1v:=rfl
theorem yoa:E Id.y4i=some Fn.y4i:=rfl
theorem yi6:E Id.y4a=some Fn.y4a:=rfl
theorem y93:E Id.y26=some Fn.y26:=rfl
theorem yia:E Id.y3z=some Fn.y3z:=rfl
theorem ylo:E Id.y3a=some Fn.y3a:=rfl
theorem ygn:E Id.y11=some Fn.y11:=rfl
theorem yii:E Id.y40=some Fn.y40:=rfl
theorem yhp:E Id.y25=some Fn.y25:=rfl
theorem ygh:E Id.y1e=some Fn.y1e:=rfl
theorem yf0:E Id.y1o=some Fn.y1o:=rfl
theorem y7d:E Id.y1y=some Fn.y1y:=rfl
theorem ycx:E Id.y2d=some Fn.y2d:=rfl
theorem ydo:E Id.y29=some Fn.y29:=rfl
theorem ygc:E Id.y2y=some Fn.y2y:=rfl
theorem ygd:E Id.y3h=some Fn.y3h:=rfl
theorem yeq:E Id.y30=some Fn.y30:=rfl
theorem yga:E Id.y3s=some Fn.y3s:=rfl
theorem yf2:E Id.y31=some Fn.y31:=rfl
theorem ymq:E Id.y4j=some Fn.y4j:=rfl
theorem ygq:E Id.y1q=some Fn.y1q:=rfl
theorem ycw:E Id.y0w=some Fn.y0w:=rfl
theorem ydg:E Id.y37=some Fn.y37:=rfl
theorem yn0:E Id.y5c=some Fn.y5c:=rfl
theorem ylm:E Id.y4r=some Fn.y4r:=rfl
theorem ylp:E Id.y4q=some Fn.y4q:=rfl
theorem yf5:E Id.y33=some Fn.y33:=rfl
theorem yf7:E Id.y3k=some Fn.y3k:=rfl
theorem y9x:E Id.y1c=some Fn.y1c:=rfl
theorem yhq:E Id.y3x=some Fn.y3x:=rfl
theorem yge:E Id.y3r=some Fn.y3r:=rfl
theorem ygt:E Id.y3u=some Fn.y3u:=rfl
theorem yhb:E Id.y41=some Fn.y41:=rfl
theorem yf4:E Id.y2g=some Fn.y2g:=rfl
theorem yev:E Id.y3i=some Fn.y3i:=rfl
theorem yew:E Id.y2w=some Fn.y2w:=rfl
theorem y68:E Id.y04=some Fn.y04:=rfl
theorem yc5:E Id.y0j=some Fn.y0j:=rfl
theorem yle:E Id.y4m=some Fn.y4m:=rfl
theorem y9u:E Id.y1d=some Fn.y1d:=rfl
theorem yf3:E Id.y3v=some Fn.y3v:=rfl
theorem ydw:E Id.y2a=some Fn.y2a:=rfl
theorem yfa:E Id.y20=some Fn.y20:=rfl
theorem yfc:E Id.y3w=some Fn.y3w:=rfl
theorem yf6:E Id.y3j=some Fn.y3j:=rfl
theorem y8x:E Id.y0p=some Fn.y0p:=rfl
theorem ydk:E Id.y2r=some Fn.y2r:=rfl
theorem yg1:E Id.y38=some Fn.y38:=rfl
theorem yj1:E Id.y4o=some Fn.y4o:=rfl
theorem y03 {P:Program} {f k:Nat} {a fn:AFn} {r:Option AFn} (hk:∃br hs,cFunc P br hs k=some a) (hr:r=some fn→∃br hs,cFunc P br hs f=some fn):(bif Nat.beq f k then some a else r)=some fn→∃br hs,cFunc P br hs f=some fn:=by
 intro h
 cases hb:Nat.beq f k with
 | true=>rw [hb] at h;cases h;rw [Nat.eq_of_beq_eq_true hb];exact hk
 | false=>rw [hb] at h;exact hr h
theorem E_ok:EnvOk Proofs.Tryz.prog E:=by
 intro f fn
 unfold E
 refine y03 ⟨_,_,Ck.y0x⟩ ?_
 refine y03 ⟨_,_,Ck.y18⟩ ?_
 refine y03 ⟨_,_,Ck.y1i⟩ ?_
 refine y03 ⟨_,_,Ck.y3l⟩ ?_
 refine y03 ⟨_,_,Ck.y28⟩ ?_
 refine y03 ⟨_,_,Ck.y3m⟩ ?_
 refine y03 ⟨_,_,Ck.y5w⟩ ?_
 refine y03 ⟨_,_,Ck.y4w⟩ ?_
 refine y03 ⟨_,_,Ck.y2q⟩ ?_
 refine y03 ⟨_,_,Ck.y1t⟩ ?_
 refine y03 ⟨_,_,Ck.y23⟩ ?_
 refine y03 ⟨_,_,Ck.y1j⟩ ?_
 refine y03 ⟨_,_,Ck.y46⟩ ?_
 refine y03 ⟨_,_,Ck.y1z⟩ ?_
 refine y03 ⟨_,_,Ck.y0t⟩ ?_
 refine y03 ⟨_,_,Ck.y83⟩ ?_
 refine y03 ⟨_,_,Ck.y10⟩ ?_
 refine y03 ⟨_,_,Ck.y0o⟩ ?_
 refine y03 ⟨_,_,Ck.y2e⟩ ?_
 refine y03 ⟨_,_,Ck.y3y⟩ ?_
 refine y03 ⟨_,_,Ck.y4s⟩ ?_
 refine y03 ⟨_,_,Ck.y3g⟩ ?_
 refine y03 ⟨_,_,Ck.y35⟩ ?_
 refine y03 ⟨_,_,Ck.y3f⟩ ?_
 refine y03 ⟨_,_,Ck.y0l⟩ ?_
 refine y03 ⟨_,_,Ck.y39⟩ ?_
 refine y03 ⟨_,_,Ck.y0g⟩ ?_
 refine y03 ⟨_,_,Ck.y3b⟩ ?_
 refine y03 ⟨_,_,Ck.y0z⟩ ?_
 refine y03 ⟨_,_,Ck.y2z⟩ ?_
 refine y03 ⟨_,_,Ck.y4b⟩ ?_
 refine y03 ⟨_,_,Ck.y0a⟩ ?_
 refine y03 ⟨_,_,Ck.y4l⟩ ?_
 refine y03 ⟨_,_,Ck.y1u⟩ ?_
 refine y03 ⟨_,_,Ck.y0b⟩ ?_
 refine y03 ⟨_,_,Ck.y0q⟩ ?_
 refine y03 ⟨_,_,Ck.y4t⟩ ?_
 refine y03 ⟨_,_,Ck.y2n⟩ ?_
 refine y03 ⟨_,_,Ck.y4e⟩ ?_
 refine y03 ⟨_,_,Ck.y0v⟩ ?_
 refine y03 ⟨_,_,Ck.y58⟩ ?_
 refine y03 ⟨_,_,Ck.y2s⟩ ?_
 refine y03 ⟨_,_,Ck.y47⟩ ?_
 refine y03 ⟨_,_,Ck.y2v⟩ ?_
 refine y03 ⟨_,_,Ck.y21⟩ ?_
 refine y03 ⟨_,_,Ck.y16⟩ ?_
 refine y03 ⟨_,_,Ck.y2k⟩ ?_
 refine y03 ⟨_,_,Ck.y2o⟩ ?_
 refine y03 ⟨_,_,Ck.y1n⟩ ?_
 refine y03 ⟨_,_,Ck.y2x⟩ ?_
 refine y03 ⟨_,_,Ck.y2u⟩ ?_
 refine y03 ⟨_,_,Ck.y6a⟩ ?_
 refine y03 ⟨_,_,Ck.y4k⟩ ?_
 refine y03 ⟨_,_,Ck.y0y⟩ ?_
 refine y03 ⟨_,_,Ck.y24⟩ ?_
 refine y03 ⟨_,_,Ck.y0u⟩ ?_
 refine y03 ⟨_,_,Ck.y17⟩ ?_
 refine y03 ⟨_,_,Ck.y42⟩ ?_
 refine y03 ⟨_,_,Ck.y3e⟩ ?_
 refine y03 ⟨_,_,Ck.y1w⟩ ?_
 refine y03 ⟨_,_,Ck.y1r⟩ ?_
 refine y03 ⟨_,_,Ck.y2p⟩ ?_
 refine y03 ⟨_,_,Ck.y32⟩ ?_
 refine y03 ⟨_,_,Ck.y2b⟩ ?_
 refine y03 ⟨_,_,Ck.y22⟩ ?_
 refine y03 ⟨_,_,Ck.y36⟩ ?_
 refine y03 ⟨_,_,Ck.y3c⟩ ?_
 refine y03 ⟨_,_,Ck.y2f⟩ ?_
 refine y03 ⟨_,_,Ck.y1a⟩ ?_
 refine y03 ⟨_,_,Ck.y0i⟩ ?_
 refine y03 ⟨_,_,Ck.y61⟩ ?_
 refine y03 ⟨_,_,Ck.y5z⟩ ?_
 refine y03 ⟨_,_,Ck.y3t⟩ ?_
 refine y03 ⟨_,_,Ck.y1p⟩ ?_
 refine y03 ⟨_,_,Ck.y0d⟩ ?_
 refine y03 ⟨_,_,Ck.y0c⟩ ?_
 refine y03 ⟨_,_,Ck.y6o⟩ ?_
 refine y03 ⟨_,_,Ck.y2c⟩ ?_
 refine y03 ⟨_,_,Ck.y09⟩ ?_
 refine y03 ⟨_,_,Ck.y1v⟩ ?_
 refine y03 ⟨_,_,Ck.y4i⟩ ?_
 refine y03 ⟨_,_,Ck.y4a⟩ ?_
 refine y03 ⟨_,_,Ck.y26⟩ ?_
 refine y03 ⟨_,_,Ck.y3z⟩ ?_
 refine y03 ⟨_,_,Ck.y3a⟩ ?_
 refine y03 ⟨_,_,Ck.y11⟩ ?_
 refine y03 ⟨_,_,Ck.y40⟩ ?_
 refine y03 ⟨_,_,Ck.y25⟩ ?_
 refine y03 ⟨_,_,Ck.y1e⟩ ?_
 refine y03 ⟨_,_,Ck.y1o⟩ ?_
 refine y03 ⟨_,_,Ck.y1y⟩ ?_
 refine y03 ⟨_,_,Ck.y2d⟩ ?_
 refine y03 ⟨_,_,Ck.y29⟩ ?_
 refine y03 ⟨_,_,Ck.y2y⟩ ?_
 refine y03 ⟨_,_,Ck.y3h⟩ ?_
 refine y03 ⟨_,_,Ck.y30⟩ ?_
 refine y03 ⟨_,_,Ck.y3s⟩ ?_
 refine y03 ⟨_,_,Ck.y31⟩ ?_
 refine y03 ⟨_,_,Ck.y4j⟩ ?_
 refine y03 ⟨_,_,Ck.y1q⟩ ?_
 refine y03 ⟨_,_,Ck.y0w⟩ ?_
 refine y03 ⟨_,_,Ck.y37⟩ ?_
 refine y03 ⟨_,_,Ck.y5c⟩ ?_
 refine y03 ⟨_,_,Ck.y4r⟩ ?_
 refine y03 ⟨_,_,Ck.y4q⟩ ?_
 refine y03 ⟨_,_,Ck.y33⟩ ?_
 refine y03 ⟨_,_,Ck.y3k⟩ ?_
 refine y03 ⟨_,_,Ck.y1c⟩ ?_
 refine y03 ⟨_,_,Ck.y3x⟩ ?_
 refine y03 ⟨_,_,Ck.y3r⟩ ?_
 refine y03 ⟨_,_,Ck.y3u⟩ ?_
 refine y03 ⟨_,_,Ck.y41⟩ ?_
 refine y03 ⟨_,_,Ck.y2g⟩ ?_
 refine y03 ⟨_,_,Ck.y3i⟩ ?_
 refine y03 ⟨_,_,Ck.y2w⟩ ?_
 refine y03 ⟨_,_,Ck.y04⟩ ?_
 refine y03 ⟨_,_,Ck.y0j⟩ ?_
 refine y03 ⟨_,_,Ck.y4m⟩ ?_
 refine y03 ⟨_,_,Ck.y1d⟩ ?_
 refine y03 ⟨_,_,Ck.y3v⟩ ?_
 refine y03 ⟨_,_,Ck.y2a⟩ ?_
 refine y03 ⟨_,_,Ck.y20⟩ ?_
 refine y03 ⟨_,_,Ck.y3w⟩ ?_
 refine y03 ⟨_,_,Ck.y3j⟩ ?_
 refine y03 ⟨_,_,Ck.y0p⟩ ?_
 refine y03 ⟨_,_,Ck.y2r⟩ ?_
 refine y03 ⟨_,_,Ck.y38⟩ ?_
 refine y03 ⟨_,_,Ck.y4o⟩ ?_
 intro h
 cases h
theorem mixed:Proofs.Tryz.prog.follows .mixedOrders=true:=by kernel_rfl
end Go.Ev
