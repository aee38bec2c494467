import Derived.Test.YtclakmennjjomaaGreatP3
set_option linter.all false
namespace Go.Ev
open Go.Dig
def OutR (ob:Nat→Option AObj) (nx:Nat) (x:AV) (o:List Nat):Prop:=
 (o=[]∧x=.nils)∨∃id ver,x=.rsl id ver 1 0 o.length false∧ob id=some (.row 1 (intE o) ver)∧id<nx
theorem yqw {ob:Nat→Option AObj} {nx:Nat} {x:AV} {o:List Nat} (h:OutR ob nx x o) (fz:Nat→Nat):∃fz',frz ob DEPTH fz x=some (fz',.sl false (intE o)):=by
 rcases h with ⟨rfl,rfl⟩ | ⟨id,ver,rfl,hid,_⟩
 ·exact ⟨fz,rfl⟩
 ·have hb:Nat.ble (0+o.length) (intE o).length=true:=by simp [intE]
  refine ⟨raise fz id (0+o.length), ?_⟩
  rw [show DEPTH=6+1+1 from rfl,y94,y46 hid]
  simp only [hb,cond_true]
  rw [((yhr o).sub 0 o.length).frz ob 6]
  simp only [List.drop_zero,ydz,List.take_length]
theorem ynk {ob:Nat→Option AObj} {nx:Nat} {x:AV} {o:List Nat} (h:OutR ob nx x o) (fz:Nat→Nat):∃fz',frzS ob fz (.one x)=some (fz',.one (.sl false (intE o))):=by
 obtain ⟨fz',h⟩:=yqw h fz
 exact ⟨fz',by simp only [frzS,h]⟩
theorem yts {n:Nat} {ob:Nat→Option AObj} {nx:Nat} {x:AV} {o:List Nat} (h:OutR ob nx x o) (hs:o.length<2^60) (hd:∀d∈o,d<BT) (hn:o.length+2≤n) (fz:Nat→Nat):∃fz',callV (evF E n) Id.y1x [.one x] ob fz=some (.fzd fz' (.one (zD (val BT o)))):=by
 obtain ⟨m,rfl⟩:∃m,n=m+1:=⟨n-1,by omega⟩
 obtain ⟨fz',h⟩:=ynk h fz
 refine ⟨fz', ?_⟩
 rw [y6j]
 simp only [mapFz,h,ykh o hs hd (show o.length+1≤m by omega),Option.map_some]
theorem y6u (o:List Nat) (d:Nat):intE o++[[AV.int .i64 (d:Int)]]=intE (o++[d]):=yox o [d]
theorem y83 (ob:Nat→Option AObj) (q q2 d nx':Nat) (h:q2<nx') (y:AObj):OutR (upd (upd ob q y) q2 (.row 1 [[AV.int .i64 (d:Int)]] 0)) nx' (.rsl q2 0 1 0 1 false) [d]:=
 .inr ⟨q2,0,rfl,upd_same _ _ _,h⟩
theorem y87 {ob:Nat→Option AObj} {id ver q d nx':Nat} {o:List Nat} (h:id<nx') (y:AObj):OutR (upd (upd ob q y) id (.row 1 (intE (o++[d])) (ver+1))) nx' (.rsl id (ver+1) 1 0 (o.length+1) false) (o++[d]):=
 .inr ⟨id,ver+1,by simp,upd_same _ _ _,h⟩
theorem y66 {ob:Nat→Option AObj} {id ver q:Nat} {es:List (List AV)} (hid:ob id=some (.row 1 es ver)) (hq:id≠q) (y:AObj):rowAt (upd ob q y) id ver=some (1,es):=by
 refine y46 ?_
 rw [y00 hq];exact hid
def zC (z:Int):List AV:=[.bool (decide (z<0)),zD z.natAbs]
def sV (z:Int):SV:=.agg (zC z)
theorem y1g (z:Int):CanS (sV z):=.agg _ fun x hx=>by
 simp only [zC,List.mem_cons,List.not_mem_nil,or_false] at hx
 rcases hx with rfl | rfl
 ·exact .bool _
 ·exact .sl _
theorem ygt (m:Nat):((((digs BT m).length:Nat):Int)>0)=(m≠0):=by
 rw [eq_iff_iff]
 constructor
 ·intro h e
  subst e
  rw [digs_zero] at h
  simp at h
 ·intro h
  have:=y4c BT2 h
  have:(digs BT m).length≠0:=fun e=>this (List.length_eq_zero_iff.1 e)
  omega
theorem y13t (neg:Bool) (m:Nat):zC (sgn neg m)=[.bool (neg&&decide (m≠0)),zD m]:=by
 unfold zC sgn
 cases neg with
 | false=>simp
 | true=>
  simp only [if_true,Int.natAbs_neg,Int.natAbs_natCast,Bool.true_and]
  have:decide (-(m:Int)<0)=decide (m≠0):=by
   rw [decide_eq_decide]
   omega
  rw [this]
theorem ycc (neg:Bool) (m n:Nat):evV E (n+1) Id.y0e [.one (.bool neg),.one (zD m)]=some (sV (sgn neg m)):=by
 rw [y04 ydf]
 unfold sV
 rw [y13t]
 unfold zD
 cases neg with
 | true=>simp only [go_sem,Fn.y0e,ygt]
 | false=>simp only [go_sem,Fn.y0e,ygt]
theorem y7c (neg:Bool) (m:Nat) (z:Int) (hz:sgn neg m=z) {n:Nat} (hn:1≤n) (ob:Nat→Option AObj) (fz:Nat→Nat):callV (evF E n) Id.y0e [.one (.bool neg),.one (zD m)] ob fz=some (.fzd fz (sV z)):=by
 obtain ⟨k,rfl⟩:∃k,n=k+1:=⟨n-1,by omega⟩
 rw [←hz]
 exact y01 (ycc neg m k) (can2 (yl7 _) (y2u _)) ob fz
section
variable {F:Caller} {fuel:Nat} {fz:Nat→Nat}
theorem ym9 {ob:Nat→Option AObj} {nx:Nat} (ds:List Nat) (fr:Nat) (hl:ds.length≤fr+4) (hs:ds.length<2^60) (hd:∀d∈ds,d<BT):∀(m k:Nat),k=fr+m→k≤ds.length→∀(X:List (Nat×SV)) (N:Nat),m<N→∃X',
  loopN (evC F fuel Fn.y7e) N ⟨env ((0,.one (.sl false (intE ds)))::(1,.one (.int .i64 (fr:Int)))::(5,.one (.int .i64 (val BT (ds.drop k):Int)))::(6,.one (.int .i64 ((k:Int)-1)))::X),ob,fz,nx⟩=
   some (.ext 0,⟨env ((0,.one (.sl false (intE ds)))::(1,.one (.int .i64 (fr:Int)))::(5,.one (.int .i64 (val BT (ds.drop fr):Int)))::X'),ob,fz,nx⟩)
 | 0,k,hk,hkl,X,N+1,hN=>by
  have hk':k=fr:=by omega
  subst hk'
  have h1:(((k:Nat):Int)-1≥((k:Nat):Int))=False:=by simp only [ge_iff_le,eq_iff_iff,iff_false];omega
  refine ⟨[(6,.one (.int .i64 ((k:Int)-1))),(12,.one (.bool false))],y09 ?_⟩
  simp only [go_sem,Fn.y7e,h1]
 | m+1,k,hk,hkl,X,N+1,hN=>by
  obtain ⟨j,rfl⟩:∃j,k=j+1:=⟨k-1,by omega⟩
  have h0:(((j+1:Nat):Int)-1)=(j:Nat):=by omega
  have h1:(((j:Nat):Int)≥((fr:Nat):Int))=True:=by simp only [ge_iff_le,eq_iff_iff,iff_true];omega
  have hjl:j<ds.length:=by omega
  have gd:ds[j]? =some ds[j]:=by simp
  have e:ds.drop j=ds[j]::ds.drop (j+1):=List.drop_eq_getElem_cons hjl
  have hb:val BT (ds.drop j)<10000000000000000:=by
   have h2:=y5s BT2 (ds.drop j) (fun d h=>hd d (List.mem_of_mem_drop h))
   have h3:BT^(ds.drop j).length≤BT^4:=Nat.pow_le_pow_right (by decide) (by simp;omega)
   exact Nat.lt_of_lt_of_le h2 (Nat.le_trans h3 (by decide))
  have hv:val BT (ds.drop j)=ds[j]+10000*val BT (ds.drop (j+1)):=by rw [e];rfl
  rw [hv] at hb
  have wm:IntKind.i64.wrap ((val BT (ds.drop (j+1)):Int)*10000)=((val BT (ds.drop (j+1))*10000:Nat):Int):=by
   rw [show ((val BT (ds.drop (j+1)):Int)*10000)=((val BT (ds.drop (j+1))*10000:Nat):Int) from (Int.natCast_mul _ 10000).symm]
   exact wi64 (by omega)
  have wa:IntKind.i64.wrap (((val BT (ds.drop (j+1))*10000:Nat):Int)+(ds[j]:Int))=(val BT (ds.drop j):Int):=by
   rw [addi64 _ _ (by omega),hv]
   congr 1
   omega
  have wj:IntKind.i64.wrap ((j:Int)-1)=(j:Int)-1:=wrap_i64 (by omega)
  obtain ⟨X',h⟩:=ym9 ds fr hl hs hd m j (by omega) (by omega) [] N (by omega)
  refine ⟨X', ?_⟩
  rw [←h]
  refine y0c ?_
  generalize val BT (ds.drop j)=v1 at wa ⊢
  generalize val BT (ds.drop (j+1))=v0 at wm wa ⊢
  generalize v0*10000=v2 at wm wa
  simp only [go_sem,Fn.y7e,h0,h1,gd,wm,wa,wj]
end
theorem yew (a fr:Nat) (hl:dlen BT a≤fr+4) (hf:fr≤dlen BT a) (hs:dlen BT a<2^60) {n:Nat} (hn:dlen BT a+1≤n):evV E (n+1) Id.y34 [.one (zD a),.one (.int .i64 (fr:Int))]=some (.one (.int .i64 (val BT ((digs BT a).drop fr):Int))):=by
 rw [y04 ygd]
 unfold dlen at hl hf hs hn
 obtain ⟨X',h⟩:=ym9 (F:=evF E n) (fuel:=n) (ob:=ob0) (fz:=fz0) (nx:=0) (digs BT a) fr hl hs (y1o BT2 a) ((digs BT a).length-fr) (digs BT a).length (by omega) (Nat.le_refl _) [] n (by omega)
 rw [List.drop_length,val,show ((0:Nat):Int)=0 from rfl] at h
 have hw:IntKind.i64.wrap (((digs BT a).length:Int)-1)=((digs BT a).length:Int)-1:=wrap_i64 (by omega)
 unfold zD
 generalize val BT ((digs BT a).drop fr)=v at h ⊢
 simp only [go_sem,Fn.y34,hw,h]
theorem yqz (x y b:Nat) (hx:x<10000) (hy:y<10000) (hb:b≤1):∃(d b':Nat),d<10000∧b'≤1∧d+y+b=x+10000*b'∧(b'=0→((x:Int)-b-y)=(d:Int))∧(b'=1→∃z:Int,((x:Int)-b-y)=z∧(z<0)=True∧IntKind.i64.wrap (z+10000)=(d:Int)):=by
 by_cases h:y+b≤x
 ·exact ⟨x-b-y,0,by omega,by omega,by omega,fun _=>by omega,fun h=>by omega⟩
 ·exact ⟨x+10000-b-y,1,by omega,by omega,by omega,fun h=>by omega,fun _=>⟨_,rfl,by simp;omega,by rw [wrap_i64 (by omega)];omega⟩⟩
section
variable {F:Caller} {fuel:Nat} {fz:Nat→Nat}
theorem ypb {ob:Nat→Option AObj} {nx:Nat} (ds es:List Nat) (i b:Nat) (hil:i<ds.length) (hs:ds.length<2^40) (hd:∀d∈ds,d<BT) (he:∀d∈es,d<BT) (hb:b≤1) (o:List Nat) (hol:o.length=i) (x:AV) (hO:OutR ob nx x o) (X:List (Nat×SV)):∃(d b':Nat) (x':AV) (ob':Nat→Option AObj),
  evC F fuel Fn.y2d ⟨env ((0,.one (.sl false (intE ds)))::(1,.one (.sl false (intE es)))::(5,.one x)::(6,.one (.int .i64 (b:Int)))::(7,.one (.int .i64 (i:Int)))::X),ob,fz,nx⟩=
   some (.nrm,⟨env [(0,.one (.sl false (intE ds))),(1,.one (.sl false (intE es))),(5,.one x'),(6,.one (.int .i64 (b':Int))),(7,.one (.int .i64 ((i+1:Nat):Int)))],ob',fz,nx+5⟩)∧OutR ob' (nx+5) x' (o++[d])∧d<BT∧b'≤1∧d+es.getD i 0+b=ds[i]+10000*b':=by
 have gd:ds[i]? =some ds[i]:=by simp
 have hx:ds[i]<10000:=hd _ (by simp)
 have hy:es.getD i 0<10000:=by
  rw [List.getD]
  cases h:es[i]? with
  | none=>simp
  | some y=>exact he y (List.mem_of_getElem? h)
 obtain ⟨d,b',h1,h2,h3,h4,h5⟩:=yqz ds[i] (es.getD i 0) b hx hy hb
 have hlt:(((i:Nat):Int)<((ds.length:Nat):Int))=True:=by simp;omega
 have wk:IntKind.i64.wrap ((i+1:Nat):Int)=((i+1:Nat):Int):=wi64 (by omega)
 have hd1:[[AV.int .i64 (d:Int)]]=intE [d]:=rfl
 have dn:(((d:Nat):Int)<0)=False:=by simp
 have hb':b'=0∨b'=1:=by omega
 have z0:((0:Nat):Int)=0:=rfl
 have z1:((1:Nat):Int)=1:=rfl
 generalize ds[i]=xd at*
 by_cases hie:i<es.length
 ·have ge:es[i]? =some es[i]:=by simp
  have hey:es.getD i 0=es[i]:=by rw [List.getD,ge];rfl
  rw [hey] at h3 h4 h5 hy ⊢
  have g2:(((i:Nat):Int)<((es.length:Nat):Int))=True:=by simp;omega
  generalize es[i]=y at*
  have w1:IntKind.i64.wrap ((xd:Int)-(b:Int))=(xd:Int)-(b:Int):=wrap_i64 (by omega)
  have w2:IntKind.i64.wrap ((xd:Int)-(b:Int)-(y:Int))=(xd:Int)-(b:Int)-(y:Int):=wrap_i64 (by omega)
  rcases hb' with rfl | rfl
  ·have w2:=w2.trans (h4 rfl)
   rcases hO with ⟨rfl,rfl⟩ | ⟨id,ver,rfl,hid,hlt'⟩
   ·refine ⟨d,0,_,_, ?_,y83 ob (nx+2) (nx+3) d _ (by omega) (.row 1 [[AV.int .i64 (d:Int)]] 0),h1,by omega,h3⟩
    simp only [go_sem,Fn.y2d,hlt,gd,w1,g2,ge,w2,dn,add1,wk,okSz,ROOM,Nat.reduceBEq,z0]
   ·have hl8:(o.length+1)*8≤140737488355328:=by omega
    have hrow:=y66 hid (show id≠nx+2 by omega) (.row 1 [[AV.int .i64 (d:Int)]] 0)
    refine ⟨d,0,_,_, ?_,y87 (ob:=ob) (id:=id) (ver:=ver) (q:=nx+2) (d:=d) (nx':=nx+5) (by omega) (.row 1 [[AV.int .i64 (d:Int)]] 0),h1,by omega,h3⟩
    simp only [go_sem,Fn.y2d,hlt,gd,w1,g2,ge,w2,dn,add1,wk,okSz,ROOM,Nat.reduceBEq,hrow,hl8,y6u,z0]
  ·obtain ⟨z,e1,e2,e3⟩:=h5 rfl
   have w2:=w2.trans e1
   rcases hO with ⟨rfl,rfl⟩ | ⟨id,ver,rfl,hid,hlt'⟩
   ·refine ⟨d,1,_,_, ?_,y83 ob (nx+2) (nx+3) d _ (by omega) (.row 1 [[AV.int .i64 (d:Int)]] 0),h1,by omega,h3⟩
    simp only [go_sem,Fn.y2d,hlt,gd,w1,g2,ge,w2,e2,e3,add1,wk,okSz,ROOM,Nat.reduceBEq,z1]
   ·have hl8:(o.length+1)*8≤140737488355328:=by omega
    have hrow:=y66 hid (show id≠nx+2 by omega) (.row 1 [[AV.int .i64 (d:Int)]] 0)
    refine ⟨d,1,_,_, ?_,y87 (ob:=ob) (id:=id) (ver:=ver) (q:=nx+2) (d:=d) (nx':=nx+5) (by omega) (.row 1 [[AV.int .i64 (d:Int)]] 0),h1,by omega,h3⟩
    simp only [go_sem,Fn.y2d,hlt,gd,w1,g2,ge,w2,e2,e3,add1,wk,okSz,ROOM,Nat.reduceBEq,hrow,hl8,y6u,z1]
 ·have hey:es.getD i 0=0:=by rw [List.getD,List.getElem?_eq_none (by omega)];rfl
  rw [hey] at h3 h4 h5 hy ⊢
  have g2:(((i:Nat):Int)<((es.length:Nat):Int))=False:=by simp;omega
  have w1:IntKind.i64.wrap ((xd:Int)-(b:Int))=(xd:Int)-(b:Int)-((0:Nat):Int):=by rw [wrap_i64 (by omega)];omega
  rcases hb' with rfl | rfl
  ·have w1:=w1.trans (h4 rfl)
   rcases hO with ⟨rfl,rfl⟩ | ⟨id,ver,rfl,hid,hlt'⟩
   ·refine ⟨d,0,_,_, ?_,y83 ob (nx+2) (nx+3) d _ (by omega) (.row 1 [[AV.int .i64 (d:Int)]] 0),h1,by omega,h3⟩
    simp only [go_sem,Fn.y2d,hlt,gd,w1,g2,dn,add1,wk,okSz,ROOM,Nat.reduceBEq,z0]
   ·have hl8:(o.length+1)*8≤140737488355328:=by omega
    have hrow:=y66 hid (show id≠nx+2 by omega) (.row 1 [[AV.int .i64 (d:Int)]] 0)
    refine ⟨d,0,_,_, ?_,y87 (ob:=ob) (id:=id) (ver:=ver) (q:=nx+2) (d:=d) (nx':=nx+5) (by omega) (.row 1 [[AV.int .i64 (d:Int)]] 0),h1,by omega,h3⟩
    simp only [go_sem,Fn.y2d,hlt,gd,w1,g2,dn,add1,wk,okSz,ROOM,Nat.reduceBEq,hrow,hl8,y6u,z0]
  ·obtain ⟨z,e1,e2,e3⟩:=h5 rfl
   have w1:=w1.trans e1
   rcases hO with ⟨rfl,rfl⟩ | ⟨id,ver,rfl,hid,hlt'⟩
   ·refine ⟨d,1,_,_, ?_,y83 ob (nx+2) (nx+3) d _ (by omega) (.row 1 [[AV.int .i64 (d:Int)]] 0),h1,by omega,h3⟩
    simp only [go_sem,Fn.y2d,hlt,gd,w1,g2,e2,e3,add1,wk,okSz,ROOM,Nat.reduceBEq,z1]
   ·have hl8:(o.length+1)*8≤140737488355328:=by omega
    have hrow:=y66 hid (show id≠nx+2 by omega) (.row 1 [[AV.int .i64 (d:Int)]] 0)
    refine ⟨d,1,_,_, ?_,y87 (ob:=ob) (id:=id) (ver:=ver) (q:=nx+2) (d:=d) (nx':=nx+5) (by omega) (.row 1 [[AV.int .i64 (d:Int)]] 0),h1,by omega,h3⟩
    simp only [go_sem,Fn.y2d,hlt,gd,w1,g2,e2,e3,add1,wk,okSz,ROOM,Nat.reduceBEq,hrow,hl8,y6u,z1]
theorem yi5 (ds es:List Nat) (hs:ds.length<2^40) (hd:∀d∈ds,d<BT) (he:∀d∈es,d<BT):∀(m i:Nat),i+m=ds.length→∀(ob:Nat→Option AObj) (nx b:Nat) (o:List Nat) (x:AV) (X:List (Nat×SV)),b≤1→o.length=i→(∀d∈o,d<BT)→OutR ob nx x o→val BT o+val BT (es.take i)=val BT (ds.take i)+BT^i*b→∀N,m<N→
  ∃(o':List Nat) (x':AV) (ob':Nat→Option AObj) (nx' b':Nat) (X':List (Nat×SV)),loopN (evC F fuel Fn.y2d) N ⟨env ((0,.one (.sl false (intE ds)))::(1,.one (.sl false (intE es)))::(5,.one x)::(6,.one (.int .i64 (b:Int)))::(7,.one (.int .i64 (i:Int)))::X),ob,fz,nx⟩=
   some (.ext 0,⟨env ((0,.one (.sl false (intE ds)))::(1,.one (.sl false (intE es)))::(5,.one x')::X'),ob',fz,nx'⟩)∧OutR ob' nx' x' o'∧(∀d∈o',d<BT)∧o'.length=ds.length∧b'≤1∧val BT o'+val BT (es.take ds.length)=val BT ds+BT^ds.length*b'
 | 0,i,hi,ob,nx,b,o,x,X,hb,hol,hod,hO,hinv,N+1,hN=>by
  have hi':i=ds.length:=by omega
  subst hi'
  rw [List.take_length] at hinv
  refine ⟨o,x,ob,nx,b,[(6,.one (.int .i64 (b:Int))),(7,.one (.int .i64 (ds.length:Int))),(12,.one (.bool false))],y09 ?_,hO,hod,hol,hb,hinv⟩
  have h1:(((ds.length:Nat):Int)<((ds.length:Nat):Int))=False:=by simp
  simp only [go_sem,Fn.y2d,h1]
 | m+1,i,hi,ob,nx,b,o,x,X,hb,hol,hod,hO,hinv,N+1,hN=>by
  have hil:i<ds.length:=by omega
  obtain ⟨d,b',x',ob',hst,hO',hdl,hb',hdig⟩:=ypb (F:=F) (fuel:=fuel) (fz:=fz) ds es i b hil hs hd he hb o hol x hO X
  rw [y0c hst]
  refine yi5 ds es hs hd he m (i+1) (by omega) ob' (nx+5) b' (o++[d]) x' [] hb' (by simp [hol]) ?_ hO' ?_ N (by omega)
  ·intro z hz
   rcases List.mem_append.1 hz with h | h
   ·exact hod z h
   ·simp only [List.mem_cons,List.not_mem_nil,or_false] at h;rw [h];exact hdl
  ·have gd:ds[i]? =some ds[i]:=by simp
   have td:ds.take (i+1)=ds.take i++[ds[i]]:=by rw [List.take_add_one,gd];rfl
   have te:val BT (es.take (i+1))=val BT (es.take i)+BT^i*es.getD i 0:=by
    rw [List.take_add_one,List.getD]
    cases h:es[i]? with
    | none=>
     simp only [Option.toList_none,List.append_nil,Option.getD_none,Nat.mul_zero,Nat.add_zero]
    | some y=>
     have hl:i<es.length:=(List.getElem?_eq_some_iff.1 h).1
     rw [Option.toList_some,y0f,List.length_take,Nat.min_eq_left (by omega)]
     rfl
   rw [td,te,y0f,y0f,hol,List.length_take,Nat.min_eq_left (by omega),Nat.pow_succ]
   have e1:BT^i*d+BT^i*es.getD i 0+BT^i*b=BT^i*ds[i]+BT^i*BT*b':=by
    rw [Nat.mul_assoc (BT^i) BT,←Nat.mul_add,←Nat.mul_add,←Nat.mul_add,hdig]
    rfl
   omega
end
theorem y9w (a b:Nat) (hab:b≤a) (ha:dlen BT a<2^40) {n:Nat} (hn:dlen BT a+4≤n):evV E (n+1) Id.y1v [.one (zD a),.one (zD b)]=some (.one (zD (a-b))):=by
 rw [y04 ydt]
 have hlen:dlen BT b≤dlen BT a:=y4s BT2 hab
 unfold dlen at ha hn hlen
 obtain ⟨o',x',ob',nx',b',X',hloop,h1,h2,h3,h4,h5⟩:=yi5 (F:=evF E n) (fuel:=n) (fz:=fz0) (digs BT a) (digs BT b) ha (y1o BT2 a) (y1o BT2 b) (digs BT a).length 0 (by omega) ob0 0 0 [] .nils [] (by omega) rfl (fun _ h=>by simp at h) (.inl ⟨rfl,rfl⟩) (by simp [val]) n (by omega)
 rw [List.take_of_length_le hlen,y14 BT2,y14 BT2] at h5
 have hlt:=y5s BT2 o' h2
 rw [h3] at hlt
 have hb0:b'=0:=by
  rcases Nat.lt_or_ge b' 1 with h | h
  ·omega
  ·have:BT^(digs BT a).length*1≤BT^(digs BT a).length*b':=Nat.mul_le_mul_left _ h
   omega
 subst hb0
 have hv:val BT o'=a-b:=by rw [Nat.mul_zero] at h5;omega
 obtain ⟨fz',htrim⟩:=yts (n:=n) h1 (by omega) h2 (by omega) fz0
 rw [hv] at htrim
 rw [show ((0:Nat):Int)=0 from rfl] at hloop
 unfold zD at htrim ⊢
 simp only [go_sem,Fn.y1v,hloop,htrim]
end Go.Ev
namespace Go.Ev
open Go.Dig
theorem yu2 {ob:Nat→Option AObj} {nx:Nat} {x:AV} {o:List Nat} (h:OutR ob nx x o) (neg:Bool) (fz:Nat→Nat):∃fz',frzS ob fz (.agg [.bool neg,x])=some (fz',.agg [.bool neg,.sl false (intE o)]):=by
 obtain ⟨fz',h⟩:=yqw h fz
 refine ⟨fz', ?_⟩
 simp only [frzS,mapFz,h,show frz ob DEPTH fz (.bool neg)=some (fz,.bool neg) from rfl]
theorem yth (z:Int) (h1:-9223372036854775808≤z) (h2:z<9223372036854775808):∃(k z':Int) (d:Nat),z.tmod 10000=k∧((k<0)=(k<0))∧(if k<0 then IntKind.i64.wrap (0-k) else k)=(d:Int)∧IntKind.i64.wrap (z.tdiv 10000)=z'∧d=z.natAbs%10000∧z'.natAbs=z.natAbs / 10000∧-9223372036854775808≤z'∧z'<9223372036854775808:=by
 obtain ⟨m,hm⟩:∃m:Nat,m=z.natAbs:=⟨_,rfl⟩
 by_cases hz:z<0
 ·have e:z=-((m:Nat):Int):=by omega
  have t1:z.tmod 10000=-((m%10000:Nat):Int):=by rw [e,Int.neg_tmod,show ((10000:Int))=((10000:Nat):Int) from rfl,←Int.ofNat_tmod]
  have t2:z.tdiv 10000=-((m / 10000:Nat):Int):=by rw [e,Int.neg_tdiv,show ((10000:Int))=((10000:Nat):Int) from rfl,←Int.ofNat_tdiv]
  have w2:IntKind.i64.wrap (z.tdiv 10000)=-((m / 10000:Nat):Int):=by rw [t2];exact wrap_i64 (by omega)
  refine ⟨_,_,m%10000,t1,rfl, ?_,w2,by rw [hm],by rw [hm];omega,by omega,by omega⟩
  split
  ·rw [wrap_i64 (by omega)];omega
  ·omega
 ·have e:z=((m:Nat):Int):=by omega
  have t1:z.tmod 10000=((m%10000:Nat):Int):=by rw [e,show ((10000:Int))=((10000:Nat):Int) from rfl,←Int.ofNat_tmod]
  have t2:z.tdiv 10000=((m / 10000:Nat):Int):=by rw [e,show ((10000:Int))=((10000:Nat):Int) from rfl,←Int.ofNat_tdiv]
  have w2:IntKind.i64.wrap (z.tdiv 10000)=((m / 10000:Nat):Int):=by rw [t2];exact wrap_i64 (by omega)
  refine ⟨_,_,m%10000,t1,rfl, ?_,w2,by rw [hm],by rw [hm];omega,by omega,by omega⟩
  rw [if_neg (by omega)]
section
variable {F:Caller} {fuel:Nat} {fz:Nat→Nat}
theorem yrp {ob:Nat→Option AObj} {nx:Nat} (hnx:2≤nx) (z:Int) (hz:z≠0) (h1:-9223372036854775808≤z) (h2:z<9223372036854775808) (neg:Bool) (o:List Nat) (hol:o.length<2^40) (x:AV) (hO:OutR ob nx x o) (hb:ob 1=some (.box [.bool neg,x])) (hb0:ob 0=some (.box [.bool false,.nils])) (X:List (Nat×SV)):∃(z':Int) (x':AV) (ob':Nat→Option AObj),
  evC F fuel Fn.y4m ⟨env ((0,.one (.int .i64 z))::(2,.one (.box 0 0))::(3,.one (.box 1 0))::X),ob,fz,nx⟩=
   some (.nrm,⟨env [(0,.one (.int .i64 z')),(2,.one (.box 0 0)),(3,.one (.box 1 0))],ob',fz,nx+7⟩)∧OutR ob' (nx+7) x' (o++[z.natAbs%10000])∧ob' 1=some (.box [.bool neg,x'])∧ob' 0=some (.box [.bool false,.nils])∧z'.natAbs=z.natAbs / 10000∧-9223372036854775808≤z'∧z'<9223372036854775808:=by
 obtain ⟨k,z',d,e1,_,e3,e4,e5,e6,e7,e8⟩:=yth z h1 h2
 rw [←e5]
 have hne:(z !=0)=true:=by simp only [bne_iff_ne,ne_eq];exact hz
 have t0:((10000:Int)=0)=False:=by simp
 have p14:(1=nx+4)=False:=by simp only [eq_iff_iff,iff_false];omega
 have p13:(1=nx+3)=False:=by simp only [eq_iff_iff,iff_false];omega
 rcases hO with ⟨rfl,rfl⟩ | ⟨id,ver,rfl,hid,hlt'⟩
 ·have fin:OutR (upd (upd (upd ob (nx+3) (.row 1 [[AV.int .i64 (d:Int)]] 0)) (nx+4) (.row 1 [[AV.int .i64 (d:Int)]] 0)) 1 (.box [.bool neg,.rsl (nx+4) 0 1 0 1 false])) (nx+7) (.rsl (nx+4) 0 1 0 1 false) ([]++[d]):=by
   refine .inr ⟨nx+4,0,rfl, ?_,by omega⟩
   rw [y00 (by omega),upd_same]
   rfl
  refine ⟨z',_,_, ?_,fin,upd_same _ _ _,by rw [y00 (by omega),y00 (by omega),y00 (by omega)];exact hb0,e6,e7,e8⟩
  by_cases hk:k<0
  ·have g:(k<0)=True:=by simp [hk]
   rw [if_pos hk] at e3
   simp only [go_sem,Fn.y4m,hne,t0,e1,g,e3,e4,hb,p14,p13,okSz,ROOM,Nat.reduceBEq]
  ·have g:(k<0)=False:=by simp [hk]
   rw [if_neg hk] at e3
   subst e3
   simp only [go_sem,Fn.y4m,hne,t0,e1,g,e4,hb,p14,p13,okSz,ROOM,Nat.reduceBEq]
 ·have hid1:id≠1:=fun e=>by rw [e,hb] at hid;cases hid
  have hid0:id≠0:=fun e=>by rw [e,hb0] at hid;cases hid
  have p1d:(1=id)=False:=by simp only [eq_iff_iff,iff_false];omega
  have hl8:(o.length+1)*8≤140737488355328:=by omega
  have hrow:=y66 hid (show id≠nx+3 by omega) (.row 1 [[AV.int .i64 (d:Int)]] 0)
  have fin:OutR (upd (upd (upd ob (nx+3) (.row 1 [[AV.int .i64 (d:Int)]] 0)) id (.row 1 (intE (o++[d])) (ver+1))) 1 (.box [.bool neg,.rsl id (ver+1) 1 0 (o.length+1) false])) (nx+7) (.rsl id (ver+1) 1 0 (o.length+1) false) (o++[d]):=by
   refine .inr ⟨id,ver+1,by simp, ?_,by omega⟩
   rw [y00 hid1,upd_same]
  refine ⟨z',_,_, ?_,fin,upd_same _ _ _,by rw [y00 (by omega),y00 (Ne.symm hid0),y00 (by omega)];exact hb0,e6,e7,e8⟩
  by_cases hk:k<0
  ·have g:(k<0)=True:=by simp [hk]
   rw [if_pos hk] at e3
   simp only [go_sem,Fn.y4m,hne,t0,e1,g,e3,e4,hb,p1d,p13,okSz,ROOM,Nat.reduceBEq,hrow,hl8,y6u]
  ·have g:(k<0)=False:=by simp [hk]
   rw [if_neg hk] at e3
   subst e3
   simp only [go_sem,Fn.y4m,hne,t0,e1,g,e4,hb,p1d,p13,okSz,ROOM,Nat.reduceBEq,hrow,hl8,y6u]
theorem yto (neg:Bool):∀(m:Nat) (z:Int) (ob:Nat→Option AObj) (nx:Nat) (o:List Nat) (x:AV) (X:List (Nat×SV)),z.natAbs<BT^m→2≤nx→-9223372036854775808≤z→z<9223372036854775808→o.length+m<2^40→OutR ob nx x o→ob 1=some (.box [.bool neg,x])→ob 0=some (.box [.bool false,.nils])→∀N,m<N→
  ∃(x':AV) (ob':Nat→Option AObj) (nx':Nat) (X':List (Nat×SV)),loopN (evC F fuel Fn.y4m) N ⟨env ((0,.one (.int .i64 z))::(2,.one (.box 0 0))::(3,.one (.box 1 0))::X),ob,fz,nx⟩=
   some (.ext 0,⟨env ((2,.one (.box 0 0))::(3,.one (.box 1 0))::X'),ob',fz,nx'⟩)∧OutR ob' nx' x' (o++digs BT z.natAbs)∧ob' 1=some (.box [.bool neg,x'])∧ob' 0=some (.box [.bool false,.nils]):=by
 intro m
 induction m with
 | zero=>
  intro z ob nx o x X hm hnx h1 h2 hol hO hb hb0 N hN
  have hz:z=0:=by rw [Nat.pow_zero] at hm;omega
  subst hz
  obtain ⟨M,rfl⟩:∃M,N=M+1:=⟨N-1,by omega⟩
  refine ⟨x,ob,nx,[(0,.one (.int .i64 0)),(9,.one (.bool false))], ?_,by rw [show (0:Int).natAbs=0 from rfl,digs_zero,List.append_nil];exact hO,hb,hb0⟩
  have e:env ((2,SV.one (.box 0 0))::(3,.one (.box 1 0))::[(0,.one (.int .i64 0)),(9,.one (.bool false))])=env [(0,.one (.int .i64 0)),(2,.one (.box 0 0)),(3,.one (.box 1 0)),(9,.one (.bool false))]:=by
   funext j
   simp only [yni]
   by_cases h0:0=j
   ·subst h0;rfl
   ·by_cases h2:2=j
    ·subst h2;rfl
    ·by_cases h3:3=j
     ·subst h3;rfl
     ·simp only [h0,h2,h3,if_false]
  rw [e]
  refine y09 ?_
  have hne:((0:Int) !=0)=false:=rfl
  simp only [go_sem,Fn.y4m,hne]
 | succ m ih=>
  intro z ob nx o x X hm hnx h1 h2 hol hO hb hb0 N hN
  obtain ⟨M,rfl⟩:∃M,N=M+1:=⟨N-1,by omega⟩
  by_cases hz:z=0
  ·exact ih z ob nx o x X (by rw [hz];exact Nat.pow_pos (by decide)) hnx h1 h2 (by omega) hO hb hb0 (M+1) (by omega)
  ·obtain ⟨z',x',ob',hst,a1,a2,a3,a4,a5,a6⟩:=yrp (F:=F) (fuel:=fuel) (fz:=fz) hnx z hz h1 h2 neg o (by omega) x hO hb hb0 X
   have hz':z'.natAbs<BT^m:=by
    rw [a4]
    rw [Nat.pow_succ] at hm
    exact Nat.div_lt_of_lt_mul (by rw [Nat.mul_comm];exact hm)
   obtain ⟨x2,ob2,nx2,X2,hl,b1,b2,b3⟩:=ih z' ob' (nx+7) (o++[z.natAbs%10000]) x' [] hz' (by omega) a5 a6 (by simp;omega) a1 a2 a3 M (by omega)
   refine ⟨x2,ob2,nx2,X2,by rw [y0c hst];exact hl, ?_,b2,b3⟩
   rw [y6n BT2 (show z.natAbs≠0 by omega)]
   rw [a4,List.append_assoc] at b1
   exact b1
end
theorem y7n (z:Int) (h1:-9223372036854775808≤z) (h2:z<9223372036854775808) {n:Nat} (hn:8≤n):evV E (n+1) Id.y0q [.one (.int .i64 z)]=some (sV z):=by
 rw [y04 yfj]
 have hm:z.natAbs<BT^5:=by
  have:(10000000000000000000:Nat)≤BT^5:=by decide
  omega
 obtain ⟨x',ob',nx',X',hloop,b1,b2,b3⟩:=yto (F:=evF E n) (fuel:=n) (fz:=fz0) (decide (z<0)) 5 z (upd (upd ob0 0 (.box [.bool false,.nils])) 1 (.box [.bool (decide (z<0)),.nils])) 2 [] .nils [] hm (by omega) h1 h2 (by decide) (.inl ⟨rfl,rfl⟩) rfl rfl n (by omega)
 rw [List.nil_append] at b1
 have b1':OutR (upd ob' 0 (.box [.bool (decide (z<0)),x'])) nx' x' (digs BT z.natAbs):=by
  rcases b1 with ⟨e1,e2⟩ | ⟨id,ver,e1,e2,e3⟩
  ·exact .inl ⟨e1,e2⟩
  ·refine .inr ⟨id,ver,e1, ?_,e3⟩
   rw [y00 (fun e=>by rw [e,b3] at e2;cases e2)]
   exact e2
 obtain ⟨fz',hfr⟩:=yu2 b1' (decide (z<0)) fz0
 unfold sV zC zD
 simp only [go_sem,Fn.y0q,hloop,b2,b3,hfr]
end Go.Ev
namespace Go.Ev
open Go.Dig
theorem tmodT (x:Nat):((x:Int)).tmod 10000=((x%10000:Nat):Int):=by
 rw [show ((10000:Int))=((10000:Nat):Int) from rfl,←Int.ofNat_tmod]
theorem tdivT (x:Nat) (h:x<9223372036854775808):IntKind.i64.wrap ((x:Int).tdiv 10000)=((x / 10000:Nat):Int):=by
 rw [show ((10000:Int))=((10000:Nat):Int) from rfl,←Int.ofNat_tdiv]
 exact wi64 (by omega)
theorem yre (u c x y:Nat) (hu:u<10000) (hc:c<10000) (hx:x<10000) (hy:y<10000):∃s p t r q:Nat,IntKind.i64.wrap ((u:Int)+(c:Int))=(s:Int)∧IntKind.i64.wrap ((x:Int)*(y:Int))=(p:Int)∧IntKind.i64.wrap ((s:Int)+(p:Int))=(t:Int)∧((t:Int)).tmod 10000=(r:Int)∧IntKind.i64.wrap ((t:Int).tdiv 10000)=(q:Int)∧
  r<10000∧q<10000∧r+10000*q=u+c+x*y:=by
 have hp:x*y≤9999*9999:=Nat.mul_le_mul (by omega) (by omega)
 refine ⟨u+c,x*y,u+c+x*y,(u+c+x*y)%10000,(u+c+x*y) / 10000,addi64 _ _ (by omega), ?_,addi64 _ _ (by omega),tmodT _,tdivT _ (by omega),Nat.mod_lt _ (by decide),by omega,by omega⟩
 rw [←Int.natCast_mul]
 exact wi64 (by omega)
section
variable {F:Caller} {fuel:Nat} {ob:Nat→Option AObj} {fz:Nat→Nat} {nx:Nat}
theorem ye2 {id T i x:Nat} (hfz:fz id=0) (ds es:List Nat) (hxi:ds[i]? =some x) (hT:T<2^60) (hx:x<BT) (he:∀d∈es,d<BT) (hi:i+es.length<T) (V:Nat):∀(m k:Nat),k+m=es.length→∀(o:List Nat) (c:Nat) (X:List (Nat×SV)),o.length=T→(∀d∈o,d<BT)→c<BT→o[i+es.length]? =some 0→
  val BT o+BT^(i+k)*c=V+BT^i*(x*val BT (es.take k))→∀N,m+1<N→∃(o':List Nat) (X':List (Nat×SV)),
  loopN (evC F fuel Fn.y4e) N ⟨env ((0,.one (.sl false (intE ds)))::(1,.one (.sl false (intE es)))::(5,.one (.rsl id 0 1 0 T false))::(6,.one (.int .i64 (i:Int)))::(7,.one (.int .i64 (c:Int)))::(8,.one (.int .i64 (k:Int)))::X),upd ob id (.row 1 (intE o) 0),fz,nx⟩=
   some (.ext 2,⟨env ((0,.one (.sl false (intE ds)))::(1,.one (.sl false (intE es)))::(5,.one (.rsl id 0 1 0 T false))::(6,.one (.int .i64 (i:Int)))::X'),upd ob id (.row 1 (intE o') 0),fz,nx⟩)∧
   o'.length=T∧(∀d∈o',d<BT)∧val BT o'=V+BT^i*(x*val BT es)∧∀j,i+es.length<j→o'[j]? =o[j]?
 | 0,k,hk,o,c,X,ho,hod,hc,hz,hinv,N,hN=>by
  have hk':k=es.length:=by omega
  subst hk'
  rw [List.take_length] at hinv
  obtain ⟨M,rfl⟩:∃M,N=M+2:=⟨N-2,by omega⟩
  have h1:(((es.length:Nat):Int)<((es.length:Nat):Int))=False:=by simp
  have h1':(((es.length+1:Nat):Int)<((es.length:Nat):Int))=False:=by simp only [eq_iff_iff,iff_false];omega
  by_cases hc0:c=0
  ·subst hc0
   have g:(((0:Nat):Int)>0)=False:=by simp
   refine ⟨o,[(7,.one (.int .i64 ((0:Nat):Int))),(8,.one (.int .i64 (es.length:Int))),(29,.one (.bool false))],y09 ?_,ho,hod,by rw [Nat.mul_zero,Nat.add_zero] at hinv;exact hinv,fun _ _=>rfl⟩
   simp only [go_sem,Fn.y4e,h1,g]
  ·have g:(((c:Nat):Int)>0)=True:=by simp;omega
   have g0:(((0:Nat):Int)>0)=False:=by simp
   have t0:((10000:Int)=0)=False:=by simp
   have wi:IntKind.i64.wrap ((i:Int)+(es.length:Int))=((i+es.length:Nat):Int):=addi64 _ _ (by omega)
   have ws:IntKind.i64.wrap (((0:Nat):Int)+(c:Int))=(c:Int):=by rw [addi64 _ _ (by unfold BT at hc;omega),Nat.zero_add]
   have wr:((c:Int)).tmod 10000=(c:Int):=by rw [tmodT,Nat.mod_eq_of_lt (show c<10000 from hc)]
   have wq:IntKind.i64.wrap ((c:Int).tdiv 10000)=((0:Nat):Int):=by rw [tdivT _ (by unfold BT at hc;omega),Nat.div_eq_of_lt (show c<10000 from hc)]
   have wk:IntKind.i64.wrap ((es.length+1:Nat):Int)=((es.length+1:Nat):Int):=wi64 (by omega)
   have hst:evC F fuel Fn.y4e ⟨env ((0,.one (.sl false (intE ds)))::(1,.one (.sl false (intE es)))::(5,.one (.rsl id 0 1 0 T false))::(6,.one (.int .i64 (i:Int)))::(7,.one (.int .i64 (c:Int)))::(8,.one (.int .i64 (es.length:Int)))::X),upd ob id (.row 1 (intE o) 0),fz,nx⟩=
     some (.nrm,⟨env [(0,.one (.sl false (intE ds))),(1,.one (.sl false (intE es))),(5,.one (.rsl id 0 1 0 T false)),(6,.one (.int .i64 (i:Int))),(7,.one (.int .i64 ((0:Nat):Int))),(8,.one (.int .i64 ((es.length+1:Nat):Int)))],upd ob id (.row 1 (intE (o.set (i+es.length) c)) 0),fz,nx⟩):=by
    simp only [go_sem,Fn.y4e,h1,g,wi,hi,hz,ws,wr,wq,t0,hfz,add1,wk]
   refine ⟨o.set (i+es.length) c,[(7,.one (.int .i64 ((0:Nat):Int))),(8,.one (.int .i64 ((es.length+1:Nat):Int))),(29,.one (.bool false))], ?_,by simp [ho], ?_, ?_, ?_⟩
   ·rw [y0c hst]
    refine y09 ?_
    simp only [go_sem,Fn.y4e,h1',g0]
   ·intro d hd
    rcases List.mem_or_eq_of_mem_set hd with h | h
    ·exact hod d h
    ·rw [h];exact hc
   ·have hset:=ya5 BT o (i+es.length) c 0 hz
    rw [Nat.mul_zero,Nat.add_zero] at hset
    rw [hset,hinv]
   ·intro j hj
    rw [List.getElem?_set_ne (by omega)]
 | m+1,k,hk,o,c,X,ho,hod,hc,hz,hinv,N,hN=>by
  obtain ⟨M,rfl⟩:∃M,N=M+1:=⟨N-1,by omega⟩
  have hke:k<es.length:=by omega
  have hio:i+k<o.length:=by omega
  have hikT:i+k<T:=by omega
  have ge:es[k]? =some es[k]:=by simp
  have go':o[i+k]? =some o[i+k]:=by simp
  obtain ⟨s,p,t,r,q,s1,s2,s3,s4,s5,s6,s7,s8⟩:=yre o[i+k] c x es[k] (hod _ (by simp)) hc hx (he _ (by simp))
  have h1:(((k:Nat):Int)<((es.length:Nat):Int))=True:=by simp;omega
  have t0:((10000:Int)=0)=False:=by simp
  have wi:IntKind.i64.wrap ((i:Int)+(k:Int))=((i+k:Nat):Int):=addi64 _ _ (by omega)
  have wk:IntKind.i64.wrap ((k+1:Nat):Int)=((k+1:Nat):Int):=wi64 (by omega)
  have hst:evC F fuel Fn.y4e ⟨env ((0,.one (.sl false (intE ds)))::(1,.one (.sl false (intE es)))::(5,.one (.rsl id 0 1 0 T false))::(6,.one (.int .i64 (i:Int)))::(7,.one (.int .i64 (c:Int)))::(8,.one (.int .i64 (k:Int)))::X),upd ob id (.row 1 (intE o) 0),fz,nx⟩=
    some (.nrm,⟨env [(0,.one (.sl false (intE ds))),(1,.one (.sl false (intE es))),(5,.one (.rsl id 0 1 0 T false)),(6,.one (.int .i64 (i:Int))),(7,.one (.int .i64 (q:Int))),(8,.one (.int .i64 ((k+1:Nat):Int)))],upd ob id (.row 1 (intE (o.set (i+k) r)) 0),fz,nx⟩):=by
   simp only [go_sem,Fn.y4e,h1,wi,hikT,go',s1,hxi,ge,s2,s3,s4,s5,t0,hfz,add1,wk]
  have hset:=ya5 BT o (i+k) r o[i+k] go'
  obtain ⟨o',X',hl,a1,a2,a3,a4⟩:=ye2 hfz ds es hxi hT hx he hi V m (k+1) (by omega) (o.set (i+k) r) q [] (by simp [ho]) (by
   intro d hd
   rcases List.mem_or_eq_of_mem_set hd with h | h
   ·exact hod d h
   ·rw [h];exact s6) s7 (by rw [List.getElem?_set_ne (by omega)];exact hz) (by
   have te:es.take (k+1)=es.take k++[es[k]]:=by rw [List.take_add_one,ge];rfl
   rw [te,y0f,List.length_take,Nat.min_eq_left (by omega),←Nat.add_assoc,Nat.pow_succ,Nat.mul_add,Nat.mul_add]
   have e1:BT^(i+k)*r+BT^(i+k)*BT*q=BT^(i+k)*o[i+k]+BT^(i+k)*c+BT^(i+k)*(x*es[k]):=by
    rw [Nat.mul_assoc (BT^(i+k)) BT,←Nat.mul_add,←Nat.mul_add,←Nat.mul_add,show BT*q=10000*q from rfl,s8]
   have e2:BT^i*(x*(BT^k*es[k]))=BT^(i+k)*(x*es[k]):=by
    rw [Nat.pow_add,Nat.mul_left_comm x,←Nat.mul_assoc]
   rw [e2]
   omega) M (by omega)
  refine ⟨o',X',by rw [y0c hst];exact hl,a1,a2,a3,fun j hj=> ?_⟩
  rw [a4 j hj,List.getElem?_set_ne (by omega)]
theorem ye8 {id T:Nat} (hfz:fz id=0) (ds es:List Nat) (hTe:T=ds.length+es.length) (hT:T<2^60) (hd:∀d∈ds,d<BT) (he:∀d∈es,d<BT) (hfuel:es.length+1<fuel):∀(m i:Nat),i+m=ds.length→∀(o:List Nat) (X:List (Nat×SV)),o.length=T→(∀d∈o,d<BT)→
  val BT o=val BT (ds.take i)*val BT es→(∀j,i+es.length≤j→j<T→o[j]? =some 0)→∀N,m<N→∃(o':List Nat) (X':List (Nat×SV)),
  loopN (evC F fuel Fn.y5z) N ⟨env ((0,.one (.sl false (intE ds)))::(1,.one (.sl false (intE es)))::(5,.one (.rsl id 0 1 0 T false))::(6,.one (.int .i64 (i:Int)))::X),upd ob id (.row 1 (intE o) 0),fz,nx⟩=
   some (.ext 0,⟨env ((0,.one (.sl false (intE ds)))::(1,.one (.sl false (intE es)))::(5,.one (.rsl id 0 1 0 T false))::X'),upd ob id (.row 1 (intE o') 0),fz,nx⟩)∧o'.length=T∧(∀d∈o',d<BT)∧val BT o'=val BT ds*val BT es
 | 0,i,hi,o,X,ho,hod,hinv,hz,N+1,hN=>by
  have hi':i=ds.length:=by omega
  subst hi'
  rw [List.take_length] at hinv
  refine ⟨o,[(6,.one (.int .i64 (ds.length:Int))),(19,.one (.bool false))],y09 ?_,ho,hod,hinv⟩
  have h1:(((ds.length:Nat):Int)<((ds.length:Nat):Int))=False:=by simp
  simp only [go_sem,Fn.y5z,h1]
 | m+1,i,hi,o,X,ho,hod,hinv,hz,N+1,hN=>by
  have hil:i<ds.length:=by omega
  have gd:ds[i]? =some ds[i]:=by simp
  obtain ⟨o1,X1,a1,a2,a3,a4,a5⟩:=ye2 (F:=F) (fuel:=fuel) (ob:=ob) (nx:=nx) (id:=id) (T:=T) (i:=i) (x:=ds[i]) hfz ds es gd hT (hd _ (by simp)) he (by omega) (val BT o) es.length 0 (by omega) o 0 [] ho hod (by decide) (hz _ (Nat.le_refl _) (by omega)) (by simp [val]) fuel hfuel
  rw [show ((0:Nat):Int)=0 from rfl] at a1
  have h1:(((i:Nat):Int)<((ds.length:Nat):Int))=True:=by simp;omega
  have wk:IntKind.i64.wrap ((i+1:Nat):Int)=((i+1:Nat):Int):=wi64 (by omega)
  have hst:evC F fuel Fn.y5z ⟨env ((0,.one (.sl false (intE ds)))::(1,.one (.sl false (intE es)))::(5,.one (.rsl id 0 1 0 T false))::(6,.one (.int .i64 (i:Int)))::X),upd ob id (.row 1 (intE o) 0),fz,nx⟩=
    some (.nrm,⟨env [(0,.one (.sl false (intE ds))),(1,.one (.sl false (intE es))),(5,.one (.rsl id 0 1 0 T false)),(6,.one (.int .i64 ((i+1:Nat):Int)))],upd ob id (.row 1 (intE o1) 0),fz,nx⟩):=by
   simp only [go_sem,Fn.y5z,h1,a1,add1,wk]
  rw [y0c hst]
  refine ye8 hfz ds es hTe hT hd he hfuel m (i+1) (by omega) o1 [] a2 a3 ?_ ?_ N (by omega)
  ·have td:ds.take (i+1)=ds.take i++[ds[i]]:=by rw [List.take_add_one,gd];rfl
   rw [td,y0f,List.length_take,Nat.min_eq_left (by omega),Nat.add_mul,←hinv,Nat.mul_assoc,a4]
  ·intro j hj hjT
   rw [a5 j (by omega)]
   exact hz j (by omega) hjT
end
theorem yho (a b:Nat) (ha:dlen BT a<2^40) (hb:dlen BT b<2^40) {n:Nat} (hn:dlen BT a+dlen BT b+6≤n):evV E (n+1) Id.y33 [.one (zD a),.one (zD b)]=some (.one (zD (a*b))):=by
 rw [y04 ydw]
 unfold dlen at ha hb hn
 have zrep:∀k,val BT (List.replicate k 0)=0:=by
  intro k
  induction k with
  | zero=>rfl
  | succ k ih=>rw [List.replicate_succ,val,ih,Nat.mul_zero]
 obtain ⟨o',X',hloop,h2,h3,h4⟩:=ye8 (F:=evF E n) (fuel:=n) (ob:=ob0) (fz:=fz0) (nx:=7) (id:=5) (T:=(digs BT a).length+(digs BT b).length) rfl (digs BT a) (digs BT b) rfl (by omega) (y1o BT2 a) (y1o BT2 b) (by omega)
  (digs BT a).length 0 (by omega) (List.replicate ((digs BT a).length+(digs BT b).length) 0) [] (by simp) (fun d hd=>by rw [(List.mem_replicate.1 hd).2];decide) (by rw [zrep,List.take_zero,val,Nat.zero_mul]) (fun j _ hj=>by simp [hj]) n (by omega)
 rw [y14 BT2,y14 BT2] at h4
 rw [show ((0:Nat):Int)=0 from rfl] at hloop
 have hnr:=ydn (n:=n) (id:=5) (ver:=0) (full:=false) (ob:=upd ob0 5 (.row 1 (intE o') 0)) (fz:=fz0) o' (by rw [h2];omega) h3 (by rw [h2];omega) y4l
 rw [h4,h2] at hnr
 unfold zD at hnr
 have wl:IntKind.i64.wrap (((digs BT a).length+(digs BT b).length:Nat):Int)=(((digs BT a).length+(digs BT b).length:Nat):Int):=wi64 (by omega)
 have l2:(digs BT a).length+(digs BT b).length≤9223372036854775807:=by omega
 have l3:8*((digs BT a).length+(digs BT b).length)≤281474976710656:=by omega
 unfold zD
 simp only [go_sem,Fn.y33,←Int.natCast_add,wl,l2,l3,ygq,hloop,hnr]
end Go.Ev
namespace Go.Ev
open Go.Dig
theorem ywt {B:Nat} (hB:2≤B) (x fr:Nat) (hf:fr≤dlen B x):val B ((digs B x).drop fr)=x / B^fr:=by
 have h:=yba B (digs B x) fr hf
 rw [y14 hB] at h
 have hl:=y5s hB ((digs B x).take fr) (fun d hd=>y1o hB x d (List.mem_of_mem_take hd))
 rw [List.length_take,Nat.min_eq_left (show fr≤(digs B x).length from hf)] at hl
 have hp:0<B^fr:=Nat.pow_pos (by omega)
 conv=>rhs;rw [h]
 rw [Nat.add_mul_div_left _ _ hp,Nat.div_eq_of_lt hl,Nat.zero_add]
theorem guess_le (R b w:Nat) (hb:0<b) (hw:0<w):R / w / (b / w+1)≤R / b:=by
 rw [Nat.le_div_iff_mul_le hb]
 have h1:b<(b / w+1)*w:=by
  have:=Nat.div_add_mod b w
  have h2:=Nat.mod_lt b hw
  rw [Nat.add_mul,Nat.one_mul,Nat.mul_comm]
  omega
 calc R / w / (b / w+1)*b≤R / w / (b / w+1)*((b / w+1)*w):=Nat.mul_le_mul_left _ (Nat.le_of_lt h1)
  _=R / w / (b / w+1)*(b / w+1)*w:=(Nat.mul_assoc _ _ _).symm
  _≤R / w*w:=Nat.mul_le_mul_right _ (Nat.div_mul_le_self _ _)
  _≤R:=Nat.div_mul_le_self _ _
section
variable {ob:Nat→Option AObj} {fz:Nat→Nat} {nx:Nat}
theorem yrw {n:Nat} (b:Nat) (hb:0<b) (x0 x7 x8:SV):∀(r k:Nat) (X:List (Nat×SV)),dlen BT r<2^40→dlen BT r+6≤n→k+r / b<100000→∀N,r / b<N→∃X',
  loopN (evC (evF E (n+1)) (n+1) Fn.y5n) N ⟨env ((0,x0)::(1,.one (zD b))::(6,.one (zD r))::(7,x7)::(8,x8)::(9,.one (.int .i64 (k:Int)))::X),ob,fz,nx⟩=
   some (.ext 2,⟨env ((0,x0)::(1,.one (zD b))::(6,.one (zD (r%b)))::(7,x7)::(8,x8)::(9,.one (.int .i64 ((k+r / b:Nat):Int)))::X'),ob,fz,nx⟩):=by
 intro r
 induction r using Nat.strongRecOn with
 | _ r ih=>
  intro k X hd hn hk N hN
  obtain ⟨M,rfl⟩:∃M,N=M+1:=⟨N-1,(Nat.sub_add_cancel (Nat.lt_of_le_of_lt (Nat.zero_le _) hN)).symm⟩
  have habs:=y01 (yd1 r b (by omega) (n:=n) (by omega)) (can2 (y2u _) (y2u _)) ob fz
  by_cases hlt:r<b
  ·have hc:(cmpI r b≥0)=False:=by
    simp only [cmpI,if_pos hlt,eq_iff_iff,iff_false];decide
   refine ⟨[(63,.one (.bool false))],y09 ?_⟩
   rw [Nat.mod_eq_of_lt hlt,Nat.div_eq_of_lt hlt,Nat.add_zero]
   simp only [go_sem,Fn.y5n,habs,hc]
  ·have hle:b≤r:=by omega
   have hc:(cmpI r b≥0)=True:=by
    simp only [cmpI,if_neg hlt,eq_iff_iff,iff_true]
    split<;>decide
   have hmin:=y01 (y9w r b hle hd (n:=n) (by omega)) (can2 (y2u _) (y2u _)) ob fz
   have e1:r / b=(r-b) / b+1:=Nat.div_eq_sub_div hb hle
   have e2:r%b=(r-b)%b:=Nat.mod_eq_sub_mod hle
   obtain ⟨q,hq⟩:∃q,q=(r-b) / b:=⟨_,rfl⟩
   rw [e1,←hq] at hk hN
   have wk:IntKind.i64.wrap ((k+1:Nat):Int)=((k+1:Nat):Int):=wi64 (by omega)
   have hst:evC (evF E (n+1)) (n+1) Fn.y5n ⟨env ((0,x0)::(1,.one (zD b))::(6,.one (zD r))::(7,x7)::(8,x8)::(9,.one (.int .i64 (k:Int)))::X),ob,fz,nx⟩=
     some (.nrm,⟨env [(0,x0),(1,.one (zD b)),(6,.one (zD (r-b))),(7,x7),(8,x8),(9,.one (.int .i64 ((k+1:Nat):Int)))],ob,fz,nx⟩):=by
    simp only [go_sem,Fn.y5n,habs,hc,hmin,add1,wk]
   have hdl:dlen BT (r-b)≤dlen BT r:=y4s BT2 (Nat.sub_le _ _)
   obtain ⟨X',h⟩:=ih (r-b) (by omega) (k+1) [] (by omega) (by omega) (by rw [←hq];omega) M (by rw [←hq];omega)
   refine ⟨X', ?_⟩
   rw [y0c hst,h,e1,e2,←hq,show k+1+q=k+(q+1) by omega]
end
def oA:ACode:=match Fn.y0t with | .seq a _=>a | _=>.skip
def oB:ACode:=match Fn.y0t with | .seq _ (.seq (.block _ (.seq b _)) _)=>b | _=>.skip
def oC:ACode:=match Fn.y0t with | .seq _ (.seq (.block _ (.seq _ (.seq c _))) _)=>c | _=>.skip
def oG:ACode:=match Fn.y0t with | .seq _ (.seq (.block _ (.seq _ (.seq _ (.seq g _)))) _)=>g | _=>.skip
def oM:ACode:=match Fn.y0t with | .seq _ (.seq (.block _ (.seq _ (.seq _ (.seq _ (.seq m _))))) _)=>m | _=>.skip
def oS:ACode:=match Fn.y0t with | .seq _ (.seq (.block _ (.seq _ (.seq _ (.seq _ (.seq _ (.seq _ s)))))) _)=>s | _=>.skip
def oI:ACode:=match Fn.y0t with | .seq _ (.seq _ i)=>i | _=>.skip
theorem yhe:Fn.y0t=.seq oA (.seq (.block 1 (.seq oB (.seq oC (.seq oG (.seq oM (.seq (.block 2 (.loop Fn.y5n)) oS)))))) oI):=rfl
theorem yr9 (n R b:Nat) (hb:0<b) (hRq:R / b<BT) (hRl:dlen BT R≤dlen BT b+1) (hbl:dlen BT b<2^39) (hn:2*dlen BT b+200000≤n):∃k:Nat,k≤R / b∧∀(ob:Nat→Option AObj) (fz:Nat→Nat) (nx:Nat) (X:List (Nat×SV)) (x0 x7 x8:SV),∃X2,evC (evF E (n+1)) (n+1) oG
  ⟨env ((0,x0)::(1,.one (zD b))::(6,.one (zD R))::(7,x7)::(8,x8)::(9,.one (.int .i64 0))::X),ob,fz,nx⟩=some (.nrm,⟨env ((0,x0)::(1,.one (zD b))::(6,.one (zD R))::(7,x7)::(8,x8)::(9,.one (.int .i64 (k:Int)))::X2),ob,fz,nx⟩):=by
 unfold oG Fn.y0t
 by_cases h3:dlen BT b≤3
 ·refine ⟨R / b,Nat.le_refl _,fun ob fz nx X x0 x7 x8=>⟨[], ?_⟩⟩
  have t1:=y01 (yew R 0 (by omega) (Nat.zero_le _) (by omega) (n:=n) (by omega)) (can2 (y2u _) (y0y _ _)) ob fz
  have t2:=y01 (yew b 0 (by omega) (Nat.zero_le _) (by omega) (n:=n) (by omega)) (can2 (y2u _) (y0y _ _)) ob fz
  rw [List.drop_zero,y14 BT2,show ((0:Nat):Int)=0 from rfl] at t1 t2
  have hb4:(((digs BT b).length:Int)≤3)=True:=by simp only [eq_iff_iff,iff_true];unfold dlen at h3;omega
  have hb0:(((b:Nat):Int)=0)=False:=by simp only [eq_iff_iff,iff_false];omega
  have wq:IntKind.i64.wrap (((R:Nat):Int).tdiv (b:Int))=((R / b:Nat):Int):=by
   rw [←Int.ofNat_tdiv];exact wi64 (by unfold BT at hRq;omega)
  unfold zD at t1 t2 ⊢
  simp only [go_sem,hb4,t1,t2,hb0,wq]
 ·have hb4:(((digs BT b).length:Int)≤3)=False:=by simp only [eq_iff_iff,iff_false];unfold dlen at h3;omega
  by_cases hge:dlen BT b≤dlen BT R
  ·obtain ⟨w,hw⟩:∃w,w=BT^(dlen BT b-3):=⟨_,rfl⟩
   have hwp:0<w:=by rw [hw];exact Nat.pow_pos (by decide)
   refine ⟨R / w / (b / w+1),guess_le R b w hb hwp,fun ob fz nx X x0 x7 x8=>⟨[], ?_⟩⟩
   have t1:=y01 (yew R (dlen BT b-3) (by omega) (by omega) (by omega) (n:=n) (by omega)) (can2 (y2u _) (y0y _ _)) ob fz
   have t2:=y01 (yew b (dlen BT b-3) (by omega) (by omega) (by omega) (n:=n) (by omega)) (can2 (y2u _) (y0y _ _)) ob fz
   rw [ywt BT2 _ _ (by omega),←hw] at t1 t2
   have hbw:b / w<1000000000000:=by
    have h1:=y5r BT2 b
    refine Nat.div_lt_of_lt_mul (Nat.lt_of_lt_of_le h1 ?_)
    rw [hw,show dlen BT b=dlen BT b-3+3 by omega,Nat.pow_add,show dlen BT b-3+3-3=dlen BT b-3 by omega]
    exact Nat.mul_le_mul_left _ (by decide)
   have hgl:(((digs BT R).length:Int)≥((digs BT b).length:Int))=True:=by simp only [ge_iff_le,eq_iff_iff,iff_true];unfold dlen at hge;omega
   have w3:IntKind.i64.wrap (((digs BT b).length:Int)-3)=((dlen BT b-3:Nat):Int):=by rw [wrap_i64 (by unfold dlen at hbl;omega)];unfold dlen at h3 ⊢;omega
   have w4:IntKind.i64.wrap ((b / w+1:Nat):Int)=((b / w+1:Nat):Int):=wi64 (Nat.lt_of_le_of_lt (Nat.succ_le_of_lt hbw) (by decide))
   have hb0:(((b / w+1:Nat):Int)=0)=False:=by simp only [eq_iff_iff,iff_false];exact Int.natCast_ne_zero.2 (Nat.succ_ne_zero _)
   have hgk:=guess_le R b w hb hwp
   have wq:IntKind.i64.wrap (((R / w:Nat):Int).tdiv ((b / w+1:Nat):Int))=((R / w / (b / w+1):Nat):Int):=by
    rw [←Int.ofNat_tdiv];exact wi64 (Nat.lt_of_le_of_lt hgk (Nat.lt_trans hRq (by decide)))
   generalize dlen BT b-3=fr at t1 t2 w3
   generalize R / w / (b / w+1)=kk at wq ⊢
   generalize R / w=rw' at t1 wq
   generalize b / w=bw at t2 w4 hb0 wq
   unfold zD at t1 t2 ⊢
   simp only [go_sem,hb4,hgl,w3,t1,t2,add1,w4,hb0,wq]
  ·refine ⟨0,Nat.zero_le _,fun ob fz nx X x0 x7 x8=>⟨[(40,.one (.bool false))], ?_⟩⟩
   have hgl:(((digs BT R).length:Int)≥((digs BT b).length:Int))=False:=by simp only [ge_iff_le,eq_iff_iff,iff_false];unfold dlen at hge;omega
   have z0:((0:Nat):Int)=0:=rfl
   unfold zD
   simp only [go_sem,hb4,hgl,z0]
def RestIs (x:SV) (r:Nat):Prop:=x=.one (zD r)∨(r=0∧x=.one .nils)
section
variable {ob:Nat→Option AObj} {fz:Nat→Nat} {nx:Nat}
theorem ywz {n:Nat} {i:Nat} (us:List Nat) (b rest d R:Nat) (hR:R=d+BT*rest) (hd:d<BT) (x1 x7 xr:SV) (hxr:RestIs xr rest) (gu:us[i]? =some d) (hrl:dlen BT rest<2^39) (hn:dlen BT rest+10≤n) (X:List (Nat×SV)):
  ∃(ob':Nat→Option AObj) (fz':Nat→Nat),(∀id,id<nx→ob' id=ob id)∧(∀id,id<nx→fz' id=fz id)∧evC (evF E (n+1)) (n+1) oB ⟨env ((0,.one (.sl false (intE us)))::(1,x1)::(6,xr)::(7,x7)::(8,.one (.int .i64 (i:Int)))::X),ob,fz,nx⟩=
   some (.nrm,⟨env [(0,.one (.sl false (intE us))),(1,x1),(6,.one (zD R)),(7,x7),(8,.one (.int .i64 (i:Int)))],ob',fz',nx+9⟩):=by
 have hcd:∀x∈d::digs BT rest,x<BT:=by
  intro x hx
  rcases List.mem_cons.1 hx with rfl | h
  ·exact hd
  ·exact y1o BT2 rest x h
 have hkp:(((i:Nat):Int)≥0)=True:=by simp
 have hob:∀(y:AObj) id,id<nx→upd ob (nx+4) y id=ob id:=fun y id h=>y00 (by omega)
 have hfz:∀m id,id<nx→raise fz (nx+4) m id=fz id:=fun m id h=>yat (by omega)
 have hval:val BT ([d]++digs BT rest)=R:=by rw [hR];show d+BT*val BT (digs BT rest)=_;rw [y14 BT2]
 have ht:=fun ob fz v h=>ydn (n:=n+1) (id:=nx+4) (ver:=v) (full:=false) (ob:=ob) (fz:=fz) ([d]++digs BT rest) (by unfold dlen at hrl;simp;omega) hcd (by unfold dlen at hn;simp;omega) h
 rw [hval] at ht
 have key:∃v x,(xr=.one x∧x=v)∧(v=.nils∧digs BT rest=[]∨v=.sl false (intE (digs BT rest))):=by
  rcases hxr with rfl | ⟨rfl,rfl⟩
  ·exact ⟨_,_,⟨rfl,rfl⟩,.inr rfl⟩
  ·exact ⟨_,_,⟨rfl,rfl⟩,.inl ⟨rfl,digs_zero _⟩⟩
 obtain ⟨v,_,⟨rfl,rfl⟩,hv⟩:=key
 unfold oB Fn.y0t
 unfold dlen at hrl hn
 generalize digs BT rest=ds at*
 have e1:[[AV.int .i64 (d:Int)]]=intE [d]:=rfl
 rcases ds with _ | ⟨e,es⟩
 ·have e2:intE []=[]:=rfl
  have ht:=fun ob fz h=>ht ob fz 0 h
  simp only [List.append_nil] at ht
  rcases hv with ⟨rfl,_⟩ | rfl
  ·refine ⟨upd ob (nx+4) (.row 1 [[AV.int .i64 (d:Int)]] 0),raise fz (nx+4) 1,hob _,hfz _, ?_⟩
   have ht:=ht (upd ob (nx+4) (.row 1 [[AV.int .i64 (d:Int)]] 0)) fz y4l
   simp only [List.length_cons,List.length_nil,Nat.zero_add] at ht
   simp only [go_sem,gu,hkp,ht]
  ·refine ⟨upd ob (nx+4) (.row 1 [[AV.int .i64 (d:Int)]] 0),raise fz (nx+4) 1,hob _,hfz _, ?_⟩
   have ht:=ht (upd ob (nx+4) (.row 1 [[AV.int .i64 (d:Int)]] 0)) fz y4l
   simp only [List.length_cons,List.length_nil,Nat.zero_add] at ht
   simp only [go_sem,gu,hkp,e2,show okSz 1 ([]:List (List AV))=true from rfl,ht]
 ·rcases hv with ⟨_,h⟩ | rfl
  ·exact absurd h (by simp)
  ·have e2:intE (e::es)=[AV.int .i64 (e:Int)]::intE es:=rfl
   have hl8:(1+(es.length+1))*8≤140737488355328:=by simp only [List.length_cons] at hrl;omega
   refine ⟨upd ob (nx+4) (.row 1 ([AV.int .i64 (d:Int)]::[AV.int .i64 (e:Int)]::intE es) 1),raise fz (nx+4) (1+(es.length+1)),hob _,hfz _, ?_⟩
   have ht:=ht (upd ob (nx+4) (.row 1 ([AV.int .i64 (d:Int)]::[AV.int .i64 (e:Int)]::intE es) 1)) fz 1 y4l
   rw [show ([d]++e::es).length=1+(es.length+1) by simp;omega] at ht
   simp only [go_sem,gu,hkp,e2,show okSz 1 ([AV.int .i64 (e:Int)]::intE es)=true from rfl,hl8,ROOM,ht]
theorem yya {n:Nat} (b R k:Nat) (hk:k≤R / b) (hb:0<b) (hkl:R / b<BT) (hbl:dlen BT b<2^39) (hRl:dlen BT R≤dlen BT b+1) (hn:2*dlen BT b+200000≤n) (x0 x7 x8:SV) (X:List (Nat×SV)):∃X',
  evC (evF E (n+1)) (n+1) oM ⟨env ((0,x0)::(1,.one (zD b))::(6,.one (zD R))::(7,x7)::(8,x8)::(9,.one (.int .i64 (k:Int)))::X),ob,fz,nx⟩=
   some (.nrm,⟨env ((0,x0)::(1,.one (zD b))::(6,.one (zD (R-b*k)))::(7,x7)::(8,x8)::(9,.one (.int .i64 (k:Int)))::X'),ob,fz,nx⟩):=by
 have hkB:k<BT:=Nat.lt_of_le_of_lt hk hkl
 have hz:=y01 (y7n (k:Int) (by omega) (by unfold BT at hkB;omega) (n:=n) (by omega)) (can1 (y0y _ _)) ob fz
 have hbk:b*k≤R:=by
  have:=Nat.mul_div_le R b
  exact Nat.le_trans (Nat.mul_le_mul_left _ hk) this
 have hkd:dlen BT k≤1:=y58 BT2 (by rw [Nat.pow_one];exact hkB)
 have ht:=y01 (yho b k (by omega) (by omega) (n:=n) (by omega)) (can2 (y2u _) (y2u _)) ob fz
 have hm:=y01 (y9w R (b*k) hbk (by omega) (n:=n) (by omega)) (can2 (y2u _) (y2u _)) ob fz
 refine ⟨[], ?_⟩
 unfold oM Fn.y0t
 have e:sV (k:Int)=.agg [.bool false,zD k]:=by
  have h0:decide ((k:Int)<0)=false:=by simp
  simp only [sV,zC,h0,Int.natAbs_natCast]
 rw [e] at hz
 simp only [go_sem,hz,ht,hm]
end
end Go.Ev
namespace Go.Ev
open Go.Dig
section
variable {ob:Nat→Option AObj} {fz:Nat→Nat} {nx:Nat}
theorem yrc {n:Nat} {idq i:Nat} (us qs:List Nat) (b rest d:Nat) (hb:0<b) (hrest:rest<b) (xr:SV) (hxr:RestIs xr rest) (hi:i<us.length) (hqs:qs.length=us.length) (hs:us.length<2^39) (gu:us[i]? =some d) (hd:d<BT) (hbl:dlen BT b<2^38) (hidq:idq<nx) (hfq:fz idq=0) (hq:ob idq=some (.row 1 (intE qs) 0)) (hn:2*dlen BT b+200000≤n) (X:List (Nat×SV)):
  ∃(ob':Nat→Option AObj) (fz':Nat→Nat) (X':List (Nat×SV)),evC (evF E (n+1)) (n+1) Fn.y0t ⟨env ((0,.one (.sl false (intE us)))::(1,.one (zD b))::(6,xr)::(7,.one (.rsl idq 0 1 0 us.length false))::(8,.one (.int .i64 (i:Int)))::X),ob,fz,nx⟩=
   some (.nrm,⟨env ((0,.one (.sl false (intE us)))::(1,.one (zD b))::(6,.one (zD ((d+BT*rest)%b)))::(7,.one (.rsl idq 0 1 0 us.length false))::(8,.one (.int .i64 ((i:Int)-1)))::X'),ob',fz',nx+9⟩)∧fz' idq=0∧ob' idq=some (.row 1 (intE (qs.set i ((d+BT*rest) / b))) 0)∧(d+BT*rest) / b<BT:=by
 obtain ⟨R,hR⟩:∃R,R=d+BT*rest:=⟨_,rfl⟩
 rw [←hR]
 have hRb:R<BT*b:=by
  have:BT*rest+BT≤BT*b:=by rw [←Nat.mul_succ];exact Nat.mul_le_mul_left _ hrest
  omega
 have hRq:R / b<BT:=Nat.div_lt_of_lt_mul (by rw [Nat.mul_comm];exact hRb)
 have hRl:dlen BT R≤dlen BT b+1:=by
  refine y58 BT2 (Nat.lt_of_lt_of_le hRb ?_)
  rw [Nat.pow_succ,Nat.mul_comm]
  exact Nat.mul_le_mul_right _ (Nat.le_of_lt (y5r BT2 b))
 have hrl:dlen BT rest≤dlen BT b:=y4s BT2 (Nat.le_of_lt hrest)
 have hkp:(((i:Nat):Int)≥0)=True:=by simp
 have wi:IntKind.i64.wrap ((i:Int)-1)=(i:Int)-1:=wrap_i64 (by omega)
 obtain ⟨k,hk,hG⟩:=yr9 n R b hb hRq hRl (by omega) hn
 obtain ⟨ob',fz',hob,hfz,hB⟩:=ywz (ob:=ob) (fz:=fz) (nx:=nx) (n:=n) (i:=i) us b rest d R hR hd (.one (zD b)) (.one (.rsl idq 0 1 0 us.length false)) xr hxr gu (by omega) (by omega) [(17,.one (.bool true))]
 obtain ⟨X2,hG⟩:=hG ob' fz' (nx+9) [] (.one (.sl false (intE us))) (.one (.rsl idq 0 1 0 us.length false)) (.one (.int .i64 (i:Int)))
 obtain ⟨X3,hM⟩:=yya (ob:=ob') (fz:=fz') (nx:=nx+9) b R k hk hb hRq (by omega) hRl hn (.one (.sl false (intE us))) (.one (.rsl idq 0 1 0 us.length false)) (.one (.int .i64 (i:Int))) X2
 have hbk:b*k≤R:=Nat.le_trans (Nat.mul_le_mul_left _ hk) (Nat.mul_div_le R b)
 have hdm:R=b*k+(R-b*k):=by omega
 have hq1:k+(R-b*k) / b=R / b:=by
  have h1:(R-b*k) / b=R / b-k:=Nat.sub_mul_div R b k
  rw [h1];exact Nat.add_sub_cancel' hk
 have hr1:(R-b*k)%b=R%b:=by
  have h1:(b*k+(R-b*k))%b=(R-b*k)%b:=Nat.mul_add_mod _ _ _
  rw [←hdm] at h1;exact h1.symm
 have hk2:k+(R-b*k) / b<100000:=by rw [hq1];exact Nat.lt_trans hRq (by decide)
 obtain ⟨X4,hL⟩:=yrw (ob:=ob') (fz:=fz') (nx:=nx+9) (n:=n) b hb (.one (.sl false (intE us))) (.one (.rsl idq 0 1 0 us.length false)) (.one (.int .i64 (i:Int))) (R-b*k) k X3 (Nat.lt_of_le_of_lt (y4s BT2 (Nat.sub_le _ _)) (by omega)) (Nat.le_trans (Nat.add_le_add_right (y4s BT2 (Nat.sub_le R (b*k))) _) (by omega)) hk2 (n+1) (Nat.lt_of_le_of_lt (Nat.le_trans (Nat.le_add_left _ k) (Nat.le_of_lt hk2)) (by omega))
 rw [hq1,hr1] at hL
 have hq':ob' idq=some (.row 1 (intE qs) 0):=by rw [hob _ hidq];exact hq
 have hf':fz' idq=0:=by rw [hfz _ hidq];exact hfq
 have hrw:rowAt ob' idq 0=some (1,intE qs):=y46 hq'
 refine ⟨upd ob' idq (.row 1 (intE (qs.set i (R / b))) 0),fz',[], ?_,hf',upd_same _ _ _,hRq⟩
 rw [yhe]
 have hA:evC (evF E (n+1)) (n+1) oA ⟨env ((0,.one (.sl false (intE us)))::(1,.one (zD b))::(6,xr)::(7,.one (.rsl idq 0 1 0 us.length false))::(8,.one (.int .i64 (i:Int)))::X),ob,fz,nx⟩=
   some (.nrm,⟨env [(0,.one (.sl false (intE us))),(1,.one (zD b)),(6,xr),(7,.one (.rsl idq 0 1 0 us.length false)),(8,.one (.int .i64 (i:Int))),(17,.one (.bool true))],ob,fz,nx⟩):=by
  unfold oA Fn.y0t
  simp only [go_sem,hkp]
 have hC:evC (evF E (n+1)) (n+1) oC ⟨env [(0,.one (.sl false (intE us))),(1,.one (zD b)),(6,.one (zD R)),(7,.one (.rsl idq 0 1 0 us.length false)),(8,.one (.int .i64 (i:Int)))],ob',fz',nx+9⟩=
   some (.nrm,⟨env [(0,.one (.sl false (intE us))),(1,.one (zD b)),(6,.one (zD R)),(7,.one (.rsl idq 0 1 0 us.length false)),(8,.one (.int .i64 (i:Int))),(9,.one (.int .i64 0))],ob',fz',nx+9⟩):=by
  unfold oC Fn.y0t
  simp only [go_sem]
 have hS:evC (evF E (n+1)) (n+1) oS ⟨env ((0,.one (.sl false (intE us)))::(1,.one (zD b))::(6,.one (zD (R%b)))::(7,.one (.rsl idq 0 1 0 us.length false))::(8,.one (.int .i64 (i:Int)))::(9,.one (.int .i64 ((R / b:Nat):Int)))::X4),ob',fz',nx+9⟩=
   some (.nrm,⟨env [(0,.one (.sl false (intE us))),(1,.one (zD b)),(6,.one (zD (R%b))),(7,.one (.rsl idq 0 1 0 us.length false)),(8,.one (.int .i64 (i:Int)))],upd ob' idq (.row 1 (intE (qs.set i (R / b))) 0),fz',nx+9⟩):=by
  unfold oS Fn.y0t
  have hiq:i<qs.length:=by omega
  have gq:qs[i]? =some qs[i]:=by simp
  generalize qs[i]=qi at gq
  simp only [go_sem,hi,hrw,hq',hf',gq]
 have hI:evC (evF E (n+1)) (n+1) oI ⟨env [(0,.one (.sl false (intE us))),(1,.one (zD b)),(6,.one (zD (R%b))),(7,.one (.rsl idq 0 1 0 us.length false)),(8,.one (.int .i64 (i:Int)))],upd ob' idq (.row 1 (intE (qs.set i (R / b))) 0),fz',nx+9⟩=
   some (.nrm,⟨env [(0,.one (.sl false (intE us))),(1,.one (zD b)),(6,.one (zD (R%b))),(7,.one (.rsl idq 0 1 0 us.length false)),(8,.one (.int .i64 ((i:Int)-1)))],upd ob' idq (.row 1 (intE (qs.set i (R / b))) 0),fz',nx+9⟩):=by
  unfold oI Fn.y0t
  simp only [go_sem,wi]
 simp only [x_seq,hA,y4j,yj8,hB,hC,hG,hM,yu3,hL,y7a,ygm,hS,hI,go_sem]
theorem ylb {n:Nat} {idq:Nat} (us:List Nat) (b:Nat) (hb:0<b) (hs:us.length<2^39) (hus:∀d∈us,d<BT) (hbl:dlen BT b<2^38) (hn:2*dlen BT b+200000≤n):∀(m:Nat),m≤us.length→∀(ob:Nat→Option AObj) (fz:Nat→Nat) (nx:Nat) (qs:List Nat) (rest:Nat) (xr:SV) (X:List (Nat×SV)),idq<nx→fz idq=0→ob idq=some (.row 1 (intE qs) 0)→qs.length=us.length→(∀d∈qs,d<BT)→rest<b→RestIs xr rest→val BT (qs.drop m)*b+rest=val BT (us.drop m)→∀N,m<N→
  ∃(ob':Nat→Option AObj) (fz':Nat→Nat) (nx':Nat) (qs':List Nat) (rest':Nat) (xr':SV) (X':List (Nat×SV)),loopN (evC (evF E (n+1)) (n+1) Fn.y0t) N ⟨env ((0,.one (.sl false (intE us)))::(1,.one (zD b))::(6,xr)::(7,.one (.rsl idq 0 1 0 us.length false))::(8,.one (.int .i64 ((m:Int)-1)))::X),ob,fz,nx⟩=
   some (.ext 0,⟨env ((0,.one (.sl false (intE us)))::(1,.one (zD b))::(6,xr')::(7,.one (.rsl idq 0 1 0 us.length false))::X'),ob',fz',nx'⟩)∧fz' idq=0∧ob' idq=some (.row 1 (intE qs') 0)∧qs'.length=us.length∧(∀d∈qs',d<BT)∧rest'<b∧RestIs xr' rest'∧val BT qs'*b+rest'=val BT us
 | 0,_,ob,fz,nx,qs,rest,xr,X,h1,h2,h3,h4,h5,h6,h7,h8,N+1,_=>by
  refine ⟨ob,fz,nx,qs,rest,xr,[(8,.one (.int .i64 (-1))),(17,.one (.bool false))],y09 ?_,h2,h3,h4,h5,h6,h7,by simpa using h8⟩
  have e:(((0:Nat):Int)-1)=-1:=rfl
  have g:((-1:Int)≥0)=False:=by simp
  rw [yhe]
  unfold oA Fn.y0t
  simp only [go_sem,e,g]
 | m+1,hm,ob,fz,nx,qs,rest,xr,X,h1,h2,h3,h4,h5,h6,h7,h8,N+1,hN=>by
  have gu:us[m]? =some us[m]:=by simp
  have hd:us[m]<BT:=hus _ (by simp)
  have e:((m+1:Nat):Int)-1=(m:Int):=by omega
  obtain ⟨ob',fz',X',hr,a1,a2,a3⟩:=yrc (n:=n) us qs b rest us[m] hb h6 xr h7 (by omega) h4 hs gu hd hbl h1 h2 h3 hn X
  rw [e,y0c hr]
  refine ylb us b hb hs hus hbl hn m (by omega) ob' fz' (nx+9) _ _ _ X' (by omega) a1 a2 (by simp [h4]) ?_ (Nat.mod_lt _ hb) (.inl rfl) ?_ N (by omega)
  ·intro d hd
   rcases List.mem_or_eq_of_mem_set hd with h | h
   ·exact h5 d h
   ·rw [h];exact a3
  ·have hmq:m<(qs.set m ((us[m]+BT*rest) / b)).length:=by simp;omega
   rw [List.drop_eq_getElem_cons hmq,List.drop_eq_getElem_cons (show m<us.length by omega)]
   have e1:(qs.set m ((us[m]+BT*rest) / b))[m]=(us[m]+BT*rest) / b:=by simp
   rw [e1,List.drop_set_of_lt (by omega),val,val,←h8]
   have hdm:=Nat.div_add_mod (us[m]+BT*rest) b
   generalize (us[m]+BT*rest) / b=q at*
   generalize (us[m]+BT*rest)%b=r at*
   rw [Nat.add_mul,Nat.mul_add,Nat.mul_assoc,Nat.mul_comm q b]
   omega
end
theorem ybb (a b:Nat) (hb:0<b) (ha:dlen BT a<2^38) (hbl:dlen BT b<2^38) {n:Nat} (hn:dlen BT a+2*dlen BT b+200001≤n):evV E (n+1) Id.y28 [.one (zD a),.one (zD b)]=some (.tup [.one (zD (a / b)),.one (zD (a%b))]):=by
 obtain ⟨n,rfl⟩:∃k,n=k+1:=⟨n-1,by omega⟩
 rw [y04 yfb]
 have hal:(digs BT a).length=dlen BT a:=rfl
 obtain ⟨ob',fz',nx',qs',rest',xr',X',hloop,h2,h3,h4,h5,h6,h7,h8⟩:=ylb (n:=n) (idq:=2) (digs BT a) b hb (by omega) (y1o BT2 a) hbl (by omega) (digs BT a).length (Nat.le_refl _) (upd ob0 2 (.row 1 (intE (List.replicate (digs BT a).length 0)) 0)) fz0 4 (List.replicate (digs BT a).length 0) 0 (.one .nils) [] (by omega) rfl (upd_same _ _ _) (by simp) (fun d hd=>by rw [(List.mem_replicate.1 hd).2];decide) hb (.inr ⟨rfl,rfl⟩) (by simp [val]) (n+1) (by omega)
 rw [y14 BT2] at h8
 have hq:val BT qs'=a / b:=by
  rw [←h8,Nat.mul_comm,Nat.mul_add_div hb,Nat.div_eq_of_lt h6,Nat.add_zero]
 have hr:rest'=a%b:=by
  rw [←h8,Nat.mul_comm,Nat.mul_add_mod,Nat.mod_eq_of_lt h6]
 have hnr:=ydn (n:=n+1) (id:=2) (ver:=0) (full:=false) (ob:=ob') (fz:=fz') qs' (by rw [h4];omega) h5 (by rw [h4];omega) (y46 h3)
 rw [h4,hq] at hnr
 have wl:IntKind.i64.wrap (((digs BT a).length:Int)-1)=((digs BT a).length:Int)-1:=wrap_i64 (by omega)
 have l2:(digs BT a).length≤9223372036854775807:=by omega
 have l3:8*(digs BT a).length≤281474976710656:=by omega
 unfold zD at hnr hloop ⊢
 rcases h7 with rfl | ⟨rfl,rfl⟩
 ·rw [hr] at hloop
  unfold zD at hloop
  simp only [go_sem,Fn.y28,wl,l2,l3,ygq,hloop,hnr]
 ·rw [←hr,digs_zero]
  have e0:intE []=[]:=rfl
  simp only [go_sem,Fn.y28,wl,l2,l3,ygq,hloop,hnr,e0]
end Go.Ev
namespace Go.Ev
open Go.Dig
section
variable {F:Caller} {fuel:Nat} {fz:Nat→Nat} {ob:Nat→Option AObj} {nx:Nat}
theorem yg3 {id:Nat} {sg:AV} (ds:List Nat) (hl:ds.length≤4) (hd:∀d∈ds,d<BT) (hob:ob id=some (.box [sg,.sl false (intE ds)])):∀(k:Nat),k≤ds.length→∀(X:List (Nat×SV)) (N:Nat),k<N→∃X',
  loopN (evC F fuel Fn.y76) N ⟨env ((1,.one (.box id 0))::(4,.one (.int .i64 (val BT (ds.drop k):Int)))::(5,.one (.int .i64 ((k:Int)-1)))::X),ob,fz,nx⟩=
   some (.ext 0,⟨env ((1,.one (.box id 0))::(4,.one (.int .i64 (val BT ds:Int)))::X'),ob,fz,nx⟩)
 | 0,hk,X,N+1,hN=>by
  have h1:((-1:Int)≥0)=False:=by simp
  have e:(((0:Nat):Int)-1)=-1:=rfl
  refine ⟨[(5,.one (.int .i64 (-1))),(15,.one (.bool false))],y09 ?_⟩
  rw [List.drop_zero,e]
  simp only [go_sem,Fn.y76,h1]
 | j+1,hk,X,N+1,hN=>by
  have h0:(((j+1:Nat):Int)-1)=(j:Nat):=by omega
  have h1:(((j:Nat):Int)≥0)=True:=by simp
  have hjl:j<ds.length:=by omega
  have gd:ds[j]? =some ds[j]:=by simp
  have e:ds.drop j=ds[j]::ds.drop (j+1):=List.drop_eq_getElem_cons hjl
  have hb:val BT (ds.drop j)<10000000000000000:=by
   have h2:=y5s BT2 (ds.drop j) (fun d h=>hd d (List.mem_of_mem_drop h))
   have h3:BT^(ds.drop j).length≤BT^4:=Nat.pow_le_pow_right (by decide) (by simp;omega)
   exact Nat.lt_of_lt_of_le h2 (Nat.le_trans h3 (by decide))
  have hv:val BT (ds.drop j)=ds[j]+10000*val BT (ds.drop (j+1)):=by rw [e];rfl
  rw [hv] at hb
  have wm:IntKind.i64.wrap ((val BT (ds.drop (j+1)):Int)*10000)=((val BT (ds.drop (j+1))*10000:Nat):Int):=by
   rw [show ((val BT (ds.drop (j+1)):Int)*10000)=((val BT (ds.drop (j+1))*10000:Nat):Int) from (Int.natCast_mul _ 10000).symm]
   exact wi64 (by omega)
  have wa:IntKind.i64.wrap (((val BT (ds.drop (j+1))*10000:Nat):Int)+(ds[j]:Int))=(val BT (ds.drop j):Int):=by
   rw [addi64 _ _ (by omega),hv]
   congr 1
   omega
  have wj:IntKind.i64.wrap ((j:Int)-1)=(j:Int)-1:=wrap_i64 (by omega)
  obtain ⟨X',h⟩:=yg3 ds hl hd hob j (by omega) [] N (by omega)
  refine ⟨X', ?_⟩
  rw [←h]
  refine y0c ?_
  generalize val BT (ds.drop j)=v1 at wa ⊢
  generalize val BT (ds.drop (j+1))=v0 at wm wa ⊢
  generalize v0*10000=v2 at wm wa
  simp only [go_sem,Fn.y76,h0,h1,hob,gd,wm,wa,wj]
end
def smallR (x:Nat):SV:=if dlen BT x≤4 then .tup [.one (.int .i64 (x:Int)),.one (.bool true)] else .tup [.one (.int .i64 0),.one (.bool false)]
theorem yid (x:Nat) (sg:Bool) (hx:dlen BT x<2^60) {n:Nat} (hn:6≤n):evV E (n+1) Id.y2k [.agg [.bool sg,zD x]]=some (smallR x):=by
 rw [y04 ydx]
 unfold smallR
 by_cases h:dlen BT x≤4
 ·rw [if_pos h]
  unfold dlen at h
  have hg:(((digs BT x).length:Int)>4)=False:=by simp only [eq_iff_iff,iff_false];omega
  have hw:IntKind.i64.wrap (((digs BT x).length:Int)-1)=((digs BT x).length:Int)-1:=wrap_i64 (by omega)
  obtain ⟨X',hl⟩:=yg3 (F:=evF E n) (fuel:=n) (fz:=fz0) (nx:=3) (id:=0) (sg:=.bool sg) (ob:=upd ob0 0 (.box [.bool sg,.sl false (intE (digs BT x))])) (digs BT x) h (y1o BT2 x) (upd_same _ _ _) (digs BT x).length (Nat.le_refl _) [] n (by omega)
  rw [List.drop_length,y14 BT2,val,show ((0:Nat):Int)=0 from rfl] at hl
  unfold zD
  simp only [go_sem,Fn.y2k,hg,hw,hl]
 ·rw [if_neg h]
  unfold dlen at h
  have hg:(((digs BT x).length:Int)>4)=True:=by simp only [eq_iff_iff,iff_true];omega
  unfold zD
  simp only [go_sem,Fn.y2k,hg]
section
variable {F:Caller} {fuel:Nat} {fz:Nat→Nat} {ob:Nat→Option AObj} {nx:Nat}
theorem yrt (x4:SV):∀(y x:Nat) (X:List (Nat×SV)) (N:Nat),y<N→∃X',
  loopN (evC F fuel Fn.y4x) N ⟨env ((4,x4)::(7,.one (.int .i64 (x:Int)))::(9,.one (.int .i64 (y:Int)))::X),ob,fz,nx⟩=
   some (.ext 2,⟨env ((4,x4)::(7,.one (.int .i64 (Nat.gcd x y:Int)))::X'),ob,fz,nx⟩):=by
 intro y
 induction y using Nat.strongRecOn with
 | _ y ih=>
  intro x X N hN
  obtain ⟨M,rfl⟩:∃M,N=M+1:=⟨N-1,by omega⟩
  by_cases hy:y=0
  ·subst hy
   have h1:(((0:Nat):Int) !=0)=false:=rfl
   refine ⟨[(9,.one (.int .i64 ((0:Nat):Int))),(37,.one (.bool false))],y09 ?_⟩
   rw [Nat.gcd_zero_right]
   simp only [go_sem,Fn.y4x,h1]
  ·have h1:(((y:Nat):Int) !=0)=true:=by simp;omega
   have h0:(((y:Nat):Int)=0)=False:=by simp only [eq_iff_iff,iff_false];omega
   have hr:((x:Int)).tmod (y:Int)=((x%y:Nat):Int):=(Int.ofNat_tmod x y).symm
   have hst:evC F fuel Fn.y4x ⟨env ((4,x4)::(7,.one (.int .i64 (x:Int)))::(9,.one (.int .i64 (y:Int)))::X),ob,fz,nx⟩=some (.nrm,⟨env [(4,x4),(7,.one (.int .i64 (y:Int))),(9,.one (.int .i64 ((x%y:Nat):Int)))],ob,fz,nx⟩):=by
    simp only [go_sem,Fn.y4x,h1,h0,hr]
   rw [y0c hst]
   have hlt:x%y<y:=Nat.mod_lt _ (by omega)
   have:Nat.gcd y (x%y)=Nat.gcd x y:=by rw [Nat.gcd_comm y (x%y),←Nat.gcd_rec,Nat.gcd_comm]
   rw [←this]
   exact ih (x%y) hlt y [] M (by omega)
def KR (S:Nat):Nat:=2^S+6*S+20000000000000000
theorem y0i {x S:Nat} (h:x<2^S):dlen BT x≤S:=by
 refine y58 BT2 (Nat.lt_of_lt_of_le h ?_)
 exact Nat.pow_le_pow_left (by decide) S
theorem yjv {x:Nat} (h:dlen BT x≤4):x<10000000000000000:=by
 have h1:=y5r BT2 x
 exact Nat.lt_of_lt_of_le h1 (Nat.le_trans (Nat.pow_le_pow_right (by decide) h) (by decide))
theorem yv7 {n id S:Nat} (hS:S<2^37) (hn:KR S≤n) (hob:∃cs,ob id=some (.box cs)∧cs.length=2):∀(y x:Nat) (X:List (Nat×SV)) (N:Nat),x<2^S→y<2^S→y<N→ 
  (∃X',loopN (evC (evF E (n+1)) (n+1) Fn.y4b) N ⟨env ((4,.one (.box id 0))::(5,.one (zD x))::(6,.one (zD y))::X),ob,fz,nx⟩=
   some (.ext 0,⟨env ((4,.one (.box id 0))::(5,.one (zD (Nat.gcd x y)))::X'),ob,fz,nx⟩))∨
  (∃X',loopN (evC (evF E (n+1)) (n+1) Fn.y4b) N ⟨env ((4,.one (.box id 0))::(5,.one (zD x))::(6,.one (zD y))::X),ob,fz,nx⟩=
   some (.ret,⟨env ((4,.one (.box id 0))::X'),upd ob id (.box (zC (Nat.gcd x y:Nat))),fz,nx⟩)):=by
 intro y
 induction y using Nat.strongRecOn with
 | _ y ih=>
  intro x X N hx hy hN
  obtain ⟨M,rfl⟩:∃M,N=M+1:=⟨N-1,by omega⟩
  have hyl:=ygt y
  have hK:6*S+20000000000000000≤n:=Nat.le_trans (Nat.add_le_add_right (Nat.le_add_left _ _) _) hn
  have dx:=y0i hx
  have dy:=y0i hy
  by_cases hy0:y=0
  ·subst hy0
   left
   refine ⟨[(6,.one (zD 0)),(19,.one (.bool false))],y09 ?_⟩
   rw [Nat.gcd_zero_right]
   have e:(0≠0)=False:=by simp
   rw [e] at hyl
   unfold zD
   simp only [go_sem,Fn.y4b,hyl]
  ·have e:(y≠0)=True:=by simp [hy0]
   rw [e] at hyl
   have s1:=y01 (yid x false (by omega) (n:=n) (by omega)) (can1 (.agg _ fun v hv=>by
    simp only [List.mem_cons,List.not_mem_nil,or_false] at hv
    rcases hv with rfl | rfl
    ·exact .bool _
    ·exact .sl _)) ob fz
   have s2:=y01 (yid y false (by omega) (n:=n) (by omega)) (can1 (.agg _ fun v hv=>by
    simp only [List.mem_cons,List.not_mem_nil,or_false] at hv
    rcases hv with rfl | rfl
    ·exact .bool _
    ·exact .sl _)) ob fz
   by_cases hsm:dlen BT x≤4∧dlen BT y≤4
   ·right
    obtain ⟨h4,h5⟩:=hsm
    unfold smallR at s1 s2
    rw [if_pos h4] at s1
    rw [if_pos h5] at s2
    have hy5:=yjv h5
    have hlt5:x%y<y:=Nat.mod_lt _ (by omega)
    obtain ⟨X',hin⟩:=yrt (F:=evF E (n+1)) (fuel:=n+1) (fz:=fz) (ob:=ob) (nx:=nx) (.one (.box id 0)) (x%y) y [] n (by omega)
    have hge:Nat.gcd y (x%y)=Nat.gcd x y:=by rw [Nat.gcd_comm y (x%y),←Nat.gcd_rec,Nat.gcd_comm]
    rw [hge] at hin
    have h1:(((y:Nat):Int) !=0)=true:=by simp;omega
    have h0:(((y:Nat):Int)=0)=False:=by simp only [eq_iff_iff,iff_false];omega
    have hr:((x:Int)).tmod (y:Int)=((x%y:Nat):Int):=(Int.ofNat_tmod x y).symm
    have hst:evC (evF E (n+1)) (n+1) Fn.y4x ⟨env [(4,.one (.box id 0)),(5,.one (zD x)),(6,.one (zD y)),(7,.one (.int .i64 (x:Int))),(9,.one (.int .i64 (y:Int))),(35,.one (.bool true))],ob,fz,nx⟩=some (.nrm,⟨env [(4,.one (.box id 0)),(7,.one (.int .i64 (y:Int))),(9,.one (.int .i64 ((x%y:Nat):Int)))],ob,fz,nx⟩):=by
     simp only [go_sem,Fn.y4x,h1,h0,hr]
    have hin:=(y0c (N:=n) hst).trans hin
    have hx4:=yjv h4
    have hg:Nat.gcd x y<10000000000000000:=Nat.lt_of_le_of_lt (Nat.gcd_le_right x (by omega)) hy5
    have hz:=y01 (y7n (Nat.gcd x y:Int) (by omega) (by omega) (n:=n) (by omega)) (can1 (y0y _ _)) ob fz
    obtain ⟨cs,hb1,hb2⟩:=hob
    refine ⟨[],y7k ?_⟩
    unfold sV at hz
    obtain ⟨c1,c2,rfl⟩:∃c1 c2,cs=[c1,c2]:=by
     rcases cs with _ | ⟨c1,_ | ⟨c2,_ | ⟨c3,r⟩⟩⟩
     ·simp at hb2
     ·simp at hb2
     ·exact ⟨c1,c2,rfl⟩
     ·simp at hb2
    unfold zC at hz ⊢
    unfold zD at s1 s2 hz hin ⊢
    simp only [go_sem,Fn.y4b,hyl,s1,s2,hin,hz,hb1]
   ·have hov:=y01 (ybb x y (by omega) (by omega) (by omega) (n:=n) (by omega)) (can2 (y2u _) (y2u _)) ob fz
    have hst:∃X1,evC (evF E (n+1)) (n+1) Fn.y4b ⟨env ((4,.one (.box id 0))::(5,.one (zD x))::(6,.one (zD y))::X),ob,fz,nx⟩=some (.nrm,⟨env ((4,.one (.box id 0))::(5,.one (zD y))::(6,.one (zD (x%y)))::X1),ob,fz,nx⟩):=by
     refine ⟨[], ?_⟩
     unfold smallR at s1 s2
     by_cases h4:dlen BT x≤4
     ·have h5:¬dlen BT y≤4:=fun h=>hsm ⟨h4,h⟩
      rw [if_pos h4] at s1
      rw [if_neg h5] at s2
      unfold zD at s1 s2 hov ⊢
      simp only [go_sem,Fn.y4b,hyl,s1,s2,hov]
     ·rw [if_neg h4] at s1
      by_cases h5:dlen BT y≤4
      ·rw [if_pos h5] at s2
       unfold zD at s1 s2 hov ⊢
       simp only [go_sem,Fn.y4b,hyl,s1,s2,hov]
      ·rw [if_neg h5] at s2
       unfold zD at s1 s2 hov ⊢
       simp only [go_sem,Fn.y4b,hyl,s1,s2,hov]
    obtain ⟨X1,hst⟩:=hst
    rw [y0c hst]
    have hlt:x%y<y:=Nat.mod_lt _ (by omega)
    have hge:Nat.gcd y (x%y)=Nat.gcd x y:=by rw [Nat.gcd_comm y (x%y),←Nat.gcd_rec,Nat.gcd_comm]
    rw [←hge]
    exact ih (x%y) hlt y X1 M hy (by omega) (by omega)
end
theorem yx3 (a b:Int) {S:Nat} (ha:a.natAbs<2^S) (hb:b.natAbs<2^S) (hS:S<2^37) {n:Nat} (hn:KR S+1≤n):evV E (n+1) Id.y3j [sV a,sV b]=some (sV (Nat.gcd a.natAbs b.natAbs:Nat)):=by
 obtain ⟨n,rfl⟩:∃k,n=k+1:=⟨n-1,by omega⟩
 rw [y04 yf9]
 have hK:b.natAbs<n+1:=by unfold KR at hn;omega
 have h:=yv7 (n:=n) (id:=2) (S:=S) (fz:=fz0) (nx:=3) (ob:=upd (upd (upd ob0 0 (.box (zC a))) 1 (.box (zC b))) 2 (.box [.bool false,.nils])) hS (by omega) ⟨_,upd_same _ _ _,rfl⟩ b.natAbs a.natAbs [] (n+1) ha hb hK
 unfold sV zC at*
 rcases h with ⟨X',h⟩ | ⟨X',h⟩
 ·unfold zD at h ⊢
  have e0:decide (((Nat.gcd a.natAbs b.natAbs:Nat):Int)<0)=false:=by simp
  rw [Int.natAbs_natCast,e0]
  simp only [go_sem,Fn.y3j,h]
 ·unfold zD at h ⊢
  simp only [go_sem,Fn.y3j,h]
end Go.Ev
namespace Go.Ev
open Go.Dig
def aggS:Option ((Nat→Nat)×List AV)→Option ((Nat→Nat)×SV)
 | some p=>some (p.1,.agg p.2)
 | none=>none
theorem yl4 (p:(Nat→Nat)×List AV):aggS (some p)=some (p.1,.agg p.2):=Eq.trans rfl rfl
theorem yl5 (ob:Nat→Option AObj) (fz:Nat→Nat) (cs:List AV):frzS ob fz (.agg cs)=aggS (mapFz (frz ob DEPTH) fz cs):=by
 simp only [frzS]
 cases mapFz (frz ob DEPTH) fz cs<;>rfl
theorem yko (ob:Nat→Option AObj) (fz:Nat→Nat) (b:Bool):frz ob DEPTH fz (.bool b)=some (fz,.bool b):=Eq.trans rfl rfl
theorem yxn (ob:Nat→Option AObj) (fz:Nat→Nat) (k:IntKind) (b:Int):frz ob DEPTH fz (.int k b)=some (fz,.int k b):=Eq.trans rfl rfl
theorem ywy (ob:Nat→Option AObj) (fz:Nat→Nat) (b:ByteArray):frz ob DEPTH fz (.str b)=some (fz,.str b):=Eq.trans rfl rfl
theorem yzg (ob:Nat→Option AObj) (fz:Nat→Nat) (f:Bool) (es:List (List AV)):frz ob DEPTH fz (.sl f es)=some (fz,.sl false es):=Eq.trans rfl rfl
theorem yk7 (ob:Nat→Option AObj) (fz:Nat→Nat):frz ob DEPTH fz .nils=some (fz,.sl false []):=Eq.trans rfl rfl
attribute [go_sem] yl4 yl5 yko yxn ywy yzg yk7
theorem ypy (z:Int):sgn (!decide (z<0)) z.natAbs=-z:=by
 unfold sgn
 by_cases h:z<0
 ·rw [decide_eq_true h,Bool.not_true,if_neg (by simp)];omega
 ·rw [decide_eq_false h,Bool.not_false,if_pos rfl];omega
theorem ycz (z:Int) {n:Nat} (hn:1≤n):evV E (n+1) Id.y2n [sV z]=some (sV (-z)):=by
 rw [y04 yfl]
 have hs:=y7c (!decide (z<0)) z.natAbs (-z) (ypy z) hn
 unfold sV zC zD at hs ⊢
 simp only [go_sem,Fn.y2n,hs]
theorem yx2 (a b:Bool):(!(a==b))=(a !=b):=rfl
theorem y6c (a b:Int) (ha:dlen BT a.natAbs<2^40) (hb:dlen BT b.natAbs<2^40) {n:Nat} (hn:dlen BT a.natAbs+dlen BT b.natAbs+7≤n):evV E (n+1) Id.y15 [sV a,sV b]=some (sV (a*b)):=by
 rw [y04 yff]
 obtain ⟨n,rfl⟩:∃k,n=k+1:=⟨n-1,by omega⟩
 have ht:=y01 (yho a.natAbs b.natAbs ha hb (n:=n) (by omega)) (can2 (y2u _) (y2u _))
 have hs:=y7c (decide (a<0) !=decide (b<0)) (a.natAbs*b.natAbs) (a*b) (yq9 a b) (n:=n+1) (by omega)
 generalize a*b=c at hs ⊢
 generalize a.natAbs*b.natAbs=m at ht hs
 unfold sV zC zD at hs ⊢
 unfold zD at ht
 simp only [go_sem,Fn.y15,ht,yez,yx2,hs]
def rC (q:Rat):List AV:=zC q.num++zC (q.den:Int)
def rV (q:Rat):SV:=.agg (rC q)
theorem y70 (q:Rat):CanS (rV q):=.agg _ fun x hx=>by
 simp only [rC,zC,List.mem_append,List.mem_cons,List.not_mem_nil,or_false] at hx
 rcases hx with (rfl | rfl) | (rfl | rfl)
 ·exact .bool _
 ·exact .sl _
 ·exact .bool _
 ·exact .sl _
theorem rC_eq (q:Rat):rC q=[.bool (decide (q.num<0)),zD q.num.natAbs,.bool (decide ((q.den:Int)<0)),zD q.den]:=by
 unfold rC zC
 rw [Int.natAbs_natCast]
 rfl
theorem ygl (q:Rat) (hd:dlen BT q.den<2^60) {n:Nat} (hn:1≤n):evV E (n+1) Id.y0g [rV q]=some (sV (q.den:Int)):=by
 rw [y04 y9i]
 have h0:((((digs BT q.den).length:Nat):Int)==0)=false:=by
  have:=y4c BT2 (Nat.pos_iff_ne_zero.1 q.den_pos)
  have:(digs BT q.den).length≠0:=fun e=>this (List.length_eq_zero_iff.1 e)
  simp only [beq_eq_false_iff_ne,ne_eq];omega
 unfold rV sV
 rw [rC_eq]
 unfold zC zD
 rw [Int.natAbs_natCast]
 simp only [go_sem,Fn.y0g,h0]
theorem ypr {z w:Int} (hw:w≠0) (h:w<0):ofQ z w hw=Rat.normalize (-z) (-w).natAbs (by omega):=by
 unfold ofQ
 have e:(decide (z<0) !=decide (w<0))= !decide (z<0):=by rw [decide_eq_true h];cases decide (z<0)<;>rfl
 have e2:=ypy z
 congr 1
 ·rw [e,e2]
 ·omega
theorem ypq {z w:Int} (hw:w≠0) (h:¬w<0):ofQ z w hw=Rat.normalize z w.natAbs (by omega):=by
 unfold ofQ
 have e:(decide (z<0) !=decide (w<0))=decide (z<0):=by rw [decide_eq_false h];cases decide (z<0)<;>rfl
 congr 1
 rw [e,y78 z]
theorem ya9 (S:Nat):6*S+20000000000000000≤KR S:=Nat.add_le_add_right (Nat.le_add_left _ _) _
theorem yah (z w:Int) (hw:0<w) {S:Nat} (hz:z.natAbs<2^S) (hws:w.natAbs<2^S) (hS:S<2^37) {n:Nat} (hn:KR S+3≤n) (neg:Bool) (a b:Int) (hab:(neg=false∧a=z∧b=w)∨(neg=true∧-a=z∧-b=w)):evV E (n+1) Id.y1c [sV a,sV b]=some (rV (Rat.normalize z w.natAbs (by omega))):=by
 rw [y04 ygy]
 have hK:=ya9 S
 obtain ⟨n,rfl⟩:∃k,n=k+1:=⟨n-1,by omega⟩
 have dz:=y0i hz
 have dw:=y0i hws
 have hgc:=y01 (yx3 z w hz hws hS (n:=n) (by omega)) (can2 (y1g _) (y1g _))
 obtain ⟨e1,e2⟩:=ycr z w.natAbs (by omega)
 generalize Rat.normalize z w.natAbs _=q at e1 e2
 obtain ⟨g,hg⟩:∃g,g=z.natAbs.gcd w.natAbs:=⟨_,rfl⟩
 rw [←hg] at hgc e1 e2
 have hgp:0<g:=by rw [hg];exact Nat.gcd_pos_of_pos_right _ (by omega)
 have hgl:g≤w.natAbs:=by rw [hg];exact Nat.gcd_le_right _ (by omega)
 have dg:dlen BT g≤S:=Nat.le_trans (y4s BT2 hgl) dw
 have n1:=y01 (ycz a (n:=n) (by omega)) (can1 (y1g _))
 have n2:=y01 (ycz b (n:=n) (by omega)) (can1 (y1g _))
 have hb:decide (b<0)=neg:=by
  rcases hab with ⟨rfl,rfl,rfl⟩ | ⟨rfl,rfl,rfl⟩
  ·simp;omega
  ·simp;omega
 have hw0:decide (w<0)=false:=by simp;omega
 have hq0:decide ((q.den:Int)<0)=false:=by simp
 have hg0:decide ((g:Int)<0)=false:=by simp
 unfold rV
 rw [rC_eq,hq0]
 by_cases hg1:g=1
 ·subst hg1
  have hdig:digs BT 1=[1]:=by
   rw [y6n BT2 (by decide)]
   rw [show (1:Nat) / BT=0 from rfl,digs_zero]
   rfl
  rw [Nat.div_one] at e1 e2
  rw [y78] at e1
  have e3:intE [1]=[[AV.int .i64 1]]:=rfl
  have e4:(((1:Nat):Int)==1)=true:=rfl
  have e5:((1:Int)==1)=true:=rfl
  have n0:natOf 0=some 0:=rfl
  rw [e1,e2]
  rcases hab with ⟨rfl,rfl,rfl⟩ | ⟨rfl,h1,h2⟩
  ·unfold sV zC at hgc ⊢
   rw [Int.natAbs_natCast,hg0,hw0] at hgc
   unfold zD at hgc ⊢
   rw [hdig,e3] at hgc
   simp only [go_sem,Fn.y1c,hb,hgc,e4,e5,n0]
  ·rw [h1] at n1
   rw [h2] at n2
   unfold sV zC at hgc n1 n2 ⊢
   rw [Int.natAbs_natCast,hg0,hw0] at hgc
   rw [hw0] at n2
   rw [hb] at n2
   unfold zD at hgc n1 n2 ⊢
   rw [hdig,e3] at hgc
   simp only [go_sem,Fn.y1c,hb,n1,n2,hgc,e4,e5,n0]
 ·have hz2:=y01 (ybb z.natAbs g hgp (by omega) (by omega) (n:=n) (by omega)) (can2 (y2u _) (y2u _))
  have hw2:=y01 (ybb w.natAbs g hgp (by omega) (by omega) (n:=n) (by omega)) (can2 (y2u _) (y2u _))
  have s1:=y7c (decide (z<0)) (z.natAbs / g) q.num e1.symm (n:=n+1) (by omega)
  have s2:=y7c false (w.natAbs / g) (q.den:Int) (by rw [e2];rfl) (n:=n+1) (by omega)
  generalize z.natAbs / g=zg at hz2 s1
  generalize w.natAbs / g=wg at hw2 s2
  generalize z.natAbs%g=zr at hz2
  generalize w.natAbs%g=wr at hw2
  have n0:natOf 0=some 0:=rfl
  unfold sV zC at s1 s2
  rw [Int.natAbs_natCast,hq0] at s2
  unfold zD at hz2 hw2 s1 s2
  by_cases hl:(digs BT g).length=1
  ·obtain ⟨x,hx⟩:=List.length_eq_one_iff.1 hl
   have hv:=y14 BT2 g
   rw [hx] at hv hz2 hw2
   have hxg:x=g:=by simpa [val] using hv
   have e3:intE [x]=[[AV.int .i64 (x:Int)]]:=rfl
   have e4:(((1:Nat):Int)==1)=true:=rfl
   have e5:(((x:Nat):Int)==1)=false:=by rw [hxg];simp only [beq_eq_false_iff_ne,ne_eq];omega
   rw [e3] at hz2 hw2
   rcases hab with ⟨rfl,rfl,rfl⟩ | ⟨rfl,h1,h2⟩
   ·unfold sV zC at hgc ⊢
    rw [Int.natAbs_natCast,hg0,hw0] at hgc
    unfold zD at hgc ⊢
    rw [hx,e3] at hgc
    simp only [go_sem,Fn.y1c,hb,hgc,e4,e5,n0,hz2,hw2,s1,s2]
   ·rw [h1] at n1
    rw [h2] at n2
    unfold sV zC at hgc n1 n2 ⊢
    rw [Int.natAbs_natCast,hg0,hw0] at hgc
    rw [hw0] at n2
    rw [hb] at n2
    unfold zD at hgc n1 n2 ⊢
    rw [hx,e3] at hgc
    simp only [go_sem,Fn.y1c,hb,n1,n2,hgc,e4,e5,n0,hz2,hw2,s1,s2]
  ·have e4:((((digs BT g).length:Nat):Int)==1)=false:=by simp only [beq_eq_false_iff_ne,ne_eq];omega
   rcases hab with ⟨rfl,rfl,rfl⟩ | ⟨rfl,h1,h2⟩
   ·unfold sV zC at hgc ⊢
    rw [Int.natAbs_natCast,hg0,hw0] at hgc
    unfold zD at hgc ⊢
    simp only [go_sem,Fn.y1c,hb,hgc,e4,n0,hz2,hw2,s1,s2]
   ·rw [h1] at n1
    rw [h2] at n2
    unfold sV zC at hgc n1 n2 ⊢
    rw [Int.natAbs_natCast,hg0,hw0] at hgc
    rw [hw0] at n2
    rw [hb] at n2
    unfold zD at hgc n1 n2 ⊢
    simp only [go_sem,Fn.y1c,hb,n1,n2,hgc,e4,n0,hz2,hw2,s1,s2]
theorem ynm (z w:Int) (hw:w≠0) {S:Nat} (hz:z.natAbs<2^S) (hws:w.natAbs<2^S) (hS:S<2^37) {n:Nat} (hn:KR S+3≤n):evV E (n+1) Id.y1c [sV z,sV w]=some (rV (ofQ z w hw)):=by
 by_cases h:w<0
 ·rw [ypr hw h]
  exact yah (-z) (-w) (by omega) (by omega) (by omega) hS hn true z w (.inr ⟨rfl,rfl,rfl⟩)
 ·rw [ypq hw h]
  exact yah z w (by omega) hz hws hS hn false z w (.inl ⟨rfl,rfl,rfl⟩)
theorem yze (z d:Int) (hd:d≠0) (h1:-9223372036854775808≤z) (h2:z<9223372036854775808) (h3:-9223372036854775808≤d) (h4:d<9223372036854775808) {n:Nat} (hn:KR 64+4≤n):evV E (n+1) Id.y4f [.one (.int .i64 z),.one (.int .i64 d)]=some (rV (ofQ z d hd)):=by
 rw [y04 yi6]
 have hK:=ya9 64
 have e:(2:Nat)^64=18446744073709551616:=rfl
 obtain ⟨n,rfl⟩:∃k,n=k+1:=⟨n-1,by omega⟩
 have z1:=y01 (y7n z h1 h2 (n:=n) (by omega)) (can1 (y0y _ _))
 have z2:=y01 (y7n d h3 h4 (n:=n) (by omega)) (can1 (y0y _ _))
 have hq:=y01 (ynm z d hd (S:=64) (by rw [e];omega) (by rw [e];omega) (by decide) (n:=n) (by omega)) (can2 (y1g _) (y1g _))
 generalize ofQ z d hd=q at hq ⊢
 unfold rV at hq ⊢
 rw [rC_eq] at hq ⊢
 unfold sV zC zD at z1 z2 hq
 unfold zD
 simp only [go_sem,Fn.y4f,z1,z2,hq]
theorem yxg (a b:Rat) {S T:Nat} (ha:SmQ S a) (hb:SmQ T b) (hS:S+T<2^36) {n:Nat} (hn:KR (S+T)+4≤n):evV E (n+1) Id.y13 [rV a,rV b]=some (rV (a*b)):=by
 rw [y04 yag,Rat.mul_def]
 have hK:=ya9 (S+T)
 obtain ⟨n,rfl⟩:∃k,n=k+1:=⟨n-1,by omega⟩
 have da:=y0i ha.den
 have db:=y0i hb.den
 have na:=y0i ha.num
 have nb:=y0i hb.num
 have d1:=y01 (ygl a (by omega) (n:=n) (by omega)) (can1 (y70 _))
 have d2:=y01 (ygl b (by omega) (n:=n) (by omega)) (can1 (y70 _))
 have m1:=y01 (y6c a.num b.num (by omega) (by omega) (n:=n) (by omega)) (can2 (y1g _) (y1g _))
 have m2:=y01 (y6c (a.den:Int) (b.den:Int) (by rw [Int.natAbs_natCast];omega) (by rw [Int.natAbs_natCast];omega) (n:=n) (by rw [Int.natAbs_natCast,Int.natAbs_natCast];omega)) (can2 (y1g _) (y1g _))
 have h1:(a.num*b.num).natAbs<2^(S+T):=by rw [Int.natAbs_mul];exact y16 ha.num hb.num
 have h2:((a.den:Int)*(b.den:Int)).natAbs<2^(S+T):=by
  rw [Int.natAbs_mul,Int.natAbs_natCast,Int.natAbs_natCast];exact y16 ha.den hb.den
 have hp:(0:Int)<(a.den:Int)*(b.den:Int):=Int.mul_pos (by have:=a.den_pos;omega) (by have:=b.den_pos;omega)
 have hq:=y01 (yah (a.num*b.num) ((a.den:Int)*(b.den:Int)) hp h1 h2 (by omega) (n:=n) (by omega) false _ _ (.inl ⟨rfl,rfl,rfl⟩)) (can2 (y1g _) (y1g _))
 have en:Rat.normalize (a.num*b.num) ((a.den:Int)*(b.den:Int)).natAbs (by omega)=Rat.normalize (a.num*b.num) (a.den*b.den) (Nat.mul_ne_zero a.den_nz b.den_nz):=by
  congr 1
 rw [en] at hq
 generalize Rat.normalize (a.num*b.num) (a.den*b.den) _=q at hq ⊢
 generalize a.num*b.num=p at m1 hq
 generalize (a.den:Int)*(b.den:Int)=r at m2 hq
 unfold rV at d1 d2 hq ⊢
 rw [rC_eq] at d1 d2 hq
 rw [rC_eq a,rC_eq b,rC_eq q]
 unfold sV zC at d1 d2 m1 m2 hq
 rw [Int.natAbs_natCast] at d1 d2
 rw [Int.natAbs_natCast,Int.natAbs_natCast] at m2
 unfold zD at d1 d2 m1 m2 hq ⊢
 simp only [go_sem,Fn.y13,d1,d2,m1,m2,hq]
end Go.Ev
namespace Go.Ev
open Go.Dig
def Ends (f:FuncId) (args:List SV) (r:SV):Prop:=∃N,∀n,N≤n→evV E n f args=some r
theorem Ends.of {f:FuncId} {args:List SV} {r:SV} (N:Nat) (h:∀{n},N≤n→evV E (n+1) f args=some r):Ends f args r:=
 ⟨N+1,fun n hn=>by obtain ⟨m,rfl⟩:∃m,n=m+1:=⟨n-1,by omega⟩;exact h (by omega)⟩
def Calling (f:FuncId) (args:List SV) (r:SV):Prop:=∃N,∀n,N≤n→∀(ob:Nat→Option AObj) (fz:Nat→Nat),callV (evF E n) f args ob fz=some (.fzd fz r)
theorem Ends.call {f:FuncId} {args:List SV} {r:SV} (h:Ends f args r) (hc:∀x∈args,CanS x):Calling f args r:=by
 obtain ⟨N,h⟩:=h
 exact ⟨N,fun n hn=>y01 (h n hn) hc⟩
structure Num where
 n:Int
 d:Int
 p:Nat
 n1:-9223372036854775808≤n
 n2:n<9223372036854775808
 d1:-9223372036854775808≤d
 d2:d<9223372036854775808
 p2:p<256
def Num.c (x:Num):List AV:=[.int .i64 x.n,.int .i64 x.d,.int .u8 (x.p:Int)]
def Num.den (x:Num):Int:=if x.d=0 then 1 else x.d
theorem Num.den0 (x:Num):x.den≠0:=by unfold Num.den;split<;>omega
theorem Num.denR (x:Num):-9223372036854775808≤x.den∧x.den<9223372036854775808:=by
 have h1:=x.d1
 have h2:=x.d2
 unfold Num.den;split<;>omega
def Num.base (x:Num):Rat:=ofQ x.n x.den x.den0
def Num.q (x:Num):Rat:=x.base^(x.p%4+1)
theorem Num.baseS (x:Num):SmQ 64 x.base:=SmQ.ofQ x.den0 x.n1 x.n2 x.denR.1 x.denR.2
theorem powS {a:Rat} (h:SmQ 64 a):∀k,SmQ (64*(k+1)) (a^(k+1))
 | 0=>by rw [Rat.pow_succ,Rat.pow_zero,Rat.one_mul];exact h
 | k+1=>by
  rw [Rat.pow_succ]
  exact SmQ.mono (SmQ.mul (powS h k) h) (by omega)
theorem Num.qS (x:Num):SmQ 256 x.q:=SmQ.mono (powS x.baseS (x.p%4)) (by omega)
theorem ykp {n i1 i4 i6 i7 i8:Nat} {fz:Nat→Nat} {nx:Nat} (a:Rat) (ha:SmQ 64 a) (x2 x3:SV) (c1 c2:AV) (p:Nat) (h14:i7≠i1∧i7≠i4∧i7≠i6∧i8≠i1∧i8≠i4∧i8≠i6∧i8≠i7) (hn:KR 320≤n) (hn':K 320≤n):∀(m k:Nat),k+m=p%4→∀(ob:Nat→Option AObj) (X:List (Nat×SV)),ob i1=some (.box [c1,c2,.int .u8 (p:Int)])→ob i4=some (.box (qC a))→ob i6=some (.box (rC a))→ob i7=some (.box (qC (a^(k+1))))→ob i8=some (.box (rC (a^(k+1))))→∀N,m<N→
  ∃(ob':Nat→Option AObj) (X':List (Nat×SV)),loopN (evC (evF E (n+6)) (n+6) Fn.y6a) N ⟨env ((1,.one (.box i1 0))::(2,x2)::(3,x3)::(4,.one (.box i4 0))::(6,.one (.box i6 0))::(7,.one (.box i7 0))::(8,.one (.box i8 0))::(9,.one (.int .u8 (k:Int)))::X),ob,fz,nx⟩=
   some (.ext 0,⟨env ((1,.one (.box i1 0))::(2,x2)::(3,x3)::(4,.one (.box i4 0))::(6,.one (.box i6 0))::(7,.one (.box i7 0))::(8,.one (.box i8 0))::X'),ob',fz,nx⟩)∧ob' i7=some (.box (qC (a^(p%4+1))))∧ob' i8=some (.box (rC (a^(p%4+1))))∧∀i,i≠i7→i≠i8→ob' i=ob i
 | 0,k,hk,ob,X,o1,o4,o6,o7,o8,N+1,hN=>by
  have hk':k=p%4:=by omega
  subst hk'
  refine ⟨ob,[(9,.one (.int .u8 ((p%4:Nat):Int))),(33,.one (.bool false))],y09 ?_,o7,o8,fun _ _ _=>rfl⟩
  have t4:((4:Int)=0)=False:=by simp
  have hr:((p:Int)).tmod 4=((p%4:Nat):Int):=(Int.ofNat_tmod p 4).symm
  have hl:(((p%4:Nat):Int)<((p%4:Nat):Int))=False:=by simp
  simp only [go_sem,Fn.y6a,o1,t4,hr,hl]
 | m+1,k,hk,ob,X,o1,o4,o6,o7,o8,N+1,hN=>by
  have t4:((4:Int)=0)=False:=by simp
  have hr:((p:Int)).tmod 4=((p%4:Nat):Int):=(Int.ofNat_tmod p 4).symm
  have hl:(((k:Nat):Int)<((p%4:Nat):Int))=True:=by simp;omega
  have hw:IntKind.u8.wrap ((k+1:Nat):Int)=((k+1:Nat):Int):=by rw [IntKind.wrap_u8];omega
  have hs:SmQ 256 (a^(k+1)):=SmQ.mono (powS ha k) (by omega)
  have m1:=y01 (yjn (a^(k+1)) a hs ha (by decide) (n:=n+5) (by show K 320+_≤_;omega)) (can2 (y1j _) (y1j _)) ob fz
  have m2:=fun ob=>y01 (yxg (a^(k+1)) a hs ha (by decide) (n:=n+5) (by show KR 320+_≤_;omega)) (can2 (y70 _) (y70 _)) ob fz
  rw [←Rat.pow_succ] at m1 m2
  obtain ⟨g1,g2,g3,g4,g5,g6,g7⟩:=h14
  obtain ⟨ob',X',h1,h2,h3,h4⟩:=ykp (fz:=fz) (nx:=nx) a ha x2 x3 c1 c2 p ⟨g1,g2,g3,g4,g5,g6,g7⟩ hn hn' m (k+1) (by omega) (upd (upd ob i7 (.box (qC (a^(k+1+1))))) i8 (.box (rC (a^(k+1+1))))) []
   (by rw [y00 g4.symm,y00 g1.symm];exact o1) (by rw [y00 g5.symm,y00 g2.symm];exact o4) (by rw [y00 g6.symm,y00 g3.symm];exact o6) (by rw [y00 g7.symm];exact upd_same _ _ _) (upd_same _ _ _) N (by omega)
  refine ⟨ob',X', ?_,h2,h3,fun i e7 e8=>by rw [h4 i e7 e8,y00 e8,y00 e7]⟩
  rw [←h1]
  refine y0c ?_
  have u6:∀y,upd ob i7 y i6=ob i6:=fun y=>y00 g3.symm
  have u8:∀y,upd ob i7 y i8=ob i8:=fun y=>y00 g7
  generalize a^(k+1)=b at*
  generalize a^(k+1+1)=c at*
  unfold qV at m1
  unfold rV at m2
  rw [rC_eq] at o6 o8
  rw [rC_eq b,rC_eq a,rC_eq c] at m2
  rw [rC_eq c]
  unfold qC natV at m1 o4 o7 ⊢
  unfold zD at m2 o6 o8 ⊢
  simp only [go_sem,Fn.y6a,o1,t4,hr,hl,o4,o6,o7,o8,u6,u8,m1,m2,add1,hw]
theorem nbeq (a b:Nat):Nat.beq a b=(a==b):=by
 rw [Bool.eq_iff_iff,Nat.beq_eq,beq_iff_eq]
attribute [go_sem] List.all_cons List.all_nil nbeq Nat.reduceBEq
theorem rV_eq (q:Rat):rV q=.agg [.bool (decide (q.num<0)),zD q.num.natAbs,.bool (decide ((q.den:Int)<0)),zD q.den]:=by unfold rV;rw [rC_eq]
def bothT:ACode:=match Fn.y0m.code with | .seq _ (.seq _ (.seq _ (.seq _ (.seq _ (.seq _ t)))))=>t | _=>.skip
theorem yw2 (x:Num) {n:Nat} (hn:K 320+KR 320+20≤n):evV E (n+1) Id.y0m [.agg x.c]=some (.tup [qV x.q,rV x.q]):=by
 rw [y04 yfm]
 have hK:K 64≤K 320:=y13d (by decide)
 have hR:KR 64≤KR 320:=by unfold KR;have:=Nat.pow_le_pow_right (show 0<2 by decide) (show 64≤320 by decide);omega
 obtain ⟨n,rfl⟩:∃k,n=k+6:=⟨n-6,by omega⟩
 have h1:=y01 (y136 x.n x.den x.den0 x.n1 x.n2 x.denR.1 x.denR.2 (n:=n+5) (by omega)) (can2 (y0y _ _) (y0y _ _))
 have h2:=y01 (yze x.n x.den x.den0 x.n1 x.n2 x.denR.1 x.denR.2 (n:=n+5) (by omega)) (can2 (y0y _ _) (y0y _ _))
 have hb:=x.baseS
 rw [show ofQ x.n x.den x.den0=x.base from rfl] at h1 h2
 have hq:x.q=x.base^(x.p%4+1):=rfl
 have hc:x.c=[.int .i64 x.n,.int .i64 x.d,.int .u8 (x.p:Int)]:=rfl
 have hden:x.den=if x.d=0 then 1 else x.d:=rfl
 rw [hq,hc]
 generalize x.den=den at*
 generalize x.base=a at*
 have hlo:=fun i1 i4 i6 i7 i8 nx c1 c2 x2 x3 hne ob=>ykp (n:=n) (i1:=i1) (i4:=i4) (i6:=i6) (i7:=i7) (i8:=i8) (fz:=fz0) (nx:=nx) a hb x2 x3 c1 c2 x.p hne (by omega) (by omega) (x.p%4) 0 (by omega) ob []
 have ga:a^(0+1)=a:=by rw [Rat.pow_succ,Rat.pow_zero,Rat.one_mul]
 generalize a^(x.p%4+1)=b at*
 have key:∀(c1 c2:AV) (ob:Nat→Option AObj),ob 0=some (.box [c1,c2,.int .u8 (x.p:Int)])→ob 1=some (.box [.bool false,.nils,.nils])→ob 2=some (.box [.bool false,.nils,.bool false,.nils])→ob 11=some (.box (qC a))→ob 19=some (.box (rC a))→ob 23=some (.box (qC a))→ob 24=some (.box (rC a))→
   finV Fn.y0m.res (thenC (evF E (n+6)) (n+6) bothT (blkC 0 (loopN (evC (evF E (n+6)) (n+6) Fn.y6a) (n+6) ⟨env [(1,.one (.box 0 0)),(2,.one (.box 1 0)),(3,.one (.box 2 0)),(4,.one (.box 11 0)),(6,.one (.box 19 0)),(7,.one (.box 23 0)),(8,.one (.box 24 0)),(9,.one (.int .u8 0))],ob,fz0,27⟩)))=some (.tup [qV b,rV b]):=by
  intro c1 c2 ob o0 o1 o2 o11 o19 o23 o24
  obtain ⟨ob',X',hl,p7,p8,pr⟩:=hlo 0 11 19 23 24 27 c1 c2 (.one (.box 1 0)) (.one (.box 2 0)) (by decide) ob o0 o11 o19 (by rw [ga];exact o23) (by rw [ga];exact o24) (n+6) (by omega)
  rw [show ((0:Nat):Int)=0 from rfl] at hl
  have q1:ob' 1=_:=(pr 1 (by decide) (by decide)).trans o1
  have q2:ob' 2=_:=(pr 2 (by decide) (by decide)).trans o2
  have u2:∀y,upd ob' 1 y 2=ob' 2:=fun y=>y00 (by decide)
  rw [rC_eq] at p8
  rw [rV_eq]
  unfold qC natV at p7
  unfold zD at p8
  unfold qV qC natV zD
  unfold bothT Fn.y0m
  simp only [go_sem,hl,p7,p8,q1,q2,u2]
 rw [rV_eq] at h2
 unfold qV qC natV at h1
 unfold zD at h2
 by_cases hd:x.d=0
 ·rw [if_pos hd] at hden
  have e0:(x.d==0)=true:=by simp [hd]
  rw [hden] at h1 h2
  unfold Fn.y0m
  simp only [go_sem,e0,h1,h2]
  exact key _ _ _ rfl rfl rfl rfl rfl rfl rfl
 ·rw [if_neg hd] at hden
  have e0:(x.d==0)=false:=by simp [hd]
  rw [hden] at h1 h2
  unfold Fn.y0m
  simp only [go_sem,e0,h1,h2]
  exact key _ _ _ rfl rfl rfl rfl rfl rfl rfl
end Go.Ev
namespace Go.Ev
open Go.RowKit
open Go.Proofs
def numD:TD:=.struct [.int .i64,.int .i64,.int .u8]
def engineD:TD:=.struct [numD,numD,numD,numD,numD,numD,.int .i64,.int .i64]
def faultD:TD:=.struct [.int .u8,.int .i64]
theorem yhx {z:Int} (h:(Lit.int .i64 z).wf=true):-9223372036854775808≤z∧z<9223372036854775808:=by
 simp only [Lit.wf,Bool.and_eq_true,decide_eq_true_eq] at h
 have e1:IntKind.i64.min=-9223372036854775808:=by decide
 have e2:IntKind.i64.max=9223372036854775807:=by decide
 rw [e1,e2] at h
 omega
theorem wf_u8 {z:Int} (h:(Lit.int .u8 z).wf=true):∃n:Nat,z=(n:Int)∧n<256:=by
 simp only [Lit.wf,Bool.and_eq_true,decide_eq_true_eq] at h
 have e1:IntKind.u8.min=0:=by decide
 have e2:IntKind.u8.max=255:=by decide
 rw [e1,e2] at h
 exact ⟨z.toNat,by omega,by omega⟩
structure Jt where
 low:Num
 high:Num
 most:Num
 step:Num
 place:Num
 speed:Num
 d:Int
 d1:-9223372036854775808≤d
 d2:d<9223372036854775808
def Jt.c (j:Jt):List AV:=j.low.c++(j.high.c++(j.most.c++(j.step.c++(j.place.c++(j.speed.c++[.int .i64 j.d])))))
structure Eng where
 torque:Num
 heating:Num
 cooling:Num
 most:Num
 step:Num
 heat:Num
 d:Int
 d1:-9223372036854775808≤d
 d2:d<9223372036854775808
 k:Int
 k1:-9223372036854775808≤k
 k2:k<9223372036854775808
def Eng.c (j:Eng):List AV:=j.torque.c++(j.heating.c++(j.cooling.c++(j.most.c++(j.step.c++(j.heat.c++[.int .i64 j.d,.int .i64 j.k])))))
section
variable {H:Type} {d:DataW H} {xs:List AV}
theorem y9a (h:IsD numD d xs):∃x:Num,xs=x.c:=by
 unfold numD at h
 simp only [IsD,IsDs] at h
 obtain ⟨ds,-,d1,r1,y1,z1,-,rfl,⟨a,ha,-,rfl⟩,d2,r2,y2,z2,-,rfl,⟨b,hb,-,rfl⟩,d3,r3,y3,z3,-,rfl,⟨c,hc,-,rfl⟩,-,rfl⟩:=h
 have h1:=yhx ha
 have h2:=yhx hb
 obtain ⟨p,rfl,hp⟩:=wf_u8 hc
 exact ⟨⟨a,b,p,h1.1,h1.2,h2.1,h2.2,hp⟩,rfl⟩
theorem ybl {x:DataW H} {ds:List (DataW H)} {B:Nat} (hb:YtclakmennjjomaaGreat.Rows.uptoBulkAll (x::ds)≤B):YtclakmennjjomaaGreat.Rows.uptoBulk x≤B∧YtclakmennjjomaaGreat.Rows.uptoBulkAll ds≤B:=by
 simp only [YtclakmennjjomaaGreat.Rows.uptoBulkAll] at hb;omega
theorem yev (h:IsD (.int .i64) d xs):∃z:Int,xs=[.int .i64 z]∧-9223372036854775808≤z∧z<9223372036854775808:=by
 simp only [IsD] at h
 obtain ⟨z,hz,-,rfl⟩:=h
 exact ⟨z,rfl,(yhx hz).1,(yhx hz).2⟩
theorem y116 (h:IsD (.int .u8) d xs):∃n:Nat,xs=[.int .u8 (n:Int)]∧n<256:=by
 simp only [IsD] at h
 obtain ⟨z,hz,-,rfl⟩:=h
 obtain ⟨n,rfl,hn⟩:=wf_u8 hz
 exact ⟨n,rfl,hn⟩
theorem yrk (h:IsD engineD d xs):∃j:Eng,xs=j.c:=by
 unfold engineD at h
 rw [IsD] at h
 simp only [IsDs] at h
 obtain ⟨ds,-,d1,r1,y1,z1,-,rfl,h1,d2,r2,y2,z2,-,rfl,h2,d3,r3,y3,z3,-,rfl,h3,d4,r4,y4,z4,-,rfl,h4,d5,r5,y5,z5,-,rfl,h5,d6,r6,y6,z6,-,rfl,h6,d7,r7,y7,z7,-,rfl,h7,d8,r8,y8,z8,-,rfl,h8,-,rfl⟩:=h
 obtain ⟨x1,rfl⟩:=y9a h1
 obtain ⟨x2,rfl⟩:=y9a h2
 obtain ⟨x3,rfl⟩:=y9a h3
 obtain ⟨x4,rfl⟩:=y9a h4
 obtain ⟨x5,rfl⟩:=y9a h5
 obtain ⟨x6,rfl⟩:=y9a h6
 obtain ⟨z,rfl,e1,e2⟩:=yev h7
 obtain ⟨y,rfl,f1,f2⟩:=yev h8
 exact ⟨⟨x1,x2,x3,x4,x5,x6,z,e1,e2,y,f1,f2⟩,rfl⟩
theorem yvl (h:IsD faultD d xs):∃(a:Nat) (b:Int),xs=[.int .u8 (a:Int),.int .i64 b]∧a<256∧-9223372036854775808≤b∧b<9223372036854775808:=by
 unfold faultD at h
 rw [IsD] at h
 simp only [IsDs] at h
 obtain ⟨ds,-,d1,r1,y1,z1,-,rfl,h1,d2,r2,y2,z2,-,rfl,h2,-,rfl⟩:=h
 obtain ⟨z,rfl,e1⟩:=y116 h1
 obtain ⟨y,rfl,f1,f2⟩:=yev h2
 exact ⟨z,y,rfl,e1,f1,f2⟩
theorem yxk {B:Nat} (h:IsD (.slice numD) d xs) (hb:YtclakmennjjomaaGreat.Rows.uptoBulk d≤B):∃l:List Num,xs=[.sl false (l.map Num.c)]∧l.length<B:=by
 obtain ⟨l,rfl,hl,-⟩:=yss (c:=Num.c) (Q:=fun _=>True) (fun d xs h _=>by obtain ⟨x,hx⟩:=y9a h;exact ⟨x,hx,trivial⟩) h hb
 exact ⟨l,rfl,hl⟩
end
end Go.Ev
namespace Go.Ev
open Go.Dig
def floorQ (q:Rat):Int:=q.num / (q.den:Int)
end Go.Ev
namespace Go.Ev
theorem yoi (q:Rat):(qC q).length=3:=rfl
theorem yzw (a b:Rat):(qC a++qC b).length=6:=rfl
theorem yyy (a b c d:Rat):(qC a++(qC b++(qC c++qC d))).length=12:=rfl
theorem y12q (a:Rat):sub (qC a) 0 3=some (qC a):=rfl
theorem y12b (a:Rat) (l:List AV):sub (qC a++l) 0 3=some (qC a):=by
 unfold sub qC
 have:Nat.ble 3 (l.length+1+1+1)=true:=Nat.ble_eq_true_of_le (by omega)
 simp [this]
theorem y11y (a:Rat) (l:List AV) (n:Nat):sub (qC a++l) 3 n=sub l 0 n:=by
 unfold sub qC
 have:Nat.ble (3+n) (l.length+1+1+1)=Nat.ble (0+n) l.length:=by
  rw [Nat.zero_add,show 3+n=n+1+1+1 by omega];rfl
 simp only [List.cons_append,List.nil_append,List.length_cons,this,List.drop_succ_cons,List.drop_zero]
theorem yus (a:Rat) (l:List AV) (k n:Nat):sub (qC a++l) (k+3) n=sub l k n:=by
 unfold sub qC
 have:Nat.ble (k+3+n) (l.length+1+1+1)=Nat.ble (k+n) l.length:=by
  rw [show k+3+n=(k+n)+1+1+1 by omega];rfl
 simp only [List.cons_append,List.nil_append,List.length_cons,this,List.drop_succ_cons]
theorem y11z (a:Rat) (l:List AV) (n:Nat):sub (qC a++l) 6 n=sub l 3 n:=yus a l 3 n
theorem y11j (a:Rat) (l:List AV) (n:Nat):sub (qC a++l) 9 n=sub l 6 n:=yus a l 6 n
theorem yyw (a b c d:Rat):sub (qC a++(qC b++(qC c++qC d))) 0 12=some (qC a++(qC b++(qC c++qC d))):=rfl
theorem put_z (x y z:AV) (l:List AV) (q:Rat):put (x::y::z::l) 0 (qC q)=some (qC q++l):=by
 unfold put qC
 have:Nat.ble 3 (l.length+1+1+1)=true:=Nat.ble_eq_true_of_le (by omega)
 simp [this]
theorem y12z (x y z:AV) (q:Rat):put [x,y,z] 0 (qC q)=some (qC q):=rfl
theorem put_q (p:Rat) (l:List AV) (q:Rat):put (qC p++l) 0 (qC q)=some (qC q++l):=put_z _ _ _ l q
theorem y12p (p q:Rat):put (qC p) 0 (qC q)=some (qC q):=rfl
theorem yhh (p:Rat) (l:List AV) (k:Nat) (xs:List AV):put (qC p++l) (k+3) xs=(put l k xs).map (qC p++·):=by
 unfold put qC
 have:Nat.ble (k+3+xs.length) (l.length+1+1+1)=Nat.ble (k+xs.length) l.length:=by
  rw [show k+3+xs.length=(k+xs.length)+1+1+1 by omega];rfl
 simp only [List.cons_append,List.nil_append,List.length_cons,this,List.take_succ_cons]
 cases Nat.ble (k+xs.length) l.length with
 | true=>
  have e:k+3+xs.length=k+xs.length+1+1+1:=by omega
  simp only [e,List.drop_succ_cons,cond_true,Option.map_some,List.cons_append]
 | false=>rfl
theorem ye4 (p:Rat) (l xs:List AV):put (qC p++l) 3 xs=(put l 0 xs).map (qC p++·):=yhh p l 0 xs
theorem yn9 (p:Rat) (l xs:List AV):put (qC p++l) 6 xs=(put l 3 xs).map (qC p++·):=yhh p l 3 xs
theorem yua (p:Rat) (l xs:List AV):put (qC p++l) 9 xs=(put l 6 xs).map (qC p++·):=yhh p l 6 xs
theorem y128 (z1 z2 z3 z4 z5 z6 z7 z8 z9 z10 z11 z12:AV) (a b c d:Rat):put [z1,z2,z3,z4,z5,z6,z7,z8,z9,z10,z11,z12] 0 (qC a++(qC b++(qC c++qC d)))=some (qC a++(qC b++(qC c++qC d))):=rfl
theorem yyq (a b c d:Rat):CanS (.agg (qC a++(qC b++(qC c++qC d)))):=.agg _ fun x hx=>by
 have h:∀q:Rat,x∈qC q→Canon x:=fun q hx=>by
  unfold qC at hx
  simp only [List.mem_cons,List.not_mem_nil,or_false] at hx
  rcases hx with rfl | rfl | rfl
  ·exact .bool _
  ·exact .sl _
  ·exact .sl _
 simp only [List.mem_append] at hx
 rcases hx with hx | hx | hx | hx<;>exact h _ hx
theorem yby (a:Rat) (ob:Nat→Option AObj) (fz:Nat→Nat):frzS ob fz (.agg (qC a))=some (fz,.agg (qC a)):=(y1j a).frz ob fz
theorem ywa (a b c d:Rat) (ob:Nat→Option AObj) (fz:Nat→Nat):frzS ob fz (.agg (qC a++(qC b++(qC c++qC d))))=some (fz,.agg (qC a++(qC b++(qC c++qC d)))):=(yyq a b c d).frz ob fz
attribute [go_sem ↓] yoi yzw yyy y12q y12b y11y y11z y11j yyw put_z y12z put_q y12p ye4 yn9 yua y128 yby ywa
attribute [go_sem] List.append_nil Option.map_some
end Go.Ev
namespace Go.Ev
section
variable {F:Caller} {rb i fuel:Nat} {r:List AOper} {L:List (Nat×SV)} {ob:Nat→Option AObj} {fz:Nat→Nat} {nx:Nat}
theorem y13a (ops:List AOper) (pm:List (Nat×List (Nat×Opd))) (na:Nat) (ks:List Nat):evC F fuel (.regp ops pm na ks) ⟨env L,ob,fz,nx⟩=regC ks (evP F nx ops pm ⟨env L,ob,fz,nx+na⟩):=by
 simp only [evC]
 cases evP F nx ops pm ⟨env L,ob,fz,nx+na⟩<;>rfl
def onP (F:Caller) (rb:Nat) (aos:List AOper) (r:List (Nat×List (Nat×Opd))) (st:St) (ks:List (Nat×Opd)):Option St→Option St
 | some st'=>bif keepOk st st' ks then evP F rb aos r st' else none
 | none=>none
def pickP (F:Caller) (rb j:Nat) (aos:List AOper) (r:List (Nat×List (Nat×Opd))) (st:St) (ks:List (Nat×Opd)):Option AOper→Option St
 | some o=>onP F rb aos r st ks (evOps F true rb j [o] st)
 | none=>none
theorem p_nil (aos:List AOper) (st:St):evP F rb aos [] st=some st:=Eq.trans rfl rfl
theorem y13f (aos:List AOper) (j:Nat) (ks:List (Nat×Opd)) (r:List (Nat×List (Nat×Opd))) (st:St):evP F rb aos ((j,ks)::r) st=pickP F rb j aos r st ks aos[j]? :=by
 rw [evP]
 cases aos[j]? with
 | none=>rfl
 | some o=>
  simp only [pickP,evOps]
  cases evO F true rb j o st<;>rfl
theorem yum (j:Nat) (aos:List AOper) (r:List (Nat×List (Nat×Opd))) (st:St) (ks:List (Nat×Opd)) (o:AOper):pickP F rb j aos r st ks (some o)=onP F rb aos r st ks (evOps F true rb j [o] st):=Eq.trans rfl rfl
theorem yyn (aos:List AOper) (r:List (Nat×List (Nat×Opd))) (st st':St) (ks:List (Nat×Opd)):onP F rb aos r st ks (some st')=bif keepOk st st' ks then evP F rb aos r st' else none:=Eq.trans rfl rfl
theorem yyh (st st':St):keepOk st st' []=true:=Eq.trans rfl rfl
def sameL:Option (List AV)→Option (List AV)→Bool
 | some x,some y=>same2 (sameA DEPTH) x y
 | _,_=>false
theorem yue (L':List (Nat×SV)) (ob':Nat→Option AObj) (fz':Nat→Nat) (nx' n:Nat) (a:Opd) (r:List (Nat×Opd)):keepOk ⟨env L,ob,fz,nx⟩ ⟨env L',ob',fz',nx'⟩ ((n,a)::r)=(sameL (loadAt ob n (a.ev (env L))) (loadAt ob' n (a.ev (env L)))&&keepOk ⟨env L,ob,fz,nx⟩ ⟨env L',ob',fz',nx'⟩ r):=by
 rw [keepOk]
 cases loadAt ob n (a.ev (env L)) with
 | none=>rfl
 | some x=>cases loadAt ob' n (a.ev (env L))<;>rfl
theorem yrz (x y:List AV):sameL (some x) (some y)=same2 (sameA DEPTH) x y:=Eq.trans rfl rfl
end
theorem ya1 {α:Type} {f:α→α→Bool}:∀(l:List α),(∀x∈l,f x x=true)→same2 f l l=true
 | [],_=>rfl
 | x::r,h=>by rw [same2,h x (by simp),ya1 r (fun y hy=>h y (by simp [hy]))];rfl
theorem yun (d:Nat) (k:IntKind) (n:Int):sameA (d+1) (.int k n) (.int k n)=true:=by simp [sameA]
theorem yrj (d:Nat) (b:Bool):sameA (d+1) (.bool b) (.bool b)=true:=by simp [sameA]
theorem yhf (d n:Nat):sameA (d+2) (.sl false (natE (Go.Dig.digs B32 n))) (.sl false (natE (Go.Dig.digs B32 n)))=true:=by
 rw [sameA,Bool.and_eq_true]
 refine ⟨rfl,ya1 _ fun e he=>ya1 _ fun x hx=> ?_⟩
 unfold natE at he
 obtain ⟨z,-,rfl⟩:=List.mem_map.1 he
 simp only [List.mem_singleton] at hx
 subst hx
 exact yun _ _ _
theorem yzz (q:Rat):same2 (sameA DEPTH) (qC q) (qC q)=true:=by
 refine ya1 _ fun x hx=> ?_
 unfold qC natV at hx
 simp only [List.mem_cons,List.not_mem_nil,or_false] at hx
 rcases hx with rfl | rfl | rfl
 ·exact yrj _ _
 ·exact yhf _ _
 ·exact yhf _ _
attribute [go_sem] y13a p_nil y13f yum yyn yyh yue yrz yzz
def cutAt:Nat→ACode→ACode→ACode
 | 0,_,t=>t
 | n+1,.seq a b,t=>.seq a (cutAt n b t)
 | _+1,c,_=>c
def tailAt:Nat→ACode→ACode
 | 0,c=>c
 | n+1,.seq _ b=>tailAt n b
 | _+1,_=>.skip
def LQ (q:Rat) (c:List AV):Prop:=c=qC q∨q=0∧c=[.bool false,.nils,.nils]
theorem LQ.of (q:Rat):LQ q (qC q):=.inl rfl
theorem LQ.sub {q:Rat} {c:List AV} (h:LQ q c):Ev.sub c 0 3=some c:=by
 rcases h with rfl | ⟨-,rfl⟩<;>rfl
theorem LQ.put {q:Rat} {c:List AV} (h:LQ q c) (x:Rat):Ev.put c 0 (qC x)=some (qC x):=by
 rcases h with rfl | ⟨-,rfl⟩<;>rfl
theorem LQ.len {q:Rat} {c:List AV} (h:LQ q c):c.length=3:=by
 rcases h with rfl | ⟨-,rfl⟩<;>rfl
end Go.Ev
namespace Go.Ev
theorem y101 (q:Rat):∃a b c d,rC q=[a,b,c,d]:=⟨_,_,_,_,rC_eq q⟩
theorem y5q (q:Rat):(rC q).length=4:=by obtain ⟨a,b,c,d,e⟩:=y101 q;rw [e];rfl
theorem y8b {X l:List AV} {K:Nat} (h:X.length=K):sub (X++l) 0 K=some X:=by
 subst h
 unfold sub
 have:Nat.ble (0+X.length) (X++l).length=true:=by simp
 rw [this,cond_true,List.drop_zero,List.take_left' rfl]
theorem y6f {X l:List AV} {K:Nat} (h:X.length=K) (k n:Nat):sub (X++l) (k+K) n=sub l k n:=by
 subst h
 unfold sub
 have:Nat.ble (k+X.length+n) (X++l).length=Nat.ble (k+n) l.length:=by
  rw [Bool.eq_iff_iff];simp;omega
 rw [this,show k+X.length=X.length+k by omega,List.drop_append,List.drop_of_length_le (by omega),List.nil_append,Nat.add_sub_cancel_left]
theorem y8v {X l:List AV} {K:Nat} (h:X.length=K) (k:Nat) (xs:List AV):put (X++l) (k+K) xs=(put l k xs).map (X++·):=by
 subst h
 unfold put
 have:Nat.ble (k+X.length+xs.length) (X++l).length=Nat.ble (k+xs.length) l.length:=by
  rw [Bool.eq_iff_iff];simp;omega
 rw [this]
 cases Nat.ble (k+xs.length) l.length with
 | true=>
  rw [cond_true,cond_true,Option.map_some]
  have e1:(X++l).take (k+X.length)=X++l.take k:=by rw [show k+X.length=X.length+k by omega,List.take_append,List.take_of_length_le (by omega),Nat.add_sub_cancel_left]
  have e2:(X++l).drop (k+X.length+xs.length)=l.drop (k+xs.length):=by rw [show k+X.length+xs.length=X.length+(k+xs.length) by omega,List.drop_append,List.drop_of_length_le (by omega),List.nil_append,Nat.add_sub_cancel_left]
  rw [e1,e2];simp
 | false=>rfl
theorem y64 {X xs:List AV} (h:X.length=xs.length):put X 0 xs=some xs:=by
 unfold put
 have:Nat.ble (0+xs.length) X.length=true:=by simp [h]
 rw [this,cond_true,List.take_zero,List.nil_append,List.drop_of_length_le (by omega),List.append_nil]
theorem yad {X l xs:List AV} (h:X.length=xs.length):put (X++l) 0 xs=some (xs++l):=by
 unfold put
 have:Nat.ble (0+xs.length) (X++l).length=true:=by simp [h]
 rw [this,cond_true,List.take_zero,List.nil_append]
 have:(X++l).drop (0+xs.length)=l:=by rw [Nat.zero_add,←h];simp
 rw [this]
theorem ynf (a:Rat):sub (rC a) 0 4=some (rC a):=by have:=y8b (l:=[]) (y5q a);rwa [List.append_nil] at this
theorem yiz (a:Rat) (l:List AV):sub (rC a++l) 0 4=some (rC a):=y8b (y5q a)
theorem yip (a:Rat) (l:List AV) (n:Nat):sub (rC a++l) 4 n=sub l 0 n:=y6f (y5q a) 0 n
theorem ymr (a:Rat) (l:List AV) (n:Nat):sub (rC a++l) 8 n=sub l 4 n:=y6f (y5q a) 4 n
theorem ypt (a:Rat) (l:List AV) (n:Nat):sub (rC a++l) 12 n=sub l 8 n:=y6f (y5q a) 8 n
theorem yex (a b c d:Rat):(rC a++(rC b++(rC c++rC d))).length=16:=by simp [y5q]
theorem yz0 (a b c d:Rat):sub (rC a++(rC b++(rC c++rC d))) 0 16=some (rC a++(rC b++(rC c++rC d))):=by
 have:=y8b (l:=[]) (yex a b c d);rwa [List.append_nil] at this
theorem put_w (x y z w:AV) (l:List AV) (q:Rat):put (x::y::z::w::l) 0 (rC q)=some (rC q++l):=yad (X:=[x,y,z,w]) (y5q q).symm
theorem yv6 (x y z w:AV) (q:Rat):put [x,y,z,w] 0 (rC q)=some (rC q):=y64 (y5q q).symm
theorem yi1 (p:Rat) (l xs:List AV):put (rC p++l) 4 xs=(put l 0 xs).map (rC p++·):=y8v (y5q p) 0 xs
theorem ym5 (p:Rat) (l xs:List AV):put (rC p++l) 8 xs=(put l 4 xs).map (rC p++·):=y8v (y5q p) 4 xs
theorem ypx (p:Rat) (l xs:List AV):put (rC p++l) 12 xs=(put l 8 xs).map (rC p++·):=y8v (y5q p) 8 xs
theorem y13w (p q:Rat):put (rC p) 0 (rC q)=some (rC q):=y64 (by rw [y5q,y5q])
theorem y13i (z1 z2 z3 z4 z5 z6 z7 z8 z9 z10 z11 z12 z13 z14 z15 z16:AV) (a b c d:Rat):put [z1,z2,z3,z4,z5,z6,z7,z8,z9,z10,z11,z12,z13,z14,z15,z16] 0 (rC a++(rC b++(rC c++rC d)))=some (rC a++(rC b++(rC c++rC d))):=y64 (yex a b c d).symm
theorem yjc (a:Rat):∀x∈rC a,Canon x:=fun x hx=>by
 rw [rC_eq] at hx
 simp only [List.mem_cons,List.not_mem_nil,or_false] at hx
 rcases hx with rfl | rfl | rfl | rfl
 ·exact .bool _
 ·exact .sl _
 ·exact .bool _
 ·exact .sl _
theorem yqc (a:Rat) (ob:Nat→Option AObj) (fz:Nat→Nat):frzS ob fz (.agg (rC a))=some (fz,.agg (rC a)):=(CanS.agg _ (yjc a)).frz ob fz
theorem y105 (a b c d:Rat):CanS (.agg (rC a++(rC b++(rC c++rC d)))):=.agg _ fun x hx=>by
 simp only [List.mem_append] at hx
 rcases hx with hx | hx | hx | hx<;>exact yjc _ _ hx
theorem yxj (a b c d:Rat) (ob:Nat→Option AObj) (fz:Nat→Nat):frzS ob fz (.agg (rC a++(rC b++(rC c++rC d))))=some (fz,.agg (rC a++(rC b++(rC c++rC d)))):=(y105 a b c d).frz ob fz
theorem Num.len (x:Num):x.c.length=3:=rfl
theorem y11s (x:Num):sub x.c 0 3=some x.c:=by have:=y8b (l:=[]) x.len;rwa [List.append_nil] at this
theorem y13y (x:Num) (l:List AV):sub (x.c++l) 0 3=some x.c:=y8b x.len
theorem y117 (x:Num) (l:List AV) (n:Nat):sub (x.c++l) 3 n=sub l 0 n:=y6f x.len 0 n
theorem y114 (x:Num) (l:List AV) (n:Nat):sub (x.c++l) 6 n=sub l 3 n:=y6f x.len 3 n
theorem y13n (x:Num) (l:List AV) (n:Nat):sub (x.c++l) 9 n=sub l 6 n:=y6f x.len 6 n
theorem y111 (x:Num) (l:List AV) (n:Nat):sub (x.c++l) 12 n=sub l 9 n:=y6f x.len 9 n
theorem yyo (x:Num) (l:List AV) (n:Nat):sub (x.c++l) 15 n=sub l 12 n:=y6f x.len 12 n
theorem y10p (x:Num) (l:List AV) (n:Nat):sub (x.c++l) 18 n=sub l 15 n:=y6f x.len 15 n
theorem yzt (x:Num) (l:List AV) (n:Nat):sub (x.c++l) 19 n=sub l 16 n:=y6f x.len 16 n
theorem y7p (x:Num):∀y∈x.c,Canon y:=fun y hy=>by
 unfold Num.c at hy
 simp only [List.mem_cons,List.not_mem_nil,or_false] at hy
 rcases hy with rfl | rfl | rfl<;>exact .int _ _
theorem ywb (x:Num) (ob:Nat→Option AObj) (fz:Nat→Nat):frzS ob fz (.agg x.c)=some (fz,.agg x.c):=(CanS.agg _ (y7p x)).frz ob fz
attribute [go_sem ↓] y5q yex ynf yiz yip ymr ypt yz0 put_w yv6 yi1 ym5 ypx y13w y13i yqc yxj Num.len y11s y13y y117 y114 y13n y111 yyo y10p yzt ywb
def tup6:Option SV→Option SV→Option SV→Option SV→Option SV→Option SV→Option SV
 | some a,some b,some c,some d,some e,some f=>some (.tup [a,b,c,d,e,f])
 | _,_,_,_,_,_=>none
theorem yta (a b c d e f:SV):tup6 (some a) (some b) (some c) (some d) (some e) (some f)=some (.tup [a,b,c,d,e,f]):=Eq.trans rfl rfl
theorem resAll6 (st:St) (a b c d e f:ARes):resAll st [a,b,c,d,e,f]=tup6 (resOf st a) (resOf st b) (resOf st c) (resOf st d) (resOf st e) (resOf st f):=by
 simp only [resAll,List.mapM_cons,List.mapM_nil]
 cases resOf st a<;>cases resOf st b<;>cases resOf st c<;>cases resOf st d<;>cases resOf st e<;>cases resOf st f<;>rfl
attribute [go_sem] resAll6 yta
theorem cBoth (x:Num):Calling Id.y0m [.agg x.c] (.tup [.agg (qC x.q),.agg (rC x.q)]):=
 (Ends.of _ fun hn=>yw2 x hn).call (can1 (.agg _ (y7p x)))
theorem Jt.len (j:Jt):j.c.length=19:=by unfold Jt.c;simp [Num.len]
end Go.Ev
namespace Go.Ev
open Go.Dig
theorem yzh (a b:Nat):(a=a+b)=(b=0):=by rw [eq_iff_iff];omega
theorem y10g (a b:Nat):(a+b=a)=(b=0):=by rw [eq_iff_iff];omega
theorem yzi (a b c:Nat):(a+b<a+c)=(b<c):=by rw [eq_iff_iff];omega
attribute [go_sem] yzh y10g yzi
def CanL (l:List AV):Prop:=∀x∈l,Canon x
theorem CanL.nil:CanL []:=fun _ h=>by simp at h
theorem CanL.cons {x:AV} {l:List AV} (h:Canon x) (hl:CanL l):CanL (x::l):=fun y hy=>by
 rcases List.mem_cons.1 hy with rfl | e
 ·exact h
 ·exact hl y e
theorem CanL.app {l m:List AV} (h:CanL l) (hm:CanL m):CanL (l++m):=fun y hy=>by
 rcases List.mem_append.1 hy with e | e
 ·exact h y e
 ·exact hm y e
theorem CanL.q (q:Rat):CanL (qC q):=.cons (.bool _) (.cons (.sl _) (.cons (.sl _) .nil))
theorem CanL.r (q:Rat):CanL (rC q):=yjc q
theorem CanL.num (x:Num):CanL x.c:=y7p x
theorem yg1 {α:Type} {f:FuncId} {a:α→List SV} {r:α→SV} (h:∀x,Calling f (a x) (r x)):∀(l:List α),∃N,∀n,N≤n→∀x∈l,∀(ob:Nat→Option AObj) (fz:Nat→Nat),callV (evF E n) f (a x) ob fz=some (.fzd fz (r x))
 | []=>⟨0,fun _ _ _ h=>by simp at h⟩
 | x::l=>by
  obtain ⟨N1,h1⟩:=h x
  obtain ⟨N2,h2⟩:=yg1 h l
  refine ⟨N1+N2,fun n hn y hy=> ?_⟩
  rcases List.mem_cons.1 hy with rfl | e
  ·exact h1 n (by omega)
  ·exact h2 n (by omega) y e
def OutE (sz:Nat) (ob:Nat→Option AObj) (nx:Nat) (x:AV) (es:List (List AV)):Prop:=
 (es=[]∧x=.nils)∨∃id ver,x=.rsl id ver sz 0 es.length false∧ob id=some (.row sz es ver)∧id<nx
theorem OutE.frzD {sz:Nat} {ob:Nat→Option AObj} {nx:Nat} {x:AV} {es:List (List AV)} (h:OutE sz ob nx x es) (hc:CanonEs es):∃g:(Nat→Nat)→(Nat→Nat),∀fz,frz ob DEPTH fz x=some (g fz,.sl false es):=by
 rcases h with ⟨rfl,rfl⟩ | ⟨id,ver,rfl,hid,_⟩
 ·exact ⟨fun fz=>fz,fun fz=>rfl⟩
 ·refine ⟨fun fz=>raise fz id (0+es.length),fun fz=> ?_⟩
  have hb:Nat.ble (0+es.length) es.length=true:=by simp
  rw [show DEPTH=6+1+1 from rfl,y94,y46 hid]
  simp only [hb,cond_true,List.drop_zero,List.take_length]
  rw [hc.frz ob 6]
theorem OutE.frz {sz:Nat} {ob:Nat→Option AObj} {nx:Nat} {x:AV} {es:List (List AV)} (h:OutE sz ob nx x es) (hc:CanonEs es):∃g:(Nat→Nat)→(Nat→Nat),∀fz,frzS ob fz (.one x)=some (g fz,.one (.sl false es)):=by
 obtain ⟨g,hg⟩:=h.frzD hc
 exact ⟨g,fun fz=>by simp only [frzS,hg]⟩
def Two (ob:Nat→Option AObj) (nx sz sz' i:Nat) (x y:AV) (es fs:List (List AV)):Prop:=
 es.length=i∧fs.length=i∧((es=[]∧fs=[]∧x=.nils∧y=.nils)∨∃a va b vb,x=.rsl a va sz 0 i false∧y=.rsl b vb sz' 0 i false∧ob a=some (.row sz es va)∧ob b=some (.row sz' fs vb)∧a<nx∧b<nx∧a≠b)
theorem Two.fst {ob:Nat→Option AObj} {nx sz sz' i:Nat} {x y:AV} {es fs:List (List AV)} (h:Two ob nx sz sz' i x y es fs):OutE sz ob nx x es:=by
 obtain ⟨h1,h2,⟨e1,e2,e3,e4⟩ | ⟨a,va,b,vb,e1,e2,e3,e4,e5,e6,e7⟩⟩:=h
 ·exact .inl ⟨e1,e3⟩
 ·exact .inr ⟨a,va,by rw [h1];exact e1,e3,e5⟩
theorem Two.snd {ob:Nat→Option AObj} {nx sz sz' i:Nat} {x y:AV} {es fs:List (List AV)} (h:Two ob nx sz sz' i x y es fs):OutE sz' ob nx y fs:=by
 obtain ⟨h1,h2,⟨e1,e2,e3,e4⟩ | ⟨a,va,b,vb,e1,e2,e3,e4,e5,e6,e7⟩⟩:=h
 ·exact .inl ⟨e2,e4⟩
 ·exact .inr ⟨b,vb,by rw [h2];exact e2,e4,e6⟩
theorem y4z {ob:Nat→Option AObj} {id q ver:Nat} {y:AObj} (h:id≠q):rowAt (upd ob q y) id ver=rowAt ob id ver:=by
 unfold rowAt
 rw [y00 h]
theorem yar {α:Type} {f:α→List AV} {k:Nat} (h:∀a,(f a).length=k) (l:List α):okSz k (l.map f)=true:=by
 cases l with
 | nil=>rfl
 | cons a r=>simp [okSz,h]
section
variable {fz:Nat→Nat}
end
end Go.Ev
namespace Go.Ev
open Go.Dig
section
variable {F:Caller} {fuel:Nat} {fz:Nat→Nat}
set_option maxRecDepth 100000 in
theorem yrq {ob:Nat→Option AObj} {nx:Nat} (ds es:List Nat) (i c s:Nat) (hs:ds.length<2^40) (hs':es.length<2^40) (hd:∀d∈ds,d<BT) (he:∀d∈es,d<BT) (hc:c≤1) (hcond:i<ds.length∨i<es.length∨0<c) (hi:i≤2^40) (o:List Nat) (hol:o.length=i) (x:AV) (hO:OutR ob nx x o) (hsum:c+ds.getD i 0+es.getD i 0=s) (X:List (Nat×SV)):∃(x':AV) (ob':Nat→Option AObj),
  evC F fuel Fn.y2a ⟨env ((0,.one (.sl false (intE ds)))::(1,.one (.sl false (intE es)))::(5,.one x)::(6,.one (.int .i64 (c:Int)))::(7,.one (.int .i64 (i:Int)))::X),ob,fz,nx⟩=
   some (.nrm,⟨env [(0,.one (.sl false (intE ds))),(1,.one (.sl false (intE es))),(5,.one x'),(6,.one (.int .i64 ((s / 10000:Nat):Int))),(7,.one (.int .i64 ((i+1:Nat):Int)))],ob',fz,nx+6⟩)∧OutR ob' (nx+6) x' (o++[s%10000]):=by
 have wk:IntKind.i64.wrap ((i+1:Nat):Int)=((i+1:Nat):Int):=wi64 (by omega)
 have c0:c=0∨c=1:=by omega
 have hz:((10000:Int)=0)=False:=by simp
 have gc:(((c:Nat):Int)>0)=(0<c):=by rw [eq_iff_iff];omega
 by_cases h1:i<ds.length
 ·have ge1:ds[i]? =some ds[i]:=by simp
  have hx:ds[i]<10000:=hd _ (by simp)
  have e1:ds.getD i 0=ds[i]:=by rw [List.getD,ge1];rfl
  have g1:(((i:Nat):Int)<((ds.length:Nat):Int))=True:=by simp;omega
  rw [e1] at hsum
  generalize ds[i]=xd at*
  by_cases h2:i<es.length
  ·have ge2:es[i]? =some es[i]:=by simp
   have hy:es[i]<10000:=he _ (by simp)
   have e2:es.getD i 0=es[i]:=by rw [List.getD,ge2];rfl
   have g2:(((i:Nat):Int)<((es.length:Nat):Int))=True:=by simp;omega
   rw [e2] at hsum
   generalize es[i]=y at*
   have w1:IntKind.i64.wrap ((c:Int)+(xd:Int))=((c+xd:Nat):Int):=by rw [wrap_i64 (by omega)];omega
   have w2:IntKind.i64.wrap (((c+xd:Nat):Int)+(y:Int))=(s:Int):=by rw [wrap_i64 (by omega)];omega
   have t1:=tmodT s
   have t2:=tdivT s (by omega)
   generalize hd0:s%10000=d at*
   rcases hO with ⟨rfl,rfl⟩ | ⟨id,ver,rfl,hid,hlt'⟩
   ·refine ⟨_,_, ?_,y83 ob (nx+3) (nx+4) d _ (by omega) (.row 1 [[AV.int .i64 (d:Int)]] 0)⟩
    simp only [go_sem,beq_self_eq_true,Fn.y2a,g1,g2,gc,add1,wk,okSz,ROOM,Nat.reduceBEq,hz,t1,t2,w1,w2,ge1,ge2]
   ·have hl8:(o.length+1)*8≤140737488355328:=by omega
    have hrow:=y66 hid (show id≠nx+3 by omega) (.row 1 [[AV.int .i64 (d:Int)]] 0)
    refine ⟨_,_, ?_,y87 (ob:=ob) (id:=id) (ver:=ver) (q:=nx+3) (d:=d) (nx':=nx+6) (by omega) (.row 1 [[AV.int .i64 (d:Int)]] 0)⟩
    simp only [go_sem,beq_self_eq_true,Fn.y2a,g1,g2,gc,add1,wk,okSz,ROOM,Nat.reduceBEq,hz,t1,t2,w1,w2,ge1,ge2,hrow,hl8,y6u]
  ·have e2:es.getD i 0=0:=by rw [List.getD,List.getElem?_eq_none (by omega)];rfl
   have g2:(((i:Nat):Int)<((es.length:Nat):Int))=False:=by simp;omega
   rw [e2] at hsum
   have w1:IntKind.i64.wrap ((c:Int)+(xd:Int))=(s:Int):=by rw [wrap_i64 (by omega)];omega
   have t1:=tmodT s
   have t2:=tdivT s (by omega)
   generalize hd0:s%10000=d at*
   rcases hO with ⟨rfl,rfl⟩ | ⟨id,ver,rfl,hid,hlt'⟩
   ·refine ⟨_,_, ?_,y83 ob (nx+3) (nx+4) d _ (by omega) (.row 1 [[AV.int .i64 (d:Int)]] 0)⟩
    simp only [go_sem,beq_self_eq_true,Fn.y2a,g1,g2,gc,add1,wk,okSz,ROOM,Nat.reduceBEq,hz,t1,t2,w1,ge1]
   ·have hl8:(o.length+1)*8≤140737488355328:=by omega
    have hrow:=y66 hid (show id≠nx+3 by omega) (.row 1 [[AV.int .i64 (d:Int)]] 0)
    refine ⟨_,_, ?_,y87 (ob:=ob) (id:=id) (ver:=ver) (q:=nx+3) (d:=d) (nx':=nx+6) (by omega) (.row 1 [[AV.int .i64 (d:Int)]] 0)⟩
    simp only [go_sem,beq_self_eq_true,Fn.y2a,g1,g2,gc,add1,wk,okSz,ROOM,Nat.reduceBEq,hz,t1,t2,w1,ge1,hrow,hl8,y6u]
 ·have e1:ds.getD i 0=0:=by rw [List.getD,List.getElem?_eq_none (by omega)];rfl
  have g1:(((i:Nat):Int)<((ds.length:Nat):Int))=False:=by simp;omega
  rw [e1] at hsum
  by_cases h2:i<es.length
  ·have ge2:es[i]? =some es[i]:=by simp
   have hy:es[i]<10000:=he _ (by simp)
   have e2:es.getD i 0=es[i]:=by rw [List.getD,ge2];rfl
   have g2:(((i:Nat):Int)<((es.length:Nat):Int))=True:=by simp;omega
   rw [e2] at hsum
   generalize es[i]=y at*
   have w1:IntKind.i64.wrap ((c:Int)+(y:Int))=(s:Int):=by rw [wrap_i64 (by omega)];omega
   have t1:=tmodT s
   have t2:=tdivT s (by omega)
   generalize hd0:s%10000=d at*
   rcases hO with ⟨rfl,rfl⟩ | ⟨id,ver,rfl,hid,hlt'⟩
   ·refine ⟨_,_, ?_,y83 ob (nx+3) (nx+4) d _ (by omega) (.row 1 [[AV.int .i64 (d:Int)]] 0)⟩
    simp only [go_sem,beq_self_eq_true,Fn.y2a,g1,g2,gc,add1,wk,okSz,ROOM,Nat.reduceBEq,hz,t1,t2,w1,ge2]
   ·have hl8:(o.length+1)*8≤140737488355328:=by omega
    have hrow:=y66 hid (show id≠nx+3 by omega) (.row 1 [[AV.int .i64 (d:Int)]] 0)
    refine ⟨_,_, ?_,y87 (ob:=ob) (id:=id) (ver:=ver) (q:=nx+3) (d:=d) (nx':=nx+6) (by omega) (.row 1 [[AV.int .i64 (d:Int)]] 0)⟩
    simp only [go_sem,beq_self_eq_true,Fn.y2a,g1,g2,gc,add1,wk,okSz,ROOM,Nat.reduceBEq,hz,t1,t2,w1,ge2,hrow,hl8,y6u]
  ·have e2:es.getD i 0=0:=by rw [List.getD,List.getElem?_eq_none (by omega)];rfl
   have g2:(((i:Nat):Int)<((es.length:Nat):Int))=False:=by simp;omega
   rw [e2] at hsum
   have e:c=s:=by omega
   have p1:0<s:=by omega
   subst e
   have t1:=tmodT c
   have t2:=tdivT c (by omega)
   have p0:(0<c)=True:=by simp;omega
   generalize hd0:c%10000=d at*
   rcases hO with ⟨rfl,rfl⟩ | ⟨id,ver,rfl,hid,hlt'⟩
   ·refine ⟨_,_, ?_,y83 ob (nx+3) (nx+4) d _ (by omega) (.row 1 [[AV.int .i64 (d:Int)]] 0)⟩
    simp only [go_sem,beq_self_eq_true,Fn.y2a,g1,g2,gc,add1,wk,okSz,ROOM,Nat.reduceBEq,hz,t1,t2,p0]
   ·have hl8:(o.length+1)*8≤140737488355328:=by omega
    have hrow:=y66 hid (show id≠nx+3 by omega) (.row 1 [[AV.int .i64 (d:Int)]] 0)
    refine ⟨_,_, ?_,y87 (ob:=ob) (id:=id) (ver:=ver) (q:=nx+3) (d:=d) (nx':=nx+6) (by omega) (.row 1 [[AV.int .i64 (d:Int)]] 0)⟩
    simp only [go_sem,beq_self_eq_true,Fn.y2a,g1,g2,gc,add1,wk,okSz,ROOM,Nat.reduceBEq,hz,t1,t2,p0,hrow,hl8,y6u]
end
end Go.Ev
namespace Go.Ev
open Go.Dig
section
variable {F:Caller} {fuel:Nat} {fz:Nat→Nat}
def PlusEnd (M v:Nat) (o:List Nat):Prop:=(∀d∈o,d<BT)∧val BT o=v∧(o.length=M∨(o.length=M+1∧BT^M≤v))
theorem yo4 (es:List Nat) (i:Nat):val BT (es.take (i+1))=val BT (es.take i)+BT^i*es.getD i 0:=by
 rw [List.take_add_one,List.getD]
 cases h:es[i]? with
 | none=>simp only [Option.toList_none,List.append_nil,Option.getD_none,Nat.mul_zero,Nat.add_zero]
 | some y=>
  have hl:i<es.length:=(List.getElem?_eq_some_iff.1 h).1
  rw [Option.toList_some,y0f,List.length_take,Nat.min_eq_left (by omega)]
  rfl
theorem ykm {ob:Nat→Option AObj} {nx:Nat} (ds es:List Nat) (i:Nat) (h1:¬i<ds.length) (h2:¬i<es.length) (x:AV) (X:List (Nat×SV)) (N:Nat) (hN:0<N):∃X',loopN (evC F fuel Fn.y2a) N ⟨env ((0,.one (.sl false (intE ds)))::(1,.one (.sl false (intE es)))::(5,.one x)::(6,.one (.int .i64 0))::(7,.one (.int .i64 (i:Int)))::X),ob,fz,nx⟩=
   some (.ext 0,⟨env ((0,.one (.sl false (intE ds)))::(1,.one (.sl false (intE es)))::(5,.one x)::X'),ob,fz,nx⟩):=by
 obtain ⟨N,rfl⟩:∃k,N=k+1:=⟨N-1,by omega⟩
 have g1:(((i:Nat):Int)<((ds.length:Nat):Int))=False:=by simp;omega
 have g2:(((i:Nat):Int)<((es.length:Nat):Int))=False:=by simp;omega
 have g3:((0:Int)>0)=False:=by simp
 refine ⟨[(6,.one (.int .i64 0)),(7,.one (.int .i64 (i:Int))),(21,.one (.bool false))],y09 ?_⟩
 simp only [go_sem,beq_self_eq_true,Fn.y2a,g1,g2,g3]
theorem ykx (ds es:List Nat) (M:Nat) (hM1:ds.length≤M) (hM2:es.length≤M) (hM:M=ds.length∨M=es.length) (hs:M<2^39) (hd:∀d∈ds,d<BT) (he:∀d∈es,d<BT):∀(m i:Nat),i+m=M+1→∀(ob:Nat→Option AObj) (nx c:Nat) (o:List Nat) (x:AV) (X:List (Nat×SV)),c≤1→o.length=i→(∀d∈o,d<BT)→OutR ob nx x o→val BT o+BT^i*c=val BT (ds.take i)+val BT (es.take i)→(i=M+1→c=0∧BT^M≤val BT o)→∀N,m<N→
  ∃(o':List Nat) (x':AV) (ob':Nat→Option AObj) (nx':Nat) (X':List (Nat×SV)),loopN (evC F fuel Fn.y2a) N ⟨env ((0,.one (.sl false (intE ds)))::(1,.one (.sl false (intE es)))::(5,.one x)::(6,.one (.int .i64 (c:Int)))::(7,.one (.int .i64 (i:Int)))::X),ob,fz,nx⟩=
   some (.ext 0,⟨env ((0,.one (.sl false (intE ds)))::(1,.one (.sl false (intE es)))::(5,.one x')::X'),ob',fz,nx'⟩)∧OutR ob' nx' x' o'∧PlusEnd M (val BT ds+val BT es) o'
 | 0,i,hi,ob,nx,c,o,x,X,hc,hol,hod,hO,hinv,hlast,N,hN=>by
  obtain ⟨rfl,hv⟩:=hlast (by omega)
  obtain ⟨X',hX⟩:=ykm (F:=F) (fuel:=fuel) (fz:=fz) (ob:=ob) (nx:=nx) ds es i (by omega) (by omega) x X N (by omega)
  rw [List.take_of_length_le (by omega),List.take_of_length_le (by omega),Nat.mul_zero,Nat.add_zero] at hinv
  exact ⟨o,x,ob,nx,X',hX,hO,hod,hinv,.inr ⟨by omega,by rw [←hinv];exact hv⟩⟩
 | m+1,i,hi,ob,nx,c,o,x,X,hc,hol,hod,hO,hinv,hlast,N,hN=>by
  by_cases hcond:i<ds.length∨i<es.length∨0<c
  ·obtain ⟨s,hsum⟩:∃s,c+ds.getD i 0+es.getD i 0=s:=⟨_,rfl⟩
   obtain ⟨x',ob',hst,hO'⟩:=yrq (F:=F) (fuel:=fuel) (fz:=fz) ds es i c s (by omega) (by omega) hd he hc hcond (by omega) o hol x hO hsum X
   obtain ⟨N,rfl⟩:∃k,N=k+1:=⟨N-1,by omega⟩
   rw [y0c hst]
   have hx:ds.getD i 0<10000:=by
    rw [List.getD]
    cases h:ds[i]? with
    | none=>simp
    | some y=>exact hd y (List.mem_of_getElem? h)
   have hy:es.getD i 0<10000:=by
    rw [List.getD]
    cases h:es[i]? with
    | none=>simp
    | some y=>exact he y (List.mem_of_getElem? h)
   have hBT:BT=10000:=rfl
   have hs1:s%10000+10000*(s / 10000)=s:=Nat.mod_add_div s 10000
   have e1:val BT (o++[s%10000])+BT^(i+1)*(s / 10000)=val BT (ds.take (i+1))+val BT (es.take (i+1)):=by
    rw [yo4,yo4,y0f,hol,Nat.pow_succ]
    have e2:BT^i*(s%10000)+BT^i*BT*(s / 10000)=BT^i*c+BT^i*ds.getD i 0+BT^i*es.getD i 0:=by
     rw [Nat.mul_assoc (BT^i) BT,←Nat.mul_add,←Nat.mul_add,←Nat.mul_add,hsum,hBT,hs1]
    omega
   refine ykx ds es M hM1 hM2 hM hs hd he m (i+1) (by omega) ob' (nx+6) (s / 10000) (o++[s%10000]) x' [] (by omega) (by simp [hol]) ?_ hO' e1 ?_ N (by omega)
   ·intro z hz
    rcases List.mem_append.1 hz with h | h
    ·exact hod z h
    ·simp only [List.mem_cons,List.not_mem_nil,or_false] at h
     rw [h,hBT];omega
   ·intro hiM
    have hiM:i=M:=by omega
    have h1:ds.getD i 0=0:=by rw [List.getD,List.getElem?_eq_none (by omega)];rfl
    have h2:es.getD i 0=0:=by rw [List.getD,List.getElem?_eq_none (by omega)];rfl
    have hc1:c=1:=by omega
    have hs2:s=1:=by omega
    subst hs2
    refine ⟨rfl, ?_⟩
    rw [y0f,hol,hiM]
    show BT^M≤val BT o+BT^M*1
    omega
  ·have hc0:c=0:=by omega
   subst hc0
   obtain ⟨X',hX⟩:=ykm (F:=F) (fuel:=fuel) (fz:=fz) (ob:=ob) (nx:=nx) ds es i (by omega) (by omega) x X N (by omega)
   rw [List.take_of_length_le (by omega),List.take_of_length_le (by omega),Nat.mul_zero,Nat.add_zero] at hinv
   refine ⟨o,x,ob,nx,X',hX,hO,hod,hinv, ?_⟩
   by_cases hiM:i=M+1
   ·exact .inr ⟨by omega,by rw [←hinv];exact (hlast hiM).2⟩
   ·exact .inl (by omega)
end
theorem yxw (o:List Nat) (hd:∀d∈o,d<BT) (hl:o.length≤dlen BT (val BT o)):o=digs BT (val BT o):=by
 have h1:=ya2 BT2 o hd
 have h2:=ybk o
 rw [h1] at h2
 unfold dlen at hl
 rw [List.take_of_length_le hl] at h2
 exact h2
theorem PlusEnd.eq {M a b:Nat} {o:List Nat} (h:PlusEnd M (a+b) o) (hM:M≤dlen BT (a+b)):o=digs BT (a+b):=by
 obtain ⟨hd,hv,hl⟩:=h
 have:=yxw o hd (by
  rw [hv]
  rcases hl with hl | ⟨hl,hb⟩
  ·omega
  ·rw [hl]
   have h1:=y5r BT2 (a+b)
   have h2:BT^M<BT^dlen BT (a+b):=by omega
   exact (Nat.pow_lt_pow_iff_right (by decide)).1 h2)
 rw [hv] at this
 exact this
theorem yti (a b:Nat) (ha:dlen BT a<2^39) (hb:dlen BT b<2^39) {n:Nat} (hn:dlen BT a+dlen BT b+4≤n):evV E (n+1) Id.y3f [.one (zD a),.one (zD b)]=some (.one (zD (a+b))):=by
 rw [y04 yfa]
 obtain ⟨M,hM1,hM2,hM⟩:∃M,dlen BT a≤M∧dlen BT b≤M∧(M=dlen BT a∨M=dlen BT b):=by
  by_cases h:dlen BT a≤dlen BT b
  ·exact ⟨_,h,Nat.le_refl _,.inr rfl⟩
  ·exact ⟨_,Nat.le_refl _,by omega,.inl rfl⟩
 have hMd:M≤dlen BT (a+b):=by
  rcases hM with h | h
  ·rw [h];exact y4s BT2 (Nat.le_add_right a b)
  ·rw [h];exact y4s BT2 (Nat.le_add_left b a)
 unfold dlen at ha hb hn hM1 hM2 hM
 obtain ⟨o',x',ob',nx',X',hloop,h1,h2⟩:=ykx (F:=evF E n) (fuel:=n) (fz:=fz0) (digs BT a) (digs BT b) M hM1 hM2 hM (by omega) (y1o BT2 a) (y1o BT2 b) (M+1) 0 (by omega) ob0 0 0 [] .nils [] (by omega) rfl (fun _ h=>by simp at h) (.inl ⟨rfl,rfl⟩) (by simp [val]) (by omega) n (by omega)
 rw [y14 BT2,y14 BT2] at h2
 have ho:=h2.eq hMd
 subst ho
 obtain ⟨fz',hfz⟩:=ynk h1 fz0
 rw [show ((0:Nat):Int)=0 from rfl] at hloop
 unfold zD
 simp only [go_sem,beq_self_eq_true,Fn.y3f,hloop,hfz]
theorem ylj (a b:Int) (h:decide (a<0)=decide (b<0)):sgn (decide (a<0)) (a.natAbs+b.natAbs)=a+b:=by
 unfold sgn
 by_cases ha:a<0
 ·have hb:b<0:=by rw [decide_eq_true ha] at h;exact of_decide_eq_true h.symm
  rw [decide_eq_true ha,if_pos rfl];omega
 ·have hb:¬b<0:=by rw [decide_eq_false ha] at h;exact of_decide_eq_false h.symm
  rw [decide_eq_false ha,if_neg (by simp)];omega
theorem yd8 (a b:Int) (h:decide (a<0)≠decide (b<0)) (hab:b.natAbs≤a.natAbs):sgn (decide (a<0)) (a.natAbs-b.natAbs)=a+b:=by
 unfold sgn
 by_cases ha:a<0
 ·have hb:¬b<0:=fun hb=>h (by rw [decide_eq_true ha,decide_eq_true hb])
  rw [decide_eq_true ha,if_pos rfl];omega
 ·have hb:b<0:=Decidable.byContradiction fun hb=>h (by rw [decide_eq_false ha,decide_eq_false hb])
  rw [decide_eq_false ha,if_neg (by simp)];omega
theorem yjh (a b:Int) (h:decide (a<0)≠decide (b<0)) (hab:a.natAbs≤b.natAbs):sgn (decide (b<0)) (b.natAbs-a.natAbs)=a+b:=by
 rw [yd8 b a (fun e=>h e.symm) hab,Int.add_comm]
theorem ydr (a b:Int) (ha:dlen BT a.natAbs<2^38) (hb:dlen BT b.natAbs<2^38) {n:Nat} (hn:dlen BT a.natAbs+dlen BT b.natAbs+8≤n):evV E (n+1) Id.y1e [sV a,sV b]=some (sV (a+b)):=by
 rw [y04 yfs]
 obtain ⟨n,rfl⟩:∃k,n=k+1:=⟨n-1,by omega⟩
 by_cases hs:decide (a<0)=decide (b<0)
 ·have hp:=y01 (yti a.natAbs b.natAbs (by omega) (by omega) (n:=n) (by omega)) (can2 (y2u _) (y2u _))
  have hg:=y7c (decide (a<0)) (a.natAbs+b.natAbs) (a+b) (ylj a b hs) (n:=n+1) (by omega)
  have e1:(decide (a<0)==decide (b<0))=true:=by rw [hs];simp
  generalize a+b=c at hg ⊢
  generalize a.natAbs+b.natAbs=m at hp hg
  unfold sV zC zD at hg ⊢
  unfold zD at hp
  simp only [go_sem,Fn.y1e,e1,hp,hg]
 ·have e1:(decide (a<0)==decide (b<0))=false:=by simpa using hs
  have hc:=y01 (yd1 a.natAbs b.natAbs (by omega) (n:=n) (by omega)) (can2 (y2u _) (y2u _))
  unfold cmpI at hc
  by_cases hlt:a.natAbs<b.natAbs
  ·rw [if_pos hlt] at hc
   have hp:=y01 (y9w b.natAbs a.natAbs (by omega) (by omega) (n:=n) (by omega)) (can2 (y2u _) (y2u _))
   have hg:=y7c (decide (b<0)) (b.natAbs-a.natAbs) (a+b) (yjh a b hs (by omega)) (n:=n+1) (by omega)
   have g0:((-1:Int)≥0)=False:=by simp
   generalize a+b=c at hg ⊢
   generalize b.natAbs-a.natAbs=m at hp hg
   unfold sV zC zD at hg ⊢
   unfold zD at hp hc
   simp only [go_sem,Fn.y1e,e1,hc,g0,hp,hg]
  ·rw [if_neg hlt] at hc
   have hp:=y01 (y9w a.natAbs b.natAbs (by omega) (by omega) (n:=n) (by omega)) (can2 (y2u _) (y2u _))
   have hg:=y7c (decide (a<0)) (a.natAbs-b.natAbs) (a+b) (yd8 a b hs (by omega)) (n:=n+1) (by omega)
   generalize a+b=c at hg ⊢
   generalize a.natAbs-b.natAbs=m at hp hg
   obtain ⟨r,hr,g0⟩:∃r:Int,(if b.natAbs<a.natAbs then (1:Int) else 0)=r∧(r≥0)=True:=by
    split
    ·exact ⟨1,rfl,by simp⟩
    ·exact ⟨0,rfl,by simp⟩
   rw [hr] at hc
   unfold sV zC zD at hg ⊢
   unfold zD at hp hc
   simp only [go_sem,Fn.y1e,e1,hc,g0,hp,hg]
theorem ydj (a b:Int) (ha:dlen BT a.natAbs<2^38) (hb:dlen BT b.natAbs<2^38) {n:Nat} (hn:dlen BT a.natAbs+dlen BT b.natAbs+8≤n):evV E (n+1) Id.y1k [sV a,sV b]=some (.one (.int .i64 (cmpZ a b))):=by
 rw [y04 yf5]
 obtain ⟨n,rfl⟩:∃k,n=k+1:=⟨n-1,by omega⟩
 have hab:=y01 (yd1 a.natAbs b.natAbs (by omega) (n:=n) (by omega)) (can2 (y2u _) (y2u _))
 have hba:=y01 (yd1 b.natAbs a.natAbs (by omega) (n:=n) (by omega)) (can2 (y2u _) (y2u _))
 unfold zD at hab hba
 unfold sV zC zD
 by_cases h1:a<0
 ·by_cases h2:b<0
  ·have e:cmpZ a b=cmpI b.natAbs a.natAbs:=by
    unfold cmpZ cmpI
    clear hab hba
    split
    ·rw [if_pos (by omega)]
    ·split
     ·rw [if_neg (by omega),if_pos (by omega)]
     ·rw [if_neg (by omega),if_neg (by omega)]
   rw [e,decide_eq_true h1,decide_eq_true h2]
   have n0:(!(true==true))=false:=rfl
   simp only [go_sem,Fn.y1k,n0,hba]
  ·have e:cmpZ a b=-1:=by unfold cmpZ;rw [if_pos (by omega)]
   rw [e,decide_eq_true h1,decide_eq_false h2]
   have n0:(!(true==false))=true:=rfl
   simp only [go_sem,Fn.y1k,n0]
 ·by_cases h2:b<0
  ·have e:cmpZ a b=1:=by unfold cmpZ;rw [if_neg (by omega),if_pos (by omega)]
   rw [e,decide_eq_false h1,decide_eq_true h2]
   have n0:(!(false==true))=true:=rfl
   simp only [go_sem,Fn.y1k,n0]
  ·have e:cmpZ a b=cmpI a.natAbs b.natAbs:=by
    unfold cmpZ cmpI
    clear hab hba
    split
    ·rw [if_pos (by omega)]
    ·split
     ·rw [if_neg (by omega),if_pos (by omega)]
     ·rw [if_neg (by omega),if_neg (by omega)]
   rw [e,decide_eq_false h1,decide_eq_false h2]
   have n0:(!(false==false))=false:=rfl
   simp only [go_sem,Fn.y1k,n0,hab]
end Go.Ev
namespace Go.Ev
theorem cMul (a b:Rat) {S T:Nat} (ha:SmQ S a) (hb:SmQ T b) (h:S+T<2^36):Calling Id.y0a [.agg (qC a),.agg (qC b)] (.agg (qC (a*b))):=
 ⟨K (S+T)+4,fun n hn=>by obtain ⟨m,rfl⟩:∃m,n=m+1:=⟨n-1,by omega⟩;exact y01 (yjn a b ha hb h (by omega)) (can2 (y1j _) (y1j _))⟩
theorem cAdd (a b:Rat) {S T:Nat} (ha:SmQ S a) (hb:SmQ T b) (h:S+T<2^36):Calling Id.y0l [.agg (qC a),.agg (qC b)] (.agg (qC (a+b))):=
 ⟨K (S+T+1)+4,fun n hn=>by obtain ⟨m,rfl⟩:∃m,n=m+1:=⟨n-1,by omega⟩;exact y01 (yjo a b ha hb h (by omega)) (can2 (y1j _) (y1j _))⟩
theorem cSub (a b:Rat) {S T:Nat} (ha:SmQ S a) (hb:SmQ T b) (h:S+T<2^36):Calling Id.y1r [.agg (qC a),.agg (qC b)] (.agg (qC (a-b))):=
 ⟨K (S+T+1)+6,fun n hn=>by obtain ⟨m,rfl⟩:∃m,n=m+1:=⟨n-1,by omega⟩;exact y01 (yqe a b ha hb h (by omega)) (can2 (y1j _) (y1j _))⟩
theorem cDiv (a b:Rat) (h0:b.num≠0) {S T:Nat} (ha:SmQ S a) (hb:SmQ T b) (h:S+T<2^36):Calling Id.y37 [.agg (qC a),.agg (qC b)] (.tup [.agg (qC (a / b)),.one (.int .i64 0)]):=
 ⟨K (S+T)+6,fun n hn=>by obtain ⟨m,rfl⟩:∃m,n=m+1:=⟨n-1,by omega⟩;exact y01 (ypz a b h0 ha hb h (by omega)) (can2 (y1j _) (y1j _))⟩
theorem cNeg (a:Rat):Calling Id.y10 [.agg (qC a)] (.agg (qC (-a))):=
 ⟨2,fun n hn=>by obtain ⟨m,rfl⟩:∃m,n=m+2:=⟨n-2,by omega⟩;exact y01 (yj4 a m) (can1 (y1j _))⟩
theorem cSign (a:Rat):Calling Id.y0j [.agg (qC a)] (.one (.int .i64 (signI a.num))):=
 ⟨2,fun n hn=>by obtain ⟨m,rfl⟩:∃m,n=m+2:=⟨n-2,by omega⟩;exact y01 (ygb a m) (can1 (y1j _))⟩
theorem cCmp (a b:Rat) {S T:Nat} (ha:SmQ S a) (hb:SmQ T b) (h:S+T<2^36):Calling Id.y1t [.agg (qC a),.agg (qC b)] (.one (.int .i64 (cmpQ a b))):=
 ⟨4*(S+T)+101,fun n hn=>by obtain ⟨m,rfl⟩:∃m,n=m+1:=⟨n-1,by omega⟩;exact y01 (yey a b ha hb h (by omega)) (can2 (y1j _) (y1j _))⟩
theorem cInt (z:Int) (h1:-9223372036854775808≤z) (h2:z<9223372036854775808):Calling Id.y0u [.one (.int .i64 z)] (.agg (qC (Rat.ofInt z))):=
 ⟨10,fun n hn=>by obtain ⟨m,rfl⟩:∃m,n=m+1:=⟨n-1,by omega⟩;exact y01 (yql z h1 h2 (by omega)) (can1 (.one _ (.int _ _)))⟩
structure RN where
 low:Rat
 high:Rat
 most:Rat
 step:Rat
theorem yc3 {z:Int} {S:Nat} (h:z.natAbs<2^(S+1)):SmQ (S+1) (Rat.ofInt z):=⟨h,by show 1<2^(S+1);exact Nat.one_lt_two_pow (by omega)⟩
theorem y10z:SmQ 2 (Rat.ofInt 1):=yc3 (S:=1) (by decide)
theorem yuo {q:Rat} {S:Nat} (h:SmQ S q):SmQ (S+1) (Rat.ofInt (floorQ q)):=by
 refine yc3 ?_
 unfold floorQ
 have h1:=h.num
 have h2:(q.num / (q.den:Int)).natAbs≤q.num.natAbs+1:=by
  have hd:(0:Int)<q.den:=by have:=q.den_pos;omega
  have a1:=Int.ediv_mul_le q.num (b:=(q.den:Int)) (by omega)
  have a2:=Int.lt_ediv_add_one_mul_self q.num hd
  by_cases hz:0≤q.num
  ·have b1:0≤q.num / (q.den:Int):=Int.ediv_nonneg hz (by omega)
   have b2:q.num / (q.den:Int)≤q.num:=Int.ediv_le_self _ hz
   omega
  ·have b1:q.num / (q.den:Int)<0:=Int.ediv_neg_of_neg_of_pos (by omega) hd
   have b2:q.num≤q.num / (q.den:Int):=by
    have:q.num / (q.den:Int)*(q.den:Int)≤q.num / (q.den:Int):=by
     have:=Int.mul_le_mul_of_nonpos_left (a:=q.num / (q.den:Int)) (b:=(q.den:Int)) (c:=1) (by omega) (by omega)
     omega
    have c:=Int.lt_ediv_add_one_mul_self q.num hd
    by_cases e:(q.den:Int)=1
    ·rw [e];simp
    ·have h3:(q.num / (q.den:Int)+1)*(q.den:Int)≤(q.num / (q.den:Int)+1):=by
      have:=Int.mul_le_mul_of_nonpos_left (a:=q.num / (q.den:Int)+1) (b:=(q.den:Int)) (c:=1) (by omega) (by omega)
      omega
     omega
   omega
 have:2^(S+1)=2^S+2^S:=by rw [Nat.pow_succ];omega
 have:0<2^S:=Nat.pow_pos (by decide)
 omega
def triQ (n:Rat):Rat:=n*(n+1) / 2
end Go.Ev
namespace Go.Ev
def minQ (a b:Rat):Rat:=if cmpQ b a<0 then b else a
def maxQ (a b:Rat):Rat:=if cmpQ b a>0 then b else a
theorem yno {S:Nat} (a b:Rat) (ha:SmQ S a) (hb:SmQ S b) (hS:S<2^35):Ends Id.y4v [.one (.sl false [qC a,qC b])] (.agg (qC (minQ a b))):=by
 refine .of (4*(S+S)+110) fun {n} hn=> ?_
 obtain ⟨n,rfl⟩:∃m,n=m+2:=⟨n-2,by omega⟩
 have h:=y01 (yoq Id.y4r a b _ (n:=n+1) (by omega) (yxb b a hb ha (by omega) (n:=n) (by omega))) (can2 (.one _ (.fn _)) (.one _ (.sl _)))
 rw [y04 yp5]
 have e:(if decide (cmpQ b a<0)=true then b else a)=minQ a b:=by unfold minQ;simp
 rw [e] at h
 unfold qV at h
 simp only [go_sem,Fn.y4v,h]
theorem yxf {S:Nat} (a b:Rat) (ha:SmQ S a) (hb:SmQ S b) (hS:S<2^35):Ends Id.y5d [.one (.sl false [qC a,qC b])] (.agg (qC (maxQ a b))):=by
 refine .of (4*(S+S)+110) fun {n} hn=> ?_
 obtain ⟨n,rfl⟩:∃m,n=m+2:=⟨n-2,by omega⟩
 have h:=y01 (yoq Id.y4q a b _ (n:=n+1) (by omega) (yx7 b a hb ha (by omega) (n:=n) (by omega))) (can2 (.one _ (.fn _)) (.one _ (.sl _)))
 rw [y04 yp6]
 have e:(if decide (cmpQ b a>0)=true then b else a)=maxQ a b:=by unfold maxQ;simp
 rw [e] at h
 unfold qV at h
 simp only [go_sem,Fn.y5d,h]
theorem SmQ.min {S:Nat} {a b:Rat} (ha:SmQ S a) (hb:SmQ S b):SmQ S (minQ a b):=by unfold minQ;split<;>assumption
theorem SmQ.max {S:Nat} {a b:Rat} (ha:SmQ S a) (hb:SmQ S b):SmQ S (maxQ a b):=by unfold maxQ;split<;>assumption
end Go.Ev
namespace Go.Ev
end Go.Ev
namespace Go.Ev
end Go.Ev
namespace Go.Ev
theorem y7y (q:Rat):q*(q.den:Rat)=(q.num:Rat):=by
 have h:=Rat.num_divInt_den q
 rw [Rat.divInt_eq_div] at h
 have hd:((q.den:Int):Rat)≠0:=by
  intro e;have:=Rat.intCast_eq_zero_iff.1 e;have:=q.den_pos;omega
 have h2:(q.num:Rat) / ((q.den:Int):Rat)*((q.den:Int):Rat)=(q.num:Rat):=Rat.div_mul_cancel hd
 rwa [h] at h2
def InD (D:Nat) (Z:Nat) (q:Rat):Prop:=∃z:Int,q*((D:Nat):Rat)=(z:Rat)∧z.natAbs<2^Z
theorem InD.sm {D Z S:Nat} {q:Rat} (h:InD D Z q) (hD:0<D) (hS:D<2^S) (hZ:Z≤S):SmQ S q:=by
 obtain ⟨z,h1,h2⟩:=h
 have h3:((q.num*(D:Int):Int):Rat)=((z*(q.den:Int):Int):Rat):=by
  rw [Rat.intCast_mul,Rat.intCast_mul,←h1]
  have:=y7y q
  rw [←this]
  show q*(q.den:Rat)*(D:Rat)=q*(D:Rat)*(q.den:Rat)
  grind
 have h4:q.num*(D:Int)=z*(q.den:Int):=Rat.intCast_inj.1 h3
 have h5:q.num.natAbs*D=z.natAbs*q.den:=by
  have:=congrArg Int.natAbs h4
  rwa [Int.natAbs_mul,Int.natAbs_mul,Int.natAbs_natCast,Int.natAbs_natCast] at this
 have h6:q.den ∣ D:=(q.reduced.symm).dvd_of_dvd_mul_left (h5 ▸ Nat.dvd_mul_left _ _)
 have h7:q.den≤D:=Nat.le_of_dvd hD h6
 refine ⟨?_,by omega⟩
 have h8:q.num.natAbs*D≤z.natAbs*D:=by rw [h5];exact Nat.mul_le_mul_left _ h7
 have h9:q.num.natAbs≤z.natAbs:=Nat.le_of_mul_le_mul_right h8 hD
 exact Nat.lt_of_le_of_lt h9 (Nat.lt_of_lt_of_le h2 (Nat.pow_le_pow_right (by decide) hZ))
theorem InD.mono {D Z Y:Nat} {q:Rat} (h:InD D Z q) (hZ:Z≤Y):InD D Y q:=by
 obtain ⟨z,h1,h2⟩:=h
 exact ⟨z,h1,Nat.lt_of_lt_of_le h2 (Nat.pow_le_pow_right (by decide) hZ)⟩
theorem InD.neg {D Z:Nat} {q:Rat} (h:InD D Z q):InD D Z (-q):=by
 obtain ⟨z,h1,h2⟩:=h
 refine ⟨-z, ?_,by rw [Int.natAbs_neg];exact h2⟩
 rw [Rat.intCast_neg,←h1];grind
theorem InD.add {D Z:Nat} {a b:Rat} (h:InD D Z a) (k:InD D Z b):InD D (Z+1) (a+b):=by
 obtain ⟨z,h1,h2⟩:=h
 obtain ⟨y,k1,k2⟩:=k
 refine ⟨z+y, ?_, ?_⟩
 ·rw [Rat.intCast_add,←h1,←k1];grind
 ·have:=Int.natAbs_add_le z y
  rw [Nat.pow_succ];omega
theorem InD.sub {D Z:Nat} {a b:Rat} (h:InD D Z a) (k:InD D Z b):InD D (Z+1) (a-b):=by
 have:=h.add k.neg
 rwa [←Rat.sub_eq_add_neg] at this
theorem InD.mul {D Z E Y:Nat} {a b:Rat} (h:InD D Z a) (k:InD E Y b):InD (D*E) (Z+Y) (a*b):=by
 obtain ⟨z,h1,h2⟩:=h
 obtain ⟨y,k1,k2⟩:=k
 refine ⟨z*y, ?_,by rw [Int.natAbs_mul];exact y16 h2 k2⟩
 rw [Rat.intCast_mul,←h1,←k1]
 have:((D*E:Nat):Rat)=(D:Rat)*(E:Rat):=Rat.natCast_mul D E
 rw [this];grind
theorem InD.more {D Z C c:Nat} {q:Rat} (h:InD D Z q) (hC:C<2^c):InD (D*C) (Z+c) q:=by
 obtain ⟨z,h1,h2⟩:=h
 refine ⟨z*(C:Int), ?_,by rw [Int.natAbs_mul,Int.natAbs_natCast];exact y16 h2 hC⟩
 rw [Rat.intCast_mul,←h1]
 have:((D*C:Nat):Rat)=(D:Rat)*(C:Rat):=Rat.natCast_mul D C
 rw [this]
 show q*(↑D*↑C)=q*↑D*(C:Rat)
 grind
theorem InD.more' {D Z C c:Nat} {q:Rat} (h:InD D Z q) (hC:C<2^c):InD (C*D) (c+Z) q:=by
 rw [Nat.mul_comm,Nat.add_comm];exact h.more hC
theorem InD.of {S:Nat} {q:Rat} (h:SmQ S q):InD q.den S q:=⟨q.num,y7y q,h.num⟩
theorem InD.int {S:Nat} {z:Int} (h:z.natAbs<2^S):InD 1 S (z:Rat):=⟨z,by show (z:Rat)*1=z;grind,h⟩
theorem InD.inv {S:Nat} {q:Rat} (h:SmQ S q) (h0:q.num≠0):InD q.num.natAbs S q⁻¹:=by
 have e:=y7y q
 have q0:q≠0:=fun e=>h0 (by rw [e];rfl)
 have hi:q*q⁻¹=1:=Rat.mul_inv_cancel q q0
 by_cases hn:q.num<0
 ·refine ⟨-(q.den:Int), ?_,by rw [Int.natAbs_neg,Int.natAbs_natCast];exact h.den⟩
  have e2:((q.num.natAbs:Nat):Rat)=-((q.num:Int):Rat):=by
   have:((q.num.natAbs:Nat):Int)=-q.num:=by omega
   rw [←Rat.intCast_neg,←this];rfl
  rw [e2,←e,Rat.intCast_neg]
  show q⁻¹*-(q*(q.den:Rat))=-(q.den:Rat)
  grind
 ·refine ⟨(q.den:Int), ?_,by rw [Int.natAbs_natCast];exact h.den⟩
  have e2:((q.num.natAbs:Nat):Rat)=((q.num:Int):Rat):=by
   have:((q.num.natAbs:Nat):Int)=q.num:=by omega
   rw [←this];rfl
  rw [e2,←e]
  show q⁻¹*(q*(q.den:Rat))=(q.den:Rat)
  grind
end Go.Ev
namespace Go.Ev
theorem yqx (a b:Int):(cmpZ a b>0)=(b<a):=by
 unfold cmpZ;rw [eq_iff_iff];(repeat split)<;>omega
theorem y100 (a b:Int):(cmpZ a b<0)=(a<b):=by
 unfold cmpZ;rw [eq_iff_iff];(repeat split)<;>omega
theorem y7w (a b:Rat):(cmpQ a b>0)=(b<a):=by
 unfold cmpQ;rw [yqx,Rat.lt_iff]
theorem yc1 (a b:Rat):(cmpQ a b<0)=(a<b):=by
 unfold cmpQ;rw [y100,Rat.lt_iff]
theorem yeo (a b:Rat):(cmpQ a b≤0)=(a≤b):=by
 have h:=y7w a b
 rw [eq_iff_iff] at h ⊢
 rw [←Rat.not_lt,←h];omega
theorem ysq (q:Rat):(q.num<0)=(q<0):=by
 rw [eq_iff_iff]
 have h:=@Rat.num_nonneg q
 rw [←Rat.not_le,←h];omega
theorem ygz (q:Rat):(q.num=0)=(q=0):=by
 rw [eq_iff_iff]
 constructor
 ·intro h;exact Rat.num_eq_zero.1 h
 ·intro h;rw [h];rfl
theorem yaa (q:Rat):(signI q.num>0)=(0<q):=by
 have h1:=ysq q
 have h2:=ygz q
 rw [eq_iff_iff] at*
 have h3:0<q↔¬q<0∧¬q=0:=by grind
 rw [h3,←h1,←h2]
 unfold signI
 (repeat split)<;>omega
theorem y7l (q:Rat):(signI q.num<0)=(q<0):=by
 have h1:=ysq q
 rw [eq_iff_iff] at*
 rw [←h1]
 unfold signI
 (repeat split)<;>omega
theorem ycf (q:Rat):(signI q.num≤0)=(q≤0):=by
 have h:=yaa q
 rw [eq_iff_iff] at h ⊢
 rw [←Rat.not_lt,←h];omega
theorem y89 (q:Rat):(signI q.num≥0)=(0≤q):=by
 have h:=y7l q
 rw [eq_iff_iff] at h ⊢
 rw [←Rat.not_lt,←h];omega
theorem y97 (a b:Rat):minQ a b=if b<a then b else a:=by
 unfold minQ;simp only [yc1]
theorem yjt (a b:Rat):maxQ a b=if a<b then b else a:=by
 unfold maxQ;simp only [y7w]
theorem SmQ.absQ {S:Nat} {a:Rat} (h:SmQ S a):SmQ S (absQ a):=by
 unfold Ev.absQ;split
 ·exact SmQ.neg h
 ·exact h
end Go.Ev
namespace Go.Ev
theorem Ends.callF {f:FuncId} {xs ys:List SV} {r:SV} (h:Ends f ys r) (hx:∀(ob:Nat→Option AObj) (fz:Nat→Nat),mapFz (frzS ob) fz xs=some (fz,ys)):Calling f xs r:=by
 obtain ⟨N,h⟩:=h
 refine ⟨N,fun n hn ob fz=> ?_⟩
 rw [y6j,hx]
 simp only [h n hn,Option.map_some]
def FzS (x y:SV):Prop:=∀(ob:Nat→Option AObj) (fz:Nat→Nat),frzS ob fz x=some (fz,y)
theorem FzS.one {x y:SV} (h:FzS x y):∀(ob:Nat→Option AObj) (fz:Nat→Nat),mapFz (frzS ob) fz [x]=some (fz,[y]):=fun ob fz=>by simp only [mapFz,h ob fz]
theorem FzS.two {x y x' y':SV} (h:FzS x y) (h':FzS x' y'):∀(ob:Nat→Option AObj) (fz:Nat→Nat),mapFz (frzS ob) fz [x,x']=some (fz,[y,y']):=fun ob fz=>by simp only [mapFz,h ob fz,h' ob fz]
theorem FzS.three {x y x' y' x2 y2:SV} (h:FzS x y) (h':FzS x' y') (h2:FzS x2 y2):∀(ob:Nat→Option AObj) (fz:Nat→Nat),mapFz (frzS ob) fz [x,x',x2]=some (fz,[y,y',y2]):=fun ob fz=>by simp only [mapFz,h ob fz,h' ob fz,h2 ob fz]
theorem CanS.fzs {x:SV} (h:CanS x):FzS x x:=fun ob fz=>by
 cases h with
 | one v h=>
  have e:Ev.frz ob DEPTH fz v=some (fz,v):=h.frz ob 7 fz
  simp only [frzS,e]
 | agg cs h=>
  have e:mapFz (Ev.frz ob DEPTH) fz cs=some (fz,cs):=y60 cs fun x hx=>(h x hx).frz ob 7 fz
  simp only [frzS,e]
theorem yx1 {n:Nat} {f:FuncId} {xs ys:List SV} {r:SV} (h:evV E n f ys=some r) (hx:∀(ob:Nat→Option AObj) (fz:Nat→Nat),mapFz (frzS ob) fz xs=some (fz,ys)) (ob:Nat→Option AObj) (fz:Nat→Nat):callV (evF E n) f xs ob fz=some (.fzd fz r):=by
 rw [y6j,hx]
 simp only [h,Option.map_some]
theorem yw3 (q:Rat):∃a b c,qC q=[a,b,c]∧(∀ob k fz,frz ob (k+1) fz a=some (fz,a))∧(∀ob k fz,frz ob (k+1) fz b=some (fz,b))∧(∀ob k fz,frz ob (k+1) fz c=some (fz,c)):=
 ⟨_,_,_,rfl,fun _ _ _=>rfl,fun _ _ _=>rfl,fun _ _ _=>rfl⟩
end Go.Ev
namespace Go.Ev
open Go.Dig
def RQ (q:Rat) (cs:List AV):Prop:=cs=rC q∨(q=0∧cs=[.bool false,.sl false [],.bool false,.sl false []])
theorem RQ.self (q:Rat):RQ q (rC q):=.inl rfl
theorem RQ.can {q:Rat} {cs:List AV} (h:RQ q cs):CanS (.agg cs):=by
 rcases h with rfl | ⟨rfl,rfl⟩
 ·exact y70 q
 ·refine .agg _ fun x hx=> ?_
  simp only [List.mem_cons,List.not_mem_nil,or_false] at hx
  rcases hx with rfl | rfl | rfl | rfl
  ·exact .bool _
  ·exact .sl _
  ·exact .bool _
  ·exact .sl _
theorem RQ.cells {q:Rat} {cs:List AV} (h:RQ q cs):∃e y,cs=[.bool (decide (q.num<0)),zD q.num.natAbs,e,y]:=by
 rcases h with rfl | ⟨rfl,rfl⟩
 ·exact ⟨_,_,rC_eq q⟩
 ·refine ⟨.bool false,.sl false [], ?_⟩
  have h1:((0:Rat).num.natAbs)=0:=rfl
  rw [h1]
  unfold zD
  rw [digs_zero];rfl
theorem rdn {q:Rat} {cs:List AV} (h:RQ q cs) (hd:dlen BT q.den<2^60) {n:Nat} (hn:12≤n) (ob:Nat→Option AObj) (fz:Nat→Nat):callV (evF E n) Id.y0g [.agg cs] ob fz=some (.fzd fz (sV (q.den:Int))):=by
 obtain ⟨n,rfl⟩:∃k,n=k+1:=⟨n-1,by omega⟩
 refine y01 ?_ (can1 h.can) ob fz
 rcases h with rfl | ⟨rfl,rfl⟩
 ·exact ygl q hd (by omega)
 ·rw [y04 y9i]
  obtain ⟨n,rfl⟩:∃k,n=k+1:=⟨n-1,by omega⟩
  have hz:=y01 (y7n 1 (by decide) (by decide) (n:=n) (by omega)) (can1 (y0y _ _))
  have e1:((0:Rat).den:Int)=1:=rfl
  have e0:((((0:Nat):Int))==0)=true:=rfl
  rw [e1]
  unfold sV zC zD at hz ⊢
  simp only [go_sem,Fn.y0g,e0,hz]
theorem yx8 (a b:Rat) {ca cb:List AV} (h:RQ a ca) (h':RQ b cb) {S T:Nat} (ha:SmQ S a) (hb:SmQ T b) (hS:S+T<2^36) {n:Nat} (hn:2*(S+T)+20≤n):evV E (n+1) Id.y1l [.agg ca,.agg cb]=some (.one (.int .i64 (cmpQ a b))):=by
 rw [y04 yh9]
 unfold cmpQ
 obtain ⟨n,rfl⟩:∃k,n=k+1:=⟨n-1,by omega⟩
 have da:=y0i ha.den
 have db:=y0i hb.den
 have na:=y0i ha.num
 have nb:=y0i hb.num
 have d1:=rdn h (by omega) (n:=n+1) (by omega)
 have d2:=rdn h' (by omega) (n:=n+1) (by omega)
 have m1:=y01 (y6c a.num (b.den:Int) (by omega) (by rw [Int.natAbs_natCast];omega) (n:=n) (by rw [Int.natAbs_natCast];omega)) (can2 (y1g _) (y1g _))
 have m2:=y01 (y6c b.num (a.den:Int) (by omega) (by rw [Int.natAbs_natCast];omega) (n:=n) (by rw [Int.natAbs_natCast];omega)) (can2 (y1g _) (y1g _))
 have h1:(a.num*(b.den:Int)).natAbs<2^(S+T):=by rw [Int.natAbs_mul,Int.natAbs_natCast];exact y16 ha.num hb.den
 have h2:(b.num*(a.den:Int)).natAbs<2^(S+T):=by rw [Int.natAbs_mul,Int.natAbs_natCast,Nat.add_comm];exact y16 hb.num ha.den
 have l1:=y0i h1
 have l2:=y0i h2
 have hc:=y01 (ydj (a.num*(b.den:Int)) (b.num*(a.den:Int)) (by omega) (by omega) (n:=n) (by omega)) (can2 (y1g _) (y1g _))
 generalize a.num*(b.den:Int)=p at m1 hc ⊢
 generalize b.num*(a.den:Int)=r at m2 hc ⊢
 obtain ⟨e,y,rfl⟩:=h.cells
 obtain ⟨e',y',rfl⟩:=h'.cells
 unfold sV zC at d1 d2 m1 m2 hc
 rw [Int.natAbs_natCast] at d1 d2 m1 m2
 unfold zD at d1 d2 m1 m2 hc ⊢
 simp only [go_sem,Fn.y1l,d1,d2,m1,m2,hc]
theorem yt9 (a:Rat) {ca:List AV} (h:RQ a ca) {S:Nat} (ha:SmQ S a) (hS:S<2^36) {n:Nat} (hn:S+20≤n):evV E (n+1) Id.y1h [.agg ca]=some (.one (.int .i64 (signI a.num))):=by
 rw [y04 yfc]
 obtain ⟨n,rfl⟩:∃k,n=k+1:=⟨n-1,by omega⟩
 have na:=y0i ha.num
 have hz:dlen BT (0:Int).natAbs=0:=by show (digs BT 0).length=0;rw [digs_zero];rfl
 have hc:=ydj a.num 0 (by omega) (by omega) (n:=n) (by omega)
 have e:cmpZ a.num 0=signI a.num:=by
  clear hc
  unfold cmpZ signI
  by_cases h3:a.num<0
  ·rw [if_pos h3,if_pos h3]
  ·rw [if_neg h3,if_neg h3]
   by_cases h4:a.num=0
   ·rw [if_neg (show ¬0<a.num by omega),if_pos h4]
   ·rw [if_pos (show 0<a.num by omega),if_neg h4]
 rw [e] at hc
 obtain ⟨e',y,rfl⟩:=h.cells
 have z0:sV 0=.agg [.bool false,.sl false []]:=by
  unfold sV zC zD
  rw [show (0:Int).natAbs=0 from rfl,digs_zero];rfl
 have cz:CanS (.agg [.bool false,.sl false []]):=by rw [←z0];exact y1g 0
 rw [z0] at hc
 have hc:=fun ob fz=>yx1 hc (FzS.two (y1g a.num).fzs (show FzS (.agg [.bool false,.nils]) (.agg [.bool false,.sl false []]) from fun ob fz=>by simp only [go_sem,mapFz,yl5,yko,yk7,yl4])) ob fz
 unfold sV zC zD at hc
 unfold zD
 simp only [go_sem,Fn.y1h,hc]
theorem ymc (a:Rat) {ca:List AV} (h:RQ a ca) {S:Nat} (ha:SmQ S a) (hS:S<2^36) {n:Nat} (hn:20≤n):evV E (n+1) Id.y2b [.agg ca]=some (rV (-a)):=by
 rw [y04 ygv]
 obtain ⟨n,rfl⟩:∃k,n=k+1:=⟨n-1,by omega⟩
 have da:=y0i ha.den
 have d1:=rdn h (by omega) (n:=n+1) (by omega)
 have hg:=y01 (ycz a.num (n:=n) (by omega)) (can1 (y1g _))
 have e1:(-a).num=-a.num:=Rat.neg_num a
 have e2:(-a).den=a.den:=Rat.neg_den a
 generalize-a=b at e1 e2 ⊢
 rw [←e1] at hg
 unfold rV
 rw [rC_eq b,e2]
 obtain ⟨e,y,rfl⟩:=h.cells
 unfold sV zC at d1 hg
 rw [Int.natAbs_natCast] at d1
 unfold zD at d1 hg ⊢
 simp only [go_sem,Fn.y2b,d1,hg]
theorem yn7 (a b:Rat) {ca cb:List AV} (h:RQ a ca) (h':RQ b cb) {S T:Nat} (ha:SmQ S a) (hb:SmQ T b) (hS:S+T<2^35) {n:Nat} (hn:KR (S+T+1)+10≤n):evV E (n+1) Id.y2p [.agg ca,.agg cb]=some (rV (a+b)):=by
 rw [y04 ygi,Rat.add_def]
 have hK:=ya9 (S+T+1)
 obtain ⟨n,rfl⟩:∃k,n=k+1:=⟨n-1,by omega⟩
 have da:=y0i ha.den
 have db:=y0i hb.den
 have na:=y0i ha.num
 have nb:=y0i hb.num
 have d1:=rdn h (by omega) (n:=n+1) (by omega)
 have d2:=rdn h' (by omega) (n:=n+1) (by omega)
 have m1:=y01 (y6c a.num (b.den:Int) (by omega) (by rw [Int.natAbs_natCast];omega) (n:=n) (by rw [Int.natAbs_natCast];omega)) (can2 (y1g _) (y1g _))
 have m2:=y01 (y6c b.num (a.den:Int) (by omega) (by rw [Int.natAbs_natCast];omega) (n:=n) (by rw [Int.natAbs_natCast];omega)) (can2 (y1g _) (y1g _))
 have m3:=y01 (y6c (a.den:Int) (b.den:Int) (by rw [Int.natAbs_natCast];omega) (by rw [Int.natAbs_natCast];omega) (n:=n) (by rw [Int.natAbs_natCast,Int.natAbs_natCast];omega)) (can2 (y1g _) (y1g _))
 have h1:(a.num*(b.den:Int)).natAbs<2^(S+T):=by rw [Int.natAbs_mul,Int.natAbs_natCast];exact y16 ha.num hb.den
 have h2:(b.num*(a.den:Int)).natAbs<2^(S+T):=by rw [Int.natAbs_mul,Int.natAbs_natCast,Nat.add_comm];exact y16 hb.num ha.den
 have l1:=y0i h1
 have l2:=y0i h2
 have hz:=y01 (ydr (a.num*(b.den:Int)) (b.num*(a.den:Int)) (by omega) (by omega) (n:=n) (by omega)) (can2 (y1g _) (y1g _))
 obtain ⟨s1,s2⟩:=ygu ha hb
 have s2':((a.den:Int)*(b.den:Int)).natAbs<2^(S+T+1):=by rw [Int.natAbs_mul,Int.natAbs_natCast,Int.natAbs_natCast];exact s2
 have hp:(0:Int)<(a.den:Int)*(b.den:Int):=Int.mul_pos (by have:=a.den_pos;omega) (by have:=b.den_pos;omega)
 have hq:=y01 (yah (a.num*(b.den:Int)+b.num*(a.den:Int)) ((a.den:Int)*(b.den:Int)) hp s1 s2' (by omega) (n:=n) (by omega) false _ _ (.inl ⟨rfl,rfl,rfl⟩)) (can2 (y1g _) (y1g _))
 have en:Rat.normalize (a.num*(b.den:Int)+b.num*(a.den:Int)) ((a.den:Int)*(b.den:Int)).natAbs (by omega)=Rat.normalize (a.num*(b.den:Int)+b.num*(a.den:Int)) (a.den*b.den) (Nat.mul_ne_zero a.den_nz b.den_nz):=by
  congr 1
 rw [en] at hq
 generalize Rat.normalize (a.num*(b.den:Int)+b.num*(a.den:Int)) (a.den*b.den) _=q at hq ⊢
 generalize a.num*(b.den:Int)+b.num*(a.den:Int)=p3 at hz hq
 generalize a.num*(b.den:Int)=p at m1 hz
 generalize b.num*(a.den:Int)=r at m2 hz
 generalize (a.den:Int)*(b.den:Int)=r3 at m3 hq
 obtain ⟨e,y,rfl⟩:=h.cells
 obtain ⟨e',y',rfl⟩:=h'.cells
 unfold rV at hq ⊢
 rw [rC_eq] at hq ⊢
 unfold sV zC at d1 d2 m1 m2 m3 hz hq
 rw [Int.natAbs_natCast] at d1 d2 m1 m2 m3
 try rw [Int.natAbs_natCast] at m3
 unfold zD at d1 d2 m1 m2 m3 hz hq ⊢
 simp only [go_sem,Fn.y2p,d1,d2,m1,m2,m3,hz,hq]
theorem yvy (a b:Rat) {ca cb:List AV} (h:RQ a ca) (h':RQ b cb) {S T:Nat} (ha:SmQ S a) (hb:SmQ T b) (hS:S+T<2^35) {n:Nat} (hn:KR (S+T+1)+12≤n):evV E (n+1) Id.y3g [.agg ca,.agg cb]=some (rV (a-b)):=by
 rw [y04 yh6]
 have hK:=ya9 (S+T+1)
 obtain ⟨n,rfl⟩:∃k,n=k+1:=⟨n-1,by omega⟩
 have hg:=y01 (ymc b h' hb (by omega) (n:=n) (by omega)) (can1 h'.can)
 have hq:=y01 (yn7 a (-b) h (RQ.self _) ha (SmQ.neg hb) hS (n:=n) (by omega)) (can2 h.can (y70 _))
 rw [←Rat.sub_eq_add_neg] at hq
 obtain ⟨e,y,rfl⟩:=h.cells
 obtain ⟨e',y',rfl⟩:=h'.cells
 unfold rV at hg hq ⊢
 rw [rC_eq (-b)] at hg hq
 rw [rC_eq (a-b)] at hq ⊢
 unfold zD at hg hq ⊢
 simp only [go_sem,Fn.y3g,hg,hq]
theorem yr8 (z w:Int) (hw:w≠0):ofQ z w hw=Rat.divInt z w:=by
 by_cases h:w<0
 ·rw [ypr hw h,Rat.normalize_eq_mkRat,←Rat.divInt_ofNat,Rat.divInt_eq_divInt_iff (by omega) hw]
  have:(((-w).natAbs:Nat):Int)=-w:=by omega
  rw [this];grind
 ·rw [ypq hw h,Rat.normalize_eq_mkRat,←Rat.divInt_ofNat,Rat.divInt_eq_divInt_iff (by omega) hw]
  have:((w.natAbs:Nat):Int)=w:=by omega
  rw [this]
theorem yz8 (a b:Rat) (hb:(a.den:Int)*b.num≠0):ofQ (a.num*(b.den:Int)) ((a.den:Int)*b.num) hb=a / b:=by
 rw [yr8,Rat.div_def,Rat.inv_def]
 conv=>rhs;rw [←Rat.num_divInt_den a,Rat.divInt_mul_divInt]
theorem yw1 (a b:Rat) (h0:b.num≠0) {ca cb:List AV} (h:RQ a ca) (h':RQ b cb) {S T:Nat} (ha:SmQ S a) (hb:SmQ T b) (hS:S+T<2^35) {n:Nat} (hn:KR (S+T)+10≤n):evV E (n+1) Id.y32 [.agg ca,.agg cb]=some (rV (a / b)):=by
 have hw:(a.den:Int)*b.num≠0:=Int.mul_ne_zero (by have:=a.den_nz;omega) h0
 rw [y04 ygj,←yz8 a b hw]
 have hK:=ya9 (S+T)
 obtain ⟨n,rfl⟩:∃k,n=k+1:=⟨n-1,by omega⟩
 have da:=y0i ha.den
 have db:=y0i hb.den
 have na:=y0i ha.num
 have nb:=y0i hb.num
 have d1:=rdn h (by omega) (n:=n+1) (by omega)
 have d2:=rdn h' (by omega) (n:=n+1) (by omega)
 have m1:=y01 (y6c a.num (b.den:Int) (by omega) (by rw [Int.natAbs_natCast];omega) (n:=n) (by rw [Int.natAbs_natCast];omega)) (can2 (y1g _) (y1g _))
 have m2:=y01 (y6c (a.den:Int) b.num (by rw [Int.natAbs_natCast];omega) (by omega) (n:=n) (by rw [Int.natAbs_natCast];omega)) (can2 (y1g _) (y1g _))
 have h1:(a.num*(b.den:Int)).natAbs<2^(S+T):=by rw [Int.natAbs_mul,Int.natAbs_natCast];exact y16 ha.num hb.den
 have h2:((a.den:Int)*b.num).natAbs<2^(S+T):=by rw [Int.natAbs_mul,Int.natAbs_natCast];exact y16 ha.den hb.num
 have hq:=y01 (ynm (a.num*(b.den:Int)) ((a.den:Int)*b.num) hw h1 h2 (by omega) (n:=n) (by omega)) (can2 (y1g _) (y1g _))
 generalize ofQ (a.num*(b.den:Int)) ((a.den:Int)*b.num) hw=q at hq ⊢
 generalize a.num*(b.den:Int)=p at m1 hq
 generalize (a.den:Int)*b.num=r at m2 hq
 obtain ⟨e,y,rfl⟩:=h.cells
 obtain ⟨e',y',rfl⟩:=h'.cells
 unfold rV at hq ⊢
 rw [rC_eq] at hq ⊢
 unfold sV zC at d1 d2 m1 m2 hq
 rw [Int.natAbs_natCast] at d1 d2 m1 m2
 unfold zD at d1 d2 m1 m2 hq ⊢
 simp only [go_sem,Fn.y32,d1,d2,m1,m2,hq]
theorem yvp (z:Int) (h1:-9223372036854775808≤z) (h2:z<9223372036854775808) {n:Nat} (hn:12≤n):evV E (n+1) Id.y35 [.one (.int .i64 z)]=some (rV (Rat.ofInt z)):=by
 rw [y04 yh4]
 obtain ⟨n,rfl⟩:∃k,n=k+1:=⟨n-1,by omega⟩
 have z1:=y01 (y7n z h1 h2 (n:=n) (by omega)) (can1 (y0y _ _))
 have z2:=y01 (y7n 1 (by decide) (by decide) (n:=n) (by omega)) (can1 (y0y _ _))
 unfold rV
 rw [rC_eq]
 have e1:(Rat.ofInt z).num=z:=rfl
 have e2:(Rat.ofInt z).den=1:=rfl
 rw [e1,e2]
 have e3:(((1:Nat):Int))=1:=rfl
 have e4:(1:Int).natAbs=1:=rfl
 unfold sV zC at z1 z2
 rw [e3]
 rw [e4] at z2
 unfold zD at z1 z2 ⊢
 simp only [go_sem,Fn.y35,z1,z2]
end Go.Ev
namespace Go.Ev
open Go.Dig
theorem ytj (a b:Rat) {ca cb:List AV} (h:RQ a ca) (h':RQ b cb) {S T:Nat} (ha:SmQ S a) (hb:SmQ T b) (hS:S+T<2^36) {n:Nat} (hn:KR (S+T)+4≤n):evV E (n+1) Id.y13 [.agg ca,.agg cb]=some (rV (a*b)):=by
 rw [y04 yag,Rat.mul_def]
 have hK:=ya9 (S+T)
 obtain ⟨n,rfl⟩:∃k,n=k+1:=⟨n-1,by omega⟩
 have da:=y0i ha.den
 have db:=y0i hb.den
 have na:=y0i ha.num
 have nb:=y0i hb.num
 have d1:=rdn h (by omega) (n:=n+1) (by omega)
 have d2:=rdn h' (by omega) (n:=n+1) (by omega)
 have m1:=y01 (y6c a.num b.num (by omega) (by omega) (n:=n) (by omega)) (can2 (y1g _) (y1g _))
 have m2:=y01 (y6c (a.den:Int) (b.den:Int) (by rw [Int.natAbs_natCast];omega) (by rw [Int.natAbs_natCast];omega) (n:=n) (by rw [Int.natAbs_natCast,Int.natAbs_natCast];omega)) (can2 (y1g _) (y1g _))
 have h1:(a.num*b.num).natAbs<2^(S+T):=by rw [Int.natAbs_mul];exact y16 ha.num hb.num
 have h2:((a.den:Int)*(b.den:Int)).natAbs<2^(S+T):=by
  rw [Int.natAbs_mul,Int.natAbs_natCast,Int.natAbs_natCast];exact y16 ha.den hb.den
 have hp:(0:Int)<(a.den:Int)*(b.den:Int):=Int.mul_pos (by have:=a.den_pos;omega) (by have:=b.den_pos;omega)
 have hq:=y01 (yah (a.num*b.num) ((a.den:Int)*(b.den:Int)) hp h1 h2 (by omega) (n:=n) (by omega) false _ _ (.inl ⟨rfl,rfl,rfl⟩)) (can2 (y1g _) (y1g _))
 have en:Rat.normalize (a.num*b.num) ((a.den:Int)*(b.den:Int)).natAbs (by omega)=Rat.normalize (a.num*b.num) (a.den*b.den) (Nat.mul_ne_zero a.den_nz b.den_nz):=by
  congr 1
 rw [en] at hq
 generalize Rat.normalize (a.num*b.num) (a.den*b.den) _=q at hq ⊢
 generalize a.num*b.num=p at m1 hq
 generalize (a.den:Int)*(b.den:Int)=r at m2 hq
 obtain ⟨e,y,rfl⟩:=h.cells
 obtain ⟨e',y',rfl⟩:=h'.cells
 unfold rV at hq ⊢
 rw [rC_eq] at hq ⊢
 unfold sV zC at d1 d2 m1 m2 hq
 rw [Int.natAbs_natCast] at d1 d2
 rw [Int.natAbs_natCast,Int.natAbs_natCast] at m2
 unfold zD at d1 d2 m1 m2 hq ⊢
 simp only [go_sem,Fn.y13,d1,d2,m1,m2,hq]
end Go.Ev
namespace Go.Ev
open Go.Dig
theorem rC4 (q:Rat):∃a b c d,rC q=[a,b,c,d]:=⟨_,_,_,_,rC_eq q⟩
end Go.Ev
namespace Go.Ev
open Go.Dig
def RW (q:Rat) (cs:List AV):Prop:=RQ q cs∨(q=0∧cs=[.bool false,.nils,.bool false,.nils])
theorem RQ.w {q:Rat} {cs:List AV} (h:RQ q cs):RW q cs:=.inl h
theorem RW.self (q:Rat):RW q (rC q):=.inl (.self q)
theorem RW.zero:RW 0 [.bool false,.nils,.bool false,.nils]:=.inr ⟨rfl,rfl⟩
theorem RW.fz {q:Rat} {cs:List AV} (h:RW q cs):∃cs',RQ q cs'∧FzS (.agg cs) (.agg cs'):=by
 rcases h with h | ⟨rfl,rfl⟩
 ·exact ⟨cs,h,h.can.fzs⟩
 ·exact ⟨[.bool false,.sl false [],.bool false,.sl false []],.inr ⟨rfl,rfl⟩,fun ob fz=>rfl⟩
theorem RW.cells4 {q:Rat} {cs:List AV} (h:RW q cs):∃a b c d,cs=[a,b,c,d]:=by
 rcases h with (rfl | ⟨-,rfl⟩) | ⟨-,rfl⟩
 ·exact rC4 q
 ·exact ⟨_,_,_,_,rfl⟩
 ·exact ⟨_,_,_,_,rfl⟩
theorem y7o {f:FuncId} {xs ys:List SV} {r:SV} {n:Nat} (h:evV E n f ys=some r) (hx:∀(ob:Nat→Option AObj) (fz:Nat→Nat),mapFz (frzS ob) fz xs=some (fz,ys)) (ob:Nat→Option AObj) (fz:Nat→Nat):callV (evF E n) f xs ob fz=some (.fzd fz r):=by
 rw [y6j,hx]
 simp only [h,Option.map_some]
section
variable {a b:Rat} {ca cb:List AV} {S T:Nat}
theorem yw8 (S T:Nat) (hS:S+T<2^35):∃N,∀(a b:Rat) (ca cb:List AV),RW a ca→RW b cb→SmQ S a→SmQ T b→∀n,N≤n→∀(ob:Nat→Option AObj) (fz:Nat→Nat),callV (evF E n) Id.y2p [.agg ca,.agg cb] ob fz=some (.fzd fz (.agg (rC (a+b)))):=
 ⟨KR (S+T+1)+11,fun a b ca cb ha hb sa sb n hn ob fz=>by
  obtain ⟨m,rfl⟩:∃m,n=m+1:=⟨n-1,by omega⟩
  obtain ⟨ca',ha,fa⟩:=ha.fz
  obtain ⟨cb',hb,fb⟩:=hb.fz
  exact y7o (yn7 a b ha hb sa sb hS (n:=m) (by omega)) (fa.two fb) ob fz⟩
theorem yl1 (h:RW a ca) (h':RW b cb) (ha:SmQ S a) (hb:SmQ T b) (hS:S+T<2^35):Calling Id.y2p [.agg ca,.agg cb] (.agg (rC (a+b))):=by
 obtain ⟨N,hN⟩:=yw8 S T hS
 exact ⟨N,hN a b ca cb h h' ha hb⟩
theorem yyd (S T:Nat) (hS:S+T<2^35):∃N,∀(a b:Rat) (ca cb:List AV),RW a ca→RW b cb→SmQ S a→SmQ T b→∀n,N≤n→∀(ob:Nat→Option AObj) (fz:Nat→Nat),callV (evF E n) Id.y3g [.agg ca,.agg cb] ob fz=some (.fzd fz (.agg (rC (a-b)))):=
 ⟨KR (S+T+1)+13,fun a b ca cb ha hb sa sb n hn ob fz=>by
  obtain ⟨m,rfl⟩:∃m,n=m+1:=⟨n-1,by omega⟩
  obtain ⟨ca',ha,fa⟩:=ha.fz
  obtain ⟨cb',hb,fb⟩:=hb.fz
  exact y7o (yvy a b ha hb sa sb hS (n:=m) (by omega)) (fa.two fb) ob fz⟩
theorem ytl (h:RW a ca) (h':RW b cb) (ha:SmQ S a) (hb:SmQ T b) (hS:S+T<2^35):Calling Id.y3g [.agg ca,.agg cb] (.agg (rC (a-b))):=by
 obtain ⟨N,hN⟩:=yyd S T hS
 exact ⟨N,hN a b ca cb h h' ha hb⟩
theorem yy4 (S T:Nat) (hS:S+T<2^36):∃N,∀(a b:Rat) (ca cb:List AV),RW a ca→RW b cb→SmQ S a→SmQ T b→∀n,N≤n→∀(ob:Nat→Option AObj) (fz:Nat→Nat),callV (evF E n) Id.y13 [.agg ca,.agg cb] ob fz=some (.fzd fz (.agg (rC (a*b)))):=
 ⟨KR (S+T)+5,fun a b ca cb ha hb sa sb n hn ob fz=>by
  obtain ⟨m,rfl⟩:∃m,n=m+1:=⟨n-1,by omega⟩
  obtain ⟨ca',ha,fa⟩:=ha.fz
  obtain ⟨cb',hb,fb⟩:=hb.fz
  exact y7o (ytj a b ha hb sa sb hS (n:=m) (by omega)) (fa.two fb) ob fz⟩
theorem y8n (h:RW a ca) (h':RW b cb) (ha:SmQ S a) (hb:SmQ T b) (hS:S+T<2^36):Calling Id.y13 [.agg ca,.agg cb] (.agg (rC (a*b))):=by
 obtain ⟨N,hN⟩:=yy4 S T hS
 exact ⟨N,hN a b ca cb h h' ha hb⟩
theorem yx4 (S T:Nat) (hS:S+T<2^35):∃N,∀(a b:Rat) (ca cb:List AV),b.num≠0→RW a ca→RW b cb→SmQ S a→SmQ T b→∀n,N≤n→∀(ob:Nat→Option AObj) (fz:Nat→Nat),callV (evF E n) Id.y32 [.agg ca,.agg cb] ob fz=some (.fzd fz (.agg (rC (a / b)))):=
 ⟨KR (S+T)+11,fun a b ca cb h0 ha hb sa sb n hn ob fz=>by
  obtain ⟨m,rfl⟩:∃m,n=m+1:=⟨n-1,by omega⟩
  obtain ⟨ca',ha,fa⟩:=ha.fz
  obtain ⟨cb',hb,fb⟩:=hb.fz
  exact y7o (yw1 a b h0 ha hb sa sb hS (n:=m) (by omega)) (fa.two fb) ob fz⟩
theorem yjy (h0:b.num≠0) (h:RW a ca) (h':RW b cb) (ha:SmQ S a) (hb:SmQ T b) (hS:S+T<2^35):Calling Id.y32 [.agg ca,.agg cb] (.agg (rC (a / b))):=by
 obtain ⟨N,hN⟩:=yx4 S T hS
 exact ⟨N,hN a b ca cb h0 h h' ha hb⟩
theorem ytk (S T:Nat) (hS:S+T<2^36):∃N,∀(a b:Rat) (ca cb:List AV),RW a ca→RW b cb→SmQ S a→SmQ T b→∀n,N≤n→∀(ob:Nat→Option AObj) (fz:Nat→Nat),callV (evF E n) Id.y1l [.agg ca,.agg cb] ob fz=some (.fzd fz (.one (.int .i64 (cmpQ a b)))):=
 ⟨2*(S+T)+21,fun a b ca cb ha hb sa sb n hn ob fz=>by
  obtain ⟨m,rfl⟩:∃m,n=m+1:=⟨n-1,by omega⟩
  obtain ⟨ca',ha,fa⟩:=ha.fz
  obtain ⟨cb',hb,fb⟩:=hb.fz
  exact y7o (yx8 a b ha hb sa sb hS (n:=m) (by omega)) (fa.two fb) ob fz⟩
theorem y9m (h:RW a ca) (h':RW b cb) (ha:SmQ S a) (hb:SmQ T b) (hS:S+T<2^36):Calling Id.y1l [.agg ca,.agg cb] (.one (.int .i64 (cmpQ a b))):=by
 obtain ⟨N,hN⟩:=ytk S T hS
 exact ⟨N,hN a b ca cb h h' ha hb⟩
theorem yxp (S:Nat) (hS:S<2^36):∃N,∀(a:Rat) (ca:List AV),RW a ca→SmQ S a→∀n,N≤n→∀(ob:Nat→Option AObj) (fz:Nat→Nat),callV (evF E n) Id.y2b [.agg ca] ob fz=some (.fzd fz (.agg (rC (-a)))):=
 ⟨21,fun a ca ha sa n hn ob fz=>by
  obtain ⟨m,rfl⟩:∃m,n=m+1:=⟨n-1,by omega⟩
  obtain ⟨ca',ha,fa⟩:=ha.fz
  exact y7o (ymc a ha sa hS (n:=m) (by omega)) fa.one ob fz⟩
theorem yu6 (h:RW a ca) (ha:SmQ S a) (hS:S<2^36):Calling Id.y2b [.agg ca] (.agg (rC (-a))):=by
 obtain ⟨N,hN⟩:=yxp S hS
 exact ⟨N,hN a ca h ha⟩
theorem yt4 (S:Nat) (hS:S<2^36):∃N,∀(a:Rat) (ca:List AV),RW a ca→SmQ S a→∀n,N≤n→∀(ob:Nat→Option AObj) (fz:Nat→Nat),callV (evF E n) Id.y1h [.agg ca] ob fz=some (.fzd fz (.one (.int .i64 (signI a.num)))):=
 ⟨S+21,fun a ca ha sa n hn ob fz=>by
  obtain ⟨m,rfl⟩:∃m,n=m+1:=⟨n-1,by omega⟩
  obtain ⟨ca',ha,fa⟩:=ha.fz
  exact y7o (yt9 a ha sa hS (n:=m) (by omega)) fa.one ob fz⟩
theorem y7x (h:RW a ca) (ha:SmQ S a) (hS:S<2^36):Calling Id.y1h [.agg ca] (.one (.int .i64 (signI a.num))):=by
 obtain ⟨N,hN⟩:=yt4 S hS
 exact ⟨N,hN a ca h ha⟩
theorem ykz (z:Int) (h1:-9223372036854775808≤z) (h2:z<9223372036854775808):Calling Id.y35 [.one (.int .i64 z)] (.agg (rC (Rat.ofInt z))):=
 (Ends.of 12 fun {n} hn=>yvp z h1 h2 hn:Ends Id.y35 [.one (.int .i64 z)] (.agg (rC (Rat.ofInt z)))).call (can1 (y0y _ _))
end
end Go.Ev
namespace Go.Ev
structure Mt where
 T:Rat
 H:Rat
 C:Rat
 M:Rat
 s:Rat
structure Mt.Ok (m:Mt):Prop where
 t:0≤m.T
 h:0≤m.H
 c:0≤m.C
 mm:0<m.M
 s:0<m.s
 sc:m.s*m.C≤1
def Mt.next (m:Mt) (h t:Rat):Rat:=h+m.s*(m.H*t*t-m.C*h)
def Mt.nx (m:Mt) (h x:Rat):Rat:=h+m.s*(m.H*x-m.C*h)
theorem Mt.next_nx (m:Mt) (h t:Rat):m.next h t=m.nx h (t*t):=by unfold Mt.next Mt.nx;grind
theorem Mt.nx_mono {m:Mt} (ok:m.Ok) {h k x y:Rat} (h1:h≤k) (h2:x≤y):m.nx h x≤m.nx k y:=by
 obtain ⟨-,a,b,-,c,d⟩:=ok
 unfold Mt.nx
 have p1:0≤(1-m.s*m.C)*(k-h):=Rat.mul_nonneg (by grind) (by grind)
 have p2:0≤(m.s*m.H)*(y-x):=Rat.mul_nonneg (Rat.mul_nonneg (by grind) a) (by grind)
 grind
theorem Mt.nx_zero {m:Mt} (ok:m.Ok) {h:Rat} (h0:0≤h):0≤m.nx h 0∧m.nx h 0≤h:=by
 obtain ⟨-,a,b,-,c,d⟩:=ok
 unfold Mt.nx
 have p1:0≤(1-m.s*m.C)*h:=Rat.mul_nonneg (by grind) h0
 have p2:0≤(m.s*m.C)*h:=Rat.mul_nonneg (Rat.mul_nonneg (by grind) b) h0
 constructor<;>grind
theorem Mt.nx_nonneg {m:Mt} (ok:m.Ok) {h x:Rat} (h0:0≤h) (x0:0≤x):0≤m.nx h x:=
 Rat.le_trans (Mt.nx_zero ok h0).1 (Mt.nx_mono ok Rat.le_refl x0)
def Mt.Cool (m:Mt):Nat→Rat→Rat→Prop
 | 0,h,x=>h≤m.M
 | n+1,h,x=>h≤m.M∧m.Cool n (m.nx h x) x
theorem Mt.Cool.now {m:Mt} {n:Nat} {h x:Rat} (k:m.Cool n h x):h≤m.M:=by cases n with | zero=>exact k | succ n=>exact k.1
theorem Mt.Cool.mono {m:Mt} (ok:m.Ok):∀{n:Nat} {h k x y:Rat},m.Cool n h x→k≤h→y≤x→m.Cool n k y
 | 0,h,k,x,y,c,h1,h2=>Rat.le_trans h1 c
 | n+1,h,k,x,y,c,h1,h2=>⟨Rat.le_trans h1 c.1,Mt.Cool.mono ok c.2 (Mt.nx_mono ok h1 h2) h2⟩
theorem Mt.Cool.zero {m:Mt} (ok:m.Ok):∀{n:Nat} {h:Rat},0≤h→h≤m.M→m.Cool n h 0
 | 0,h,h0,h1=>h1
 | n+1,h,h0,h1=>⟨h1,Mt.Cool.zero ok (Mt.nx_zero ok h0).1 (Rat.le_trans (Mt.nx_zero ok h0).2 h1)⟩
def Mt.sq (m:Mt):Nat→Rat→Rat→Rat→Rat
 | 0,h,part,q=>q
 | n+1,h,part,q=>m.sq n (m.next h 0) (part+m.s*m.H-m.s*m.C*part) (if part+m.s*m.H-m.s*m.C*part=0 then q else minQ q ((m.M-m.next h 0) / (part+m.s*m.H-m.s*m.C*part)))
theorem Mt.sq_le (m:Mt):∀(n:Nat) (h part q:Rat),m.sq n h part q≤q
 | 0,h,part,q=>Rat.le_refl
 | n+1,h,part,q=>by
  unfold Mt.sq
  refine Rat.le_trans (Mt.sq_le m n _ _ _) ?_
  split
  ·exact Rat.le_refl
  ·rw [y97];grind
theorem Mt.part_nonneg {m:Mt} (ok:m.Ok) {p:Rat} (h:0≤p):0≤p+m.s*m.H-m.s*m.C*p:=by
 obtain ⟨-,a,b,-,c,d⟩:=ok
 have p1:0≤(1-m.s*m.C)*p:=Rat.mul_nonneg (by grind) h
 have p2:0≤m.s*m.H:=Rat.mul_nonneg (by grind) a
 grind
theorem Mt.sq_nonneg {m:Mt} (ok:m.Ok):∀(n:Nat) (h part q:Rat),0≤h→h≤m.M→0≤part→0≤q→0≤m.sq n h part q
 | 0,h,part,q,_,_,_,h3=>h3
 | n+1,h,part,q,h0,h1,h2,h3=>by
  unfold Mt.sq
  have hp:=Mt.part_nonneg ok h2
  have hn:=Mt.nx_zero ok h0
  have e:m.next h 0=m.nx h 0:=by rw [Mt.next_nx,Rat.mul_zero]
  rw [e]
  refine Mt.sq_nonneg ok n _ _ _ hn.1 (Rat.le_trans hn.2 h1) hp ?_
  split
  ·exact h3
  ·have:0≤(m.M-m.nx h 0) / (part+m.s*m.H-m.s*m.C*part):=by
    rw [Rat.div_def];exact Rat.mul_nonneg (by grind) (Rat.le_of_lt (Rat.inv_pos.2 (by grind)))
   rw [y97];split<;>assumption
theorem Mt.sq_cool {m:Mt} (ok:m.Ok) (x:Rat) (x0:0≤x):∀(n:Nat) (h part q:Rat),0≤h→h≤m.M→0≤part→h+part*x≤m.M→x≤m.sq n h part q→m.Cool n (h+part*x) x
 | 0,h,part,q,h0,h1,h2,h3,hx=>h3
 | n+1,h,part,q,h0,h1,h2,h3,hx=>by
  unfold Mt.sq at hx
  have hp:=Mt.part_nonneg ok h2
  have hn:=Mt.nx_zero ok h0
  have e:m.next h 0=m.nx h 0:=by rw [Mt.next_nx,Rat.mul_zero]
  rw [e] at hx
  have e2:m.nx (h+part*x) x=m.nx h 0+(part+m.s*m.H-m.s*m.C*part)*x:=by unfold Mt.nx;grind
  refine ⟨h3, ?_⟩
  rw [e2]
  refine Mt.sq_cool ok x x0 n _ _ _ hn.1 (Rat.le_trans hn.2 h1) hp ?_ hx
  by_cases c:part+m.s*m.H-m.s*m.C*part=0
  ·rw [c,Rat.zero_mul];have:=Rat.le_trans hn.2 h1;grind
  ·rw [if_neg c] at hx
   have h4:=Rat.le_trans hx (Mt.sq_le m n _ _ _)
   have h5:x≤(m.M-m.nx h 0) / (part+m.s*m.H-m.s*m.C*part):=by rw [y97] at h4;grind
   have h6:=Rat.mul_le_mul_of_nonneg_right h5 hp
   rw [Rat.div_mul_cancel c] at h6
   grind
def sqrtN:Nat→Nat→Nat
 | 0,n=>0
 | k+1,n=>if (k+1)*(k+1)≤n then k+1 else sqrtN k n
def isqrt (n:Nat):Nat:=sqrtN n n
theorem yol (n:Nat):∀k,sqrtN k n*sqrtN k n≤n
 | 0=>Nat.zero_le _
 | k+1=>by
  unfold sqrtN
  split
  ·assumption
  ·exact yol n k
theorem yo5 (n:Nat):∀k x,x≤k→x*x≤n→x≤sqrtN k n
 | 0,x,h,_=>by omega
 | k+1,x,h,hx=>by
  unfold sqrtN
  split
  ·exact h
  ·rename_i hn
   by_cases e:x=k+1
   ·subst e;exact absurd hx hn
   ·exact yo5 n k x (by omega) hx
theorem yaw (n:Nat):isqrt n*isqrt n≤n:=yol n n
theorem ygx {n x:Nat} (h:x*x≤n):x≤isqrt n:=by
 refine yo5 n n x ?_ h
 rcases Nat.eq_zero_or_pos x with e | e
 ·omega
 ·exact Nat.le_trans (Nat.le_mul_of_pos_left x e) h
def rootQ (k:Nat) (a:Rat):Rat:=if a.num<0 then 0 else ((isqrt (a.num.natAbs*2^(2*k) / a.den):Nat):Rat) / ((2^k:Nat):Rat)
theorem yea (k:Nat) (a:Rat):0≤rootQ k a:=by
 unfold rootQ
 split
 ·exact Rat.le_refl
 ·rw [Rat.div_def]
  exact Rat.mul_nonneg Rat.natCast_nonneg (by
   have:(0:Rat)<((2^k:Nat):Rat):=Rat.natCast_pos.2 (Nat.pow_pos (by decide))
   exact Rat.le_of_lt (Rat.inv_pos.2 this))
theorem ynj {k:Nat} {a:Rat} (h0:0≤a):rootQ k a*rootQ k a≤a:=by
 have hn:0≤a.num:=Rat.num_nonneg.2 h0
 unfold rootQ
 rw [if_neg (by omega)]
 have hp:(0:Rat)<((2^k:Nat):Rat):=Rat.natCast_pos.2 (Nat.pow_pos (by decide))
 have hd:(0:Rat)<((a.den:Nat):Rat):=Rat.natCast_pos.2 a.den_pos
 have h1:=yaw (a.num.natAbs*2^(2*k) / a.den)
 have h2:=Nat.div_mul_le_self (a.num.natAbs*2^(2*k)) a.den
 generalize isqrt (a.num.natAbs*2^(2*k) / a.den)=r at*
 have h3:r*r*a.den≤a.num.natAbs*(2^k*2^k):=by
  have:r*r*a.den≤a.num.natAbs*2^(2*k) / a.den*a.den:=Nat.mul_le_mul_right _ h1
  rw [show 2*k=k+k by omega,Nat.pow_add] at h2
  rw [show 2*k=k+k by omega,Nat.pow_add] at this
  exact Nat.le_trans this h2
 have h4:((r:Nat):Rat)*(r:Rat)*((a.den:Nat):Rat)≤(a.num.natAbs:Rat)*(((2^k:Nat):Rat)*((2^k:Nat):Rat)):=by
  have:=Rat.natCast_le_natCast.2 h3
  simpa only [Rat.natCast_mul] using this
 have e:(a.num.natAbs:Rat)=a*((a.den:Nat):Rat):=by
  have:=y7y a
  rw [this]
  have:((a.num.natAbs:Nat):Int)=a.num:=by omega
  rw [←this];rfl
 rw [e] at h4
 generalize ((2^k:Nat):Rat)=p at*
 have e2:(r:Rat) / p*p=r:=Rat.div_mul_cancel (by grind)
 generalize (r:Rat) / p=y at*
 have h5:y*y*(p*p*(a.den:Rat))≤a*(p*p*(a.den:Rat)):=by rw [←e2] at h4;grind
 exact Rat.not_lt.1 fun hlt=>by
  have:=Rat.mul_lt_mul_of_pos_right hlt (c:=p*p*(a.den:Rat)) (Rat.mul_pos (Rat.mul_pos hp hp) hd)
  grind
def Mt.top (m:Mt) (d k:Nat) (h:Rat):Rat:=rootQ k (m.sq (d+1) h 0 (m.T*m.T))
theorem yhl {a b:Rat} (h1:-b≤a) (h2:a≤b):a*a≤b*b:=by
 have:0≤(b-a)*(b+a):=Rat.mul_nonneg (by grind) (by grind)
 grind
theorem yt0 {a b:Rat} (hb:0≤b) (h:a*a≤b*b):-b≤a∧a≤b:=by
 constructor
 ·refine Rat.not_lt.1 fun hlt=> ?_
  have:0<(-a-b)*(-a+b):=Rat.mul_pos (by grind) (by grind)
  grind
 ·refine Rat.not_lt.1 fun hlt=> ?_
  have:0<(a-b)*(a+b):=Rat.mul_pos (by grind) (by grind)
  grind
theorem Mt.top_cool {m:Mt} (ok:m.Ok) {d k:Nat} {h t:Rat} (h0:0≤h) (h1:h≤m.M) (t1:-(m.top d k h)≤t) (t2:t≤m.top d k h):m.Cool (d+1) h (t*t)∧t*t≤m.T*m.T:=by
 have hT:0≤m.T*m.T:=Rat.mul_nonneg ok.t ok.t
 have hs:=Mt.sq_nonneg ok (d+1) h 0 (m.T*m.T) h0 h1 Rat.le_refl hT
 have hr:=ynj (k:=k) hs
 have ht:=yhl t1 t2
 have hx:t*t≤m.sq (d+1) h 0 (m.T*m.T):=Rat.le_trans ht hr
 have t0:0≤t*t:=by
  by_cases c:0≤t
  ·exact Rat.mul_nonneg c c
  ·have:0≤(-t)*(-t):=Rat.mul_nonneg (by grind) (by grind)
   grind
 have:=Mt.sq_cool ok (t*t) t0 (d+1) h 0 (m.T*m.T) h0 h1 Rat.le_refl (by rw [Rat.zero_mul];grind) hx
 rw [Rat.zero_mul,Rat.add_zero] at this
 exact ⟨this,Rat.le_trans hx (Mt.sq_le m _ _ _ _)⟩
structure Wt where
 heat:Rat
 last:Rat
 read:Rat
def Mt.rd (kind:Nat) (at_ i:Int) (w:Wt):Rat:=if kind≠3∨i≤at_ then w.heat else w.read
def Mt.cmd (m:Mt) (d k kind:Nat) (at_ i:Int) (w:Wt) (want:Rat):Rat:=maxQ (-(m.top d k (Mt.rd kind at_ i w))) (minQ (m.top d k (Mt.rd kind at_ i w)) want)
def Mt.tq (m:Mt) (d k kind:Nat) (at_ i:Int) (w:Wt) (want:Rat):Rat:=
 if kind≠0∧at_≤i then (if kind=1∨¬i-at_<(d:Int) then 0 else if kind=2 then w.last else m.cmd d k kind at_ i w want) else m.cmd d k kind at_ i w want
def Mt.step (m:Mt) (d k kind:Nat) (at_ i:Int) (w:Wt) (want:Rat):Wt:=⟨m.next w.heat (m.tq d k kind at_ i w want),m.tq d k kind at_ i w want,Mt.rd kind at_ i w⟩
def Mt.watch (m:Mt) (d k kind:Nat) (at_:Int):Int→Wt→List Rat→List Wt
 | i,w,[]=>[]
 | i,w,x::r=>m.step d k kind at_ i w x::m.watch d k kind at_ (i+1) (m.step d k kind at_ i w x) r
theorem y11r {m:Mt} {d k kind:Nat} {at_ i:Int} {w:Wt} {want:Rat}:-(m.top d k (Mt.rd kind at_ i w))≤m.cmd d k kind at_ i w want∧m.cmd d k kind at_ i w want≤m.top d k (Mt.rd kind at_ i w):=by
 have:0≤m.top d k (Mt.rd kind at_ i w):=yea _ _
 unfold Mt.cmd
 rw [y97,yjt]
 constructor<;>grind
structure WInv (m:Mt) (d k kind:Nat) (at_ i:Int) (w:Wt):Prop where
 h0:0≤w.heat
 h1:w.heat≤m.M
 l:w.last*w.last≤m.T*m.T
 stuck:kind=2→i<at_+d→m.Cool (if i≤at_ then d else (at_+d-i).toNat) w.heat (w.last*w.last)
 blind:kind=3→at_<i→i<at_+d→0≤w.read∧w.read≤m.M∧∃u,w.heat≤u∧m.Cool (at_+d+1-i).toNat u (m.top d k w.read*m.top d k w.read)
theorem WInv.step {m:Mt} (ok:m.Ok) {d k kind:Nat} {at_ i:Int} {w:Wt} (h:WInv m d k kind at_ i w) (hk:kind≤3) (want:Rat):
  WInv m d k kind at_ (i+1) (m.step d k kind at_ i w want):=by
 obtain ⟨h0,h1,hl,hs,hb⟩:=h
 have hT:0≤m.T*m.T:=Rat.mul_nonneg ok.t ok.t
 have sqn:∀t:Rat,0≤t*t:=fun t=>by
  by_cases c:0≤t
  ·exact Rat.mul_nonneg c c
  ·have:0≤(-t)*(-t):=Rat.mul_nonneg (by grind) (by grind)
   grind
 have normal:∀t:Rat,-(m.top d k w.heat)≤t→t≤m.top d k w.heat→m.next w.heat t≤m.M∧m.Cool d (m.next w.heat t) (t*t)∧t*t≤m.T*m.T:=by
  intro t t1 t2
  obtain ⟨c1,c2⟩:=Mt.top_cool ok h0 h1 t1 t2
  rw [Mt.next_nx]
  exact ⟨c1.2.now,c1.2,c2⟩
 have zero:m.next w.heat 0≤m.M:=by
  rw [Mt.next_nx,Rat.mul_zero];exact Rat.le_trans (Mt.nx_zero ok h0).2 h1
 have cin:=@y11r m d k kind at_ i w want
 have key:∀t,t=m.tq d k kind at_ i w want→m.next w.heat t≤m.M∧t*t≤m.T*m.T∧(kind=2→i+1<at_+d→m.Cool (if i+1≤at_ then d else (at_+d-(i+1)).toNat) (m.next w.heat t) (t*t))∧
   (kind=3→at_<i+1→i+1<at_+d→0≤Mt.rd kind at_ i w∧Mt.rd kind at_ i w≤m.M∧∃u,m.next w.heat t≤u∧m.Cool (at_+d+1-(i+1)).toNat u (m.top d k (Mt.rd kind at_ i w)*m.top d k (Mt.rd kind at_ i w))):=by
  intro t ht
  unfold Mt.tq at ht
  by_cases c1:kind≠0∧at_≤i
  ·rw [if_pos c1] at ht
   by_cases c2:kind=1∨¬i-at_<(d:Int)
   ·rw [if_pos c2] at ht
    subst ht
    refine ⟨zero,by rw [Rat.zero_mul];exact hT,fun e he=> ?_,fun e he he2=> ?_⟩
    ·rcases c2 with c2 | c2
     ·omega
     ·omega
    ·rcases c2 with c2 | c2
     ·omega
     ·omega
   ·rw [if_neg c2] at ht
    by_cases c3:kind=2
    ·rw [if_pos c3] at ht
     subst ht
     have hc:=hs c3 (by omega)
     have hc':∃n,m.Cool (n+1) w.heat (w.last*w.last)∧((if i+1≤at_ then d else (at_+d-(i+1)).toNat)=n):=by
      by_cases c4:i≤at_
      ·rw [if_pos c4] at hc
       have:i=at_:=by omega
       exact ⟨d-1,by rwa [show d-1+1=d by omega],by rw [if_neg (by omega)];omega⟩
      ·rw [if_neg c4] at hc
       exact ⟨(at_+d-i).toNat-1,by rwa [show (at_+d-i).toNat-1+1=(at_+d-i).toNat by omega],by rw [if_neg (by omega)];omega⟩
     obtain ⟨n,hc1,hc2⟩:=hc'
     rw [Mt.next_nx]
     exact ⟨hc1.2.now,hl,fun e he=>by rw [hc2];exact hc1.2,fun e=>by omega⟩
    ·rw [if_neg c3] at ht
     have c4:kind=3:=by omega
     subst ht
     by_cases c5:i≤at_
     ·have er:Mt.rd kind at_ i w=w.heat:=if_pos (.inr c5)
      rw [er] at cin
      obtain ⟨n1,n2,n3⟩:=normal _ cin.1 cin.2
      refine ⟨n1,n3,fun e=>absurd e c3,fun _ _ he=>⟨by rw [er];exact h0,by rw [er];exact h1, ?_⟩⟩
      rw [er]
      have hc:=(Mt.top_cool ok (d:=d) (k:=k) (t:=m.top d k w.heat) h0 h1 (by have:=yea k (m.sq (d+1) w.heat 0 (m.T*m.T));show-(rootQ _ _)≤rootQ _ _;grind) Rat.le_refl).1
      refine ⟨m.nx w.heat (m.top d k w.heat*m.top d k w.heat), ?_, ?_⟩
      ·rw [Mt.next_nx];exact Mt.nx_mono ok Rat.le_refl (yhl cin.1 cin.2)
      ·rw [show (at_+d+1-(i+1)).toNat=d by omega];exact hc.2
     ·have er:Mt.rd kind at_ i w=w.read:=if_neg (by omega)
      rw [er] at cin ⊢
      obtain ⟨r0,r1,u,u1,u2⟩:=hb c4 (by omega) (by omega)
      obtain ⟨n,hn⟩:∃n,(at_+d+1-i).toNat=n+1:=⟨(at_+d-i).toNat,by omega⟩
      rw [hn] at u2
      have hle:m.next w.heat (m.cmd d k kind at_ i w want)≤m.nx u (m.top d k w.read*m.top d k w.read):=by
       rw [Mt.next_nx];exact Mt.nx_mono ok u1 (yhl cin.1 cin.2)
      refine ⟨Rat.le_trans hle u2.2.now, ?_,fun e=>absurd e c3,fun _ _ _=>⟨r0,r1,_,hle, ?_⟩⟩
      ·exact (Mt.top_cool ok r0 r1 cin.1 cin.2).2
      ·rw [show (at_+d+1-(i+1)).toNat=n by omega];exact u2.2
  ·rw [if_neg c1] at ht
   have er:Mt.rd kind at_ i w=w.heat:=by
    unfold Mt.rd
    by_cases e:kind=0
    ·rw [if_pos (.inl (by omega))]
    ·rw [if_pos (.inr (by omega))]
   rw [er] at cin
   subst ht
   obtain ⟨n1,n2,n3⟩:=normal _ cin.1 cin.2
   refine ⟨n1,n3,fun e he=> ?_,fun e he=>absurd he (by omega)⟩
   rw [if_pos (by omega)];exact n2
 obtain ⟨k1,k2,k3,k4⟩:=key _ rfl
 exact ⟨by show 0≤m.next _ _;rw [Mt.next_nx];exact Mt.nx_nonneg ok h0 (sqn _),k1,k2,k3,k4⟩
theorem ylc (m:Mt) (d k kind:Nat) (at_:Int):∀(l:List Rat) (i:Int) (w:Wt),(m.watch d k kind at_ i w l).length=l.length
 | [],i,w=>rfl
 | x::r,i,w=>by unfold Mt.watch;rw [List.length_cons,List.length_cons,ylc m d k kind at_ r]
theorem ypf {m:Mt} (ok:m.Ok) {d k kind:Nat} {at_:Int} {h:Rat} (ha:0≤at_) (h0:0≤h) (h1:h≤m.M):WInv m d k kind at_ 0 ⟨h,0,h⟩:=by
 have hT:0≤m.T*m.T:=Rat.mul_nonneg ok.t ok.t
 refine ⟨h0,h1,by show (0:Rat)*0≤_;rw [Rat.zero_mul];exact hT,fun _ _=> ?_,fun _ hlt=>absurd hlt (by omega)⟩
 show m.Cool _ h ((0:Rat)*0)
 rw [Rat.zero_mul]
 exact Mt.Cool.zero ok h0 h1
end Go.Ev
namespace Go.Ev
theorem yri (a b:Rat):CanonEs [qC a,qC b]:=fun e he x hx=>by
 have h:∀q:Rat,x∈qC q→Canon x:=fun q hx=>by
  unfold qC at hx
  simp only [List.mem_cons,List.not_mem_nil,or_false] at hx
  rcases hx with rfl | rfl | rfl
  ·exact .bool _
  ·exact .sl _
  ·exact .sl _
 simp only [List.mem_cons,List.not_mem_nil,or_false] at he
 rcases he with rfl | rfl<;>exact h _ hx
theorem ygg {f:FuncId} {a b:Rat} {r:SV} (h:Ends f [.one (.sl false [qC a,qC b])] r):∃N,∀n,N≤n→∀(ob:Nat→Option AObj) (fz:Nat→Nat) (id:Nat),
  callV (evF E n) f [.one (.rsl id 0 3 0 2 false)] (upd ob id (.row 3 [qC a,qC b] 0)) fz=some (.fzd (raise fz id 2) r):=by
 obtain ⟨N,h⟩:=h
 refine ⟨N,fun n hn ob fz id=> ?_⟩
 rw [y6j]
 have hr:rowAt (upd ob id (.row 3 [qC a,qC b] 0)) id 0=some (3,[qC a,qC b]):=by
  simp only [rowAt,upd_same]
  rfl
 have h1:=ycx (sz:=3) (full:=false) fz hr (lo:=0) (len:=2) (by simp) (yri a b)
 simp only [List.drop_zero,Nat.zero_add] at h1
 rw [show ([qC a,qC b]:List (List AV)).take 2=[qC a,qC b] from rfl] at h1
 simp only [mapFz,h1,h n hn,Option.map_some]
def nextQ (m s v w f g:Rat):Rat:=maxQ (maxQ (-g) (v-s*m)) (minQ (minQ f (v+s*m)) (v+s*w))
def holdQ (m s v w f g:Rat):Rat:=(nextQ m s v w f g-v) / s
end Go.Ev
namespace Go.Ev
theorem y8x:qC 0=[.bool false,.sl false [],.sl false []]:=by
 have:=yog 0
 unfold qV at this
 have h:natV (0:Int).natAbs=.sl false []:=by
  show natV 0=_
  unfold natV
  rw [Go.Dig.digs_zero]
  rfl
 rw [h] at this
 exact SV.agg.inj this
end Go.Ev
namespace Go.Ev
open Go.Dig
def natQ0 (n:Nat):Rat:=Rat.ofInt (n:Int)
theorem ydh (B:Nat):∀q:Nat,val B (List.replicate q 0)=0
 | 0=>rfl
 | q+1=>by rw [List.replicate_succ,val,ydh B q];simp
theorem yz1 (a k:Nat) (hk:k<2^40) (ha:dlen B32 a<2^38) {n:Nat} (hn:k+dlen B32 a+6≤n):evV E (n+1) Id.y1q [.one (natV a),.one (.int .i64 (k:Int))]=some (.one (natV (a*2^k))):=by
 rw [y04 yb8]
 unfold natV
 unfold dlen at ha hn
 obtain ⟨q,hq⟩:∃q,q=k / 32:=⟨_,rfl⟩
 obtain ⟨r,hr⟩:∃r,r=k%32:=⟨_,rfl⟩
 have hqr:k=32*q+r:=by omega
 have hr32:r<32:=by omega
 have eq:IntKind.i64.wrap (((k:Nat):Int).tdiv 32)=((q:Nat):Int):=by
  rw [show ((32:Int))=((32:Nat):Int) from rfl,←Int.ofNat_tdiv,←hq]
  exact wi64 (by omega)
 have er:(((k:Nat):Int).tmod 32)=((r:Nat):Int):=by
  rw [show ((32:Int))=((32:Nat):Int) from rfl,←Int.ofNat_tmod,←hr]
 have h32:((32:Int)=0)=False:=by simp
 have w1:IntKind.i64.wrap (((q:Nat):Int)+(((digs B32 a).length:Nat):Int))=((q+(digs B32 a).length:Nat):Int):=by
  rw [←Int.natCast_add];exact wi64 (by omega)
 have w2:IntKind.i64.wrap ((q+(digs B32 a).length+1:Nat):Int)=((q+(digs B32 a).length+1:Nat):Int):=wi64 (by omega)
 have l2:q+(digs B32 a).length+1≤9223372036854775807:=by omega
 have l3:4*(q+(digs B32 a).length+1)≤281474976710656:=by omega
 have l4:q≤q+(digs B32 a).length+1:=by omega
 have l5:q+(q+(digs B32 a).length+1-q)≤q+(digs B32 a).length+1:=by omega
 have hcp:natE ((List.replicate (q+(digs B32 a).length+1) 0).take q)++natE ((digs B32 a).take (q+(digs B32 a).length+1-q))++natE ((List.replicate (q+(digs B32 a).length+1) 0).drop (q+Nat.min (digs B32 a).length (q+(digs B32 a).length+1-q)))=natE (List.replicate q 0++(digs B32 a++[0])):=by
  rw [y9e,y9e,List.take_replicate,List.take_of_length_le (by omega),show Nat.min (digs B32 a).length (q+(digs B32 a).length+1-q)=(digs B32 a).length from Nat.min_eq_left (by omega),List.drop_replicate,Nat.min_eq_left (by omega)]
  rw [show q+(digs B32 a).length+1-(q+(digs B32 a).length)=1 by omega,List.append_assoc]
  rfl
 have hlen:(List.replicate q 0++(digs B32 a++[0])).length=q+(digs B32 a).length+1:=by simp;omega
 have hlt:∀d∈List.replicate q 0++(digs B32 a++[0]),d<B32:=by
  intro d hd
  rcases List.mem_append.1 hd with h | h
  ·rw [List.mem_replicate] at h;rw [h.2];decide
  ·rcases List.mem_append.1 h with h | h
   ·exact y1o (by decide) a d h
   ·simp at h;rw [h];decide
 have hval:val B32 (List.replicate q 0++(digs B32 a++[0]))=B32^q*a:=by
  rw [y8d,ydh,y0f,y14 (by decide),List.length_replicate];simp
 have hB:B32^q*a*2^r=a*2^k:=by
  rw [hqr,Nat.pow_add,Nat.pow_mul,show (2:Nat)^32=B32 from by decide,Nat.mul_comm (B32^q) a,Nat.mul_assoc]
 have z0:((0:Nat):Int)=0:=rfl
 have n0:natOf 0=some 0:=rfl
 have tk:∀j,(natE (List.replicate (q+(digs B32 a).length+1) 0)).take j=natE ((List.replicate (q+(digs B32 a).length+1) 0).take j):=fun j=>by simp [natE]
 have dk:∀j,(natE (List.replicate (q+(digs B32 a).length+1) 0)).drop j=natE ((List.replicate (q+(digs B32 a).length+1) 0).drop j):=fun j=>by simp [natE]
 have tk':∀j,(natE (digs B32 a)).take j=natE ((digs B32 a).take j):=fun j=>by simp [natE]
 have fzq:(0≤q)=True:=by simp
 rcases Nat.eq_zero_or_pos r with hr0 | hr0
 ·have hnr:=y6z (n:=n) (id:=6) (ver:=0) (full:=false) (ob:=upd ob0 6 (.row 1 (natE (List.replicate q 0++(digs B32 a++[0]))) 0)) (fz:=fz0) (List.replicate q 0++(digs B32 a++[0])) (by omega) hlt (by omega) y4l
  rw [hval,hlen] at hnr
  unfold natV at hnr
  have hg:(((r:Nat):Int)>0)=False:=by simp;omega
  have hpw:B32^q*a=a*2^k:=by rw [←hB,hr0];simp
  rw [hpw] at hnr
  simp only [go_sem,Fn.y1q,eq,er,h32,z0,n0,List.length_replicate,ydl,w1,w2,l2,l3,l4,l5,y7b,y4n,add1,Int.zero_add,tk,dk,tk',hcp,hg,hnr]
 ·obtain ⟨o',c',hloop,h2,h3,h4,h5⟩:=ygc (F:=evF E n) (fuel:=n) (ob:=ob0) (fz:=fz0) (nx:=8) (id:=6) (T:=q+(digs B32 a).length+1) (k:=r) (by omega) rfl (by omega) hr32 (List.replicate q 0++(digs B32 a++[0])) hlen hlt ((digs B32 a).length+1) q (by omega) (List.replicate q 0++(digs B32 a++[0])) 0 hlen hlt (Nat.pow_pos (by omega)) (fun j _=>rfl) (by
    have:(List.replicate q 0++(digs B32 a++[0])).take q=List.replicate q 0:=by rw [List.take_append,List.length_replicate,List.take_of_length_le (by simp)];simp
    rw [this,ydh];simp) (fun _=>rfl) n (by omega)
  have hc':c'=0:=h5 (by rw [←List.append_assoc,show q+(digs B32 a).length+1-1=(List.replicate q 0++digs B32 a).length by simp];simp [List.getD])
  rw [hc',hval,Nat.mul_zero,Nat.add_zero,hB] at h4
  have hnr:=y6z (n:=n) (id:=6) (ver:=0) (full:=false) (ob:=upd ob0 6 (.row 1 (natE o') 0)) (fz:=fz0) o' (by omega) h3 (by omega) y4l
  rw [h4,h2] at hnr
  unfold natV at hnr
  have hg:(((r:Nat):Int)>0)=True:=by simp;omega
  rw [show ((0:Nat):Int)=0 from rfl] at hloop
  simp only [go_sem,Fn.y1q,eq,er,h32,z0,n0,List.length_replicate,ydl,w1,w2,l2,l3,l4,l5,y7b,y4n,add1,Int.zero_add,tk,dk,tk',hcp,hg,hloop,hnr]
theorem cShl (a k:Nat) (hk:k<2^40) (ha:dlen B32 a<2^38):Calling Id.y1q [.one (natV a),.one (.int .i64 (k:Int))] (.one (natV (a*2^k))):=
 (Ends.of _ fun hn=>yz1 a k hk ha hn).call (can2 (y0d _) (y0y _ _))
theorem yv5 (a:Nat) (ha:dlen B32 a<2^38):∃L:Nat,Ends Id.y3v [.one (natV a)] (.one (.int .i64 (L:Int)))∧a<2^L∧(L=0∨2^(L-1)≤a)∧L<2^44:=by
 by_cases h0:a=0
 ·subst h0
  refine ⟨0,.of 1 fun {n} hn=> ?_,by decide,.inl rfl,by decide⟩
  rw [y04 yao]
  unfold natV
  rw [digs_zero]
  have e:(((0:Nat):Int)==0)=true:=rfl
  simp only [go_sem,Fn.y3v,y4n,List.length_nil,natE,List.map_nil,e]
  rfl
 ·have hne:=y4c (B:=B32) (by decide) h0
  obtain ⟨l,x,hlx⟩:∃l x,digs B32 a=l++[x]:=⟨_,_,(List.dropLast_concat_getLast hne).symm⟩
  have hxlt:x<4294967296:=y1o (B:=B32) (by decide) a x (by rw [hlx];simp)
  have hval:a=val B32 (l++[x]):=by rw [←hlx,y14 (by decide)]
  have hl:val B32 l<B32^l.length:=y5s (by decide) l fun d hd=>y1o (by decide) a d (by rw [hlx];simp [hd])
  have hx0:0<x:=by
   have ht:=yug (B:=B32) (by decide) a
   rw [hlx] at ht
   rcases Nat.eq_zero_or_pos x with e | e
   ·subst e
    rw [y63] at ht
    have:=ybr l
    rw [ht,List.length_append,show ([0]:List Nat).length=1 from rfl] at this
    omega
   ·exact e
  have hdl:dlen B32 a=l.length+1:=by unfold dlen;rw [hlx];simp
  obtain ⟨L,-,hL1,hL2,hL3,hL4⟩:=ydv x hxlt hx0 0
  have hLr:∀n:Nat,evV E (n+1) Id.y2z [.one (.int .u32 (x:Int))]=some (.one (.int .i64 (L:Int))):=fun n=>by
   obtain ⟨L',e1,e2,e3,e4,e5⟩:=ydv x hxlt hx0 n
   have:L'=L:=by
    rcases Nat.lt_trichotomy L' L with h | h | h
    ·have:=Nat.pow_le_pow_right (show 0<2 by decide) (show L'≤L-1 by omega);omega
    ·exact h
    ·have:=Nat.pow_le_pow_right (show 0<2 by decide) (show L≤L'-1 by omega);omega
   rw [←this];exact e1
  refine ⟨32*l.length+L,.of 2 fun {n} hn=> ?_, ?_,.inr ?_,by omega⟩
  ·rw [y04 yao]
   obtain ⟨n,rfl⟩:∃m,n=m+1:=⟨n-1,by omega⟩
   have hc:=y01 (hLr n) (can1 (y0y _ _))
   unfold natV
   rw [hlx]
   have e1:(((l.length+1:Nat):Int)==0)=false:=by simp;omega
   have e2:IntKind.i64.wrap (((l.length+1:Nat):Int)-1)=((l.length:Nat):Int):=by rw [wrap_i64 (by omega)];omega
   have e3:IntKind.i64.wrap (32*((l.length:Nat):Int))=((32*l.length:Nat):Int):=by rw [wrap_i64 (by omega)];omega
   have e4:IntKind.i64.wrap (((32*l.length:Nat):Int)+((L:Nat):Int))=((32*l.length+L:Nat):Int):=by rw [wrap_i64 (by omega)];omega
   have g:(natE (l++[x]))[l.length]? =some [.int .u32 (x:Int)]:=by unfold natE;rw [List.getElem?_map];simp
   have hz:(natE (l++[x])).length=l.length+1:=by unfold natE;simp
   have hb:([AV.int .u32 (x:Int)]).length=1:=rfl
   simp only [go_sem,Fn.y3v,hz,e1,e2,e3,e4,g,hc]
  ·rw [hval,y0f]
   have:B32^l.length=2^(32*l.length):=by rw [Nat.pow_mul]
   rw [this] at hl ⊢
   rw [Nat.pow_add]
   have h1:2^(32*l.length)*(x+1)≤2^(32*l.length)*2^L:=Nat.mul_le_mul_left _ (by omega)
   rw [Nat.mul_add,Nat.mul_one] at h1
   omega
  ·rw [hval,y0f]
   have:B32^l.length=2^(32*l.length):=by rw [Nat.pow_mul]
   rw [this,show 32*l.length+L-1=32*l.length+(L-1) by omega,Nat.pow_add]
   have h1:2^(32*l.length)*2^(L-1)≤2^(32*l.length)*x:=Nat.mul_le_mul_left _ hL3
   omega
theorem cShr1 (a:Nat) (ha:dlen B32 a<2^40):Calling Id.y36 [.one (natV a),.one (.int .i64 1)] (.one (natV (a / 2))):=
 (Ends.of _ fun {n} hn=>by have:=ypm a 1 (by decide) ha (n:=n) hn;rwa [Nat.pow_one] at this).call (can2 (y0d _) (y0y _ _))
theorem cNDiv (a b:Nat) (hb:0<b) (ha:dlen B32 a<2^40):Calling Id.y17 [.one (natV a),.one (natV b)] (.tup [.one (natV (a / b)),.one (natV (a%b))]):=
 (Ends.of _ fun {n} hn=>yep a b hb ha (n:=n) hn).call (can2 (y0d _) (y0d _))
theorem cNAdd (a b:Nat) (ha:dlen B32 a<2^40) (hb:dlen B32 b<2^40):Calling Id.y2r [.one (natV a),.one (natV b)] (.one (natV (a+b))):=
 (Ends.of _ fun {n} hn=>yjb a b ha hb (n:=n) hn).call (can2 (y0d _) (y0d _))
theorem cNCmp (a b:Nat) (ha:dlen B32 a<2^60):Calling Id.y1p [.one (natV a),.one (natV b)] (.one (.int .i64 (cmpI a b))):=
 (Ends.of _ fun {n} hn=>y8z a b ha (n:=n) hn).call (can2 (y0d _) (y0d _))
theorem cNOf1:Calling Id.y20 [.one (.int .u64 1)] (.one (natV 1)):=
 (Ends.of _ fun {n} hn=>y9o 1 (by decide) (n:=n) hn).call (can1 (y0y _ _))
theorem yqn (a b:Nat):(cmpI a b≥0)=(b≤a):=by
 unfold cmpI;rw [eq_iff_iff];(repeat split)<;>omega
theorem ykl (a:Nat) (a0:0<a) {S:Nat} (hS:S<2^38) (ha:dlen B32 a≤S):∀(k x:Nat),x≤k→0<x→isqrt a≤x→dlen B32 x≤S→∃N,∀n,N≤n→∀(X:List (Nat×SV)) (M:Nat),k<M→
  ∃X',loopN (evC (evF E n) n Fn.y7d) M ⟨env ((0,.one (natV a))::(3,.one (natV x))::X),ob0,fz0,0⟩=some (.ret,⟨env ((2,.one (natV (isqrt a)))::X'),ob0,fz0,0⟩)
 | 0,x,h1,h2,_,_=>by omega
 | k+1,x,h1,h2,h3,h4=>by
  have hq:dlen B32 (a / x)≤S:=Nat.le_trans (y4s (by decide) (Nat.div_le_self _ _)) ha
  have hsum:dlen B32 (x+a / x)<2^40:=by
   have hx:=y5r (B:=B32) (by decide) x
   have hy:=y5r (B:=B32) (by decide) (a / x)
   have h5:B32^dlen B32 x≤B32^S:=Nat.pow_le_pow_right (by decide) h4
   have h6:B32^dlen B32 (a / x)≤B32^S:=Nat.pow_le_pow_right (by decide) hq
   have:dlen B32 (x+a / x)≤S+1:=y58 (by decide) (by
    have hB2:2≤B32:=by decide
    have:2*B32^S≤B32*B32^S:=Nat.mul_le_mul_right _ hB2
    rw [Nat.pow_succ,Nat.mul_comm];omega)
   omega
  obtain ⟨N1,k1⟩:=cNDiv a x h2 (by omega)
  obtain ⟨N2,k2⟩:=cNAdd x (a / x) (by omega) (by omega)
  obtain ⟨N3,k3⟩:=cShr1 (x+a / x) hsum
  have hy4:dlen B32 ((x+a / x) / 2)<2^60:=by
   have:=y4s (B:=B32) (by decide) (Nat.div_le_self (x+a / x) 2);omega
  obtain ⟨N4,k4⟩:=cNCmp ((x+a / x) / 2) x hy4
  have hlow:isqrt a≤(x+a / x) / 2:=by
   have hr:=yaw a
   generalize isqrt a=r at*
   have h5:a<x*(a / x+1):=by
    have e1:=Nat.div_add_mod a x
    have e2:=Nat.mod_lt a h2
    rw [Nat.mul_add,Nat.mul_one];omega
   have h6:2*r≤x+a / x:=by
    refine Nat.le_of_not_lt fun hlt=> ?_
    generalize a / x=y at*
    have h7:(x:Int)*((y:Int)+1)≤(r:Int)*r:=by
     have e:(x:Int)+((y:Int)+1)≤2*r:=by omega
     have sq:0≤((x:Int)-((y:Int)+1))*((x:Int)-((y:Int)+1)):=by
      by_cases c:0≤(x:Int)-((y:Int)+1)
      ·exact Int.mul_nonneg c c
      ·have:=Int.mul_nonneg (show 0≤-((x:Int)-((y:Int)+1)) by omega) (show 0≤-((x:Int)-((y:Int)+1)) by omega)
       rwa [Int.neg_mul_neg] at this
     have sq2:((x:Int)+((y:Int)+1))*((x:Int)+((y:Int)+1))≤(2*r)*(2*r):=Int.mul_le_mul e e (by omega) (by omega)
     grind
    have h8:(((x*(y+1):Nat)):Int)≤((r*r:Nat):Int):=by push_cast;exact h7
    omega
   omega
  by_cases hge:x≤(x+a / x) / 2
  ·refine ⟨N1+N2+N3+N4,fun n hn X M hM=> ?_⟩
   obtain ⟨M,rfl⟩:∃m,M=m+1:=⟨M-1,by omega⟩
   have k1:=k1 n (by omega)
   have k2:=k2 n (by omega)
   have k3:=k3 n (by omega)
   have k4:=k4 n (by omega)
   have hroot:x=isqrt a:=by
    refine Nat.le_antisymm (ygx ?_) h3
    have:x≤a / x:=by omega
    exact (Nat.le_div_iff_mul_le h2).1 this
   have hc:(cmpI ((x+a / x) / 2) x≥0)=True:=by rw [yqn,eq_iff_iff,iff_true];exact hge
   refine ⟨[],y7k ?_⟩
   rw [←hroot]
   simp only [go_sem,Fn.y7d,k1,k2,k3,k4,hc]
  ·have hx0:0<(x+a / x) / 2:=by
    have:1≤isqrt a:=ygx (by omega)
    omega
   obtain ⟨N5,k5⟩:=ykl a a0 hS ha k ((x+a / x) / 2) (by omega) hx0 hlow (Nat.le_trans (y4s (by decide) (by omega)) h4)
   refine ⟨N1+N2+N3+N4+N5,fun n hn X M hM=> ?_⟩
   obtain ⟨M,rfl⟩:∃m,M=m+1:=⟨M-1,by omega⟩
   have k1:=k1 n (by omega)
   have k2:=k2 n (by omega)
   have k3:=k3 n (by omega)
   have k4:=k4 n (by omega)
   have hc:(cmpI ((x+a / x) / 2) x≥0)=False:=by rw [yqn,eq_iff_iff,iff_false];exact hge
   obtain ⟨X',e⟩:=k5 n (by omega) [] M (by omega)
   refine ⟨X', ?_⟩
   rw [←e]
   refine y0c ?_
   simp only [go_sem,Fn.y7d,k1,k2,k3,k4,hc]
theorem ysf (a:Nat) {S:Nat} (ha:a<2^S) (hS:S<2^36):Ends Id.y3i [.one (natV a)] (.one (natV (isqrt a))):=by
 have hd:dlen B32 a≤S:=y4a ha
 rcases Nat.eq_zero_or_pos a with a0 | a0
 ·subst a0
  refine .of 1 fun {n} hn=> ?_
  rw [y04 yas]
  have e:(((0:Nat):Int)==0)=true:=rfl
  have e2:isqrt 0=0:=rfl
  rw [e2]
  unfold natV
  rw [digs_zero]
  simp only [go_sem,Fn.y3i,natE,List.map_nil,List.length_nil,e]
 ·obtain ⟨L,hL,hL1,hL2,hL3⟩:=yv5 a (by omega)
  have hLS:L≤S:=by
   rcases hL2 with h | h
   ·omega
   ·refine Nat.le_of_not_lt fun hlt=> ?_
    have:=Nat.pow_le_pow_right (show 0<2 by decide) (show S≤L-1 by omega)
    omega
  obtain ⟨N1,k1⟩:=hL.call (can1 (y0d _))
  obtain ⟨N2,k2⟩:=cNOf1
  obtain ⟨j,hj⟩:∃j,j=(L+1) / 2:=⟨_,rfl⟩
  have hone:dlen B32 1≤1:=y4a (by decide)
  obtain ⟨N3,k3⟩:=cShl 1 j (by omega) (by omega)
  rw [Nat.one_mul] at k3
  have hx:isqrt a≤2^j:=by
   refine Nat.le_of_not_lt fun hlt=> ?_
   have h1:=yaw a
   have h2:2^j*2^j≤isqrt a*isqrt a:=Nat.mul_le_mul (Nat.le_of_lt hlt) (Nat.le_of_lt hlt)
   rw [←Nat.pow_add] at h2
   have h3:=Nat.pow_le_pow_right (show 0<2 by decide) (show L≤j+j by omega)
   omega
  have hdj:dlen B32 (2^j)≤j+1:=y4a (Nat.pow_lt_pow_right (by decide) (by omega))
  obtain ⟨N4,k4⟩:=ykl a a0 (S:=S+2) (by omega) (by omega) (2^j) (2^j) (Nat.le_refl _) (Nat.pow_pos (by decide)) hx (by omega)
  refine .of (N1+N2+N3+N4+2^j+1) fun {n} hn=> ?_
  have k1:=k1 n (by omega)
  have k2:=k2 n (by omega)
  have k3:=k3 n (by omega)
  obtain ⟨X',k4⟩:=k4 n (by omega) [] n (by omega)
  rw [y04 yas]
  have hne:=y4c (B:=B32) (by decide) (show a≠0 by omega)
  have e:((((natE (digs B32 a)).length:Nat):Int)==0)=false:=by
   have:0<(natE (digs B32 a)).length:=by unfold natE;rw [List.length_map];exact List.length_pos_iff.2 hne
   exact beq_eq_false_iff_ne.2 (by omega)
  have e':((((digs B32 a).length:Nat):Int)==0)=false:=by
   have:0<(digs B32 a).length:=List.length_pos_iff.2 hne
   exact beq_eq_false_iff_ne.2 (by omega)
  have w1:IntKind.i64.wrap (((L:Nat):Int)+1)=((L+1:Nat):Int):=by rw [wrap_i64 (by omega)];omega
  have w2:IntKind.i64.wrap (((L+1:Nat):Int).tdiv 2)=((j:Nat):Int):=by
   rw [show ((2:Int))=((2:Nat):Int) from rfl,←Int.ofNat_tdiv,←hj];exact wi64 (by omega)
  have h20:((2:Int)=0)=False:=by simp
  unfold natV at k1 k2 k3 k4 ⊢
  simp only [go_sem,Fn.y3i,y4n,e,e',k1,k2,w1,w2,h20,k3,k4]
theorem cRoot (a:Nat) {S:Nat} (ha:a<2^S) (hS:S<2^36):Calling Id.y3i [.one (natV a)] (.one (natV (isqrt a))):=(ysf a ha hS).call (can1 (y0d _))
theorem y12o (m:Nat):wV (m:Int)=.agg [.bool false,natV m]:=by
 unfold wV wC
 rw [Int.natAbs_natCast,show decide (((m:Nat):Int)<0)=false by simp]
theorem cOfNat (m:Nat):Calling Id.y5c [.agg [.bool false,natV m]] (.agg (qC (natQ0 m))):=by
 refine ⟨1,fun n hn=> ?_⟩
 obtain ⟨k,rfl⟩:∃k,n=k+1:=⟨n-1,by omega⟩
 have:=y01 (ysy (m:Int) k) (can1 (y8s _))
 rw [y12o] at this
 exact this
theorem yuc (k:Nat) (hk:k≤64):Ends Id.y59 [.one (.int .i64 (k:Int))] (.agg (qC (natQ0 (2^k)))):=by
 obtain ⟨N1,h1⟩:=cNOf1
 have hone:dlen B32 1≤1:=y4a (by decide)
 obtain ⟨N2,h2⟩:=cShl 1 k (by omega) (by omega)
 rw [Nat.one_mul] at h2
 obtain ⟨N3,h3⟩:=cOfNat (2^k)
 refine .of (N1+N2+N3) fun {n} hn=> ?_
 have h1:=h1 n (by omega)
 have h2:=h2 n (by omega)
 have h3:=h3 n (by omega)
 rw [y04 yo3]
 unfold natV at h1 h2 h3
 simp only [go_sem,Fn.y59,h1,h2,h3]
theorem cFine (k:Nat) (hk:k≤64):Calling Id.y59 [.one (.int .i64 (k:Int))] (.agg (qC (natQ0 (2^k)))):=(yuc k hk).call (can1 (y0y _ _))
theorem cDen (a:Rat) {S:Nat} (ha:SmQ S a) (hS:S<2^38):Calling Id.y1u [.agg (qC a)] (.one (natV a.den)):=
 (Ends.of (S+20) fun {n} hn=>yq5 a ha.den hS (n:=n) hn).call (can1 (y1j _))
theorem cOver (a b:Rat) (h0:b.num≠0) {S T:Nat} (ha:SmQ S a) (hb:SmQ T b) (h:S+T<2^36):Calling Id.y48 [.agg (qC a),.agg (qC b)] (.agg (qC (a / b))):=
 (Ends.of (K (S+T)+2) fun {n} hn=>yot a b h0 ha hb h (n:=n) hn).call (can2 (y1j _) (y1j _))
theorem yzc (a:Rat):sub (qC a) 1 1=some [natV a.num.natAbs]:=rfl
theorem ymm (k:Nat) (hk:k≤64):2^k<2^65:=Nat.pow_lt_pow_right (by decide) (by omega)
theorem ytn (a:Rat) (k:Nat) (hk:k≤64) {S:Nat} (ha:SmQ S a) (hS:S<2^34):Ends Id.y49 [.agg (qC a),.one (.int .i64 (k:Int))] (.tup [.agg (qC (rootQ k a)),.one (.int .i64 (if a.num<0 then 8 else 0))]):=by
 obtain ⟨N1,h1⟩:=cSign a
 have e1:(((k:Nat):Int)<0)=False:=by simp
 have e2:(((k:Nat):Int)>64)=False:=by simp;omega
 by_cases hn:a.num<0
 ·have hs:(signI a.num<0)=True:=by unfold signI;simp [hn]
  have hr:rootQ k a=0:=by unfold rootQ;rw [if_pos hn]
  rw [hr,if_pos hn,y8x]
  refine .of N1 fun {n} hn=> ?_
  have h1:=h1 n (by omega)
  rw [y04 yc7]
  simp only [go_sem,Fn.y49,e1,e2,h1,hs]
 ·have hs:(signI a.num<0)=False:=by
   unfold signI
   by_cases h0:a.num=0
   ·simp [h0]
   ·simp [hn,h0]
  have hm:a.num.natAbs*2^(2*k)<2^(S+129):=by
   have:=y16 ha.num (Nat.pow_lt_pow_right (show 1<2 by decide) (show 2*k<129 by omega))
   exact this
  have hm':a.num.natAbs*2^(2*k) / a.den<2^(S+129):=Nat.lt_of_le_of_lt (Nat.div_le_self _ _) hm
  have hd1:dlen B32 a.num.natAbs≤S:=y4a ha.num
  have hd2:dlen B32 (a.num.natAbs*2^(2*k))≤S+129:=y4a hm
  obtain ⟨N2,h2⟩:=cShl a.num.natAbs (2*k) (by omega) (by omega)
  obtain ⟨N3,h3⟩:=cDen a ha (by omega)
  obtain ⟨N4,h4⟩:=cNDiv (a.num.natAbs*2^(2*k)) a.den a.den_pos (by omega)
  obtain ⟨N5,h5⟩:=cRoot (a.num.natAbs*2^(2*k) / a.den) hm' (by omega)
  obtain ⟨N6,h6⟩:=cOfNat (isqrt (a.num.natAbs*2^(2*k) / a.den))
  obtain ⟨N7,h7⟩:=cFine k hk
  have hr1:isqrt (a.num.natAbs*2^(2*k) / a.den)<2^(S+129):=by
   have h:=yaw (a.num.natAbs*2^(2*k) / a.den)
   generalize isqrt (a.num.natAbs*2^(2*k) / a.den)=r at*
   rcases Nat.eq_zero_or_pos r with e | e
   ·rw [e];exact Nat.pow_pos (by decide)
   ·have:r≤r*r:=Nat.le_mul_of_pos_left r e
    omega
  have s1:SmQ (S+129+1) (natQ0 (isqrt (a.num.natAbs*2^(2*k) / a.den))):=yc3 (by rw [Int.natAbs_natCast];exact Nat.lt_of_lt_of_le hr1 (Nat.pow_le_pow_right (by decide) (by omega)))
  have s2:SmQ 66 (natQ0 (2^k)):=yc3 (S:=65) (by rw [Int.natAbs_natCast];exact Nat.lt_of_lt_of_le (ymm k hk) (Nat.pow_le_pow_right (by decide) (by omega)))
  have h0:(natQ0 (2^k)).num≠0:=by
   show ((2^k:Nat):Int)≠0
   have:0<2^k:=Nat.pow_pos (by decide)
   omega
  obtain ⟨N8,h8⟩:=cOver (natQ0 (isqrt (a.num.natAbs*2^(2*k) / a.den))) (natQ0 (2^k)) h0 s1 s2 (by omega)
  have er:rootQ k a=natQ0 (isqrt (a.num.natAbs*2^(2*k) / a.den)) / natQ0 (2^k):=by unfold rootQ;rw [if_neg hn];rfl
  rw [er,if_neg hn]
  refine .of (N1+N2+N3+N4+N5+N6+N7+N8) fun {n} hn=> ?_
  have h1:=h1 n (by omega)
  have h2:=h2 n (by omega)
  have h3:=h3 n (by omega)
  have h4:=h4 n (by omega)
  have h5:=h5 n (by omega)
  have h6:=h6 n (by omega)
  have h7:=h7 n (by omega)
  have h8:=h8 n (by omega)
  have w:IntKind.i64.wrap (2*((k:Nat):Int))=((2*k:Nat):Int):=by rw [wrap_i64 (by omega)];omega
  rw [y04 yc7]
  simp only [go_sem,Fn.y49,e1,e2,h1,hs,↓yzc,w,h2,h3,h4,h5,h6,h7,h8]
theorem cQRoot (a:Rat) (k:Nat) (hk:k≤64) {S:Nat} (ha:SmQ S a) (hS:S<2^34):Calling Id.y49 [.agg (qC a),.one (.int .i64 (k:Int))] (.tup [.agg (qC (rootQ k a)),.one (.int .i64 (if a.num<0 then 8 else 0))]):=
 (ytn a k hk ha hS).call (can2 (y1j _) (y0y _ _))
end Go.Ev
namespace Go.Ev
def wayQ (m s d n:Rat):Rat:=s*m*(n*(Rat.ofInt 1+d)+(triQ n-n))
theorem ywv {ob ob':Nat→Option AObj} {id:Nat} (h:ob' id=ob id):shut ob ob' id=ob id:=by
 unfold shut
 rw [h]
 cases ob id with
 | none=>rfl
 | some o=>cases o<;>rfl
end Go.Ev
namespace Go.Ev
theorem yb7 (q:Rat):floorQ q=q.floor:=(Rat.floor_def q).symm
theorem ymi (z:Int):Rat.ofInt z=(z:Rat):=rfl
theorem yqi (n:Rat):2*triQ n=n*(n+1):=by
 unfold triQ
 rw [Rat.mul_comm,Rat.div_mul_cancel (by decide)]
theorem ynd {a b c:Rat} (hc:0<c):a*c≤b*c↔a≤b:=by rw [←Rat.not_lt,←Rat.not_lt,Rat.mul_lt_mul_right hc]
theorem ytq {B v:Rat} (hB:0<B):((floorQ (v / B):Int):Rat)*B≤v∧v≤(((floorQ (v / B):Int):Rat)+1)*B:=by
 rw [yb7]
 have h1:=Rat.floor_le (v / B)
 have h2:=Rat.lt_floor_add_one (v / B)
 rw [Rat.intCast_add] at h2
 have e:v / B*B=v:=Rat.div_mul_cancel (by grind)
 have h3:=Rat.mul_le_mul_of_nonneg_right h1 (c:=B) (by grind)
 have h4:=Rat.mul_lt_mul_of_pos_right h2 hB
 rw [e] at h3 h4
 exact ⟨h3,Rat.le_of_lt h4⟩
theorem ynv {B v:Rat} (hB:0<B) (hv:0≤v):0≤floorQ (v / B):=by
 rw [yb7,Rat.le_floor_iff]
 have:0≤v / B:=by rw [Rat.div_def];exact Rat.mul_nonneg hv (Rat.le_of_lt (Rat.inv_pos.2 hB))
 simpa using this
structure FastOk (h m s p:Rat) (d:Int) (f:Rat):Prop where
 neg:(h-p) / s<0→f=(h-p) / s
 pos:0≤(h-p) / s→∃k:Int,0≤k∧wayQ m s (Rat.ofInt d) (k:Rat)≤(h-p) / s∧(h-p) / s<wayQ m s (Rat.ofInt d) ((k:Rat)+1)∧f*(1+Rat.ofInt d+k)=(h-p) / s+s*m*triQ k
def brkQ (B v:Rat):Rat:=if v< -B then v+B else if v≤B then 0 else v-B
theorem yrv {m s v w f g:Rat} (hs:0<s):v+s*holdQ m s v w f g=nextQ m s v w f g:=by
 unfold holdQ
 have:s*((nextQ m s v w f g-v) / s)=nextQ m s v w f g-v:=by rw [Rat.mul_comm,Rat.div_mul_cancel (by grind)]
 grind
def fastG (room B D:Rat):Nat→Nat→Rat
 | 0,k=>(room+B*triQ (k:Rat)) / (1+D+(k:Rat))
 | n+1,k=>if room<B*(((k:Rat)+1)*(1+D)+(triQ ((k:Rat)+1)-((k:Rat)+1))) then (room+B*triQ (k:Rat)) / (1+D+(k:Rat)) else fastG room B D n (k+1)
def fastQ (h m s p:Rat) (d:Int):Rat:=if (h-p) / s<0 then (h-p) / s else fastG ((h-p) / s) (s*m) (d:Rat) (floorQ ((h-p) / s / (s*m))).toNat 0
theorem yi4 {room B D:Rat} (hD:0≤D):∀(n k:Nat),B*((k:Rat)*(1+D)+(triQ (k:Rat)-(k:Rat)))≤room→room<B*((((k+n:Nat):Rat)+1)*(1+D)+(triQ (((k+n:Nat):Rat)+1)-(((k+n:Nat):Rat)+1)))→
  ∃j:Nat,B*((j:Rat)*(1+D)+(triQ (j:Rat)-(j:Rat)))≤room∧room<B*(((j:Rat)+1)*(1+D)+(triQ ((j:Rat)+1)-((j:Rat)+1)))∧fastG room B D n k*(1+D+(j:Rat))=room+B*triQ (j:Rat)
 | 0,k,h1,h2=>by
  have hk:(0:Rat)≤(k:Rat):=Rat.natCast_nonneg
  exact ⟨k,h1,h2,by unfold fastG;exact Rat.div_mul_cancel (by grind)⟩
 | n+1,k,h1,h2=>by
  have hk:(0:Rat)≤(k:Rat):=Rat.natCast_nonneg
  unfold fastG
  split
  ·rename_i h3
   exact ⟨k,h1,h3,Rat.div_mul_cancel (by grind)⟩
  ·rename_i h3
   have e:((k+1:Nat):Rat)=(k:Rat)+1:=Rat.natCast_add k 1
   refine yi4 hD n (k+1) (by rw [e];exact Rat.not_lt.1 h3) ?_
   rw [show k+1+n=k+(n+1) by omega]
   exact h2
theorem yxv {h m s p:Rat} {d:Int} (hs:0<s) (hm:0<m) (hd:0≤d):FastOk h m s p d (fastQ h m s p d):=by
 have hB:0<s*m:=Rat.mul_pos hs hm
 have hD:(0:Rat)≤(d:Rat):=Rat.intCast_nonneg.2 hd
 unfold fastQ
 refine ⟨fun hr=>if_pos hr,fun hr=> ?_⟩
 rw [if_neg (Rat.not_lt.2 hr)]
 generalize (h-p) / s=room at*
 have n1:=ytq (v:=room) hB
 have n0:=ynv (v:=room) hB hr
 have n2:room<((((floorQ (room / (s*m))).toNat:Nat):Rat)+1)*(s*m):=by
  have h2:=Rat.lt_floor_add_one (room / (s*m))
  rw [←yb7,Rat.intCast_add] at h2
  have h4:=Rat.mul_lt_mul_of_pos_right h2 hB
  rw [Rat.div_mul_cancel (by grind)] at h4
  have e:(((floorQ (room / (s*m))).toNat:Nat):Rat)=((floorQ (room / (s*m)):Int):Rat):=by
   have:(((floorQ (room / (s*m))).toNat:Nat):Int)=floorQ (room / (s*m)):=by omega
   rw [←this];rfl
  rw [e];exact h4
 generalize (floorQ (room / (s*m))).toNat=n at*
 have hn:(0:Rat)≤(n:Rat):=Rat.natCast_nonneg
 have z0:((0:Nat):Rat)=0:=rfl
 have t0:=yqi ((0:Nat):Rat)
 obtain ⟨j,j1,j2,j3⟩:=yi4 (room:=room) (B:=s*m) hD n 0 (by
   have:triQ ((0:Nat):Rat)=0:=by grind
   rw [this,z0];grind) (by
   rw [Nat.zero_add]
   have p1:0≤(s*m)*(((n:Rat)+1)*(d:Rat)):=Rat.mul_nonneg (by grind) (Rat.mul_nonneg (by grind) hD)
   have p2:0≤(s*m)*(((n:Rat)+1)*(n:Rat)):=Rat.mul_nonneg (by grind) (Rat.mul_nonneg (by grind) hn)
   simp only [triQ]
   generalize s*m=B at*
   generalize (n:Rat)=x at*
   generalize (d:Rat)=D at*
   grind)
 refine ⟨(j:Int),by omega, ?_, ?_, ?_⟩
 ·unfold wayQ;exact j1
 ·unfold wayQ;exact j2
 ·exact j3
end Go.Ev
namespace Go.Ev
theorem LQ.frz {q:Rat} {c:List AV} (h:LQ q c) (ob:Nat→Option AObj) (fz:Nat→Nat):frzS ob fz (.agg c)=some (fz,.agg (qC q)):=by
 rcases h with rfl | ⟨rfl,rfl⟩
 ·exact yby q ob fz
 ·rw [y8x];rfl
theorem ybh {F:Caller} {f:FuncId} {a b:Rat} {c e:List AV} (h:LQ a c) (k:LQ b e) (ob:Nat→Option AObj) (fz:Nat→Nat):callV F f [.agg c,.agg e] ob fz=callV F f [.agg (qC a),.agg (qC b)] ob fz:=by
 simp only [callV,mapFz]
 rw [h.frz,yby]
 simp only
 rw [k.frz,yby]
def natQ (n:Nat):Rat:=Rat.ofInt (n:Int)
theorem yf0 {n S:Nat} (h:n<2^(S+1)):SmQ (S+1) (natQ n):=yc3 (by simpa using h)
structure FastB (ob:Nat→Option AObj) (l h m s d room:Rat) (lo hi:Nat) (lc:List AV):Prop where
 o0:ob 0=some (.box (qC l++(qC h++(qC m++qC s))))
 o2:ob 2=some (.box [.bool false,.nils,.nils])
 o10:ob 10=some (.box (qC room))
 o15:ob 15=some (.box (qC (Rat.ofInt 1)))
 o16:ob 16=some (.box (qC d))
 o21:ob 21=some (.box lc)
 o22:ob 22=some (.box (qC (natQ hi)))
 lq:LQ (natQ lo) lc
section
variable (l h m s d room:Rat) {S T:Nat} (hm:SmQ S m) (hs:SmQ S s) (hd:SmQ S d) (hr:SmQ (4*S) room) (hS:S<2^20) (hT:T+1<2^24)
include hm hs hd hr hS hT
end
end Go.Ev
namespace Go.Ev
end Go.Ev
namespace Go.Ev
end Go.Ev
namespace Go.Ev
def mC (b:Int) (T H C M:Rat):List AV:=.int .i64 b::(qC T++(qC H++(qC C++qC M)))
def gC (b:Int) (T H C M s:Rat) (d k:Int):List AV:=.int .i64 b::(qC T++(qC H++(qC C++(qC M++(qC s++[.int .i64 d,.int .i64 k])))))
theorem y77:gC 0 0 0 0 0 0 0 0=[.int .i64 0,.bool false,.sl false [],.sl false [],.bool false,.sl false [],.sl false [],.bool false,.sl false [],.sl false [],.bool false,.sl false [],.sl false [],.bool false,.sl false [],.sl false [],.int .i64 0,.int .i64 0]:=by
 unfold gC
 rw [y8x]
 rfl
section
variable (b:Int) (T H C M s:Rat) (d k:Int)
theorem y13u:(mC b T H C M).length=13:=rfl
theorem y11v:(gC b T H C M s d k).length=18:=rfl
theorem y11u:sub (mC b T H C M) 0 13=some (mC b T H C M):=rfl
theorem y119:sub (mC b T H C M) 1 3=some (qC T):=rfl
theorem y11l:sub (mC b T H C M) 4 3=some (qC H):=rfl
theorem y11i:sub (mC b T H C M) 7 3=some (qC C):=rfl
theorem yzu:sub (mC b T H C M) 10 3=some (qC M):=rfl
theorem y122:sub (gC b T H C M s d k) 0 18=some (gC b T H C M s d k):=rfl
theorem y121:sub (gC b T H C M s d k) 1 3=some (qC T):=rfl
theorem y11b:sub (gC b T H C M s d k) 4 3=some (qC H):=rfl
theorem y12n:sub (gC b T H C M s d k) 7 3=some (qC C):=rfl
theorem y10n:sub (gC b T H C M s d k) 10 3=some (qC M):=rfl
theorem yyx:sub (gC b T H C M s d k) 13 3=some (qC s):=rfl
theorem yzr:sub (gC b T H C M s d k) 16 1=some [.int .i64 d]:=rfl
theorem y10c:sub (gC b T H C M s d k) 17 1=some [.int .i64 k]:=rfl
theorem y118 (z0 z1 z2 z3 z4 z5 z6 z7 z8 z9 z10 z11 z12:AV) (l:List AV):put (z0::z1::z2::z3::z4::z5::z6::z7::z8::z9::z10::z11::z12::l) 0 (mC b T H C M)=some (mC b T H C M++l):=yad (X:=[z0,z1,z2,z3,z4,z5,z6,z7,z8,z9,z10,z11,z12]) rfl
theorem y13z (x y z:AV) (l:List AV):put (mC b T H C M++(x::y::z::l)) 13 (qC s)=some (mC b T H C M++(qC s++l)):=by
 have:=y8v (X:=mC b T H C M) (l:=x::y::z::l) (K:=13) rfl 0 (qC s)
 rw [Nat.zero_add] at this
 rw [this,put_z]
 rfl
theorem y135 (l:List AV) (x:AV):put (mC b T H C M++(qC s++(x::l))) 16 [.int .i64 d]=some (mC b T H C M++(qC s++(.int .i64 d::l))):=by
 have:=y8v (X:=mC b T H C M) (l:=qC s++(x::l)) (K:=13) rfl 3 [.int .i64 d]
 rw [show 3+13=16 from rfl] at this
 have h3:put (x::l) 0 [AV.int .i64 d]=some (AV.int .i64 d::l):=yad (X:=[x]) (xs:=[AV.int .i64 d]) rfl
 rw [this,ye4,h3]
 rfl
theorem y11c (x y:AV):put (mC b T H C M++(qC s++[x,y])) 17 [.int .i64 k]=some (mC b T H C M++(qC s++[x,.int .i64 k])):=by
 have:=y8v (X:=mC b T H C M) (l:=qC s++[x,y]) (K:=13) rfl 4 [.int .i64 k]
 rw [show 4+13=17 from rfl] at this
 have h2:=yhh s [x,y] 1 [.int .i64 k]
 rw [this,h2]
 rfl
theorem gC_eq:mC b T H C M++(qC s++[.int .i64 d,.int .i64 k])=gC b T H C M s d k:=by
 unfold mC gC
 simp only [List.cons_append,List.append_assoc]
theorem yc2:CanL (gC b T H C M s d k):=by
 unfold gC
 exact .cons (.int _ _) (.app (.q _) (.app (.q _) (.app (.q _) (.app (.q _) (.app (.q _) (.cons (.int _ _) (.cons (.int _ _) .nil)))))))
theorem yec:CanL (mC b T H C M):=.cons (.int _ _) (.app (.q _) (.app (.q _) (.app (.q _) (.q _))))
theorem y11p (ob:Nat→Option AObj) (fz:Nat→Nat):frzS ob fz (.agg (gC b T H C M s d k))=some (fz,.agg (gC b T H C M s d k)):=(CanS.agg _ (yc2 b T H C M s d k)).frz ob fz
theorem y12c (ob:Nat→Option AObj) (fz:Nat→Nat):frzS ob fz (.agg (mC b T H C M))=some (fz,.agg (mC b T H C M)):=(CanS.agg _ (yec b T H C M)).frz ob fz
theorem y11k (z0 z1 z2 z3 z4 z5 z6 z7 z8 z9 z10 z11 z12 z13 z14 z15 z16 z17:AV):put [z0,z1,z2,z3,z4,z5,z6,z7,z8,z9,z10,z11,z12,z13,z14,z15,z16,z17] 0 (gC b T H C M s d k)=some (gC b T H C M s d k):=y64 rfl
end
attribute [go_sem ↓] y13u y11v y11u y119 y11l y11i yzu y122 y121 y11b y12n y10n yyx yzr y10c y118 y13z y135 y11c y11p y12c y11k
def errG (T H C M s h:Rat) (d k:Int):Int:=if T<0 then 2 else if H<0 then 2 else if C<0 then 2 else if M≤0 then 2 else if s≤0 then 2 else if 1<s*C then 2 else if h<0 then 2 else if M<h then 2 else if d<0 then 3 else if d>16 then 3 else if k<0 then 3 else if k>64 then 3 else 0
def govC (b:Int) (T H C M s h:Rat) (d k:Int):List AV:=if errG T H C M s h d k=0 then gC b T H C M s d k else gC 0 0 0 0 0 0 0 0
set_option maxHeartbeats 4000000 in
theorem yp2 (b:Int) (T H C M s h:Rat) (d k:Int) {S:Nat} (hC:SmQ S C) (hM:SmQ S M) (hs:SmQ S s) (hh:SmQ S h) (hS:S<2^30):
  Ends Id.y0n [.agg (mC b T H C M),.agg (qC s),.agg (qC h),.one (.int .i64 d),.one (.int .i64 k)] (.tup [.agg (govC b T H C M s h d k),.one (.int .i64 (errG T H C M s h d k))]):=by
 obtain ⟨N1,k1⟩:=cSign T
 obtain ⟨N2,k2⟩:=cSign H
 obtain ⟨N3,k3⟩:=cSign C
 obtain ⟨N4,k4⟩:=cSign M
 obtain ⟨N5,k5⟩:=cSign s
 obtain ⟨N6,k6⟩:=cMul s C hs hC (by omega)
 obtain ⟨N7,k7⟩:=cInt 1 (by decide) (by decide)
 obtain ⟨N8,k8⟩:=cCmp (s*C) (Rat.ofInt 1) (hs.mul hC) y10z (by omega)
 obtain ⟨N9,k9⟩:=cSign h
 obtain ⟨N10,k10⟩:=cCmp h M hh hM (by omega)
 refine .of (N1+N2+N3+N4+N5+N6+N7+N8+N9+N10) fun {n} hn=> ?_
 rw [y04 ygr]
 have k1:=k1 n (by omega)
 have k2:=k2 n (by omega)
 have k3:=k3 n (by omega)
 have k4:=k4 n (by omega)
 have k5:=k5 n (by omega)
 have k6:=k6 n (by omega)
 have k7:=k7 n (by omega)
 have k8:=k8 n (by omega)
 have k9:=k9 n (by omega)
 have k10:=k10 n (by omega)
 have h0c:=gC_eq b T H C M s d k
 unfold govC errG
 by_cases a1:T<0
 ·have f1:(signI T.num<0)=True:=by rw [y7l,eq_iff_iff,iff_true];exact a1
  rw [if_pos a1,if_neg (by decide),y77]
  simp only [go_sem,Fn.y0n,h0c,f1,k1,k2,k3,k4,k5,k6,k7,k8,k9,k10]
 ·have f1:(signI T.num<0)=False:=by rw [y7l,eq_iff_iff,iff_false];exact a1
  rw [if_neg a1]
  by_cases a2:H<0
  ·have f2:(signI H.num<0)=True:=by rw [y7l,eq_iff_iff,iff_true];exact a2
   rw [if_pos a2,if_neg (by decide),y77]
   simp only [go_sem,Fn.y0n,h0c,f1,f2,k1,k2,k3,k4,k5,k6,k7,k8,k9,k10]
  ·have f2:(signI H.num<0)=False:=by rw [y7l,eq_iff_iff,iff_false];exact a2
   rw [if_neg a2]
   by_cases a3:C<0
   ·have f3:(signI C.num<0)=True:=by rw [y7l,eq_iff_iff,iff_true];exact a3
    rw [if_pos a3,if_neg (by decide),y77]
    simp only [go_sem,Fn.y0n,h0c,f1,f2,f3,k1,k2,k3,k4,k5,k6,k7,k8,k9,k10]
   ·have f3:(signI C.num<0)=False:=by rw [y7l,eq_iff_iff,iff_false];exact a3
    rw [if_neg a3]
    by_cases a4:M≤0
    ·have f4:(signI M.num≤0)=True:=by rw [ycf,eq_iff_iff,iff_true];exact a4
     rw [if_pos a4,if_neg (by decide),y77]
     simp only [go_sem,Fn.y0n,h0c,f1,f2,f3,f4,k1,k2,k3,k4,k5,k6,k7,k8,k9,k10]
    ·have f4:(signI M.num≤0)=False:=by rw [ycf,eq_iff_iff,iff_false];exact a4
     rw [if_neg a4]
     by_cases a5:s≤0
     ·have f5:(signI s.num≤0)=True:=by rw [ycf,eq_iff_iff,iff_true];exact a5
      rw [if_pos a5,if_neg (by decide),y77]
      simp only [go_sem,Fn.y0n,h0c,f1,f2,f3,f4,f5,k1,k2,k3,k4,k5,k6,k7,k8,k9,k10]
     ·have f5:(signI s.num≤0)=False:=by rw [ycf,eq_iff_iff,iff_false];exact a5
      rw [if_neg a5]
      by_cases a6:1<s*C
      ·have f6:(cmpQ (s*C) (Rat.ofInt 1)>0)=True:=by rw [y7w,eq_iff_iff,iff_true];exact a6
       rw [if_pos a6,if_neg (by decide),y77]
       simp only [go_sem,Fn.y0n,h0c,f1,f2,f3,f4,f5,f6,k1,k2,k3,k4,k5,k6,k7,k8,k9,k10]
      ·have f6:(cmpQ (s*C) (Rat.ofInt 1)>0)=False:=by rw [y7w,eq_iff_iff,iff_false];exact a6
       rw [if_neg a6]
       by_cases a7:h<0
       ·have f7:(signI h.num<0)=True:=by rw [y7l,eq_iff_iff,iff_true];exact a7
        rw [if_pos a7,if_neg (by decide),y77]
        simp only [go_sem,Fn.y0n,h0c,f1,f2,f3,f4,f5,f6,f7,k1,k2,k3,k4,k5,k6,k7,k8,k9,k10]
       ·have f7:(signI h.num<0)=False:=by rw [y7l,eq_iff_iff,iff_false];exact a7
        rw [if_neg a7]
        by_cases a8:M<h
        ·have f8:(cmpQ h M>0)=True:=by rw [y7w,eq_iff_iff,iff_true];exact a8
         rw [if_pos a8,if_neg (by decide),y77]
         simp only [go_sem,Fn.y0n,h0c,f1,f2,f3,f4,f5,f6,f7,f8,k1,k2,k3,k4,k5,k6,k7,k8,k9,k10]
        ·have f8:(cmpQ h M>0)=False:=by rw [y7w,eq_iff_iff,iff_false];exact a8
         rw [if_neg a8]
         by_cases a9:d<0
         ·have f9:(d<0)=True:=by simp only [eq_iff_iff,iff_true];exact a9
          rw [if_pos a9,if_neg (by decide),y77]
          simp only [go_sem,Fn.y0n,h0c,f1,f2,f3,f4,f5,f6,f7,f8,f9,k1,k2,k3,k4,k5,k6,k7,k8,k9,k10]
         ·have f9:(d<0)=False:=by simp only [eq_iff_iff,iff_false];exact a9
          rw [if_neg a9]
          by_cases a10:d>16
          ·have f10:(d>16)=True:=by simp only [eq_iff_iff,iff_true];exact a10
           rw [if_pos a10,if_neg (by decide),y77]
           simp only [go_sem,Fn.y0n,h0c,f1,f2,f3,f4,f5,f6,f7,f8,f9,f10,k1,k2,k3,k4,k5,k6,k7,k8,k9,k10]
          ·have f10:(d>16)=False:=by simp only [eq_iff_iff,iff_false];exact a10
           rw [if_neg a10]
           by_cases a11:k<0
           ·have f11:(k<0)=True:=by simp only [eq_iff_iff,iff_true];exact a11
            rw [if_pos a11,if_neg (by decide),y77]
            simp only [go_sem,Fn.y0n,h0c,f1,f2,f3,f4,f5,f6,f7,f8,f9,f10,f11,k1,k2,k3,k4,k5,k6,k7,k8,k9,k10]
           ·have f11:(k<0)=False:=by simp only [eq_iff_iff,iff_false];exact a11
            rw [if_neg a11]
            by_cases a12:k>64
            ·have f12:(k>64)=True:=by simp only [eq_iff_iff,iff_true];exact a12
             rw [if_pos a12,if_neg (by decide),y77]
             simp only [go_sem,Fn.y0n,h0c,f1,f2,f3,f4,f5,f6,f7,f8,f9,f10,f11,f12,k1,k2,k3,k4,k5,k6,k7,k8,k9,k10]
            ·have f12:(k>64)=False:=by simp only [eq_iff_iff,iff_false];exact a12
             rw [if_neg a12,if_pos rfl]
             simp only [go_sem,Fn.y0n,h0c,f1,f2,f3,f4,f5,f6,f7,f8,f9,f10,f11,f12,k1,k2,k3,k4,k5,k6,k7,k8,k9,k10]
theorem yek {T H C M s h:Rat} {d k:Int} (e:errG T H C M s h d k=0):0≤T∧0≤H∧0≤C∧0<M∧0<s∧s*C≤1∧0≤h∧h≤M∧0≤d∧d≤16∧0≤k∧k≤64:=by
 unfold errG at e
 by_cases a1:T<0
 ·rw [if_pos a1] at e;cases e
 rw [if_neg a1] at e
 by_cases a2:H<0
 ·rw [if_pos a2] at e;cases e
 rw [if_neg a2] at e
 by_cases a3:C<0
 ·rw [if_pos a3] at e;cases e
 rw [if_neg a3] at e
 by_cases a4:M≤0
 ·rw [if_pos a4] at e;cases e
 rw [if_neg a4] at e
 by_cases a5:s≤0
 ·rw [if_pos a5] at e;cases e
 rw [if_neg a5] at e
 by_cases a6:1<s*C
 ·rw [if_pos a6] at e;cases e
 rw [if_neg a6] at e
 by_cases a7:h<0
 ·rw [if_pos a7] at e;cases e
 rw [if_neg a7] at e
 by_cases a8:M<h
 ·rw [if_pos a8] at e;cases e
 rw [if_neg a8] at e
 by_cases a9:d<0
 ·rw [if_pos a9] at e;cases e
 rw [if_neg a9] at e
 by_cases a10:d>16
 ·rw [if_pos a10] at e;cases e
 rw [if_neg a10] at e
 by_cases a11:k<0
 ·rw [if_pos a11] at e;cases e
 rw [if_neg a11] at e
 by_cases a12:k>64
 ·rw [if_pos a12] at e;cases e
 rw [if_neg a12] at e
 exact ⟨Rat.not_lt.1 a1,Rat.not_lt.1 a2,Rat.not_lt.1 a3,Rat.not_le.1 a4,Rat.not_le.1 a5,Rat.not_lt.1 a6,Rat.not_lt.1 a7,Rat.not_lt.1 a8,by omega,by omega,by omega,by omega⟩
theorem ywd (b:Int) (T H C M s h:Rat) (d k:Int):∀x∈[SV.agg (mC b T H C M),SV.agg (qC s),SV.agg (qC h),.one (.int .i64 d),.one (.int .i64 k)],CanS x:=fun x hx=>by
 simp only [List.mem_cons,List.not_mem_nil,or_false] at hx
 rcases hx with rfl | rfl | rfl | rfl | rfl
 ·exact .agg _ (yec _ _ _ _ _)
 ·exact y1j _
 ·exact y1j _
 ·exact .one _ (.int _ _)
 ·exact .one _ (.int _ _)
theorem cGovern (b:Int) (T H C M s h:Rat) (d k:Int) {S:Nat} (hC:SmQ S C) (hM:SmQ S M) (hs:SmQ S s) (hh:SmQ S h) (hS:S<2^30):
  Calling Id.y0n [.agg (mC b T H C M),.agg (qC s),.agg (qC h),.one (.int .i64 d),.one (.int .i64 k)] (.tup [.agg (govC b T H C M s h d k),.one (.int .i64 (errG T H C M s h d k))]):=
 (yp2 b T H C M s h d k hC hM hs hh hS).call (ywd _ _ _ _ _ _ _ _ _)
theorem yk9 (m:Mt) (b d k:Int) (h t:Rat) {S A B:Nat} (hH:SmQ S m.H) (hC:SmQ S m.C) (hs:SmQ S m.s) (hh:SmQ A h) (ht:SmQ B t) (hS:S<2^20) (hA:A<2^34) (hB:B<2^20):
  Ends Id.y0o [.agg (gC b m.T m.H m.C m.M m.s d k),.agg (qC h),.agg (qC t)] (.agg (qC (m.next h t)))∧SmQ (2*A+3*S+2*B+10) (m.next h t):=by
 obtain ⟨N1,k1⟩:=cMul m.H t hH ht (by omega)
 obtain ⟨N2,k2⟩:=cMul (m.H*t) t (hH.mul ht) ht (by omega)
 obtain ⟨N3,k3⟩:=cMul m.C h hC hh (by omega)
 have q1:=(hH.mul ht).mul ht
 have q2:=hC.mul hh
 obtain ⟨N4,k4⟩:=cSub (m.H*t*t) (m.C*h) q1 q2 (by omega)
 obtain ⟨N5,k5⟩:=cMul m.s (m.H*t*t-m.C*h) hs (q1.sub q2) (by omega)
 have q3:=hs.mul (q1.sub q2)
 obtain ⟨N6,k6⟩:=cAdd h (m.s*(m.H*t*t-m.C*h)) hh q3 (by omega)
 refine ⟨.of (N1+N2+N3+N4+N5+N6) fun {n} hn=> ?_,(hh.add q3).mono (by omega)⟩
 have k1:=k1 n (by omega)
 have k2:=k2 n (by omega)
 have k3:=k3 n (by omega)
 have k4:=k4 n (by omega)
 have k5:=k5 n (by omega)
 have k6:=k6 n (by omega)
 rw [y04 yaz]
 unfold Mt.next
 simp only [go_sem,Fn.y0o,k1,k2,k3,k4,k5,k6]
theorem yvm (b:Int) (T H C M s:Rat) (d k:Int) (h t:Rat):∀x∈[SV.agg (gC b T H C M s d k),SV.agg (qC h),SV.agg (qC t)],CanS x:=fun x hx=>by
 simp only [List.mem_cons,List.not_mem_nil,or_false] at hx
 rcases hx with rfl | rfl | rfl
 ·exact .agg _ (yc2 _ _ _ _ _ _ _ _)
 ·exact y1j _
 ·exact y1j _
theorem cNext (m:Mt) (b d k:Int) (h t:Rat) {S A B:Nat} (hH:SmQ S m.H) (hC:SmQ S m.C) (hs:SmQ S m.s) (hh:SmQ A h) (ht:SmQ B t) (hS:S<2^20) (hA:A<2^34) (hB:B<2^20):
  Calling Id.y0o [.agg (gC b m.T m.H m.C m.M m.s d k),.agg (qC h),.agg (qC t)] (.agg (qC (m.next h t))):=
 (yk9 m b d k h t hH hC hs hh ht hS hA hB).1.call (yvm _ _ _ _ _ _ _ _ _ _)
theorem yvx (a b:Rat) (h0:b.num=0):Ends Id.y37 [.agg (qC a),.agg (qC b)] (.tup [.agg (qC 0),.one (.int .i64 9)]):=by
 obtain ⟨N1,k1⟩:=cSign b
 refine .of N1 fun {n} hn=> ?_
 have k1:=k1 n (by omega)
 have e:(signI b.num==0)=true:=by rw [h0];rfl
 rw [y04 yd7,y8x]
 simp only [go_sem,Fn.y37,k1,e]
theorem cDiv0 (a b:Rat) (h0:b.num=0):Calling Id.y37 [.agg (qC a),.agg (qC b)] (.tup [.agg (qC 0),.one (.int .i64 9)]):=(yvx a b h0).call (can2 (y1j _) (y1j _))
end Go.Ev
namespace Go.Ev
theorem put_c (x:AV) (l xs:List AV) (k:Nat):put (x::l) (k+1) xs=(put l k xs).map (x::·):=y8v (X:=[x]) rfl k xs
theorem y12l (x:AV) (l xs:List AV):put (x::l) 1 xs=(put l 0 xs).map (x::·):=put_c x l xs 0
theorem y139 (x:AV) (a:Rat) (l xs:List AV):put (x::(qC a++l)) 4 xs=(put l 0 xs).map fun r=>x::(qC a++r):=by
 rw [put_c x _ xs 3,ye4,Option.map_map];rfl
theorem y115 (x:AV) (a b:Rat) (l xs:List AV):put (x::(qC a++(qC b++l))) 7 xs=(put l 0 xs).map fun r=>x::(qC a++(qC b++r)):=by
 rw [put_c x _ xs 6,yn9,ye4,Option.map_map,Option.map_map];rfl
theorem y10u (x:AV) (a b c:Rat) (l xs:List AV):put (x::(qC a++(qC b++(qC c++l)))) 10 xs=(put l 0 xs).map fun r=>x::(qC a++(qC b++(qC c++r))):=by
 rw [put_c x _ xs 9,yua,yn9,ye4,Option.map_map,Option.map_map,Option.map_map];rfl
theorem y12d (x:AV) (a:Rat) (l xs:List AV):put (x::(rC a++l)) 5 xs=(put l 0 xs).map fun r=>x::(rC a++r):=by
 rw [put_c x _ xs 4,yi1,Option.map_map];rfl
theorem y13e (x:AV) (a b:Rat) (l xs:List AV):put (x::(rC a++(rC b++l))) 9 xs=(put l 0 xs).map fun r=>x::(rC a++(rC b++r)):=by
 rw [put_c x _ xs 8,ym5,yi1,Option.map_map,Option.map_map];rfl
theorem yzb (x:AV) (a b c:Rat) (l xs:List AV):put (x::(rC a++(rC b++(rC c++l)))) 13 xs=(put l 0 xs).map fun r=>x::(rC a++(rC b++(rC c++r))):=by
 rw [put_c x _ xs 12,ypx,ym5,yi1,Option.map_map,Option.map_map,Option.map_map];rfl
def rmC (T H C M:Rat):List AV:=.int .i64 0::(rC T++(rC H++(rC C++rC M)))
section
variable (T H C M:Rat)
theorem yhk:(AV.int .i64 0::(rC T++(rC H++(rC C++rC M)))).length=17:=by rw [List.length_cons,yex]
theorem m_len (x:AV):(x::(qC T++(qC H++(qC C++qC M)))).length=13:=rfl
theorem y11n (x:AV):sub (x::(qC T++(qC H++(qC C++qC M)))) 0 13=some (x::(qC T++(qC H++(qC C++qC M)))):=rfl
theorem ytg:sub (AV.int .i64 0::(rC T++(rC H++(rC C++rC M)))) 0 17=some (AV.int .i64 0::(rC T++(rC H++(rC C++rC M)))):=by
 have:=y8b (l:=[]) (yhk T H C M);rwa [List.append_nil] at this
theorem y12w (z0 z1 z2 z3 z4 z5 z6 z7 z8 z9 z10 z11 z12 x:AV):put [z0,z1,z2,z3,z4,z5,z6,z7,z8,z9,z10,z11,z12] 0 (x::(qC T++(qC H++(qC C++qC M))))=some (x::(qC T++(qC H++(qC C++qC M)))):=y64 rfl
theorem ysr (z0 z1 z2 z3 z4 z5 z6 z7 z8 z9 z10 z11 z12 z13 z14 z15 z16:AV):put [z0,z1,z2,z3,z4,z5,z6,z7,z8,z9,z10,z11,z12,z13,z14,z15,z16] 0 (AV.int .i64 0::(rC T++(rC H++(rC C++rC M))))=some (AV.int .i64 0::(rC T++(rC H++(rC C++rC M)))):=y64 (yhk T H C M).symm
theorem put_i (x y:AV) (l:List AV):put (x::l) 0 [y]=some (y::l):=yad (X:=[x]) (xs:=[y]) rfl
theorem yq0:CanL (AV.int .i64 0::(rC T++(rC H++(rC C++rC M)))):=.cons (.int _ _) (.app (.r _) (.app (.r _) (.app (.r _) (.r _))))
theorem yyv (n:Int) (ob:Nat→Option AObj) (fz:Nat→Nat):frzS ob fz (.agg (.int .i64 n::(qC T++(qC H++(qC C++qC M)))))=some (fz,.agg (.int .i64 n::(qC T++(qC H++(qC C++qC M))))):=(CanS.agg _ (yec n T H C M)).frz ob fz
theorem yq4 (ob:Nat→Option AObj) (fz:Nat→Nat):frzS ob fz (.agg (.int .i64 0::(rC T++(rC H++(rC C++rC M)))))=some (fz,.agg (.int .i64 0::(rC T++(rC H++(rC C++rC M))))):=(CanS.agg _ (yq0 T H C M)).frz ob fz
end
attribute [go_sem ↓] y12l y139 y115 y10u y12d y13e yzb yhk m_len y11n ytg y12w ysr put_i yyv yq4
theorem y138 (x:Num) (l:List AV) (n:Nat):sub (x.c++l) 4 n=sub l 1 n:=y6f x.len 1 n
theorem y13k (x:Num) (l:List AV) (n:Nat):sub (x.c++l) 7 n=sub l 4 n:=y6f x.len 4 n
theorem yys (x:Num) (l:List AV) (n:Nat):sub (x.c++l) 10 n=sub l 7 n:=y6f x.len 7 n
theorem y110 (x:Num) (l:List AV) (n:Nat):sub (x.c++l) 13 n=sub l 10 n:=y6f x.len 10 n
theorem y10m (x:Num) (l:List AV) (n:Nat):sub (x.c++l) 16 n=sub l 13 n:=y6f x.len 13 n
attribute [go_sem ↓] y138 y13k yys y110 y10m
theorem Eng.len (j:Eng):j.c.length=20:=by unfold Eng.c;simp [Num.len]
theorem yns (j:Eng):∀y∈j.c,Canon y:=fun y hy=>by
 unfold Eng.c at hy
 simp only [List.mem_append,List.mem_cons,List.not_mem_nil,or_false] at hy
 rcases hy with h | h | h | h | h | h | h | h
 ·exact y7p _ _ h
 ·exact y7p _ _ h
 ·exact y7p _ _ h
 ·exact y7p _ _ h
 ·exact y7p _ _ h
 ·exact y7p _ _ h
 ·rw [h];exact .int _ _
 ·rw [h];exact .int _ _
theorem Eng.sub18 (j:Eng):sub j.c 18 1=some [.int .i64 j.d]:=by
 unfold Eng.c
 simp only [go_sem]
theorem Eng.sub19 (j:Eng):sub j.c 19 1=some [.int .i64 j.k]:=by
 unfold Eng.c
 simp only [go_sem]
theorem Eng.sub20 (j:Eng):sub j.c 0 20=some j.c:=by have:=y8b (l:=[]) j.len;rwa [List.append_nil] at this
theorem yy1 (j:Eng) (ob:Nat→Option AObj) (fz:Nat→Nat):frzS ob fz (.agg j.c)=some (fz,.agg j.c):=(CanS.agg _ (yns j)).frz ob fz
attribute [go_sem ↓] Eng.sub18 Eng.sub19 Eng.sub20 yy1
theorem yxh (j:Eng):Ends Id.y11 [.agg j.c] (.tup [.agg (mC 1 j.torque.q j.heating.q j.cooling.q j.most.q),.agg (qC j.step.q),.agg (qC j.heat.q),.agg (rmC j.torque.q j.heating.q j.cooling.q j.most.q),.agg (rC j.step.q),.agg (rC j.heat.q)]):=by
 obtain ⟨N1,h1⟩:=cBoth j.torque
 obtain ⟨N2,h2⟩:=cBoth j.heating
 obtain ⟨N3,h3⟩:=cBoth j.cooling
 obtain ⟨N4,h4⟩:=cBoth j.most
 obtain ⟨N5,h5⟩:=cBoth j.step
 obtain ⟨N6,h6⟩:=cBoth j.heat
 refine .of (N1+N2+N3+N4+N5+N6) fun {n} hn=> ?_
 have h1:=h1 n (by omega)
 have h2:=h2 n (by omega)
 have h3:=h3 n (by omega)
 have h4:=h4 n (by omega)
 have h5:=h5 n (by omega)
 have h6:=h6 n (by omega)
 rw [y04 yae]
 unfold Eng.c mC rmC
 simp only [go_sem,Fn.y11,h1,h2,h3,h4,h5,h6]
theorem cEng (j:Eng):Calling Id.y11 [.agg j.c] (.tup [.agg (mC 1 j.torque.q j.heating.q j.cooling.q j.most.q),.agg (qC j.step.q),.agg (qC j.heat.q),.agg (rmC j.torque.q j.heating.q j.cooling.q j.most.q),.agg (rC j.step.q),.agg (rC j.heat.q)]):=
 (yxh j).call (can1 (.agg _ (yns j)))
end Go.Ev
namespace Go.Ev
open Go.Dig
theorem y9j (z:Nat):sV (z:Int)=.agg [.bool false,zD z]:=by
 unfold sV zC
 rw [Int.natAbs_natCast,decide_eq_false (by omega)]
theorem y10v (n:Nat) (ob:Nat→Option AObj) (fz:Nat→Nat):frz ob DEPTH fz (zD n)=some (fz,zD n):=rfl
attribute [go_sem] y10v
theorem yzo:zD 0=.sl false []:=by unfold zD;rw [digs_zero];rfl
def NW (z:Nat) (c:List AV):Prop:=c=[.bool false,zD z]∨(z=0∧c=[.bool false,.nils])
theorem NW.self (z:Nat):NW z [.bool false,zD z]:=.inl rfl
theorem NW.zero:NW 0 [.bool false,.nils]:=.inr ⟨rfl,rfl⟩
theorem yn4 (z:Nat):CanS (.agg [.bool false,zD z]):=by rw [←y9j];exact y1g _
theorem NW.fz {z:Nat} {c:List AV} (h:NW z c):FzS (.agg c) (.agg [.bool false,zD z]):=by
 rcases h with rfl | ⟨rfl,rfl⟩
 ·exact (yn4 z).fzs
 ·rw [yzo];exact fun ob fz=>rfl
theorem NW.two {z:Nat} {c:List AV} (h:NW z c):∃y,c=[.bool false,y]:=by
 rcases h with rfl | ⟨rfl,rfl⟩<;>exact ⟨_,rfl⟩
theorem ysv (a b:Int) (ha:dlen BT a.natAbs<2^38) (hb:dlen BT b.natAbs<2^38) {n:Nat} (hn:dlen BT a.natAbs+dlen BT b.natAbs+10≤n):evV E (n+1) Id.y30 [sV a,sV b]=some (sV (a-b)):=by
 rw [y04 yfi]
 obtain ⟨n,rfl⟩:∃k,n=k+1:=⟨n-1,by omega⟩
 have h1:=y01 (ycz b (n:=n) (by omega)) (can1 (y1g _))
 have h2:=y01 (ydr a (-b) ha (by rw [Int.natAbs_neg];exact hb) (n:=n) (by rw [Int.natAbs_neg];omega)) (can2 (y1g _) (y1g _))
 rw [←Int.sub_eq_add_neg] at h2
 unfold sV zC at h1 h2 ⊢
 simp only [go_sem,Fn.y30,h1,h2]
theorem yim {a b:Nat} {ca cb:List AV} (h:NW a ca) (h':NW b cb) (hab:b≤a) {S:Nat} (ha:a<2^S) (hS:S<2^36):Calling Id.y30 [.agg ca,.agg cb] (.agg [.bool false,zD (a-b)]):=by
 have da:=y0i ha
 have db:=y0i (Nat.lt_of_le_of_lt hab ha)
 have:=(Ends.of (dlen BT a+dlen BT b+10) fun {n} hn=>ysv (a:Int) (b:Int) (by rw [Int.natAbs_natCast];omega) (by rw [Int.natAbs_natCast];omega) (n:=n) (by rw [Int.natAbs_natCast,Int.natAbs_natCast];omega):Ends Id.y30 [sV (a:Int),sV (b:Int)] (sV ((a:Int)-(b:Int))))
 rw [show (a:Int)-(b:Int)=((a-b:Nat):Int) by omega] at this
 simp only [y9j] at this
 exact this.callF (h.fz.two h'.fz)
theorem yhb {a b:Nat} {ca cb:List AV} (h:NW a ca) (h':NW b cb) {S:Nat} (ha:a<2^S) (hb:b<2^S) (hS:S<2^36):Calling Id.y1e [.agg ca,.agg cb] (.agg [.bool false,zD (a+b)]):=by
 have da:=y0i ha
 have db:=y0i hb
 have:=(Ends.of (dlen BT a+dlen BT b+10) fun {n} hn=>ydr (a:Int) (b:Int) (by rw [Int.natAbs_natCast];omega) (by rw [Int.natAbs_natCast];omega) (n:=n) (by rw [Int.natAbs_natCast,Int.natAbs_natCast];omega):Ends Id.y1e [sV (a:Int),sV (b:Int)] (sV ((a:Int)+(b:Int))))
 rw [show (a:Int)+(b:Int)=((a+b:Nat):Int) by omega] at this
 simp only [y9j] at this
 exact this.callF (h.fz.two h'.fz)
theorem yiy {a b:Nat} {ca cb:List AV} (h:NW a ca) (h':NW b cb) {S:Nat} (ha:a<2^S) (hb:b<2^S) (hS:S<2^36):Calling Id.y1k [.agg ca,.agg cb] (.one (.int .i64 (cmpZ (a:Int) (b:Int)))):=by
 have da:=y0i ha
 have db:=y0i hb
 have:=(Ends.of (dlen BT a+dlen BT b+10) fun {n} hn=>ydj (a:Int) (b:Int) (by rw [Int.natAbs_natCast];omega) (by rw [Int.natAbs_natCast];omega) (n:=n) (by rw [Int.natAbs_natCast,Int.natAbs_natCast];omega):Ends Id.y1k [sV (a:Int),sV (b:Int)] (.one (.int .i64 (cmpZ (a:Int) (b:Int)))))
 simp only [y9j] at this
 exact this.callF (h.fz.two h'.fz)
theorem y9y (z:Nat) (hz:z<9223372036854775808):Calling Id.y0q [.one (.int .i64 (z:Int))] (.agg [.bool false,zD z]):=by
 have:=(Ends.of 8 fun {n} hn=>y7n (z:Int) (by omega) (by omega) (n:=n) hn:Ends Id.y0q [.one (.int .i64 (z:Int))] (sV (z:Int)))
 rw [y9j] at this
 exact this.call (can1 (y0y _ _))
theorem yfz (a b:Nat) (hb:0<b) (ha:dlen BT a<2^38) (hbl:dlen BT b<2^38) {n:Nat} (hn:dlen BT a+2*dlen BT b+200003≤n):evV E (n+1) Id.y27 [.agg [.bool false,zD a],.agg [.bool false,zD b]]=some (.tup [.agg [.bool false,zD (a / b)],.agg [.bool false,zD (a%b)]]):=by
 rw [y04 ydc]
 obtain ⟨n,rfl⟩:∃k,n=k+1:=⟨n-1,by omega⟩
 have h1:=y01 (ybb a b hb ha hbl (n:=n) (by omega)) (can2 (y2u _) (y2u _))
 have h2:=y01 (ycc false (a / b) n) (can2 (.one _ (.bool _)) (y2u _))
 have h3:=y01 (ycc false (a%b) n) (can2 (.one _ (.bool _)) (y2u _))
 have e:∀m:Nat,sV (sgn false m)=.agg [.bool false,zD m]:=fun m=>y9j m
 rw [e] at h2 h3
 simp only [go_sem,Fn.y27,h1,h2,h3]
theorem yop {a b:Nat} {ca cb:List AV} (h:NW a ca) (h':NW b cb) (b0:0<b) {S:Nat} (ha:a<2^S) (hb:b<2^S) (hS:S<2^36):Calling Id.y27 [.agg ca,.agg cb] (.tup [.agg [.bool false,zD (a / b)],.agg [.bool false,zD (a%b)]]):=by
 have da:=y0i ha
 have db:=y0i hb
 exact (Ends.of _ fun {n} hn=>yfz a b b0 (by omega) (by omega) (n:=n) hn).callF (h.fz.two h'.fz)
theorem yrr (q:Rat) (h0:0≤q) {cq:List AV} (hq:RQ q cq) {S:Nat} (sq:SmQ S q) (hS:S<2^36) {n:Nat} (hn:3*S+200020≤n):evV E (n+1) Id.y31 [.agg cq]=some (.agg [.bool false,zD (q.num.natAbs / q.den)]):=by
 rw [y04 yeh]
 obtain ⟨n,rfl⟩:∃k,n=k+1:=⟨n-1,by omega⟩
 have da:=y0i sq.num
 have db:=y0i sq.den
 have d1:=rdn hq (by omega) (n:=n+1) (by omega)
 have f1:=y01 (yfz q.num.natAbs q.den q.den_pos (by omega) (by omega) (n:=n) (by omega)) (can2 (yn4 _) (yn4 _))
 obtain ⟨e,y,rfl⟩:=hq.cells
 have e0:decide (q.num<0)=false:=decide_eq_false (by have:=Rat.num_nonneg.2 h0;omega)
 rw [y9j] at d1
 rw [e0] at d1 ⊢
 simp only [go_sem,Fn.y31,d1,f1]
theorem yoy (q:Rat) (h0:0≤q) {cq:List AV} (hq:RW q cq) {S:Nat} (sq:SmQ S q) (hS:S<2^36):Calling Id.y31 [.agg cq] (.agg [.bool false,zD (q.num.natAbs / q.den)]):=by
 obtain ⟨cq',hq',hf⟩:=hq.fz
 exact (Ends.of _ fun {n} hn=>yrr q h0 hq' sq hS (n:=n) hn).callF hf.one
theorem yg4 {z:Nat} {c:List AV} (h:NW z c):Calling Id.y21 [.agg c] (.agg (rC ((z:Nat):Rat))):=by
 refine Ends.callF (.of 12 fun {n} hn=> ?_) h.fz.one
 rw [y04 yds]
 obtain ⟨n,rfl⟩:∃k,n=k+1:=⟨n-1,by omega⟩
 have z2:=y01 (y7n 1 (by decide) (by decide) (n:=n) (by omega)) (can1 (y0y _ _))
 have e:sV 1=.agg [.bool false,zD 1]:=y9j 1
 have er:rC ((z:Nat):Rat)=[.bool false,zD z,.bool false,zD 1]:=by
  rw [rC_eq]
  have h1:(((z:Nat):Rat)).num=(z:Int):=rfl
  have h2:(((z:Nat):Rat)).den=1:=rfl
  rw [h1,h2,Int.natAbs_natCast,decide_eq_false (by omega)];rfl
 rw [e] at z2
 rw [er]
 simp only [go_sem,Fn.y21,z2]
section
variable (T H C M:Rat)
theorem yhc (x:AV) (l:List AV) (k n:Nat):sub (x::l) (k+1) n=sub l k n:=y6f (X:=[x]) rfl k n
theorem y10w:(rmC T H C M).length=17:=yhk T H C M
theorem y13o:sub (rmC T H C M) 0 17=some (rmC T H C M):=ytg T H C M
theorem rm1:sub (rmC T H C M) 1 4=some (rC T):=by unfold rmC;rw [yhc];exact yiz _ _
theorem rm5:sub (rmC T H C M) 5 4=some (rC H):=by unfold rmC;rw [yhc,yip];exact yiz _ _
theorem rm9:sub (rmC T H C M) 9 4=some (rC C):=by unfold rmC;rw [yhc,ymr,yip];exact yiz _ _
theorem rm13:sub (rmC T H C M) 13 4=some (rC M):=by unfold rmC;rw [yhc,ypt,ymr,yip];exact ynf _
theorem yn3:CanL (rmC T H C M):=yq0 T H C M
theorem yo7 (ob:Nat→Option AObj) (fz:Nat→Nat):frzS ob fz (.agg (rmC T H C M))=some (fz,.agg (rmC T H C M)):=yq4 T H C M ob fz
theorem y12i (z0 z1 z2 z3 z4 z5 z6 z7 z8 z9 z10 z11 z12 z13 z14 z15 z16:AV):put [z0,z1,z2,z3,z4,z5,z6,z7,z8,z9,z10,z11,z12,z13,z14,z15,z16] 0 (rmC T H C M)=some (rmC T H C M):=ysr _ _ _ _ _ _ _ _ _ _ _ _ _ _ _ _ _ _ _ _ _
end
attribute [go_sem ↓] y10w y13o rm1 rm5 rm9 rm13 yo7 y12i
theorem yjf (m:Mt):CanS (.agg (rmC m.T m.H m.C m.M)):=.agg _ (yn3 _ _ _ _)
theorem yra (m:Mt) (h t:Rat) {ct:List AV} (hq:RQ t ct) {S A B:Nat} (hH:SmQ S m.H) (hC:SmQ S m.C) (hs:SmQ S m.s) (hh:SmQ A h) (ht:SmQ B t) (hS:S<2^20) (hA:A<2^33) (hB:B<2^20):
  Ends Id.y2i [.agg (rmC m.T m.H m.C m.M),.agg (rC m.s),.agg (rC h),.agg ct] (.agg (rC (m.next h t))):=by
 obtain ⟨N1,k1⟩:=y8n hq.w hq.w ht ht (by omega)
 obtain ⟨N2,k2⟩:=y8n (RW.self m.H) (RW.self (t*t)) hH (ht.mul ht) (by omega)
 obtain ⟨N3,k3⟩:=y8n (RW.self m.C) (RW.self h) hC hh (by omega)
 have q1:=hH.mul (ht.mul ht)
 have q2:=hC.mul hh
 obtain ⟨N4,k4⟩:=ytl (RW.self (m.H*(t*t))) (RW.self (m.C*h)) q1 q2 (by omega)
 obtain ⟨N5,k5⟩:=y8n (RW.self m.s) (RW.self (m.H*(t*t)-m.C*h)) hs (q1.sub q2) (by omega)
 obtain ⟨N6,k6⟩:=yl1 (RW.self h) (RW.self (m.s*(m.H*(t*t)-m.C*h))) hh (hs.mul (q1.sub q2)) (by omega)
 refine .of (N1+N2+N3+N4+N5+N6) fun {n} hn=> ?_
 have k1:=k1 n (by omega)
 have k2:=k2 n (by omega)
 have k3:=k3 n (by omega)
 have k4:=k4 n (by omega)
 have k5:=k5 n (by omega)
 have k6:=k6 n (by omega)
 rw [y04 yfd,Mt.next_nx]
 unfold Mt.nx
 obtain ⟨e,y,rfl⟩:=hq.cells
 simp only [go_sem,Fn.y2i,k1,k2,k3,k4,k5,k6]
theorem yhd (m:Mt) (h t:Rat) {ct:List AV} (hq:RW t ct) {S A B:Nat} (hH:SmQ S m.H) (hC:SmQ S m.C) (hs:SmQ S m.s) (hh:SmQ A h) (ht:SmQ B t) (hS:S<2^20) (hA:A<2^33) (hB:B<2^20):
  Calling Id.y2i [.agg (rmC m.T m.H m.C m.M),.agg (rC m.s),.agg (rC h),.agg ct] (.agg (rC (m.next h t))):=by
 obtain ⟨ct',hq',hf⟩:=hq.fz
 refine (yra m h t hq' hH hC hs hh ht hS hA hB).callF fun ob fz=> ?_
 simp only [mapFz,yo7,yqc,hf ob fz]
def mrB (T H C M s h:Rat):Bool:=if T<0 then false else if H<0 then false else if C<0 then false else if M≤0 then false else if s≤0 then false else if 1<s*C then false else if h<0 then false else if M<h then false else true
theorem yx0:SmQ 1 (Rat.ofInt 1):=⟨by decide,by decide⟩
set_option maxHeartbeats 4000000 in
theorem yhq (m:Mt) (h:Rat) {S:Nat} (hT:SmQ S m.T) (hH:SmQ S m.H) (hC:SmQ S m.C) (hM:SmQ S m.M) (hs:SmQ S m.s) (hh:SmQ S h) (hS:S<2^30):
  Ends Id.y07 [.agg (rmC m.T m.H m.C m.M),.agg (rC m.s),.agg (rC h)] (.one (.bool (mrB m.T m.H m.C m.M m.s h))):=by
 obtain ⟨N1,k1⟩:=y7x (RW.self m.T) hT (by omega)
 obtain ⟨N2,k2⟩:=y7x (RW.self m.H) hH (by omega)
 obtain ⟨N3,k3⟩:=y7x (RW.self m.C) hC (by omega)
 obtain ⟨N4,k4⟩:=y7x (RW.self m.M) hM (by omega)
 obtain ⟨N5,k5⟩:=y7x (RW.self m.s) hs (by omega)
 obtain ⟨N6,k6⟩:=y8n (RW.self m.s) (RW.self m.C) hs hC (by omega)
 obtain ⟨N7,k7⟩:=ykz 1 (by decide) (by decide)
 obtain ⟨N8,k8⟩:=y9m (RW.self (m.s*m.C)) (RW.self (Rat.ofInt 1)) (hs.mul hC) yx0 (by omega)
 obtain ⟨N9,k9⟩:=y7x (RW.self h) hh (by omega)
 obtain ⟨N10,k10⟩:=y9m (RW.self h) (RW.self m.M) hh hM (by omega)
 refine .of (N1+N2+N3+N4+N5+N6+N7+N8+N9+N10) fun {n} hn=> ?_
 rw [y04 yb3]
 have k1:=k1 n (by omega)
 have k2:=k2 n (by omega)
 have k3:=k3 n (by omega)
 have k4:=k4 n (by omega)
 have k5:=k5 n (by omega)
 have k6:=k6 n (by omega)
 have k7:=k7 n (by omega)
 have k8:=k8 n (by omega)
 have k9:=k9 n (by omega)
 have k10:=k10 n (by omega)
 have o1:Rat.ofInt 1=1:=rfl
 unfold mrB
 by_cases a1:m.T<0
 ·have f1:(signI m.T.num≥0)=False:=by rw [y89,eq_iff_iff,iff_false];exact Rat.not_le.2 a1
  rw [if_pos a1]
  simp only [go_sem,Fn.y07,f1,k1,k2,k3,k4,k5,k6,k7,k8,k9,k10]
 have f1:(signI m.T.num≥0)=True:=by rw [y89,eq_iff_iff,iff_true];exact Rat.not_lt.1 a1
 rw [if_neg a1]
 by_cases a2:m.H<0
 ·have f2:(signI m.H.num≥0)=False:=by rw [y89,eq_iff_iff,iff_false];exact Rat.not_le.2 a2
  rw [if_pos a2]
  simp only [go_sem,Fn.y07,f1,f2,k1,k2,k3,k4,k5,k6,k7,k8,k9,k10]
 have f2:(signI m.H.num≥0)=True:=by rw [y89,eq_iff_iff,iff_true];exact Rat.not_lt.1 a2
 rw [if_neg a2]
 by_cases a3:m.C<0
 ·have f3:(signI m.C.num≥0)=False:=by rw [y89,eq_iff_iff,iff_false];exact Rat.not_le.2 a3
  rw [if_pos a3]
  simp only [go_sem,Fn.y07,f1,f2,f3,k1,k2,k3,k4,k5,k6,k7,k8,k9,k10]
 have f3:(signI m.C.num≥0)=True:=by rw [y89,eq_iff_iff,iff_true];exact Rat.not_lt.1 a3
 rw [if_neg a3]
 by_cases a4:m.M≤0
 ·have f4:(signI m.M.num>0)=False:=by rw [yaa,eq_iff_iff,iff_false];exact Rat.not_lt.2 a4
  rw [if_pos a4]
  simp only [go_sem,Fn.y07,f1,f2,f3,f4,k1,k2,k3,k4,k5,k6,k7,k8,k9,k10]
 have f4:(signI m.M.num>0)=True:=by rw [yaa,eq_iff_iff,iff_true];exact Rat.not_le.1 a4
 rw [if_neg a4]
 by_cases a5:m.s≤0
 ·have f5:(signI m.s.num>0)=False:=by rw [yaa,eq_iff_iff,iff_false];exact Rat.not_lt.2 a5
  rw [if_pos a5]
  simp only [go_sem,Fn.y07,f1,f2,f3,f4,f5,k1,k2,k3,k4,k5,k6,k7,k8,k9,k10]
 have f5:(signI m.s.num>0)=True:=by rw [yaa,eq_iff_iff,iff_true];exact Rat.not_le.1 a5
 rw [if_neg a5]
 by_cases a6:1<m.s*m.C
 ·have f6:(cmpQ (m.s*m.C) (Rat.ofInt 1)≤0)=False:=by rw [yeo,o1,eq_iff_iff,iff_false];exact Rat.not_le.2 a6
  rw [if_pos a6]
  simp only [go_sem,Fn.y07,f1,f2,f3,f4,f5,f6,k1,k2,k3,k4,k5,k6,k7,k8,k9,k10]
 have f6:(cmpQ (m.s*m.C) (Rat.ofInt 1)≤0)=True:=by rw [yeo,o1,eq_iff_iff,iff_true];exact Rat.not_lt.1 a6
 rw [if_neg a6]
 by_cases a7:h<0
 ·have f7:(signI h.num≥0)=False:=by rw [y89,eq_iff_iff,iff_false];exact Rat.not_le.2 a7
  rw [if_pos a7]
  simp only [go_sem,Fn.y07,f1,f2,f3,f4,f5,f6,f7,k1,k2,k3,k4,k5,k6,k7,k8,k9,k10]
 have f7:(signI h.num≥0)=True:=by rw [y89,eq_iff_iff,iff_true];exact Rat.not_lt.1 a7
 rw [if_neg a7]
 by_cases a8:m.M<h
 ·have f8:(cmpQ h m.M≤0)=False:=by rw [yeo,eq_iff_iff,iff_false];exact Rat.not_le.2 a8
  rw [if_pos a8]
  simp only [go_sem,Fn.y07,f1,f2,f3,f4,f5,f6,f7,f8,k1,k2,k3,k4,k5,k6,k7,k8,k9,k10]
 have f8:(cmpQ h m.M≤0)=True:=by rw [yeo,eq_iff_iff,iff_true];exact Rat.not_lt.1 a8
 rw [if_neg a8]
 simp only [go_sem,Fn.y07,f1,f2,f3,f4,f5,f6,f7,f8,k1,k2,k3,k4,k5,k6,k7,k8,k9,k10]
theorem cMotorRight (m:Mt) (h:Rat) {S:Nat} (hT:SmQ S m.T) (hH:SmQ S m.H) (hC:SmQ S m.C) (hM:SmQ S m.M) (hs:SmQ S m.s) (hh:SmQ S h) (hS:S<2^30):
  Calling Id.y07 [.agg (rmC m.T m.H m.C m.M),.agg (rC m.s),.agg (rC h)] (.one (.bool (mrB m.T m.H m.C m.M m.s h))):=
 (yhq m h hT hH hC hM hs hh hS).call fun x hx=>by
  simp only [List.mem_cons,List.not_mem_nil,or_false] at hx
  rcases hx with rfl | rfl | rfl
  ·exact yjf m
  ·exact y70 _
  ·exact y70 _
end Go.Ev
