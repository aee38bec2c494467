import Derived.Test.YtclakmennjjomaaGreatP5
set_option linter.all false
namespace Go.Ev
open Go.Dig
def AllowedV (T H C M s h:Rat) (d k:Int):Rat:=if errG T H C M s h d k=0 then (Mt.mk T H C M s).top d.toNat k.toNat h else 0
set_option maxRecDepth 100000 in
theorem ym1 (b:Int) (T H C M s h:Rat) (d k:Int) (sT:SmQ 256 T) (sH:SmQ 256 H) (sC:SmQ 256 C) (sM:SmQ 256 M) (ss:SmQ 256 s) (sh:SmQ 256 h):
  Ends Id.y24 [.agg (mC b T H C M),.agg (qC s),.agg (qC h),.one (.int .i64 d),.one (.int .i64 k)] (.tup [.agg (qC (AllowedV T H C M s h d k)),.one (.int .i64 (errG T H C M s h d k))]):=by
 obtain ⟨N1,h1⟩:=cGovern b T H C M s h d k sC sM ss sh (by decide)
 unfold AllowedV
 by_cases c1:errG T H C M s h d k=0
 ·have eg:govC b T H C M s h d k=gC b T H C M s d k:=if_pos c1
  rw [eg,c1] at h1
  obtain ⟨t0,t1,t2,t3,t4,t5,t6,t7,d0,d1,k0,k1⟩:=yek c1
  obtain ⟨dn,rfl⟩:∃q:Nat,d=(q:Int):=⟨d.toNat,by omega⟩
  obtain ⟨kn,rfl⟩:∃q:Nat,k=(q:Int):=⟨k.toNat,by omega⟩
  obtain ⟨N2,h2⟩:=cAllowed ⟨T,H,C,M,s⟩ ⟨sT,sH,sC,sM,ss⟩ b dn kn (by omega) (by omega) h (sh.mono (by decide))
  rw [if_pos c1,c1,Int.toNat_natCast,Int.toNat_natCast]
  refine .of (N1+N2) fun {n} hn=> ?_
  have h1:=h1 n (by omega)
  have h2:=h2 n (by omega)
  have e0:((0:Int) !=0)=false:=rfl
  rw [y04 y9v]
  simp only [go_sem,Fn.y24,h1,h2,e0]
 ·have eg:govC b T H C M s h d k=gC 0 0 0 0 0 0 0 0:=if_neg c1
  rw [eg] at h1
  rw [if_neg c1]
  refine .of N1 fun {n} hn=> ?_
  have h1:=h1 n (by omega)
  have e0:(errG T H C M s h d k !=0)=true:=by simp [c1]
  generalize errG T H C M s h d k=er at h1 e0
  rw [y04 y9v,y8x]
  simp only [go_sem,Fn.y24,h1,e0]
theorem cCAllowed (b:Int) (T H C M s h:Rat) (d k:Int) (sT:SmQ 256 T) (sH:SmQ 256 H) (sC:SmQ 256 C) (sM:SmQ 256 M) (ss:SmQ 256 s) (sh:SmQ 256 h):
  Calling Id.y24 [.agg (mC b T H C M),.agg (qC s),.agg (qC h),.one (.int .i64 d),.one (.int .i64 k)] (.tup [.agg (qC (AllowedV T H C M s h d k)),.one (.int .i64 (errG T H C M s h d k))]):=
 (ym1 b T H C M s h d k sT sH sC sM ss sh).call fun x hx=>by
  simp only [List.mem_cons,List.not_mem_nil,or_false] at hx
  rcases hx with rfl | rfl | rfl | rfl | rfl
  ·exact .agg _ (yec _ _ _ _ _)
  ·exact y1j _
  ·exact y1j _
  ·exact .one _ (.int _ _)
  ·exact .one _ (.int _ _)
theorem yj3 (T H C M s h:Rat) (d k:Int):errG T H C M s h d k=if mrB T H C M s h=true then (if d<0 then 3 else if d>16 then 3 else if k<0 then 3 else if k>64 then 3 else 0) else 2:=by
 unfold errG mrB
 by_cases a1:T<0
 ·simp [a1]
 by_cases a2:H<0
 ·simp [a1,a2]
 by_cases a3:C<0
 ·simp [a1,a2,a3]
 by_cases a4:M≤0
 ·simp [a1,a2,a3,a4]
 by_cases a5:s≤0
 ·simp [a1,a2,a3,a4,a5]
 by_cases a6:1<s*C
 ·simp [a1,a2,a3,a4,a5,a6]
 by_cases a7:h<0
 ·simp [a1,a2,a3,a4,a5,a6,a7]
 by_cases a8:M<h
 ·simp [a1,a2,a3,a4,a5,a6,a7,a8]
 simp [a1,a2,a3,a4,a5,a6,a7,a8]
theorem cSame {q:Rat} {ca:List AV} {S:Nat} (hq:RQ q ca) (h:SmQ S q) (hS:S<2^34):∀n,4*S+112≤n→∀(ob:Nat→Option AObj) (fz:Nat→Nat),callV (evF E n) Id.y1y [.agg (qC q),.agg ca] ob fz=some (.fzd fz (.one (.bool true))):=fun n hn ob fz=>by
 obtain ⟨n,rfl⟩:∃j,n=j+1:=⟨n-1,by omega⟩
 exact y01 (yvt q hq h hS (n:=n) (by omega)) (can2 (y1j _) hq.can) ob fz
theorem RQ.len {q:Rat} {c:List AV} (h:RQ q c):c.length=4:=by
 obtain ⟨e,y,rfl⟩:=h.cells;rfl
theorem WtQ.len {o:Wt} {e:List AV} (h:WtQ o e):e.length=8:=by
 obtain ⟨tc,h1,rfl⟩:=h
 rw [List.length_append,h1.len,y5q]
theorem WtQs.okSz:∀{ms:List Wt} {es:List (List AV)},WtQs ms es→Ev.okSz 8 es=true
 | [],[],_=>rfl
 | _::r,_::s,h=>by simp [Ev.okSz,h.1.len]
def alsS (X:List (Nat×SV)) (os es:List (List AV)) (i:Nat):List (Nat×SV):=(19,.one (.sl false os))::(22,.one (.sl false es))::(23,.one (.int .i64 (i:Int)))::X
theorem ynx (os es:List (List AV)) (oz:okSz 6 os=true) (ez:okSz 8 es=true) (hl:es.length=os.length) (hlen:os.length<2^20) {n:Nat} (hn:4*64000+112≤n) {ob:Nat→Option AObj} {fz:Nat→Nat} {nx:Nat}:
  ∀(r:List Wt) (s:List (List AV)) (i:Nat),os.drop i=r.map Wt.c→es.drop i=s→WtQs r s→(∀o∈r,SmQ 64000 o.heat∧SmQ 512 o.last)→i+r.length=os.length→∀(X:List (Nat×SV)) (Q:Nat),r.length<Q→
   ∃X',loopN (evC (evF E n) n Fn.y4k) Q ⟨env (alsS X os es i),ob,fz,nx⟩=some (.ext 2,⟨env (alsS X' os es os.length),ob,fz,nx⟩)
 | [],s,i,hd,he,hq,hr,hi,X,Q,hQ=>by
  rw [List.length_nil,Nat.add_zero] at hi
  obtain ⟨Q,rfl⟩:∃q,Q=q+1:=⟨Q-1,by omega⟩
  subst hi
  have lt:(((os.length:Nat):Int)<((os.length:Nat):Int))=False:=by simp
  refine ⟨[(216,.one (.bool false))],y09 ?_⟩
  unfold alsS
  simp only [go_sem,Fn.y4k,lt]
 | o::r,[],i,hd,he,hq,hr,hi,X,Q,hQ=>hq.elim
 | o::r,e::s,i,hd,he,hq,hr,hi,X,Q,hQ=>by
  rw [List.length_cons] at hi hQ
  obtain ⟨Q,rfl⟩:∃q,Q=q+1:=⟨Q-1,by omega⟩
  have go:os[i]? =some o.c:=by
   have:=congrArg (fun l=>l[0]?) hd
   simpa using this
  have hd':os.drop (i+1)=r.map Wt.c:=by
   have:=congrArg (fun l=>l.drop 1) hd
   simpa using this
  have ge:es[i]? =some e:=by
   have:=congrArg (fun l=>l[0]?) he
   simpa using this
  have he':es.drop (i+1)=s:=by
   have:=congrArg (fun l=>l.drop 1) he
   simpa using this
  obtain ⟨sh,sl⟩:=hr o (by simp)
  obtain ⟨⟨tc,htc,rfl⟩,hq⟩:=hq
  have k1:=cSame htc (sl.mono (by decide)) (S:=64000) (by decide) n hn
  have k2:=cSame (RQ.self o.heat) sh (by decide) n hn
  obtain ⟨X',f1⟩:=ynx os es oz ez hl hlen hn r s (i+1) hd' he' hq (fun x hx=>hr x (by simp [hx])) (by omega) [] Q (by omega)
  refine ⟨X', ?_⟩
  rw [←f1]
  refine y0c ?_
  have lt:(((i:Nat):Int)<((os.length:Nat):Int))=True:=by simp;omega
  have li:(i<os.length)=True:=by simp only [eq_iff_iff,iff_true];omega
  have le:(i<es.length)=True:=by simp only [eq_iff_iff,iff_true];omega
  have wk:IntKind.i64.wrap ((i+1:Nat):Int)=((i+1:Nat):Int):=wi64 (by omega)
  have s0:sub (tc++rC o.heat) 0 4=some tc:=y8b htc.len
  have s4:sub (tc++rC o.heat) 4 4=some (rC o.heat):=by rw [y6f htc.len 0 4];exact ynf _
  have l8:(tc++rC o.heat).length=8:=by rw [List.length_append,htc.len,y5q]
  unfold alsS
  simp only [go_sem,Fn.y4k,lt,li,le,go,ge,oz,ez,↓s0,↓s4,↓l8,k1,k2,add1,wk]
structure PairIs (z:Nat) (ob:Nat→Option AObj) (nx:Nat) (x y:AV) (es fs:List (List AV)):Prop where
 fst:(es=[]∧x=.nils)∨∃a va,x=.rsl a va 3 0 es.length false∧ob a=some (.row 3 es va)∧z≤a∧a<nx∧∀b vb k,y=.rsl b vb 4 0 k false→a≠b
 snd:(fs=[]∧y=.nils)∨∃b vb,y=.rsl b vb 4 0 fs.length false∧ob b=some (.row 4 fs vb)∧z≤b∧b<nx
 nf:es=[]→x=.nils
 ns:fs=[]→y=.nils
theorem PairIs.old {z:Nat} {ob ob':Nat→Option AObj} {nx nx':Nat} {x y:AV} {es fs:List (List AV)} (h:PairIs z ob nx x y es fs) (e:∀id,id<nx→ob' id=ob id) (hn:nx≤nx'):PairIs z ob' nx' x y es fs:=by
 obtain ⟨h1,h2,h3,h4⟩:=h
 refine ⟨?_, ?_,h3,h4⟩
 ·rcases h1 with h1 | ⟨a,va,q1,q2,q3,q4,q5⟩
  ·exact .inl h1
  ·exact .inr ⟨a,va,q1,by rw [e _ q4];exact q2,q3,by omega,q5⟩
 ·rcases h2 with h2 | ⟨b,vb,q1,q2,q3,q4⟩
  ·exact .inl h2
  ·exact .inr ⟨b,vb,q1,by rw [e _ q4];exact q2,q3,by omega⟩
theorem ylz {n:Nat} {ob:Nat→Option AObj} {fz:Nat→Nat} {z nx i:Nat} {x y:AV} {es fs:List (List AV)} (l:List (List AV)) (s:Num) (gl:l[i]? =some s.c) (o6:okSz 3 l=true) (hl:l.length<2^20) (hi:i<l.length) (hc:∀ob fz,callV (evF E n) Id.y0m [.agg s.c] ob fz=some (.fzd fz (.tup [.agg (qC s.q),.agg (rC s.q)]))) (hz:z≤nx) (h:PairIs z ob nx x y es fs) (l1:es.length=i) (l2:fs.length=i) (X:List (Nat×SV)):
  ∃(ob':Nat→Option AObj) (nx':Nat) (x' y':AV),evC (evF E n) n Fn.y4u ⟨env ((0,.one (.sl false l))::(4,.one x)::(5,.one y)::(6,.one (.int .i64 (i:Int)))::X),ob,fz,nx⟩=
   some (.nrm,⟨env [(0,.one (.sl false l)),(4,.one x'),(5,.one y'),(6,.one (.int .i64 ((i+1:Nat):Int)))],ob',fz,nx'⟩)∧PairIs z ob' nx' x' y' (es++[qC s.q]) (fs++[rC s.q])∧nx≤nx'∧∀id,id<z→ob' id=ob id:=by
 have h1:(((i:Nat):Int)<((l.length:Nat):Int))=True:=by simp;omega
 have wk:IntKind.i64.wrap ((i+1:Nat):Int)=((i+1:Nat):Int):=wi64 (by omega)
 have nxa:∀a b:Nat,nx+a+b=nx+(a+b):=fun a b=>Nat.add_assoc nx a b
 obtain ⟨r,hr0⟩:∃r,evC (evF E n) n Fn.y4u ⟨env ((0,.one (.sl false l))::(4,.one x)::(5,.one y)::(6,.one (.int .i64 (i:Int)))::X),ob,fz,nx⟩=r:=⟨_,rfl⟩
 have hr:=hr0
 obtain ⟨hf,hs,nf,ns⟩:=h
 rcases hf with ⟨rfl,rfl⟩ | ⟨a,va,rfl,h3,h5,h6,h7⟩
 ·rcases hs with ⟨rfl,rfl⟩ | ⟨b,vb,rfl,h4,h8,h9⟩
  ·simp only [go_sem,Fn.y4u,h1,gl,hc,o6,okSz,ROOM,add1,wk,nxa] at hr
   rw [hr0,←hr]
   refine ⟨_,nx+22,_,_,rfl,⟨.inr ⟨nx+15,0,rfl, ?_,by omega,by omega,fun b vb k e=> ?_⟩,.inr ⟨nx+20,0,rfl,upd_same _ _ _,by omega,by omega⟩,fun h=>by simp at h,fun h=>by simp at h⟩,by omega,fun id hid=>by repeat rw [y00 (by omega)]⟩
   ·rw [y00 (by omega),y00 (by omega)];exact upd_same _ _ _
   ·injection e with e;omega
  ·exfalso;rw [List.length_nil] at l1;have:=ns (List.length_eq_zero_iff.1 (by omega));cases this
 ·rcases hs with ⟨rfl,rfl⟩ | ⟨b,vb,rfl,h4,h8,h9⟩
  ·exfalso;rw [List.length_nil] at l2;have:=nf (List.length_eq_zero_iff.1 (by omega));cases this
  ·have h7:a≠b:=h7 b vb _ rfl
   have k1:∀k ob y ver,rowAt (upd ob (nx+k) y) a ver=rowAt ob a ver:=fun k ob y ver=>y4z (by omega)
   have k2:∀k ob y ver,rowAt (upd ob (nx+k) y) b ver=rowAt ob b ver:=fun k ob y ver=>y4z (by omega)
   have k3:∀k j ob y ver,rowAt (upd ob (nx+k+j) y) a ver=rowAt ob a ver:=fun k j ob y ver=>y4z (by omega)
   have k4:∀k j ob y ver,rowAt (upd ob (nx+k+j) y) b ver=rowAt ob b ver:=fun k j ob y ver=>y4z (by omega)
   have k5:∀ob y ver,rowAt (upd ob a y) b ver=rowAt ob b ver:=fun ob y ver=>y4z h7.symm
   have m1:∀k ob y,upd ob a y (nx+k)=ob (nx+k):=fun k ob y=>y00 (by omega)
   have b1:(i==i)=true:=by simp
   have w1:(i+1)*56≤140737488355328:=by omega
   have w2:(i+1)*64≤140737488355328:=by omega
   have hra:rowAt ob a va=some (3,es):=y46 h3
   have hrb:rowAt ob b vb=some (4,fs):=y46 h4
   simp only [go_sem,Fn.y4u,h1,gl,hc,o6,okSz,ROOM,add1,wk,nxa,k1,k2,k3,k4,k5,hra,hrb,l1,l2,m1,b1,w1,w2] at hr
   rw [hr0,←hr]
   refine ⟨_,nx+22,_,_,rfl,⟨.inr ⟨a,va+1,by rw [List.length_append,l1];rfl, ?_,by omega,by omega,fun b' vb' k e=> ?_⟩,.inr ⟨b,vb+1,by rw [List.length_append,l2];rfl,upd_same _ _ _,by omega,by omega⟩,fun h=>by simp at h,fun h=>by simp at h⟩,by omega,fun id hid=>by repeat rw [y00 (by omega)]⟩
   ·rw [y00 h7,y00 (by omega)];exact upd_same _ _ _
   ·injection e with e;omega
theorem ydq {n:Nat} {fz:Nat→Nat} {z:Nat} (l:List Num) (hl:l.length<2^20) (hc:∀s∈l,∀ob fz,callV (evF E n) Id.y0m [.agg s.c] ob fz=some (.fzd fz (.tup [.agg (qC s.q),.agg (rC s.q)]))):∀(m i:Nat),i+m=l.length→∀(ob:Nat→Option AObj) (nx:Nat) (x y:AV) (X:List (Nat×SV)),z≤nx→PairIs z ob nx x y ((l.take i).map fun s=>qC s.q) ((l.take i).map fun s=>rC s.q)→∀N,m<N→
  ∃(ob':Nat→Option AObj) (nx':Nat) (x' y':AV) (X':List (Nat×SV)),loopN (evC (evF E n) n Fn.y4u) N ⟨env ((0,.one (.sl false (l.map Num.c)))::(4,.one x)::(5,.one y)::(6,.one (.int .i64 (i:Int)))::X),ob,fz,nx⟩=
   some (.ext 0,⟨env ((0,.one (.sl false (l.map Num.c)))::(4,.one x')::(5,.one y')::X'),ob',fz,nx'⟩)∧PairIs z ob' nx' x' y' (l.map fun s=>qC s.q) (l.map fun s=>rC s.q)∧nx≤nx'∧∀id,id<z→ob' id=ob id
 | 0,i,hi,ob,nx,x,y,X,hz,h,N+1,hN=>by
  have hi':i=l.length:=by omega
  subst hi'
  rw [List.take_length] at h
  refine ⟨ob,nx,x,y,[(6,.one (.int .i64 (l.length:Int))),(12,.one (.bool false))],y09 ?_,h,Nat.le_refl _,fun id hid=>rfl⟩
  have h1:(((l.length:Nat):Int)<((l.length:Nat):Int))=False:=by simp
  simp only [go_sem,Fn.y4u,List.length_map,h1]
 | m+1,i,hi,ob,nx,x,y,X,hz,h,N+1,hN=>by
  have hil:i<l.length:=by omega
  have gd:l[i]? =some l[i]:=by simp
  obtain ⟨ob',nx',x',y',hst,h',hnx,old⟩:=ylz (fz:=fz) (n:=n) (l.map Num.c) l[i] (by rw [List.getElem?_map,gd];rfl) (yar (f:=Num.c) (fun a=>rfl) l) (by simpa using hl) (by simpa using hil) (hc _ (by simp)) hz h (by simp;omega) (by simp;omega) X
  rw [y0c hst]
  have td:l.take (i+1)=l.take i++[l[i]]:=by rw [List.take_add_one,gd];rfl
  obtain ⟨ob2,nx2,x2,y2,X2,f1,f2,f3,f4⟩:=ydq (z:=z) l hl hc m (i+1) (by omega) ob' nx' x' y' [] (by omega) (by rw [td,List.map_append,List.map_append];exact h') N (by omega)
  exact ⟨ob2,nx2,x2,y2,X2,f1,f2,by omega,fun id hid=>(f4 id hid).trans (old id hid)⟩
theorem yjw {ob ob':Nat→Option AObj} {id sz ver:Nat} {es:List (List AV)} (h:ob' id=some (.row sz es ver)):shut ob ob' id=some (.row sz es ver):=by
 unfold shut
 rw [h]
theorem yxq (l:List Num) (hl:l.length<2^20):∃N,∀n,N≤n→∀(ob:Nat→Option AObj) (fz:Nat→Nat) (nx:Nat),∃ob' nx' x y,
  evF E n (.fn Id.y3k) [.one (.sl false (l.map Num.c))] ⟨ob,fz,nx⟩=some (.tup [.one x,.one y],⟨ob',fz,nx'⟩)∧PairIs nx ob' nx' x y (l.map fun s=>qC s.q) (l.map fun s=>rC s.q)∧nx≤nx'∧∀id,id<nx→ob' id=ob id:=by
 obtain ⟨N,hN⟩:=yg1 cBoth l
 refine ⟨N+l.length+2,fun n hn ob fz nx=> ?_⟩
 obtain ⟨n,rfl⟩:∃k,n=k+1:=⟨n-1,by omega⟩
 obtain ⟨ob',nx',x',y',X',hlo,h2,h3,h4⟩:=ydq (fz:=fz) (n:=n) (z:=nx) l hl (hN n (by omega)) l.length 0 (by omega) ob nx .nils .nils [] (Nat.le_refl _) ⟨.inl ⟨rfl,rfl⟩,.inl ⟨rfl,rfl⟩,fun _=>rfl,fun _=>rfl⟩ n (by omega)
 refine ⟨shut ob ob',nx',x',y', ?_,⟨?_, ?_,h2.nf,h2.ns⟩,h3,fun id hid=>ywv (h4 id hid)⟩
 ·rw [show ((0:Nat):Int)=0 from rfl] at hlo
  rw [ya8 yfp]
  simp only [go_sem,Fn.y3k,hlo]
 ·rcases h2.fst with h | ⟨a,va,q1,q2,q3⟩
  ·exact .inl h
  ·exact .inr ⟨a,va,q1,yjw q2,q3⟩
 ·rcases h2.snd with h | ⟨b,vb,q1,q2,q3⟩
  ·exact .inl h
  ·exact .inr ⟨b,vb,q1,yjw q2,q3⟩
structure AlE (L:List (Nat×SV)) (x y:AV):Prop where
 e4:env L 4=.one (.box 0 0)
 e6:env L 6=.one (.box 1 0)
 e9:env L 9=.one (.box 12 0)
 e10:env L 10=.one (.box 13 0)
 e11:env L 11=.one (.box 14 0)
 e12:env L 12=.one (.box 15 0)
 e13:env L 13=.one (.box 16 0)
 e14:env L 14=.one (.box 17 0)
 e15:env L 15=.one x
 e16:env L 16=.one y
def rawZ:List AV:=[.bool false,.nils,.nils]
theorem ywg {k:Nat} {es:List (List AV)} {e:List AV} (h:okSz k es=true) (he:e.length=k):okSz k (es++[e])=true:=by
 cases es with
 | nil=>simp [okSz,he]
 | cons a r=>exact h
theorem ykk {n:Nat} {fz:Nat→Nat} (y:AV) (fs:List (List AV)) (mq:Nat) (hmq:mq<2^20):∀(j:Nat) (ob:Nat→Option AObj) (nx:Nat) (L:List (Nat×SV)) (x:AV) (es:List (List AV)),24≤nx→AlE L x y→env L 3=.one (.int .i64 (mq:Int))→PairIs 24 ob nx x y es fs→okSz 3 es=true→es.length+j=mq→∀M,j<M→
  ∃L' ob' nx' x',loopN (evC (evF E n) n Fn.y12) M ⟨env L,ob,fz,nx⟩=some (.ext 0,⟨env L',ob',fz,nx'⟩)∧24≤nx'∧AlE L' x' y∧PairIs 24 ob' nx' x' y (es++List.replicate j rawZ) fs∧∀id,id<24→ob' id=ob id
 | 0,ob,nx,L,x,es,hnx,hL,l3,hx,ok3,hj,M,hM=>by
  obtain ⟨M,rfl⟩:∃q,M=q+1:=⟨M-1,by omega⟩
  have hx':=hx
  obtain ⟨e4,e6,e9,e10,e11,e12,e13,e14,e15,e16⟩:=hL
  have lt:(((es.length:Nat):Int)<((mq:Nat):Int))=False:=by simp only [eq_iff_iff,iff_false];omega
  rw [List.replicate_zero,List.append_nil]
  obtain ⟨hf,hs,nf,ns⟩:=hx
  rcases hf with ⟨rfl,rfl⟩ | ⟨id,ver,rfl,h1,h2,h3,h4⟩
  ·obtain ⟨r,hr0⟩:∃r,evC (evF E n) n Fn.y12 ⟨env L,ob,fz,nx⟩=r:=⟨_,rfl⟩
   have hr:=hr0
   rw [List.length_nil] at lt
   simp only [go_sem,Fn.y12,e4,e6,e9,e10,e11,e12,e13,e14,e15,e16,l3,lt] at hr
   exact ⟨_,ob,nx,_,y09 (hr0.trans hr.symm),hnx,⟨rfl,rfl,rfl,rfl,rfl,rfl,rfl,rfl,rfl,rfl⟩,hx',fun id hid=>rfl⟩
  ·obtain ⟨r,hr0⟩:∃r,evC (evF E n) n Fn.y12 ⟨env L,ob,fz,nx⟩=r:=⟨_,rfl⟩
   have hr:=hr0
   simp only [go_sem,Fn.y12,e4,e6,e9,e10,e11,e12,e13,e14,e15,e16,l3,lt] at hr
   exact ⟨_,ob,nx,_,y09 (hr0.trans hr.symm),hnx,⟨rfl,rfl,rfl,rfl,rfl,rfl,rfl,rfl,rfl,rfl⟩,hx',fun id hid=>rfl⟩
 | j+1,ob,nx,L,x,es,hnx,hL,l3,hx,ok3,hj,M,hM=>by
  obtain ⟨M,rfl⟩:∃q,M=q+1:=⟨M-1,by omega⟩
  have step:∃L' ob' nx' x',evC (evF E n) n Fn.y12 ⟨env L,ob,fz,nx⟩=some (.nrm,⟨env L',ob',fz,nx'⟩)∧24≤nx'∧AlE L' x' y∧env L' 3=.one (.int .i64 (mq:Int))∧PairIs 24 ob' nx' x' y (es++[rawZ]) fs∧∀id,id<24→ob' id=ob id:=by
   obtain ⟨e4,e6,e9,e10,e11,e12,e13,e14,e15,e16⟩:=hL
   have lt:(((es.length:Nat):Int)<((mq:Nat):Int))=True:=by simp only [eq_iff_iff,iff_true];omega
   have w1:(es.length+1)*56≤140737488355328:=by omega
   have nxa:∀a b:Nat,nx+a+b=nx+(a+b):=fun a b=>Nat.add_assoc nx a b
   have b1:(es.length==es.length)=true:=by simp
   obtain ⟨r,hr0⟩:∃r,evC (evF E n) n Fn.y12 ⟨env L,ob,fz,nx⟩=r:=⟨_,rfl⟩
   have hr:=hr0
   obtain ⟨hf,hs,nf,ns⟩:=hx
   rcases hf with ⟨rfl,rfl⟩ | ⟨id,ver,rfl,h1,h2,h3,h4⟩
   ·rw [List.length_nil] at lt
    simp only [go_sem,Fn.y12,e4,e6,e9,e10,e11,e12,e13,e14,e15,e16,l3,lt,ok3,nxa,b1,ROOM,okSz] at hr
    refine ⟨_,_,nx+5,_,hr0.trans hr.symm,by omega,⟨rfl,rfl,rfl,rfl,rfl,rfl,rfl,rfl,rfl,rfl⟩,rfl,⟨.inr ⟨nx+3,0,rfl,upd_same _ _ _,by omega,by omega,fun b vb k e=> ?_⟩, ?_,fun h=>by simp at h,ns⟩,fun id hid=>by repeat rw [y00 (by omega)]⟩
    ·rcases hs with ⟨_,e2⟩ | ⟨b2,vb2,e2,_,_,h9⟩
     ·rw [e2] at e;cases e
     ·rw [e2] at e;injection e with e;omega
    ·rcases hs with hs | ⟨b2,vb2,e2,h7,h8,h9⟩
     ·exact .inl hs
     ·exact .inr ⟨b2,vb2,e2,by rw [y00 (by omega),y00 (by omega)];exact h7,h8,by omega⟩
   ·have r3:rowAt ob id ver=some (3,es):=y46 h1
    have r3':∀c ob y ver,rowAt (upd ob (nx+c) y) id ver=rowAt ob id ver:=fun c ob y ver=>y4z (by omega)
    simp only [go_sem,Fn.y12,e4,e6,e9,e10,e11,e12,e13,e14,e15,e16,l3,lt,ok3,w1,nxa,b1,r3,r3',ROOM,okSz] at hr
    refine ⟨_,_,nx+5,_,hr0.trans hr.symm,by omega,⟨rfl,rfl,rfl,rfl,rfl,rfl,rfl,rfl,rfl,rfl⟩,rfl,⟨.inr ⟨id,ver+1,by rw [List.length_append];rfl,upd_same _ _ _,h2,by omega,fun b vb k e=> ?_⟩, ?_,fun h=>by simp at h,ns⟩,fun id hid=>by repeat rw [y00 (by omega)]⟩
    ·exact h4 b vb k e
    ·rcases hs with hs | ⟨b2,vb2,e2,h7,h8,h9⟩
     ·exact .inl hs
     ·have:=h4 b2 vb2 _ e2
      exact .inr ⟨b2,vb2,e2,by rw [y00 (Ne.symm this),y00 (by omega)];exact h7,h8,by omega⟩
  obtain ⟨L1,ob1,nx1,x1,s1,n1,E1,l1,X1,old1⟩:=step
  obtain ⟨L2,ob2,nx2,x2,s2,n2,E2,X2,old2⟩:=ykk y fs mq hmq j ob1 nx1 L1 x1 (es++[rawZ]) n1 E1 l1 X1 (ywg ok3 rfl) (by rw [List.length_append];show es.length+1+j=mq;omega) M (by omega)
  refine ⟨L2,ob2,nx2,x2,by rw [y0c s1];exact s2,n2,E2, ?_,fun id hid=>(old2 id hid).trans (old1 id hid)⟩
  rw [List.replicate_succ,List.append_cons];exact X2
abbrev alC:ACode:=Fn.y03.code
structure AlB (ob:Nat→Option AObj) (g:Eng) (kind:Nat) (at_:Int):Prop where
 o0:ob 0=some (.box g.c)
 o1:ob 1=some (.box [.int .u8 (kind:Int),.int .i64 at_])
 o12:ob 12=some (.box (mC 1 g.torque.q g.heating.q g.cooling.q g.most.q))
 o13:ob 13=some (.box (qC g.step.q))
 o14:ob 14=some (.box (qC g.heat.q))
 o15:ob 15=some (.box (rmC g.torque.q g.heating.q g.cooling.q g.most.q))
 o16:ob 16=some (.box (rC g.step.q))
 o17:ob 17=some (.box (rC g.heat.q))
theorem AlB.old {ob ob':Nat→Option AObj} {g:Eng} {kind:Nat} {at_:Int} (B:AlB ob g kind at_) (e:∀id,id<24→ob' id=ob id):AlB ob' g kind at_:=by
 obtain ⟨o0,o1,o12,o13,o14,o15,o16,o17⟩:=B
 exact ⟨by rw [e _ (by decide)];exact o0,by rw [e _ (by decide)];exact o1,by rw [e _ (by decide)];exact o12,by rw [e _ (by decide)];exact o13,by rw [e _ (by decide)];exact o14,by rw [e _ (by decide)];exact o15,by rw [e _ (by decide)];exact o16,by rw [e _ (by decide)];exact o17⟩
theorem yng {f:FuncId} {xs ys:List SV} {r:SV} {n:Nat} {ob:Nat→Option AObj} {fz fz':Nat→Nat} (h:evV E n f ys=some r) (hx:mapFz (frzS ob) fz xs=some (fz',ys)):callV (evF E n) f xs ob fz=some (.fzd fz' r):=by
 rw [y6j,hx]
 simp only [h,Option.map_some]
section
variable {n:Nat} {ob:Nat→Option AObj} {fz:Nat→Nat} {nx:Nat} {L:List (Nat×SV)} {x y:AV} {g:Eng} {kind:Nat} {at_:Int}
theorem al4 (hn:300≤n) (hL:AlE L x y) {mn:Int} (l3:env L 3=.one (.int .i64 mn)) {es fs:List (List AV)} (P:PairIs 24 ob nx x y es fs) (hnx:24≤nx) (ok3:okSz 3 es=true) (hes:es.length≤12):
  ∃L' ob' nx' x',evC (evF E n) n (nthC 4 alC) ⟨env L,ob,fz,nx⟩=some (.nrm,⟨env L',ob',fz,nx'⟩)∧24≤nx'∧AlE L' x' y∧PairIs 24 ob' nx' x' y (if mn>256 then es++List.replicate (257+(mn%10).toNat-es.length) rawZ else es) fs∧∀id,id<24→ob' id=ob id:=by
 by_cases c:mn>256
 ·rw [if_pos c]
  have f1:(mn>256)=True:=by simp only [eq_iff_iff,iff_true];exact c
  have hb:0≤mn%10∧mn%10<10:=⟨Int.emod_nonneg _ (by decide),Int.emod_lt_of_pos _ (by decide)⟩
  have t:mn.tmod 10=mn%10:=Int.tmod_eq_emod_of_nonneg (by omega)
  have w:IntKind.i64.wrap (257+mn%10)=((257+(mn%10).toNat:Nat):Int):=by rw [wrap_i64 (by omega)];omega
  have h10:((10:Int)=0)=False:=by simp
  have key:∀L2,AlE L2 x y→env L2 3=.one (.int .i64 ((257+(mn%10).toNat:Nat):Int))→∃L' ob' nx' x',blkC 0 (loopN (evC (evF E n) n Fn.y12) n ⟨env L2,ob,fz,nx⟩)=some (.nrm,⟨env L',ob',fz,nx'⟩)∧24≤nx'∧AlE L' x' y∧PairIs 24 ob' nx' x' y (es++List.replicate (257+(mn%10).toNat-es.length) rawZ) fs∧∀id,id<24→ob' id=ob id:=by
   intro L2 E2 l2
   obtain ⟨L',ob',nx',x',s,h1,h2,h3,h4⟩:=ykk (n:=n) (fz:=fz) y fs (257+(mn%10).toNat) (by omega) (257+(mn%10).toNat-es.length) ob nx L2 x es hnx E2 l2 P ok3 (by omega) n (by omega)
   exact ⟨L',ob',nx',x',by rw [s,y7a,if_pos rfl],h1,h2,h3,h4⟩
  obtain ⟨e4,e6,e9,e10,e11,e12,e13,e14,e15,e16⟩:=hL
  unfold alC Fn.y03
  simp only [nthC,go_sem,e4,e6,e9,e10,e11,e12,e13,e14,e15,e16,l3,f1,t,w,h10]
  exact key _ ⟨rfl,rfl,rfl,rfl,rfl,rfl,rfl,rfl,rfl,rfl⟩ rfl
 ·rw [if_neg c]
  have f1:(mn>256)=False:=by simp only [eq_iff_iff,iff_false];exact c
  obtain ⟨e4,e6,e9,e10,e11,e12,e13,e14,e15,e16⟩:=hL
  unfold alC Fn.y03
  simp only [nthC,go_sem,e4,e6,e9,e10,e11,e12,e13,e14,e15,e16,l3,f1]
  exact ⟨_,ob,nx,x,rfl,hnx,⟨rfl,rfl,rfl,rfl,rfl,rfl,rfl,rfl,rfl,rfl⟩,P,fun id hid=>rfl⟩
theorem al5 (hL:AlE L x y) (B:AlB ob g kind at_) (hnx:24≤nx) {q:Rat} {er:Int}
  (k1:∀ob fz,callV (evF E n) Id.y24 [.agg (mC 1 g.torque.q g.heating.q g.cooling.q g.most.q),.agg (qC g.step.q),.agg (qC g.heat.q),.one (.int .i64 g.d),.one (.int .i64 g.k)] ob fz=some (.fzd fz (.tup [.agg (qC q),.one (.int .i64 er)]))):
  ∃L' ob',evC (evF E n) n (nthC 5 alC) ⟨env L,ob,fz,nx⟩=some (.nrm,⟨env L',ob',fz,nx+14⟩)∧AlE L' x y∧env L' 17=.one (.box (nx+11) 0)∧env L' 18=.one (.int .i64 er)∧ob' (nx+11)=some (.box (qC q))∧∀id,id<nx→ob' id=ob id:=by
 obtain ⟨e4,e6,e9,e10,e11,e12,e13,e14,e15,e16⟩:=hL
 obtain ⟨o0,o1,o12,o13,o14,o15,o16,o17⟩:=B
 have zput:∀a b c:AV,put [a,b,c] 0 (qC q)=some (qC q):=fun _ _ _=>y64 rfl
 obtain ⟨r,hr0⟩:∃r,evC (evF E n) n (nthC 5 alC) ⟨env L,ob,fz,nx⟩=r:=⟨_,rfl⟩
 have hr:=hr0
 unfold alC Fn.y03 at hr
 simp only [nthC,go_sem,e4,e6,e9,e10,e11,e12,e13,e14,e15,e16,o0,o12,o13,o14,k1,↓zput] at hr
 exact ⟨_,_,hr0.trans hr.symm,⟨rfl,rfl,rfl,rfl,rfl,rfl,rfl,rfl,rfl,rfl⟩,rfl,rfl,upd_same _ _ _,fun id hid=>by repeat rw [y00 (by omega)]⟩
structure AlF (L:List (Nat×SV)) (x y:AV) (p:Nat) (er:Int) (os:List (List AV)) (ei:Int):Prop where
 e4:env L 4=.one (.box 0 0)
 e6:env L 6=.one (.box 1 0)
 e12:env L 12=.one (.box 15 0)
 e13:env L 13=.one (.box 16 0)
 e14:env L 14=.one (.box 17 0)
 e15:env L 15=.one x
 e16:env L 16=.one y
 e17:env L 17=.one (.box p 0)
 e18:env L 18=.one (.int .i64 er)
 e19:env L 19=.one (.sl false os)
 e20:env L 20=.one (.int .i64 ei)
theorem al6 {fz':Nat→Nat} (hL:AlE L x y) (B:AlB ob g kind at_) {p:Nat} {er ei:Int} {os:List (List AV)} (l17:env L 17=.one (.box p 0)) (l18:env L 18=.one (.int .i64 er))
  (k1:callV (evF E n) Id.y1a [.agg (mC 1 g.torque.q g.heating.q g.cooling.q g.most.q),.agg (qC g.step.q),.agg (qC g.heat.q),.one (.int .i64 g.d),.one (.int .i64 g.k),.one x,.agg [.int .u8 (kind:Int),.int .i64 at_]] ob fz=some (.fzd fz' (.tup [.one (.sl false os),.one (.int .i64 ei)]))):
  ∃L',evC (evF E n) n (nthC 6 alC) ⟨env L,ob,fz,nx⟩=some (.nrm,⟨env L',ob,fz',nx⟩)∧AlF L' x y p er os ei:=by
 obtain ⟨e4,e6,e9,e10,e11,e12,e13,e14,e15,e16⟩:=hL
 obtain ⟨o0,o1,o12,o13,o14,o15,o16,o17⟩:=B
 obtain ⟨r,hr0⟩:∃r,evC (evF E n) n (nthC 6 alC) ⟨env L,ob,fz,nx⟩=r:=⟨_,rfl⟩
 have hr:=hr0
 unfold alC Fn.y03 at hr
 simp only [nthC,go_sem,e4,e6,e9,e10,e11,e12,e13,e14,e15,e16,l17,l18,o0,o1,o12,o13,o14,k1] at hr
 exact ⟨_,hr0.trans hr.symm,⟨rfl,rfl,rfl,rfl,rfl,rfl,rfl,rfl,rfl,rfl,rfl⟩⟩
theorem y11o {p:Nat} {er:Int} (hL:AlF L x y p er [] er) (B:AlB ob g kind at_) (hp:ob p=some (.box (qC 0))) (he:er=2∨er=3)
  (k1:∀ob fz,callV (evF E n) Id.y07 [.agg (rmC g.torque.q g.heating.q g.cooling.q g.most.q),.agg (rC g.step.q),.agg (rC g.heat.q)] ob fz=some (.fzd fz (.one (.bool (mrB g.torque.q g.heating.q g.cooling.q g.most.q g.step.q g.heat.q)))))
  (heq:er=errG g.torque.q g.heating.q g.cooling.q g.most.q g.step.q g.heat.q g.d g.k)
  (k2:∀ob fz,callV (evF E n) Id.y0v [] ob fz=some (.fzd fz (.one (.bool true)))) (k3:∀ob fz,callV (evF E n) Id.y0j [.agg (qC 0)] ob fz=some (.fzd fz (.one (.int .i64 (signI (0:Rat).num))))):
  finV [.tmp 8] (evC (evF E n) n (tailAt 7 alC) ⟨env L,ob,fz,nx⟩)=some (.one (.bool true)):=by
 obtain ⟨e4,e6,e12,e13,e14,e15,e16,e17,e18,e19,e20⟩:=hL
 obtain ⟨o0,o1,o12,o13,o14,o15,o16,o17⟩:=B
 have s0:(signI (0:Rat).num==0)=true:=rfl
 rw [yj3] at heq
 have b22:((2:Int)==2)=true:=rfl
 have b33:((3:Int)==3)=true:=rfl
 have n2:((2:Int) !=0)=true:=rfl
 have n3:((3:Int) !=0)=true:=rfl
 have z0:(((0:Nat):Int)==0)=true:=rfl
 cases hm:mrB g.torque.q g.heating.q g.cooling.q g.most.q g.step.q g.heat.q with
 | false=>
  rw [hm] at k1 heq
  rw [if_neg (by decide)] at heq
  subst heq
  unfold alC Fn.y03
  simp only [tailAt,go_sem,e4,e6,e12,e13,e14,e15,e16,e17,e18,e19,e20,o0,o1,o15,o16,o17,hp,k1,k2,k3,s0,b22,n2,z0]
 | true=>
  rw [hm] at k1 heq
  rw [if_pos rfl] at heq
  by_cases c1:g.d<0
  ·have f1:(g.d<0)=True:=by simp only [eq_iff_iff,iff_true];exact c1
   rw [if_pos c1] at heq
   subst heq
   unfold alC Fn.y03
   simp only [tailAt,go_sem,e4,e6,e12,e13,e14,e15,e16,e17,e18,e19,e20,o0,o1,o15,o16,o17,hp,k1,k2,k3,s0,b33,n3,z0,f1]
  ·have f1:(g.d<0)=False:=by simp only [eq_iff_iff,iff_false];exact c1
   rw [if_neg c1] at heq
   by_cases c2:g.d>16
   ·have f2:(g.d>16)=True:=by simp only [eq_iff_iff,iff_true];exact c2
    rw [if_pos c2] at heq
    subst heq
    unfold alC Fn.y03
    simp only [tailAt,go_sem,e4,e6,e12,e13,e14,e15,e16,e17,e18,e19,e20,o0,o1,o15,o16,o17,hp,k1,k2,k3,s0,b33,n3,z0,f1,f2]
   ·have f2:(g.d>16)=False:=by simp only [eq_iff_iff,iff_false];exact c2
    rw [if_neg c2] at heq
    by_cases c3:g.k<0
    ·have f3:(g.k<0)=True:=by simp only [eq_iff_iff,iff_true];exact c3
     rw [if_pos c3] at heq
     subst heq
     unfold alC Fn.y03
     simp only [tailAt,go_sem,e4,e6,e12,e13,e14,e15,e16,e17,e18,e19,e20,o0,o1,o15,o16,o17,hp,k1,k2,k3,s0,b33,n3,z0,f1,f2,f3]
    ·have f3:(g.k<0)=False:=by simp only [eq_iff_iff,iff_false];exact c3
     rw [if_neg c3] at heq
     by_cases c4:g.k>64
     ·have f4:(g.k>64)=True:=by simp only [eq_iff_iff,iff_true];exact c4
      rw [if_pos c4] at heq
      subst heq
      unfold alC Fn.y03
      simp only [tailAt,go_sem,e4,e6,e12,e13,e14,e15,e16,e17,e18,e19,e20,o0,o1,o15,o16,o17,hp,k1,k2,k3,s0,b33,n3,z0,f1,f2,f3,f4]
     ·rw [if_neg c4] at heq
      omega
theorem yzn {p:Nat} {ei:Int} {q:Rat} {es fs:List (List AV)} (hL:AlF L x y p 0 [] ei) (B:AlB ob g kind at_) (P:PairIs 24 ob nx x y es fs) (hp:ob p=some (.box (qC q))) (hpn:p<nx) (hnx:24≤nx) (hlen:es.length<2^20)
  (hei:(ei=5∧es.length>256)∨(ei=2∧es.length≤256∧(kind>3∨at_<0)))
  (k1:∀ob fz,callV (evF E n) Id.y07 [.agg (rmC g.torque.q g.heating.q g.cooling.q g.most.q),.agg (rC g.step.q),.agg (rC g.heat.q)] ob fz=some (.fzd fz (.one (.bool true))))
  (hd:0≤g.d∧g.d≤16∧0≤g.k∧g.k≤64)
  (k2:∀ob fz,callV (evF E n) Id.y0v [] ob fz=some (.fzd fz (.one (.bool true))))
  (k3:∀ob fz,callV (evF E n) Id.y0h [.agg (rmC g.torque.q g.heating.q g.cooling.q g.most.q),.agg (rC g.step.q),.agg (rC g.heat.q),.one (.int .i64 g.d),.one (.int .i64 g.k)] ob fz=some (.fzd fz (.agg (rC q))))
  (k4:∀ob fz,callV (evF E n) Id.y1y [.agg (qC q),.agg (rC q)] ob fz=some (.fzd fz (.one (.bool true)))):
  finV [.tmp 8] (evC (evF E n) n (tailAt 7 alC) ⟨env L,ob,fz,nx⟩)=some (.one (.bool true)):=by
 obtain ⟨e4,e6,e12,e13,e14,e15,e16,e17,e18,e19,e20⟩:=hL
 obtain ⟨o0,o1,o12,o13,o14,o15,o16,o17⟩:=B
 have f1:(g.d<0)=False:=by simp only [eq_iff_iff,iff_false];omega
 have f2:(g.d>16)=False:=by simp only [eq_iff_iff,iff_false];omega
 have f3:(g.k<0)=False:=by simp only [eq_iff_iff,iff_false];omega
 have f4:(g.k>64)=False:=by simp only [eq_iff_iff,iff_false];omega
 have b00:((0:Int) !=0)=false:=rfl
 have b55:((5:Int)==5)=true:=rfl
 have b22:((2:Int)==2)=true:=rfl
 have z0:(((0:Nat):Int)==0)=true:=rfl
 have lt0:(0<nx)=True:=by simp only [eq_iff_iff,iff_true];omega
 have lt15:(15<nx)=True:=by simp only [eq_iff_iff,iff_true];omega
 have lt16:(16<nx)=True:=by simp only [eq_iff_iff,iff_true];omega
 have lt17:(17<nx)=True:=by simp only [eq_iff_iff,iff_true];omega
 have ltp:(p<nx)=True:=by simp only [eq_iff_iff,iff_true];omega
 rcases hei with ⟨rfl,h256⟩ | ⟨rfl,h256,hk⟩
 ·have f5:(((es.length:Nat):Int)>256)=True:=by simp only [eq_iff_iff,iff_true];omega
  rcases P.fst with ⟨rfl,rfl⟩ | ⟨a,va,rfl,-⟩
  ·simp at h256
  ·unfold alC Fn.y03
   simp only [tailAt,go_sem,e4,e6,e12,e13,e14,e15,e16,e17,e18,e19,e20,o0,o1,o15,o16,o17,hp,k1,k2,k3,k4,b00,b55,z0,f1,f2,f3,f4,f5,lt0,lt15,lt16,lt17,ltp]
 ·have f5:(((es.length:Nat):Int)>256)=False:=by simp only [eq_iff_iff,iff_false];omega
  have fin:∀x',env L 15=.one x'→(x'=.nils∨∃a va,x'=.rsl a va 3 0 es.length false)→finV [.tmp 8] (evC (evF E n) n (tailAt 7 alC) ⟨env L,ob,fz,nx⟩)=some (.one (.bool true)):=by
   intro x' e15 hx
   have f50:(((0:Nat):Int)>256)=False:=by simp
   by_cases c1:kind>3
   ·have g1:(((kind:Nat):Int)>3)=True:=by simp only [eq_iff_iff,iff_true];omega
    rcases hx with rfl | ⟨a,va,rfl⟩
    ·unfold alC Fn.y03
     simp only [tailAt,go_sem,e4,e6,e12,e13,e14,e15,e16,e17,e18,e19,e20,o0,o1,o15,o16,o17,hp,k1,k2,k3,k4,b00,b22,z0,f1,f2,f3,f4,f50,g1,lt0,lt15,lt16,lt17,ltp]
    ·unfold alC Fn.y03
     simp only [tailAt,go_sem,e4,e6,e12,e13,e14,e15,e16,e17,e18,e19,e20,o0,o1,o15,o16,o17,hp,k1,k2,k3,k4,b00,b22,z0,f1,f2,f3,f4,f5,g1,lt0,lt15,lt16,lt17,ltp]
   ·have g1:(((kind:Nat):Int)>3)=False:=by simp only [eq_iff_iff,iff_false];omega
    have g2:(at_<0)=True:=by simp only [eq_iff_iff,iff_true];omega
    rcases hx with rfl | ⟨a,va,rfl⟩
    ·unfold alC Fn.y03
     simp only [tailAt,go_sem,e4,e6,e12,e13,e14,e15,e16,e17,e18,e19,e20,o0,o1,o15,o16,o17,hp,k1,k2,k3,k4,b00,b22,z0,f1,f2,f3,f4,f50,g1,g2,lt0,lt15,lt16,lt17,ltp]
    ·unfold alC Fn.y03
     simp only [tailAt,go_sem,e4,e6,e12,e13,e14,e15,e16,e17,e18,e19,e20,o0,o1,o15,o16,o17,hp,k1,k2,k3,k4,b00,b22,z0,f1,f2,f3,f4,f5,g1,g2,lt0,lt15,lt16,lt17,ltp]
  rcases P.fst with ⟨_,h⟩ | ⟨a,va,h,-⟩
  ·exact fin x e15 (.inl h)
  ·exact fin x e15 (.inr ⟨a,va,h⟩)
theorem y10t {p:Nat} {q:Rat} {es fs:List (List AV)} {os:List Wt} {es2:List (List AV)} {fz':Nat→Nat} (hL:AlF L x y p 0 (os.map Wt.c) 0) (B:AlB ob g kind at_) (P:PairIs 24 ob nx x y es fs) (hp:ob p=some (.box (qC q))) (hpn:p<nx) (hnx:24≤nx) (h256:es.length≤256)
  (hk3:kind≤3) (ha:0≤at_) (hos:os.length<2^20) (hq:WtQs os es2) (hsz:∀o∈os,SmQ 64000 o.heat∧SmQ 512 o.last) (hn:4*64000+112≤n) (hn2:os.length<n)
  (k1:∀ob fz,callV (evF E n) Id.y07 [.agg (rmC g.torque.q g.heating.q g.cooling.q g.most.q),.agg (rC g.step.q),.agg (rC g.heat.q)] ob fz=some (.fzd fz (.one (.bool true))))
  (hd:0≤g.d∧g.d≤16∧0≤g.k∧g.k≤64)
  (k2:∀ob fz,callV (evF E n) Id.y0v [] ob fz=some (.fzd fz (.one (.bool true))))
  (k3:∀ob fz,callV (evF E n) Id.y0h [.agg (rmC g.torque.q g.heating.q g.cooling.q g.most.q),.agg (rC g.step.q),.agg (rC g.heat.q),.one (.int .i64 g.d),.one (.int .i64 g.k)] ob fz=some (.fzd fz (.agg (rC q))))
  (k4:∀ob fz,callV (evF E n) Id.y1y [.agg (qC q),.agg (rC q)] ob fz=some (.fzd fz (.one (.bool true))))
  (k5:callV (evF E n) Id.y0x [.agg (rmC g.torque.q g.heating.q g.cooling.q g.most.q),.agg (rC g.step.q),.agg (rC g.heat.q),.one (.int .i64 g.d),.one (.int .i64 g.k),.one y,.one (.int .u8 (kind:Int)),.one (.int .i64 at_)] ob fz=some (.fzd fz' (.one (.sl false es2)))):
  finV [.tmp 8] (evC (evF E n) n (tailAt 7 alC) ⟨env L,ob,fz,nx⟩)=some (.one (.bool true)):=by
 obtain ⟨e4,e6,e12,e13,e14,e15,e16,e17,e18,e19,e20⟩:=hL
 obtain ⟨o0,o1,o12,o13,o14,o15,o16,o17⟩:=B
 have f1:(g.d<0)=False:=by simp only [eq_iff_iff,iff_false];omega
 have f2:(g.d>16)=False:=by simp only [eq_iff_iff,iff_false];omega
 have f3:(g.k<0)=False:=by simp only [eq_iff_iff,iff_false];omega
 have f4:(g.k>64)=False:=by simp only [eq_iff_iff,iff_false];omega
 have g1:(((kind:Nat):Int)>3)=False:=by simp only [eq_iff_iff,iff_false];omega
 have g2:(at_<0)=False:=by simp only [eq_iff_iff,iff_false];omega
 have b00:((0:Int) !=0)=false:=rfl
 have lt0:(0<nx)=True:=by simp only [eq_iff_iff,iff_true];omega
 have lt15:(15<nx)=True:=by simp only [eq_iff_iff,iff_true];omega
 have lt16:(16<nx)=True:=by simp only [eq_iff_iff,iff_true];omega
 have lt17:(17<nx)=True:=by simp only [eq_iff_iff,iff_true];omega
 have ltp:(p<nx)=True:=by simp only [eq_iff_iff,iff_true];omega
 have f5:(((es.length:Nat):Int)>256)=False:=by simp only [eq_iff_iff,iff_false];omega
 have f50:(((0:Nat):Int)>256)=False:=by simp
 have hl2:=hq.len
 have beq:(((os.length:Nat):Int) !=((es2.length:Nat):Int))=false:=by rw [hl2];simp
 have hml:(os.map Wt.c).length=os.length:=List.length_map _
 obtain ⟨X',f⟩:=ynx (os.map Wt.c) es2 (yar Wt.len os) hq.okSz (by rw [hl2,hml]) (by rw [hml];exact hos) hn (ob:=ob) (fz:=fz') (nx:=nx) os es2 0 rfl rfl hq hsz (by simp) [] n hn2
 have key:finV [.tmp 8] (thenC (evF E n) n (tailAt 16 alC) (blkC 2 (loopN (evC (evF E n) n Fn.y4k) n ⟨env (alsS [] (os.map Wt.c) es2 0),ob,fz',nx⟩)))=some (.one (.bool true)):=by
  rw [f,y7a,if_pos rfl,y4j]
  unfold alsS alC
  simp only [go_sem,tailAt,Fn.y03,k2]
 have fin:∀x',env L 15=.one x'→(x'=.nils∨∃a va,x'=.rsl a va 3 0 es.length false)→finV [.tmp 8] (evC (evF E n) n (tailAt 7 alC) ⟨env L,ob,fz,nx⟩)=some (.one (.bool true)):=by
  intro x' e15 hx
  rw [show tailAt 7 alC=cutAt 9 (tailAt 7 alC) (tailAt 16 alC) from rfl]
  generalize tailAt 16 alC=T' at key ⊢
  unfold alsS at key
  rcases hx with rfl | ⟨a,va,rfl⟩
  ·unfold alC Fn.y03
   simp only [tailAt,cutAt,go_sem,e4,e6,e12,e13,e14,e15,e16,e17,e18,e19,e20,o0,o1,o15,o16,o17,hp,k1,k2,k3,k4,k5,b00,f1,f2,f3,f4,f50,g1,g2,lt0,lt15,lt16,lt17,ltp,hml,beq]
   exact key
  ·unfold alC Fn.y03
   simp only [tailAt,cutAt,go_sem,e4,e6,e12,e13,e14,e15,e16,e17,e18,e19,e20,o0,o1,o15,o16,o17,hp,k1,k2,k3,k4,k5,b00,f1,f2,f3,f4,f5,g1,g2,lt0,lt15,lt16,lt17,ltp,hml,beq]
   exact key
 rcases P.fst with ⟨_,h⟩ | ⟨a,va,h,-⟩
 ·exact fin x e15 (.inl h)
 ·exact fin x e15 (.inr ⟨a,va,h⟩)
end
end Go.Ev
namespace Go.Ev
open Go.Dig
theorem ynw (ob:Nat→Option AObj) (k:Nat):∀j fz,mapFz (mapFz (Ev.frz ob (k+1))) fz (List.replicate j rawZ)=some (fz,(List.replicate j (0:Rat)).map qC)
 | 0,fz=>rfl
 | j+1,fz=>by
  rw [List.replicate_succ,List.replicate_succ,List.map_cons]
  refine y5f (fun fz=> ?_) (ynw ob k j) fz
  rw [y8x];rfl
theorem ync (ob:Nat→Option AObj) (k j:Nat):∀(ws:List Rat) fz,mapFz (mapFz (Ev.frz ob (k+1))) fz (ws.map qC++List.replicate j rawZ)=some (fz,(ws++List.replicate j 0).map qC)
 | [],fz=>by rw [List.map_nil,List.nil_append,List.nil_append];exact ynw ob k j fz
 | w::r,fz=>by
  rw [List.map_cons,List.cons_append,List.cons_append,List.map_cons]
  exact y5f (fun fz=>y60 _ fun x hx=>(CanL.q w x hx).frz ob k fz) (ync ob k j r) fz
theorem PairIs.frzx {z:Nat} {ob:Nat→Option AObj} {nx:Nat} {x y:AV} {es fs es2:List (List AV)} (h:PairIs z ob nx x y es fs) (hm:∀fz,mapFz (mapFz (Ev.frz ob (6+1))) fz es=some (fz,es2)) (fz:Nat→Nat):∃fz',frzS ob fz (.one x)=some (fz',.one (.sl false es2)):=by
 rcases h.fst with ⟨rfl,rfl⟩ | ⟨id,ver,rfl,hid,-⟩
 ·have:=hm fz
  simp only [mapFz,Option.some.injEq,Prod.mk.injEq] at this
  rw [←this.2]
  exact ⟨fz,rfl⟩
 ·refine ⟨raise fz id (0+es.length), ?_⟩
  have hb:Nat.ble (0+es.length) es.length=true:=by simp
  have h1:Ev.frz ob DEPTH fz (.rsl id ver 3 0 es.length false)=some (raise fz id (0+es.length),.sl false es2):=by
   rw [show DEPTH=6+1+1 from rfl,y94,y46 hid]
   simp only [hb,cond_true,List.drop_zero,List.take_length]
   rw [hm]
  simp only [frzS,h1]
theorem PairIs.frzy {z:Nat} {ob:Nat→Option AObj} {nx:Nat} {x y:AV} {es fs es2:List (List AV)} (h:PairIs z ob nx x y es fs) (hm:∀fz,mapFz (mapFz (Ev.frz ob (6+1))) fz fs=some (fz,es2)) (fz:Nat→Nat):∃fz',frzS ob fz (.one y)=some (fz',.one (.sl false es2)):=by
 rcases h.snd with ⟨rfl,rfl⟩ | ⟨id,ver,rfl,hid,-⟩
 ·have:=hm fz
  simp only [mapFz,Option.some.injEq,Prod.mk.injEq] at this
  rw [←this.2]
  exact ⟨fz,rfl⟩
 ·refine ⟨raise fz id (0+fs.length), ?_⟩
  have hb:Nat.ble (0+fs.length) fs.length=true:=by simp
  have h1:Ev.frz ob DEPTH fz (.rsl id ver 4 0 fs.length false)=some (raise fz id (0+fs.length),.sl false es2):=by
   rw [show DEPTH=6+1+1 from rfl,y94,y46 hid]
   simp only [hb,cond_true,List.drop_zero,List.take_length]
   rw [hm]
  simp only [frzS,h1]
theorem ykj {ob:Nat→Option AObj} {fz:Nat→Nat}:∀{l:List SV},(∀v∈l,CanS v)→mapFz (frzS ob) fz l=some (fz,l)
 | [],_=>rfl
 | v::r,h=>by
  have h1:=(h v (by simp)).frz ob fz
  have h2:=ykj (ob:=ob) (fz:=fz) (l:=r) fun w hw=>h w (by simp [hw])
  simp only [mapFz,h1,h2]
theorem ye9 {ob:Nat→Option AObj} {fz fz':Nat→Nat} {x x':SV} {suf:List SV} (hs:∀v∈suf,CanS v) (hx:frzS ob fz x=some (fz',x')):∀{pre:List SV},(∀v∈pre,CanS v)→mapFz (frzS ob) fz (pre++x::suf)=some (fz',pre++x'::suf)
 | [],_=>by
  rw [List.nil_append,List.nil_append]
  simp only [mapFz,hx,ykj (ob:=ob) (fz:=fz') hs]
 | v::r,h=>by
  have h1:=(h v (by simp)).frz ob fz
  have h2:=ye9 (ob:=ob) hs hx (pre:=r) fun w hw=>h w (by simp [hw])
  rw [List.cons_append,List.cons_append]
  simp only [mapFz,h1,h2]
theorem al3 {n:Nat} {ob ob':Nat→Option AObj} {fz:Nat→Nat} {nx nx':Nat} {x y:AV} {ls:List (List AV)} {mn:Int} {L:List (Nat×SV)}
  (e1:env L 1=.one (.sl false ls)) (e3:env L 3=.one (.int .i64 mn)) (e4:env L 4=.one (.box 0 0)) (e6:env L 6=.one (.box 1 0)) (e9:env L 9=.one (.box 12 0)) (e10:env L 10=.one (.box 13 0)) (e11:env L 11=.one (.box 14 0)) (e12:env L 12=.one (.box 15 0)) (e13:env L 13=.one (.box 16 0)) (e14:env L 14=.one (.box 17 0))
  (hl:evF E n (.fn Id.y3k) [.one (.sl false ls)] ⟨ob,fz,nx⟩=some (.tup [.one x,.one y],⟨ob',fz,nx'⟩)):
  ∃L',evC (evF E n) n (nthC 3 alC) ⟨env L,ob,fz,nx⟩=some (.nrm,⟨env L',ob',fz,nx'⟩)∧AlE L' x y∧env L' 3=.one (.int .i64 mn):=by
 unfold alC Fn.y03
 simp only [nthC,go_sem,e1,e3,e4,e6,e9,e10,e11,e12,e13,e14,hl]
 exact ⟨_,rfl,⟨rfl,rfl,rfl,rfl,rfl,rfl,rfl,rfl,rfl,rfl⟩,rfl⟩
theorem yvs (g:Eng):∀v∈[SV.agg (mC 1 g.torque.q g.heating.q g.cooling.q g.most.q),.agg (qC g.step.q),.agg (qC g.heat.q),.one (.int .i64 g.d),.one (.int .i64 g.k)],CanS v:=fun x hx=>by
 simp only [List.mem_cons,List.not_mem_nil,or_false] at hx
 rcases hx with rfl | rfl | rfl | rfl | rfl
 ·exact .agg _ (yec _ _ _ _ _)
 ·exact y1j _
 ·exact y1j _
 ·exact .one _ (.int _ _)
 ·exact .one _ (.int _ _)
theorem yv8 (g:Eng):∀v∈[SV.agg (rmC g.torque.q g.heating.q g.cooling.q g.most.q),.agg (rC g.step.q),.agg (rC g.heat.q),.one (.int .i64 g.d),.one (.int .i64 g.k)],CanS v:=fun x hx=>by
 simp only [List.mem_cons,List.not_mem_nil,or_false] at hx
 rcases hx with rfl | rfl | rfl | rfl | rfl
 ·exact .agg _ (yn3 _ _ _ _)
 ·exact y70 _
 ·exact y70 _
 ·exact .one _ (.int _ _)
 ·exact .one _ (.int _ _)
theorem y10s (g:Eng) (l:List Num) (hl:l.length≤12) (kind:Nat) (at_:Int) (ha':at_<9223372036854775808) (mn:Int):
  ∃N,∀n,N≤n→∀(ob:Nat→Option AObj) (L:List (Nat×SV)),AlB ob g kind at_→env L 1=.one (.sl false (l.map Num.c))→env L 3=.one (.int .i64 mn)→env L 4=.one (.box 0 0)→env L 6=.one (.box 1 0)→env L 9=.one (.box 12 0)→env L 10=.one (.box 13 0)→env L 11=.one (.box 14 0)→env L 12=.one (.box 15 0)→env L 13=.one (.box 16 0)→env L 14=.one (.box 17 0)→
   finV [.tmp 8] (evC (evF E n) n (tailAt 3 alC) ⟨env L,ob,fz0,24⟩)=some (.one (.bool true)):=by
 obtain ⟨ws,hws⟩:∃ws:List Rat,ws=l.map Num.q:=⟨_,rfl⟩
 have hmq:(l.map fun s=>qC s.q)=ws.map qC:=by rw [hws,List.map_map];rfl
 have hmr:(l.map fun s=>rC s.q)=ws.map rC:=by rw [hws,List.map_map];rfl
 have hlw:ws.length=l.length:=by rw [hws,List.length_map]
 have hsw:∀w∈ws,SmQ 256 w:=fun w hw=>by rw [hws] at hw;obtain ⟨x,-,rfl⟩:=List.mem_map.1 hw;exact x.qS
 obtain ⟨j,hj⟩:∃j,j=if mn>256 then 257+(mn%10).toNat-ws.length else 0:=⟨_,rfl⟩
 obtain ⟨ws',hws'⟩:∃ws',ws'=ws++List.replicate j (0:Rat):=⟨_,rfl⟩
 have hlen':ws'.length=ws.length+j:=by rw [hws',List.length_append,List.length_replicate]
 have hsw':∀w∈ws',SmQ 256 w:=fun w hw=>by
  rw [hws'] at hw
  rcases List.mem_append.1 hw with hw | hw
  ·exact hsw w hw
  ·rw [List.eq_of_mem_replicate hw];exact ⟨Nat.pow_pos (by decide),Nat.one_lt_two_pow (by decide)⟩
 have hj2:mn>256→ws'.length>256∧ws'.length<300:=fun c=>by
  rw [if_pos c] at hj
  have:=Int.emod_nonneg mn (show (10:Int)≠0 by decide)
  have:=Int.emod_lt_of_pos mn (show (0:Int)<10 by decide)
  omega
 have hj3:¬mn>256→ws'=ws:=fun c=>by
  rw [if_neg c] at hj
  rw [hws',hj];simp
 have hle:ws'.length≤256→ws'.length≤20:=fun h=>by
  by_cases c:mn>256
  ·have:=(hj2 c).1;omega
  ·rw [hj3 c];omega
 have hlt:ws'.length<300:=by
  by_cases c:mn>256
  ·exact (hj2 c).2
  ·rw [hj3 c];omega
 obtain ⟨N1,h1⟩:=yxq l (by omega)
 obtain ⟨N2,h2⟩:=cCAllowed 1 g.torque.q g.heating.q g.cooling.q g.most.q g.step.q g.heat.q g.d g.k g.torque.qS g.heating.qS g.cooling.qS g.most.qS g.step.qS g.heat.qS
 obtain ⟨hsz,N3,h3⟩:=yr7 1 g.torque.q g.heating.q g.cooling.q g.most.q g.step.q g.heat.q g.d g.k kind at_ ws' g.torque.qS g.heating.qS g.cooling.qS g.most.qS g.step.qS g.heat.qS hsw' hle (by omega) ha'
 obtain ⟨N4,h4⟩:=cMotorRight ⟨g.torque.q,g.heating.q,g.cooling.q,g.most.q,g.step.q⟩ g.heat.q g.torque.qS g.heating.qS g.cooling.qS g.most.qS g.step.qS g.heat.qS (by decide)
 obtain ⟨N5,h5⟩:=yil
 obtain ⟨N6,h6⟩:=cSign 0
 have common:∀n,N1+N2+N3+300≤n→∀(ob:Nat→Option AObj) (L:List (Nat×SV)),AlB ob g kind at_→env L 1=.one (.sl false (l.map Num.c))→env L 3=.one (.int .i64 mn)→env L 4=.one (.box 0 0)→env L 6=.one (.box 1 0)→env L 9=.one (.box 12 0)→env L 10=.one (.box 13 0)→env L 11=.one (.box 14 0)→env L 12=.one (.box 15 0)→env L 13=.one (.box 16 0)→env L 14=.one (.box 17 0)→
   ∃L' ob' fz' nx' x y es,evC (evF E n) n (tailAt 3 alC) ⟨env L,ob,fz0,24⟩=evC (evF E n) n (tailAt 7 alC) ⟨env L',ob',fz',nx'⟩∧24<nx'∧
    AlF L' x y (nx'-3) (errG g.torque.q g.heating.q g.cooling.q g.most.q g.step.q g.heat.q g.d g.k) ((watchR g.torque.q g.heating.q g.cooling.q g.most.q g.step.q g.heat.q g.d g.k kind at_ ws').map Wt.c) (WatchE g.torque.q g.heating.q g.cooling.q g.most.q g.step.q g.heat.q g.d g.k kind at_ ws'.length)∧
    AlB ob' g kind at_∧PairIs 24 ob' nx' x y es (ws.map rC)∧es.length=ws'.length∧ob' (nx'-3)=some (.box (qC (AllowedV g.torque.q g.heating.q g.cooling.q g.most.q g.step.q g.heat.q g.d g.k))):=by
  intro n hn ob L B e1 e3 e4 e6 e9 e10 e11 e12 e13 e14
  obtain ⟨ob1,nx1,x,y,s1,P1,n1,old1⟩:=h1 n (by omega) ob fz0 24
  rw [hmq,hmr] at P1
  obtain ⟨L2,s2,E2,l3⟩:=al3 e1 e3 e4 e6 e9 e10 e11 e12 e13 e14 s1
  have B1:=B.old old1
  obtain ⟨L3,ob3,nx3,x3,s3,n3,E3,P3,old3⟩:=al4 (fz:=fz0) (n:=n) (by omega) E2 l3 P1 n1 (yar yoi ws) (by rw [List.length_map];omega)
  have B3:=B1.old old3
  have hes:(if mn>256 then ws.map qC++List.replicate (257+(mn%10).toNat-(ws.map qC).length) rawZ else ws.map qC)=ws.map qC++List.replicate j rawZ:=by
   rw [hj,List.length_map]
   by_cases c:mn>256
   ·rw [if_pos c,if_pos c]
   ·rw [if_neg c,if_neg c];simp
  rw [hes] at P3
  obtain ⟨L4,ob4,s4,E4,l17,l18,hp,old4⟩:=al5 (fz:=fz0) (n:=n) E3 B3 n3 (h2 n (by omega))
  have B4:=B3.old fun id hid=>old4 id (by omega)
  have P4:=P3.old old4 (nx':=nx3+14) (by omega)
  obtain ⟨fz',hfx⟩:=P4.frzx (ync ob4 6 j ws) fz0
  rw [←hws'] at hfx
  have kW:=yng (h3 n (by omega)) (ye9 (ob:=ob4) (fun v hv=>by
   simp only [List.mem_cons,List.not_mem_nil,or_false] at hv
   subst hv
   exact .agg _ (CanL.cons (.int _ _) (CanL.cons (.int _ _) CanL.nil))) hfx (yvs g))
  obtain ⟨L5,s5,E5⟩:=al6 (n:=n) (nx:=nx3+14) E4 B4 l17 l18 kW
  refine ⟨L5,ob4,fz',nx3+14,x3,y,_, ?_,by omega,E5,B4,P4,by rw [hlen',List.length_append,List.length_map,List.length_replicate],hp⟩
  rw [show tailAt 3 alC=.seq (nthC 3 alC) (.seq (nthC 4 alC) (.seq (nthC 5 alC) (.seq (nthC 6 alC) (tailAt 7 alC)))) from rfl]
  rw [x_seq,s2,y4j,x_seq,s3,y4j,x_seq,s4,y4j,x_seq,s5,y4j]
 by_cases ce:errG g.torque.q g.heating.q g.cooling.q g.most.q g.step.q g.heat.q g.d g.k=0
 ·obtain ⟨t0,t1,t2,t3,t4,t5,t6,t7,d0,d1,k0,k1⟩:=yek ce
  have hmr1:mrB g.torque.q g.heating.q g.cooling.q g.most.q g.step.q g.heat.q=true:=by
   rw [yj3] at ce
   by_cases c:mrB g.torque.q g.heating.q g.cooling.q g.most.q g.step.q g.heat.q=true
   ·exact c
   ·rw [if_neg c] at ce;omega
  have hmr2:mrB (Mt.mk g.torque.q g.heating.q g.cooling.q g.most.q g.step.q).T (Mt.mk g.torque.q g.heating.q g.cooling.q g.most.q g.step.q).H (Mt.mk g.torque.q g.heating.q g.cooling.q g.most.q g.step.q).C (Mt.mk g.torque.q g.heating.q g.cooling.q g.most.q g.step.q).M (Mt.mk g.torque.q g.heating.q g.cooling.q g.most.q g.step.q).s g.heat.q=true:=hmr1
  rw [hmr2] at h4
  have ok:(Mt.mk g.torque.q g.heating.q g.cooling.q g.most.q g.step.q).Ok:=⟨t0,t1,t2,t3,t4,t5⟩
  have ms:MtS (Mt.mk g.torque.q g.heating.q g.cooling.q g.most.q g.step.q):=⟨g.torque.qS,g.heating.qS,g.cooling.qS,g.most.qS,g.step.qS⟩
  obtain ⟨dn,hdn⟩:∃q:Nat,g.d=(q:Int):=⟨g.d.toNat,by omega⟩
  obtain ⟨kn,hkn⟩:∃q:Nat,g.k=(q:Int):=⟨g.k.toNat,by omega⟩
  obtain ⟨N7,h7⟩:=cRAllowed _ ok ms dn kn (by omega) (by omega) g.heat.q t6 t7 (g.heat.qS.mono (by decide))
  rw [←hdn,←hkn] at h7
  have hAV:AllowedV g.torque.q g.heating.q g.cooling.q g.most.q g.step.q g.heat.q g.d g.k=(Mt.mk g.torque.q g.heating.q g.cooling.q g.most.q g.step.q).top dn kn g.heat.q:=by
   unfold AllowedV
   rw [if_pos ce,hdn,hkn,Int.toNat_natCast,Int.toNat_natCast]
  rw [ce,hAV] at common
  have stop:=(yam (m:=Mt.mk g.torque.q g.heating.q g.cooling.q g.most.q g.step.q) (d:=dn) (k:=kn) (h:=g.heat.q) (by omega) g.torque.qS t0).sm
  generalize (Mt.mk g.torque.q g.heating.q g.cooling.q g.most.q g.step.q).top dn kn g.heat.q=top at*
  have h8:=cSame (RQ.self top) (stop.mono (show 256+66≤64000 by decide)) (by decide)
  by_cases cs:WatchE g.torque.q g.heating.q g.cooling.q g.most.q g.step.q g.heat.q g.d g.k kind at_ ws'.length=0
  ·obtain ⟨-,q1,q2,q3⟩:=yp3 cs
   have hw:ws'=ws:=hj3 fun c=>by have:=(hj2 c).1;omega
   have eR:watchR g.torque.q g.heating.q g.cooling.q g.most.q g.step.q g.heat.q g.d g.k kind at_ ws'=(Mt.mk g.torque.q g.heating.q g.cooling.q g.most.q g.step.q).watch dn kn kind at_ 0 ⟨g.heat.q,0,g.heat.q⟩ ws:=by
    unfold watchR
    rw [if_pos cs,hdn,hkn,Int.toNat_natCast,Int.toNat_natCast,hw]
   rw [eR] at hsz
   rw [eR,cs] at common
   obtain ⟨an,han⟩:∃q:Nat,at_=(q:Int):=⟨at_.toNat,by omega⟩
   obtain ⟨es2,hq,N9,h9⟩:=ypj _ ok ms dn kn kind an (by omega) (by omega) q2 g.heat.q t6 t7 g.heat.qS ws (by omega) hsw
   rw [←hdn,←hkn,←han] at h9
   rw [←han] at hq
   have hol:=ylc (Mt.mk g.torque.q g.heating.q g.cooling.q g.most.q g.step.q) dn kn kind at_ ws 0 ⟨g.heat.q,0,g.heat.q⟩
   generalize (Mt.mk g.torque.q g.heating.q g.cooling.q g.most.q g.step.q).watch dn kn kind at_ 0 ⟨g.heat.q,0,g.heat.q⟩ ws=os at*
   refine ⟨N1+N2+N3+N4+N5+N7+N9+300000,fun n hn ob L B e1 e3 e4 e6 e9 e10 e11 e12 e13 e14=> ?_⟩
   obtain ⟨L',ob',fz',nx',x,y,es,s,n24,E',B',P',hel,hp⟩:=common n (by omega) ob L B e1 e3 e4 e6 e9 e10 e11 e12 e13 e14
   obtain ⟨fz2,hfy⟩:=P'.frzy (fun fz=>y60 _ fun c hc=>(by
    obtain ⟨w,-,rfl⟩:=List.mem_map.1 hc
    exact y60 _ fun x hx=>(CanL.r w x hx).frz ob' 6 fz)) fz'
   have k5:=yng (h9 n (by omega)) (ye9 (ob:=ob') (fun v hv=>by
    simp only [List.mem_cons,List.not_mem_nil,or_false] at hv
    rcases hv with rfl | rfl
    ·exact .one _ (.int _ _)
    ·exact .one _ (.int _ _)) hfy (yv8 g))
   rw [s]
   exact y10t E' B' P' hp (by omega) (by omega) (by omega) q2 q3 (by omega) hq hsz (by omega) (by omega) (h4 n (by omega)) ⟨d0,d1,k0,k1⟩ (h5 n (by omega)) (h7 n (by omega)) (h8 n (by omega)) k5
  ·have eR:watchR g.torque.q g.heating.q g.cooling.q g.most.q g.step.q g.heat.q g.d g.k kind at_ ws'=[]:=if_neg cs
   rw [eR] at common
   have hei:(WatchE g.torque.q g.heating.q g.cooling.q g.most.q g.step.q g.heat.q g.d g.k kind at_ ws'.length=5∧ws'.length>256)∨(WatchE g.torque.q g.heating.q g.cooling.q g.most.q g.step.q g.heat.q g.d g.k kind at_ ws'.length=2∧ws'.length≤256∧(kind>3∨at_<0)):=by
    unfold WatchE at cs ⊢
    rw [if_pos ce] at cs ⊢
    by_cases c2:ws'.length>256
    ·rw [if_pos c2];exact .inl ⟨rfl,c2⟩
    ·rw [if_neg c2] at cs ⊢
     by_cases c3:kind>3∨at_<0
     ·rw [if_pos c3];exact .inr ⟨rfl,by omega,c3⟩
     ·rw [if_neg c3] at cs;exact absurd rfl cs
   refine ⟨N1+N2+N3+N4+N5+N7+300000,fun n hn ob L B e1 e3 e4 e6 e9 e10 e11 e12 e13 e14=> ?_⟩
   obtain ⟨L',ob',fz',nx',x,y,es,s,n24,E',B',P',hel,hp⟩:=common n (by omega) ob L B e1 e3 e4 e6 e9 e10 e11 e12 e13 e14
   rw [s]
   exact yzn E' B' P' hp (by omega) (by omega) (by omega) (by rw [hel];exact hei) (h4 n (by omega)) ⟨d0,d1,k0,k1⟩ (h5 n (by omega)) (h7 n (by omega)) (h8 n (by omega))
 ·have eW:WatchE g.torque.q g.heating.q g.cooling.q g.most.q g.step.q g.heat.q g.d g.k kind at_ ws'.length=errG g.torque.q g.heating.q g.cooling.q g.most.q g.step.q g.heat.q g.d g.k:=if_neg ce
  have eR:watchR g.torque.q g.heating.q g.cooling.q g.most.q g.step.q g.heat.q g.d g.k kind at_ ws'=[]:=if_neg (by rw [eW];exact ce)
  have eA:AllowedV g.torque.q g.heating.q g.cooling.q g.most.q g.step.q g.heat.q g.d g.k=0:=if_neg ce
  have e23:errG g.torque.q g.heating.q g.cooling.q g.most.q g.step.q g.heat.q g.d g.k=2∨errG g.torque.q g.heating.q g.cooling.q g.most.q g.step.q g.heat.q g.d g.k=3:=by
   rw [yj3] at ce ⊢
   repeat' split at ce
   all_goals simp_all
  rw [eW,eR,eA] at common
  refine ⟨N1+N2+N3+N4+N5+N6+300000,fun n hn ob L B e1 e3 e4 e6 e9 e10 e11 e12 e13 e14=> ?_⟩
  obtain ⟨L',ob',fz',nx',x,y,es,s,n24,E',B',P',hel,hp⟩:=common n (by omega) ob L B e1 e3 e4 e6 e9 e10 e11 e12 e13 e14
  rw [s]
  exact y11o E' B' hp e23 (h4 n (by omega)) rfl (h5 n (by omega)) (h6 n (by omega))
def alBig (n:Nat) (d k:Int):Bool:=decide (n>12) || (decide (d>6)&&decide (d≤16)) || (decide (k>12)&&decide (k≤64))
theorem al1 {n:Nat} {ob:Nat→Option AObj} {fz:Nat→Nat} {nx:Nat} {g:Eng} {ls:List (List AV)} {mn:Int} (o0:ob 0=some (.box g.c)) (k2:∀ob fz,callV (evF E n) Id.y0v [] ob fz=some (.fzd fz (.one (.bool true)))):
  (alBig ls.length g.d g.k=false→∃L',evC (evF E n) n (nthC 1 alC) ⟨env [(1,.one (.sl false ls)),(3,.one (.int .i64 mn)),(4,.one (.box 0 0)),(6,.one (.box 1 0))],ob,fz,nx⟩=some (.nrm,⟨env L',ob,fz,nx⟩)∧env L' 1=.one (.sl false ls)∧env L' 3=.one (.int .i64 mn)∧env L' 4=.one (.box 0 0)∧env L' 6=.one (.box 1 0))∧
  (alBig ls.length g.d g.k=true→∃L',evC (evF E n) n (nthC 1 alC) ⟨env [(1,.one (.sl false ls)),(3,.one (.int .i64 mn)),(4,.one (.box 0 0)),(6,.one (.box 1 0))],ob,fz,nx⟩=some (.ret,⟨env L',ob,fz,nx⟩)∧env L' 8=.one (.bool true)):=by
 unfold alBig
 by_cases c0:ls.length>12
 ·have f0:(((ls.length:Nat):Int)>12)=True:=by simp only [eq_iff_iff,iff_true];omega
  refine ⟨fun h=>by simp [c0] at h,fun _=> ?_⟩
  unfold alC Fn.y03
  simp only [nthC,go_sem,o0,f0,k2]
  exact ⟨_,rfl,rfl⟩
 have f0:(((ls.length:Nat):Int)>12)=False:=by simp only [eq_iff_iff,iff_false];omega
 have d0:decide (ls.length>12)=false:=decide_eq_false c0
 rw [d0,Bool.false_or]
 by_cases c1:g.d>6
 ·have f1:(g.d>6)=True:=by simp only [eq_iff_iff,iff_true];exact c1
  by_cases c2:g.d≤16
  ·have f2:(g.d≤16)=True:=by simp only [eq_iff_iff,iff_true];exact c2
   refine ⟨fun h=>by simp [c1,c2] at h,fun _=> ?_⟩
   unfold alC Fn.y03
   simp only [nthC,go_sem,o0,f0,f1,f2,k2]
   exact ⟨_,rfl,rfl⟩
  have f2:(g.d≤16)=False:=by simp only [eq_iff_iff,iff_false];exact c2
  rw [decide_eq_false c2,Bool.and_false,Bool.false_or]
  by_cases c3:g.k>12
  ·have f3:(g.k>12)=True:=by simp only [eq_iff_iff,iff_true];exact c3
   by_cases c4:g.k≤64
   ·have f4:(g.k≤64)=True:=by simp only [eq_iff_iff,iff_true];exact c4
    refine ⟨fun h=>by simp [c3,c4] at h,fun _=> ?_⟩
    unfold alC Fn.y03
    simp only [nthC,go_sem,o0,f0,f1,f2,f3,f4,k2]
    exact ⟨_,rfl,rfl⟩
   ·have f4:(g.k≤64)=False:=by simp only [eq_iff_iff,iff_false];exact c4
    refine ⟨fun _=> ?_,fun h=>by simp [c4] at h⟩
    unfold alC Fn.y03
    simp only [nthC,go_sem,o0,f0,f1,f2,f3,f4]
    exact ⟨_,rfl,rfl,rfl,rfl,rfl⟩
  ·have f3:(g.k>12)=False:=by simp only [eq_iff_iff,iff_false];exact c3
   refine ⟨fun _=> ?_,fun h=>by simp [c3] at h⟩
   unfold alC Fn.y03
   simp only [nthC,go_sem,o0,f0,f1,f2,f3]
   exact ⟨_,rfl,rfl,rfl,rfl,rfl⟩
 ·have f1:(g.d>6)=False:=by simp only [eq_iff_iff,iff_false];exact c1
  rw [decide_eq_false c1,Bool.false_and,Bool.false_or]
  by_cases c3:g.k>12
  ·have f3:(g.k>12)=True:=by simp only [eq_iff_iff,iff_true];exact c3
   by_cases c4:g.k≤64
   ·have f4:(g.k≤64)=True:=by simp only [eq_iff_iff,iff_true];exact c4
    refine ⟨fun h=>by simp [c3,c4] at h,fun _=> ?_⟩
    unfold alC Fn.y03
    simp only [nthC,go_sem,o0,f0,f1,f3,f4,k2]
    exact ⟨_,rfl,rfl⟩
   ·have f4:(g.k≤64)=False:=by simp only [eq_iff_iff,iff_false];exact c4
    refine ⟨fun _=> ?_,fun h=>by simp [c4] at h⟩
    unfold alC Fn.y03
    simp only [nthC,go_sem,o0,f0,f1,f3,f4]
    exact ⟨_,rfl,rfl,rfl,rfl,rfl⟩
  ·have f3:(g.k>12)=False:=by simp only [eq_iff_iff,iff_false];exact c3
   refine ⟨fun _=> ?_,fun h=>by simp [c3] at h⟩
   unfold alC Fn.y03
   simp only [nthC,go_sem,o0,f0,f1,f3]
   exact ⟨_,rfl,rfl,rfl,rfl,rfl⟩
theorem al2 {n:Nat} {ob:Nat→Option AObj} {g:Eng} {kind:Nat} {at_:Int} {ls:List (List AV)} {mn:Int} {L:List (Nat×SV)} (o0:ob 0=some (.box g.c)) (o1:ob 1=some (.box [.int .u8 (kind:Int),.int .i64 at_])) (e1:env L 1=.one (.sl false ls)) (e3:env L 3=.one (.int .i64 mn)) (e4:env L 4=.one (.box 0 0)) (e6:env L 6=.one (.box 1 0))
  (h1:∀ob fz,callV (evF E n) Id.y11 [.agg g.c] ob fz=some (.fzd fz (.tup [.agg (mC 1 g.torque.q g.heating.q g.cooling.q g.most.q),.agg (qC g.step.q),.agg (qC g.heat.q),.agg (rmC g.torque.q g.heating.q g.cooling.q g.most.q),.agg (rC g.step.q),.agg (rC g.heat.q)]))):
  ∃L' ob',evC (evF E n) n (nthC 2 alC) ⟨env L,ob,fz0,3⟩=some (.nrm,⟨env L',ob',fz0,24⟩)∧AlB ob' g kind at_∧env L' 1=.one (.sl false ls)∧env L' 3=.one (.int .i64 mn)∧env L' 4=.one (.box 0 0)∧env L' 6=.one (.box 1 0)∧env L' 9=.one (.box 12 0)∧env L' 10=.one (.box 13 0)∧env L' 11=.one (.box 14 0)∧env L' 12=.one (.box 15 0)∧env L' 13=.one (.box 16 0)∧env L' 14=.one (.box 17 0):=by
 have pm:∀z0 z1 z2 z3 z4 z5 z6 z7 z8 z9 z10 z11 z12:AV,put [z0,z1,z2,z3,z4,z5,z6,z7,z8,z9,z10,z11,z12] 0 (mC 1 g.torque.q g.heating.q g.cooling.q g.most.q)=some (mC 1 g.torque.q g.heating.q g.cooling.q g.most.q):=fun _ _ _ _ _ _ _ _ _ _ _ _ _=>y64 rfl
 have pq:∀(a b c:AV) (q:Rat),put [a,b,c] 0 (qC q)=some (qC q):=fun _ _ _ _=>y64 rfl
 obtain ⟨r,hr0⟩:∃r,evC (evF E n) n (nthC 2 alC) ⟨env L,ob,fz0,3⟩=r:=⟨_,rfl⟩
 have hr:=hr0
 unfold alC Fn.y03 at hr
 simp only [nthC,go_sem,e1,e3,e4,e6,o0,h1,↓pm,↓pq] at hr
 refine ⟨_,_,hr0.trans hr.symm,⟨?_, ?_, ?_, ?_, ?_, ?_, ?_, ?_⟩,rfl,rfl,rfl,rfl,rfl,rfl,rfl,rfl,rfl,rfl⟩
 ·repeat rw [y00 (by decide)]
  exact o0
 ·repeat rw [y00 (by decide)]
  exact o1
 ·repeat first | rw [upd_same] | rw [y00 (by decide)]
 ·repeat first | rw [upd_same] | rw [y00 (by decide)]
 ·repeat first | rw [upd_same] | rw [y00 (by decide)]
 ·repeat first | rw [upd_same] | rw [y00 (by decide)]
 ·repeat first | rw [upd_same] | rw [y00 (by decide)]
 ·repeat first | rw [upd_same] | rw [y00 (by decide)]
theorem yp7 (g:Eng) (l:List Num) (hl:l.length<2^20) (kind:Nat) (at_:Int) (ha':at_<9223372036854775808) (mn:Int):Ends Id.y03 [.agg g.c,.one (.sl false (l.map Num.c)),.agg [.int .u8 (kind:Int),.int .i64 at_],.one (.int .i64 mn)] (.one (.bool true)):=by
 obtain ⟨N2,h2⟩:=yil
 obtain ⟨N1,h1⟩:=cEng g
 have code:Fn.y03.code=.seq (nthC 0 alC) (.seq (nthC 1 alC) (.seq (nthC 2 alC) (tailAt 3 alC))):=rfl
 have start:∀(n:Nat) (T:ACode),evC (evF E n) n (.seq (nthC 0 alC) T) ⟨env [(0,.agg g.c),(1,.one (.sl false (l.map Num.c))),(2,.agg [.int .u8 (kind:Int),.int .i64 at_]),(3,.one (.int .i64 mn))],ob0,fz0,0⟩=evC (evF E n) n T ⟨env [(1,.one (.sl false (l.map Num.c))),(3,.one (.int .i64 mn)),(4,.one (.box 0 0)),(6,.one (.box 1 0))],upd (upd ob0 0 (.box g.c)) 1 (.box [.int .u8 (kind:Int),.int .i64 at_]),fz0,3⟩:=by
  intro n T
  unfold alC Fn.y03
  simp only [nthC,go_sem]
 have hll:(l.map Num.c).length=l.length:=List.length_map _
 cases hb:alBig l.length g.d g.k with
 | true=>
  refine .of (N1+N2) fun {n} hn=> ?_
  obtain ⟨L',s,e8⟩:=(al1 (n:=n) (ob:=upd (upd ob0 0 (.box g.c)) 1 (.box [.int .u8 (kind:Int),.int .i64 at_])) (fz:=fz0) (nx:=3) (ls:=l.map Num.c) (mn:=mn) (g:=g) rfl (h2 n (by omega))).2 (by rw [hll];exact hb)
  rw [y04 y7t,code]
  simp only [ofArgs]
  rw [start,x_seq,s,yed]
  simp only [go_sem,Fn.y03,e8]
 | false=>
  have hl12:l.length≤12:=by
   unfold alBig at hb
   simp only [Bool.or_eq_false_iff,decide_eq_false_iff_not] at hb
   omega
  obtain ⟨N3,h3⟩:=y10s g l hl12 kind at_ ha' mn
  refine .of (N1+N2+N3) fun {n} hn=> ?_
  obtain ⟨L',s,e1,e3,e4,e6⟩:=(al1 (n:=n) (ob:=upd (upd ob0 0 (.box g.c)) 1 (.box [.int .u8 (kind:Int),.int .i64 at_])) (fz:=fz0) (nx:=3) (ls:=l.map Num.c) (mn:=mn) (g:=g) rfl (h2 n (by omega))).1 (by rw [hll];exact hb)
  obtain ⟨L2,ob2,s2,B2,e1,e3,e4,e6,e9,e10,e11,e12,e13,e14⟩:=al2 (n:=n) (ob:=upd (upd ob0 0 (.box g.c)) 1 (.box [.int .u8 (kind:Int),.int .i64 at_])) (g:=g) (kind:=kind) (at_:=at_) rfl rfl e1 e3 e4 e6 (h1 n (by omega))
  rw [y04 y7t,code]
  simp only [ofArgs]
  rw [start,x_seq,s,y4j,x_seq,s2,y4j]
  exact h3 n (by omega) ob2 L2 B2 e1 e3 e4 e6 e9 e10 e11 e12 e13 e14
end Go.Ev
