import Derived.Test.YthghhnhojdmcpaaGreatP3
import Derived.Test.YthghhnhojdmcpaaGreatP1
import Derived.Laws.Strings
set_option linter.all false
namespace Go.Ev
open Go.Dig
theorem ym0 {ob:Nat→Option AObj} {nx:Nat} {x:AV} {o:List Nat} (h:OutR ob nx x o) (neg:Bool) (fz:Nat→Nat):∃fz',frzS ob fz (.agg [.bool neg,x])=some (fz',.agg [.bool neg,.sl false (intE o)]):=by
 obtain ⟨fz',h⟩:=yji h fz
 refine ⟨fz', ?_⟩
 simp only [frzS,mapFz,h,show frz ob DEPTH fz (.bool neg)=some (fz,.bool neg) from rfl]
theorem yni (z:Int) (h1:-9223372036854775808≤z) (h2:z<9223372036854775808):∃(k z':Int) (d:Nat),z.tmod 10000=k∧((k<0)=(k<0))∧(if k<0 then IntKind.i64.wrap (0-k) else k)=(d:Int)∧IntKind.i64.wrap (z.tdiv 10000)=z'∧d=z.natAbs%10000∧z'.natAbs=z.natAbs / 10000∧-9223372036854775808≤z'∧z'<9223372036854775808:=by
 obtain ⟨m,hm⟩:∃m:Nat,m=z.natAbs:=⟨_,rfl⟩
 by_cases hz:z<0
 ·have e:z=-((m:Nat):Int):=by omega
  have t1:z.tmod 10000=-((m%10000:Nat):Int):=by rw [e,Int.neg_tmod,show ((10000:Int))=((10000:Nat):Int) from rfl,←Int.ofNat_tmod]
  have t2:z.tdiv 10000=-((m / 10000:Nat):Int):=by rw [e,Int.neg_tdiv,show ((10000:Int))=((10000:Nat):Int) from rfl,←Int.ofNat_tdiv]
  have w2:IntKind.i64.wrap (z.tdiv 10000)=-((m / 10000:Nat):Int):=by rw [t2];exact wrap_i64 (by omega)
  refine ⟨_,_,m%10000,t1,rfl, ?_,w2,by rw [hm],by rw [hm];omega,by omega,by omega⟩
  split
  ·rw [wrap_i64 (by omega)];omega
  ·omega
 ·have e:z=((m:Nat):Int):=by omega
  have t1:z.tmod 10000=((m%10000:Nat):Int):=by rw [e,show ((10000:Int))=((10000:Nat):Int) from rfl,←Int.ofNat_tmod]
  have t2:z.tdiv 10000=((m / 10000:Nat):Int):=by rw [e,show ((10000:Int))=((10000:Nat):Int) from rfl,←Int.ofNat_tdiv]
  have w2:IntKind.i64.wrap (z.tdiv 10000)=((m / 10000:Nat):Int):=by rw [t2];exact wrap_i64 (by omega)
  refine ⟨_,_,m%10000,t1,rfl, ?_,w2,by rw [hm],by rw [hm];omega,by omega,by omega⟩
  rw [if_neg (by omega)]
section
variable {F:Caller} {fuel:Nat} {fz:Nat→Nat}
theorem yky {ob:Nat→Option AObj} {nx:Nat} (hnx:2≤nx) (z:Int) (hz:z≠0) (h1:-9223372036854775808≤z) (h2:z<9223372036854775808) (neg:Bool) (o:List Nat) (hol:o.length<2^40) (x:AV) (hO:OutR ob nx x o) (hb:ob 1=some (.box [.bool neg,x])) (hb0:ob 0=some (.box [.bool false,.nils])) (X:List (Nat×SV)):∃(z':Int) (x':AV) (ob':Nat→Option AObj),
  evC F fuel Fn.y38 ⟨env ((0,.one (.int .i64 z))::(2,.one (.box 0 0))::(3,.one (.box 1 0))::X),ob,fz,nx⟩=
   some (.nrm,⟨env [(0,.one (.int .i64 z')),(2,.one (.box 0 0)),(3,.one (.box 1 0))],ob',fz,nx+7⟩)∧OutR ob' (nx+7) x' (o++[z.natAbs%10000])∧ob' 1=some (.box [.bool neg,x'])∧ob' 0=some (.box [.bool false,.nils])∧z'.natAbs=z.natAbs / 10000∧-9223372036854775808≤z'∧z'<9223372036854775808:=by
 obtain ⟨k,z',d,e1,_,e3,e4,e5,e6,e7,e8⟩:=yni z h1 h2
 rw [←e5]
 have hne:(z !=0)=true:=by simp only [bne_iff_ne,ne_eq];exact hz
 have t0:((10000:Int)=0)=False:=by simp
 have p14:(1=nx+4)=False:=by simp only [eq_iff_iff,iff_false];omega
 have p13:(1=nx+3)=False:=by simp only [eq_iff_iff,iff_false];omega
 rcases hO with ⟨rfl,rfl⟩ | ⟨id,ver,rfl,hid,hlt'⟩
 ·have fin:OutR (upd (upd (upd ob (nx+3) (.row 1 [[AV.int .i64 (d:Int)]] 0)) (nx+4) (.row 1 [[AV.int .i64 (d:Int)]] 0)) 1 (.box [.bool neg,.rsl (nx+4) 0 1 0 1 false])) (nx+7) (.rsl (nx+4) 0 1 0 1 false) ([]++[d]):=by
   refine .inr ⟨nx+4,0,rfl, ?_,by omega⟩
   rw [y00 (by omega),upd_same]
   rfl
  refine ⟨z',_,_, ?_,fin,upd_same _ _ _,by rw [y00 (by omega),y00 (by omega),y00 (by omega)];exact hb0,e6,e7,e8⟩
  by_cases hk:k<0
  ·have g:(k<0)=True:=by simp [hk]
   rw [if_pos hk] at e3
   simp only [go_sem,Fn.y38,hne,t0,e1,g,e3,e4,hb,p14,p13,okSz,ROOM,Nat.reduceBEq]
  ·have g:(k<0)=False:=by simp [hk]
   rw [if_neg hk] at e3
   subst e3
   simp only [go_sem,Fn.y38,hne,t0,e1,g,e4,hb,p14,p13,okSz,ROOM,Nat.reduceBEq]
 ·have hid1:id≠1:=fun e=>by rw [e,hb] at hid;cases hid
  have hid0:id≠0:=fun e=>by rw [e,hb0] at hid;cases hid
  have p1d:(1=id)=False:=by simp only [eq_iff_iff,iff_false];omega
  have hl8:(o.length+1)*8≤140737488355328:=by omega
  have hrow:=y6l hid (show id≠nx+3 by omega) (.row 1 [[AV.int .i64 (d:Int)]] 0)
  have fin:OutR (upd (upd (upd ob (nx+3) (.row 1 [[AV.int .i64 (d:Int)]] 0)) id (.row 1 (intE (o++[d])) (ver+1))) 1 (.box [.bool neg,.rsl id (ver+1) 1 0 (o.length+1) false])) (nx+7) (.rsl id (ver+1) 1 0 (o.length+1) false) (o++[d]):=by
   refine .inr ⟨id,ver+1,by simp, ?_,by omega⟩
   rw [y00 hid1,upd_same]
  refine ⟨z',_,_, ?_,fin,upd_same _ _ _,by rw [y00 (by omega),y00 (Ne.symm hid0),y00 (by omega)];exact hb0,e6,e7,e8⟩
  by_cases hk:k<0
  ·have g:(k<0)=True:=by simp [hk]
   rw [if_pos hk] at e3
   simp only [go_sem,Fn.y38,hne,t0,e1,g,e3,e4,hb,p1d,p13,okSz,ROOM,Nat.reduceBEq,hrow,hl8,y6v]
  ·have g:(k<0)=False:=by simp [hk]
   rw [if_neg hk] at e3
   subst e3
   simp only [go_sem,Fn.y38,hne,t0,e1,g,e4,hb,p1d,p13,okSz,ROOM,Nat.reduceBEq,hrow,hl8,y6v]
theorem ymf (neg:Bool):∀(m:Nat) (z:Int) (ob:Nat→Option AObj) (nx:Nat) (o:List Nat) (x:AV) (X:List (Nat×SV)),z.natAbs<BT^m→2≤nx→-9223372036854775808≤z→z<9223372036854775808→o.length+m<2^40→OutR ob nx x o→ob 1=some (.box [.bool neg,x])→ob 0=some (.box [.bool false,.nils])→∀N,m<N→
  ∃(x':AV) (ob':Nat→Option AObj) (nx':Nat) (X':List (Nat×SV)),loopN (evC F fuel Fn.y38) N ⟨env ((0,.one (.int .i64 z))::(2,.one (.box 0 0))::(3,.one (.box 1 0))::X),ob,fz,nx⟩=
   some (.ext 0,⟨env ((2,.one (.box 0 0))::(3,.one (.box 1 0))::X'),ob',fz,nx'⟩)∧OutR ob' nx' x' (o++digs BT z.natAbs)∧ob' 1=some (.box [.bool neg,x'])∧ob' 0=some (.box [.bool false,.nils]):=by
 intro m
 induction m with
 | zero=>
  intro z ob nx o x X hm hnx h1 h2 hol hO hb hb0 N hN
  have hz:z=0:=by rw [Nat.pow_zero] at hm;omega
  subst hz
  obtain ⟨M,rfl⟩:∃M,N=M+1:=⟨N-1,by omega⟩
  refine ⟨x,ob,nx,[(0,.one (.int .i64 0)),(9,.one (.bool false))], ?_,by rw [show (0:Int).natAbs=0 from rfl,y0p,List.append_nil];exact hO,hb,hb0⟩
  have e:env ((2,SV.one (.box 0 0))::(3,.one (.box 1 0))::[(0,.one (.int .i64 0)),(9,.one (.bool false))])=env [(0,.one (.int .i64 0)),(2,.one (.box 0 0)),(3,.one (.box 1 0)),(9,.one (.bool false))]:=by
   funext j
   simp only [yhk]
   by_cases h0:0=j
   ·subst h0;rfl
   ·by_cases h2:2=j
    ·subst h2;rfl
    ·by_cases h3:3=j
     ·subst h3;rfl
     ·simp only [h0,h2,h3,if_false]
  rw [e]
  refine y09 ?_
  have hne:((0:Int) !=0)=false:=rfl
  simp only [go_sem,Fn.y38,hne]
 | succ m ih=>
  intro z ob nx o x X hm hnx h1 h2 hol hO hb hb0 N hN
  obtain ⟨M,rfl⟩:∃M,N=M+1:=⟨N-1,by omega⟩
  by_cases hz:z=0
  ·exact ih z ob nx o x X (by rw [hz];exact Nat.pow_pos (by decide)) hnx h1 h2 (by omega) hO hb hb0 (M+1) (by omega)
  ·obtain ⟨z',x',ob',hst,a1,a2,a3,a4,a5,a6⟩:=yky (F:=F) (fuel:=fuel) (fz:=fz) hnx z hz h1 h2 neg o (by omega) x hO hb hb0 X
   have hz':z'.natAbs<BT^m:=by
    rw [a4]
    rw [Nat.pow_succ] at hm
    exact Nat.div_lt_of_lt_mul (by rw [Nat.mul_comm];exact hm)
   obtain ⟨x2,ob2,nx2,X2,hl,b1,b2,b3⟩:=ih z' ob' (nx+7) (o++[z.natAbs%10000]) x' [] hz' (by omega) a5 a6 (by simp;omega) a1 a2 a3 M (by omega)
   refine ⟨x2,ob2,nx2,X2,by rw [y08 hst];exact hl, ?_,b2,b3⟩
   rw [y5f BT2 (show z.natAbs≠0 by omega)]
   rw [a4,List.append_assoc] at b1
   exact b1
end
theorem y87 (z:Int) (h1:-9223372036854775808≤z) (h2:z<9223372036854775808) {n:Nat} (hn:8≤n):evV E (n+1) Id.y1i [.one (.int .i64 z)]=some (sV z):=by
 rw [y06 ybb]
 have hm:z.natAbs<BT^5:=by
  have:(10000000000000000000:Nat)≤BT^5:=by decide
  omega
 obtain ⟨x',ob',nx',X',hloop,b1,b2,b3⟩:=ymf (F:=evF E n) (fuel:=n) (fz:=fz0) (decide (z<0)) 5 z (upd (upd ob0 0 (.box [.bool false,.nils])) 1 (.box [.bool (decide (z<0)),.nils])) 2 [] .nils [] hm (by omega) h1 h2 (by decide) (.inl ⟨rfl,rfl⟩) rfl rfl n (by omega)
 rw [List.nil_append] at b1
 have b1':OutR (upd ob' 0 (.box [.bool (decide (z<0)),x'])) nx' x' (digs BT z.natAbs):=by
  rcases b1 with ⟨e1,e2⟩ | ⟨id,ver,e1,e2,e3⟩
  ·exact .inl ⟨e1,e2⟩
  ·refine .inr ⟨id,ver,e1, ?_,e3⟩
   rw [y00 (fun e=>by rw [e,b3] at e2;cases e2)]
   exact e2
 obtain ⟨fz',hfr⟩:=ym0 b1' (decide (z<0)) fz0
 unfold sV zC zD
 simp only [go_sem,Fn.y1i,hloop,b2,b3,hfr]
end Go.Ev
namespace Go.Ev
open Go.Dig
theorem tmodT (x:Nat):((x:Int)).tmod 10000=((x%10000:Nat):Int):=by
 rw [show ((10000:Int))=((10000:Nat):Int) from rfl,←Int.ofNat_tmod]
theorem tdivT (x:Nat) (h:x<9223372036854775808):IntKind.i64.wrap ((x:Int).tdiv 10000)=((x / 10000:Nat):Int):=by
 rw [show ((10000:Int))=((10000:Nat):Int) from rfl,←Int.ofNat_tdiv]
 exact wi64 (by omega)
theorem ykx (u c x y:Nat) (hu:u<10000) (hc:c<10000) (hx:x<10000) (hy:y<10000):∃s p t r q:Nat,IntKind.i64.wrap ((u:Int)+(c:Int))=(s:Int)∧IntKind.i64.wrap ((x:Int)*(y:Int))=(p:Int)∧IntKind.i64.wrap ((s:Int)+(p:Int))=(t:Int)∧((t:Int)).tmod 10000=(r:Int)∧IntKind.i64.wrap ((t:Int).tdiv 10000)=(q:Int)∧
  r<10000∧q<10000∧r+10000*q=u+c+x*y:=by
 have hp:x*y≤9999*9999:=Nat.mul_le_mul (by omega) (by omega)
 refine ⟨u+c,x*y,u+c+x*y,(u+c+x*y)%10000,(u+c+x*y) / 10000,addi64 _ _ (by omega), ?_,addi64 _ _ (by omega),tmodT _,tdivT _ (by omega),Nat.mod_lt _ (by decide),by omega,by omega⟩
 rw [←Int.natCast_mul]
 exact wi64 (by omega)
section
variable {F:Caller} {fuel:Nat} {ob:Nat→Option AObj} {fz:Nat→Nat} {nx:Nat}
theorem ya8 {id T i x:Nat} (hfz:fz id=0) (ds es:List Nat) (hxi:ds[i]? =some x) (hT:T<2^60) (hx:x<BT) (he:∀d∈es,d<BT) (hi:i+es.length<T) (V:Nat):∀(m k:Nat),k+m=es.length→∀(o:List Nat) (c:Nat) (X:List (Nat×SV)),o.length=T→(∀d∈o,d<BT)→c<BT→o[i+es.length]? =some 0→
  val BT o+BT^(i+k)*c=V+BT^i*(x*val BT (es.take k))→∀N,m+1<N→∃(o':List Nat) (X':List (Nat×SV)),
  loopN (evC F fuel Fn.y31) N ⟨env ((0,.one (.sl false (intE ds)))::(1,.one (.sl false (intE es)))::(5,.one (.rsl id 0 1 0 T false))::(6,.one (.int .i64 (i:Int)))::(7,.one (.int .i64 (c:Int)))::(8,.one (.int .i64 (k:Int)))::X),upd ob id (.row 1 (intE o) 0),fz,nx⟩=
   some (.ext 2,⟨env ((0,.one (.sl false (intE ds)))::(1,.one (.sl false (intE es)))::(5,.one (.rsl id 0 1 0 T false))::(6,.one (.int .i64 (i:Int)))::X'),upd ob id (.row 1 (intE o') 0),fz,nx⟩)∧
   o'.length=T∧(∀d∈o',d<BT)∧val BT o'=V+BT^i*(x*val BT es)∧∀j,i+es.length<j→o'[j]? =o[j]?
 | 0,k,hk,o,c,X,ho,hod,hc,hz,hinv,N,hN=>by
  have hk':k=es.length:=by omega
  subst hk'
  rw [List.take_length] at hinv
  obtain ⟨M,rfl⟩:∃M,N=M+2:=⟨N-2,by omega⟩
  have h1:(((es.length:Nat):Int)<((es.length:Nat):Int))=False:=by simp
  have h1':(((es.length+1:Nat):Int)<((es.length:Nat):Int))=False:=by simp only [eq_iff_iff,iff_false];omega
  by_cases hc0:c=0
  ·subst hc0
   have g:(((0:Nat):Int)>0)=False:=by simp
   refine ⟨o,[(7,.one (.int .i64 ((0:Nat):Int))),(8,.one (.int .i64 (es.length:Int))),(29,.one (.bool false))],y09 ?_,ho,hod,by rw [Nat.mul_zero,Nat.add_zero] at hinv;exact hinv,fun _ _=>rfl⟩
   simp only [go_sem,Fn.y31,h1,g]
  ·have g:(((c:Nat):Int)>0)=True:=by simp;omega
   have g0:(((0:Nat):Int)>0)=False:=by simp
   have t0:((10000:Int)=0)=False:=by simp
   have wi:IntKind.i64.wrap ((i:Int)+(es.length:Int))=((i+es.length:Nat):Int):=addi64 _ _ (by omega)
   have ws:IntKind.i64.wrap (((0:Nat):Int)+(c:Int))=(c:Int):=by rw [addi64 _ _ (by unfold BT at hc;omega),Nat.zero_add]
   have wr:((c:Int)).tmod 10000=(c:Int):=by rw [tmodT,Nat.mod_eq_of_lt (show c<10000 from hc)]
   have wq:IntKind.i64.wrap ((c:Int).tdiv 10000)=((0:Nat):Int):=by rw [tdivT _ (by unfold BT at hc;omega),Nat.div_eq_of_lt (show c<10000 from hc)]
   have wk:IntKind.i64.wrap ((es.length+1:Nat):Int)=((es.length+1:Nat):Int):=wi64 (by omega)
   have hst:evC F fuel Fn.y31 ⟨env ((0,.one (.sl false (intE ds)))::(1,.one (.sl false (intE es)))::(5,.one (.rsl id 0 1 0 T false))::(6,.one (.int .i64 (i:Int)))::(7,.one (.int .i64 (c:Int)))::(8,.one (.int .i64 (es.length:Int)))::X),upd ob id (.row 1 (intE o) 0),fz,nx⟩=
     some (.nrm,⟨env [(0,.one (.sl false (intE ds))),(1,.one (.sl false (intE es))),(5,.one (.rsl id 0 1 0 T false)),(6,.one (.int .i64 (i:Int))),(7,.one (.int .i64 ((0:Nat):Int))),(8,.one (.int .i64 ((es.length+1:Nat):Int)))],upd ob id (.row 1 (intE (o.set (i+es.length) c)) 0),fz,nx⟩):=by
    simp only [go_sem,Fn.y31,h1,g,wi,hi,hz,ws,wr,wq,t0,hfz,add1,wk]
   refine ⟨o.set (i+es.length) c,[(7,.one (.int .i64 ((0:Nat):Int))),(8,.one (.int .i64 ((es.length+1:Nat):Int))),(29,.one (.bool false))], ?_,by simp [ho], ?_, ?_, ?_⟩
   ·rw [y08 hst]
    refine y09 ?_
    simp only [go_sem,Fn.y31,h1',g0]
   ·intro d hd
    rcases List.mem_or_eq_of_mem_set hd with h | h
    ·exact hod d h
    ·rw [h];exact hc
   ·have hset:=y7z BT o (i+es.length) c 0 hz
    rw [Nat.mul_zero,Nat.add_zero] at hset
    rw [hset,hinv]
   ·intro j hj
    rw [List.getElem?_set_ne (by omega)]
 | m+1,k,hk,o,c,X,ho,hod,hc,hz,hinv,N,hN=>by
  obtain ⟨M,rfl⟩:∃M,N=M+1:=⟨N-1,by omega⟩
  have hke:k<es.length:=by omega
  have hio:i+k<o.length:=by omega
  have hikT:i+k<T:=by omega
  have ge:es[k]? =some es[k]:=by simp
  have go':o[i+k]? =some o[i+k]:=by simp
  obtain ⟨s,p,t,r,q,s1,s2,s3,s4,s5,s6,s7,s8⟩:=ykx o[i+k] c x es[k] (hod _ (by simp)) hc hx (he _ (by simp))
  have h1:(((k:Nat):Int)<((es.length:Nat):Int))=True:=by simp;omega
  have t0:((10000:Int)=0)=False:=by simp
  have wi:IntKind.i64.wrap ((i:Int)+(k:Int))=((i+k:Nat):Int):=addi64 _ _ (by omega)
  have wk:IntKind.i64.wrap ((k+1:Nat):Int)=((k+1:Nat):Int):=wi64 (by omega)
  have hst:evC F fuel Fn.y31 ⟨env ((0,.one (.sl false (intE ds)))::(1,.one (.sl false (intE es)))::(5,.one (.rsl id 0 1 0 T false))::(6,.one (.int .i64 (i:Int)))::(7,.one (.int .i64 (c:Int)))::(8,.one (.int .i64 (k:Int)))::X),upd ob id (.row 1 (intE o) 0),fz,nx⟩=
    some (.nrm,⟨env [(0,.one (.sl false (intE ds))),(1,.one (.sl false (intE es))),(5,.one (.rsl id 0 1 0 T false)),(6,.one (.int .i64 (i:Int))),(7,.one (.int .i64 (q:Int))),(8,.one (.int .i64 ((k+1:Nat):Int)))],upd ob id (.row 1 (intE (o.set (i+k) r)) 0),fz,nx⟩):=by
   simp only [go_sem,Fn.y31,h1,wi,hikT,go',s1,hxi,ge,s2,s3,s4,s5,t0,hfz,add1,wk]
  have hset:=y7z BT o (i+k) r o[i+k] go'
  obtain ⟨o',X',hl,a1,a2,a3,a4⟩:=ya8 hfz ds es hxi hT hx he hi V m (k+1) (by omega) (o.set (i+k) r) q [] (by simp [ho]) (by
   intro d hd
   rcases List.mem_or_eq_of_mem_set hd with h | h
   ·exact hod d h
   ·rw [h];exact s6) s7 (by rw [List.getElem?_set_ne (by omega)];exact hz) (by
   have te:es.take (k+1)=es.take k++[es[k]]:=by rw [List.take_add_one,ge];rfl
   rw [te,y0f,List.length_take,Nat.min_eq_left (by omega),←Nat.add_assoc,Nat.pow_succ,Nat.mul_add,Nat.mul_add]
   have e1:BT^(i+k)*r+BT^(i+k)*BT*q=BT^(i+k)*o[i+k]+BT^(i+k)*c+BT^(i+k)*(x*es[k]):=by
    rw [Nat.mul_assoc (BT^(i+k)) BT,←Nat.mul_add,←Nat.mul_add,←Nat.mul_add,show BT*q=10000*q from rfl,s8]
   have e2:BT^i*(x*(BT^k*es[k]))=BT^(i+k)*(x*es[k]):=by
    rw [Nat.pow_add,Nat.mul_left_comm x,←Nat.mul_assoc]
   rw [e2]
   omega) M (by omega)
  refine ⟨o',X',by rw [y08 hst];exact hl,a1,a2,a3,fun j hj=> ?_⟩
  rw [a4 j hj,List.getElem?_set_ne (by omega)]
theorem yaj {id T:Nat} (hfz:fz id=0) (ds es:List Nat) (hTe:T=ds.length+es.length) (hT:T<2^60) (hd:∀d∈ds,d<BT) (he:∀d∈es,d<BT) (hfuel:es.length+1<fuel):∀(m i:Nat),i+m=ds.length→∀(o:List Nat) (X:List (Nat×SV)),o.length=T→(∀d∈o,d<BT)→
  val BT o=val BT (ds.take i)*val BT es→(∀j,i+es.length≤j→j<T→o[j]? =some 0)→∀N,m<N→∃(o':List Nat) (X':List (Nat×SV)),
  loopN (evC F fuel Fn.y4g) N ⟨env ((0,.one (.sl false (intE ds)))::(1,.one (.sl false (intE es)))::(5,.one (.rsl id 0 1 0 T false))::(6,.one (.int .i64 (i:Int)))::X),upd ob id (.row 1 (intE o) 0),fz,nx⟩=
   some (.ext 0,⟨env ((0,.one (.sl false (intE ds)))::(1,.one (.sl false (intE es)))::(5,.one (.rsl id 0 1 0 T false))::X'),upd ob id (.row 1 (intE o') 0),fz,nx⟩)∧o'.length=T∧(∀d∈o',d<BT)∧val BT o'=val BT ds*val BT es
 | 0,i,hi,o,X,ho,hod,hinv,hz,N+1,hN=>by
  have hi':i=ds.length:=by omega
  subst hi'
  rw [List.take_length] at hinv
  refine ⟨o,[(6,.one (.int .i64 (ds.length:Int))),(19,.one (.bool false))],y09 ?_,ho,hod,hinv⟩
  have h1:(((ds.length:Nat):Int)<((ds.length:Nat):Int))=False:=by simp
  simp only [go_sem,Fn.y4g,h1]
 | m+1,i,hi,o,X,ho,hod,hinv,hz,N+1,hN=>by
  have hil:i<ds.length:=by omega
  have gd:ds[i]? =some ds[i]:=by simp
  obtain ⟨o1,X1,a1,a2,a3,a4,a5⟩:=ya8 (F:=F) (fuel:=fuel) (ob:=ob) (nx:=nx) (id:=id) (T:=T) (i:=i) (x:=ds[i]) hfz ds es gd hT (hd _ (by simp)) he (by omega) (val BT o) es.length 0 (by omega) o 0 [] ho hod (by decide) (hz _ (Nat.le_refl _) (by omega)) (by simp [val]) fuel hfuel
  rw [show ((0:Nat):Int)=0 from rfl] at a1
  have h1:(((i:Nat):Int)<((ds.length:Nat):Int))=True:=by simp;omega
  have wk:IntKind.i64.wrap ((i+1:Nat):Int)=((i+1:Nat):Int):=wi64 (by omega)
  have hst:evC F fuel Fn.y4g ⟨env ((0,.one (.sl false (intE ds)))::(1,.one (.sl false (intE es)))::(5,.one (.rsl id 0 1 0 T false))::(6,.one (.int .i64 (i:Int)))::X),upd ob id (.row 1 (intE o) 0),fz,nx⟩=
    some (.nrm,⟨env [(0,.one (.sl false (intE ds))),(1,.one (.sl false (intE es))),(5,.one (.rsl id 0 1 0 T false)),(6,.one (.int .i64 ((i+1:Nat):Int)))],upd ob id (.row 1 (intE o1) 0),fz,nx⟩):=by
   simp only [go_sem,Fn.y4g,h1,a1,add1,wk]
  rw [y08 hst]
  refine yaj hfz ds es hTe hT hd he hfuel m (i+1) (by omega) o1 [] a2 a3 ?_ ?_ N (by omega)
  ·have td:ds.take (i+1)=ds.take i++[ds[i]]:=by rw [List.take_add_one,gd];rfl
   rw [td,y0f,List.length_take,Nat.min_eq_left (by omega),Nat.add_mul,←hinv,Nat.mul_assoc,a4]
  ·intro j hj hjT
   rw [a5 j (by omega)]
   exact hz j (by omega) hjT
end
theorem yd5 (a b:Nat) (ha:dlen BT a<2^40) (hb:dlen BT b<2^40) {n:Nat} (hn:dlen BT a+dlen BT b+6≤n):evV E (n+1) Id.y22 [.one (zD a),.one (zD b)]=some (.one (zD (a*b))):=by
 rw [y06 yaq]
 unfold dlen at ha hb hn
 have zrep:∀k,val BT (List.replicate k 0)=0:=by
  intro k
  induction k with
  | zero=>rfl
  | succ k ih=>rw [List.replicate_succ,val,ih,Nat.mul_zero]
 obtain ⟨o',X',hloop,h2,h3,h4⟩:=yaj (F:=evF E n) (fuel:=n) (ob:=ob0) (fz:=fz0) (nx:=7) (id:=5) (T:=(digs BT a).length+(digs BT b).length) rfl (digs BT a) (digs BT b) rfl (by omega) (y1m BT2 a) (y1m BT2 b) (by omega)
  (digs BT a).length 0 (by omega) (List.replicate ((digs BT a).length+(digs BT b).length) 0) [] (by simp) (fun d hd=>by rw [(List.mem_replicate.1 hd).2];decide) (by rw [zrep,List.take_zero,val,Nat.zero_mul]) (fun j _ hj=>by simp [hj]) n (by omega)
 rw [y13 BT2,y13 BT2] at h4
 rw [show ((0:Nat):Int)=0 from rfl] at hloop
 have hnr:=yab (n:=n) (id:=5) (ver:=0) (full:=false) (ob:=upd ob0 5 (.row 1 (intE o') 0)) (fz:=fz0) o' (by rw [h2];omega) h3 (by rw [h2];omega) y3j
 rw [h4,h2] at hnr
 unfold zD at hnr
 have wl:IntKind.i64.wrap (((digs BT a).length+(digs BT b).length:Nat):Int)=(((digs BT a).length+(digs BT b).length:Nat):Int):=wi64 (by omega)
 have l2:(digs BT a).length+(digs BT b).length≤9223372036854775807:=by omega
 have l3:8*((digs BT a).length+(digs BT b).length)≤281474976710656:=by omega
 unfold zD
 simp only [go_sem,Fn.y22,←Int.natCast_add,wl,l2,l3,ycu,hloop,hnr]
end Go.Ev
namespace Go.Ev
open Go.Dig
theorem yoc {B:Nat} (hB:2≤B) (x fr:Nat) (hf:fr≤dlen B x):val B ((digs B x).drop fr)=x / B^fr:=by
 have h:=y8p B (digs B x) fr hf
 rw [y13 hB] at h
 have hl:=y4j hB ((digs B x).take fr) (fun d hd=>y1m hB x d (List.mem_of_mem_take hd))
 rw [List.length_take,Nat.min_eq_left (show fr≤(digs B x).length from hf)] at hl
 have hp:0<B^fr:=Nat.pow_pos (by omega)
 conv=>rhs;rw [h]
 rw [Nat.add_mul_div_left _ _ hp,Nat.div_eq_of_lt hl,Nat.zero_add]
theorem guess_le (R b w:Nat) (hb:0<b) (hw:0<w):R / w / (b / w+1)≤R / b:=by
 rw [Nat.le_div_iff_mul_le hb]
 have h1:b<(b / w+1)*w:=by
  have:=Nat.div_add_mod b w
  have h2:=Nat.mod_lt b hw
  rw [Nat.add_mul,Nat.one_mul,Nat.mul_comm]
  omega
 calc R / w / (b / w+1)*b≤R / w / (b / w+1)*((b / w+1)*w):=Nat.mul_le_mul_left _ (Nat.le_of_lt h1)
  _=R / w / (b / w+1)*(b / w+1)*w:=(Nat.mul_assoc _ _ _).symm
  _≤R / w*w:=Nat.mul_le_mul_right _ (Nat.div_mul_le_self _ _)
  _≤R:=Nat.div_mul_le_self _ _
section
variable {ob:Nat→Option AObj} {fz:Nat→Nat} {nx:Nat}
theorem ykv {n:Nat} (b:Nat) (hb:0<b) (x0 x7 x8:SV):∀(r k:Nat) (X:List (Nat×SV)),dlen BT r<2^40→dlen BT r+6≤n→k+r / b<100000→∀N,r / b<N→∃X',
  loopN (evC (evF E (n+1)) (n+1) Fn.y4a) N ⟨env ((0,x0)::(1,.one (zD b))::(6,.one (zD r))::(7,x7)::(8,x8)::(9,.one (.int .i64 (k:Int)))::X),ob,fz,nx⟩=
   some (.ext 2,⟨env ((0,x0)::(1,.one (zD b))::(6,.one (zD (r%b)))::(7,x7)::(8,x8)::(9,.one (.int .i64 ((k+r / b:Nat):Int)))::X'),ob,fz,nx⟩):=by
 intro r
 induction r using Nat.strongRecOn with
 | _ r ih=>
  intro k X hd hn hk N hN
  obtain ⟨M,rfl⟩:∃M,N=M+1:=⟨N-1,(Nat.sub_add_cancel (Nat.lt_of_le_of_lt (Nat.zero_le _) hN)).symm⟩
  have habs:=y01 (ycx r b (by omega) (n:=n) (by omega)) (can2 (y3b _) (y3b _)) ob fz
  by_cases hlt:r<b
  ·have hc:(cmpI r b≥0)=False:=by
    simp only [cmpI,if_pos hlt,eq_iff_iff,iff_false];decide
   refine ⟨[(63,.one (.bool false))],y09 ?_⟩
   rw [Nat.mod_eq_of_lt hlt,Nat.div_eq_of_lt hlt,Nat.add_zero]
   simp only [go_sem,Fn.y4a,habs,hc]
  ·have hle:b≤r:=by omega
   have hc:(cmpI r b≥0)=True:=by
    simp only [cmpI,if_neg hlt,eq_iff_iff,iff_true]
    split<;>decide
   have hmin:=y01 (yda r b hle hd (n:=n) (by omega)) (can2 (y3b _) (y3b _)) ob fz
   have e1:r / b=(r-b) / b+1:=Nat.div_eq_sub_div hb hle
   have e2:r%b=(r-b)%b:=Nat.mod_eq_sub_mod hle
   obtain ⟨q,hq⟩:∃q,q=(r-b) / b:=⟨_,rfl⟩
   rw [e1,←hq] at hk hN
   have wk:IntKind.i64.wrap ((k+1:Nat):Int)=((k+1:Nat):Int):=wi64 (by omega)
   have hst:evC (evF E (n+1)) (n+1) Fn.y4a ⟨env ((0,x0)::(1,.one (zD b))::(6,.one (zD r))::(7,x7)::(8,x8)::(9,.one (.int .i64 (k:Int)))::X),ob,fz,nx⟩=
     some (.nrm,⟨env [(0,x0),(1,.one (zD b)),(6,.one (zD (r-b))),(7,x7),(8,x8),(9,.one (.int .i64 ((k+1:Nat):Int)))],ob,fz,nx⟩):=by
    simp only [go_sem,Fn.y4a,habs,hc,hmin,add1,wk]
   have hdl:dlen BT (r-b)≤dlen BT r:=y4u BT2 (Nat.sub_le _ _)
   obtain ⟨X',h⟩:=ih (r-b) (by omega) (k+1) [] (by omega) (by omega) (by rw [←hq];omega) M (by rw [←hq];omega)
   refine ⟨X', ?_⟩
   rw [y08 hst,h,e1,e2,←hq,show k+1+q=k+(q+1) by omega]
end
def oA:ACode:=match Fn.y0i with | .seq a _=>a | _=>.skip
def oB:ACode:=match Fn.y0i with | .seq _ (.seq (.block _ (.seq b _)) _)=>b | _=>.skip
def oC:ACode:=match Fn.y0i with | .seq _ (.seq (.block _ (.seq _ (.seq c _))) _)=>c | _=>.skip
def oG:ACode:=match Fn.y0i with | .seq _ (.seq (.block _ (.seq _ (.seq _ (.seq g _)))) _)=>g | _=>.skip
def oM:ACode:=match Fn.y0i with | .seq _ (.seq (.block _ (.seq _ (.seq _ (.seq _ (.seq m _))))) _)=>m | _=>.skip
def oS:ACode:=match Fn.y0i with | .seq _ (.seq (.block _ (.seq _ (.seq _ (.seq _ (.seq _ (.seq _ s)))))) _)=>s | _=>.skip
def oI:ACode:=match Fn.y0i with | .seq _ (.seq _ i)=>i | _=>.skip
theorem ydm:Fn.y0i=.seq oA (.seq (.block 1 (.seq oB (.seq oC (.seq oG (.seq oM (.seq (.block 2 (.loop Fn.y4a)) oS)))))) oI):=rfl
theorem ykg (n R b:Nat) (hb:0<b) (hRq:R / b<BT) (hRl:dlen BT R≤dlen BT b+1) (hbl:dlen BT b<2^39) (hn:2*dlen BT b+200000≤n):∃k:Nat,k≤R / b∧∀(ob:Nat→Option AObj) (fz:Nat→Nat) (nx:Nat) (X:List (Nat×SV)) (x0 x7 x8:SV),∃X2,evC (evF E (n+1)) (n+1) oG
  ⟨env ((0,x0)::(1,.one (zD b))::(6,.one (zD R))::(7,x7)::(8,x8)::(9,.one (.int .i64 0))::X),ob,fz,nx⟩=some (.nrm,⟨env ((0,x0)::(1,.one (zD b))::(6,.one (zD R))::(7,x7)::(8,x8)::(9,.one (.int .i64 (k:Int)))::X2),ob,fz,nx⟩):=by
 unfold oG Fn.y0i
 by_cases h3:dlen BT b≤3
 ·refine ⟨R / b,Nat.le_refl _,fun ob fz nx X x0 x7 x8=>⟨[], ?_⟩⟩
  have t1:=y01 (yb8 R 0 (by omega) (Nat.zero_le _) (by omega) (n:=n) (by omega)) (can2 (y3b _) (y24 _ _)) ob fz
  have t2:=y01 (yb8 b 0 (by omega) (Nat.zero_le _) (by omega) (n:=n) (by omega)) (can2 (y3b _) (y24 _ _)) ob fz
  rw [List.drop_zero,y13 BT2,show ((0:Nat):Int)=0 from rfl] at t1 t2
  have hb4:(((digs BT b).length:Int)≤3)=True:=by simp only [eq_iff_iff,iff_true];unfold dlen at h3;omega
  have hb0:(((b:Nat):Int)=0)=False:=by simp only [eq_iff_iff,iff_false];omega
  have wq:IntKind.i64.wrap (((R:Nat):Int).tdiv (b:Int))=((R / b:Nat):Int):=by
   rw [←Int.ofNat_tdiv];exact wi64 (by unfold BT at hRq;omega)
  unfold zD at t1 t2 ⊢
  simp only [go_sem,hb4,t1,t2,hb0,wq]
 ·have hb4:(((digs BT b).length:Int)≤3)=False:=by simp only [eq_iff_iff,iff_false];unfold dlen at h3;omega
  by_cases hge:dlen BT b≤dlen BT R
  ·obtain ⟨w,hw⟩:∃w,w=BT^(dlen BT b-3):=⟨_,rfl⟩
   have hwp:0<w:=by rw [hw];exact Nat.pow_pos (by decide)
   refine ⟨R / w / (b / w+1),guess_le R b w hb hwp,fun ob fz nx X x0 x7 x8=>⟨[], ?_⟩⟩
   have t1:=y01 (yb8 R (dlen BT b-3) (by omega) (by omega) (by omega) (n:=n) (by omega)) (can2 (y3b _) (y24 _ _)) ob fz
   have t2:=y01 (yb8 b (dlen BT b-3) (by omega) (by omega) (by omega) (n:=n) (by omega)) (can2 (y3b _) (y24 _ _)) ob fz
   rw [yoc BT2 _ _ (by omega),←hw] at t1 t2
   have hbw:b / w<1000000000000:=by
    have h1:=y58 BT2 b
    refine Nat.div_lt_of_lt_mul (Nat.lt_of_lt_of_le h1 ?_)
    rw [hw,show dlen BT b=dlen BT b-3+3 by omega,Nat.pow_add,show dlen BT b-3+3-3=dlen BT b-3 by omega]
    exact Nat.mul_le_mul_left _ (by decide)
   have hgl:(((digs BT R).length:Int)≥((digs BT b).length:Int))=True:=by simp only [ge_iff_le,eq_iff_iff,iff_true];unfold dlen at hge;omega
   have w3:IntKind.i64.wrap (((digs BT b).length:Int)-3)=((dlen BT b-3:Nat):Int):=by rw [wrap_i64 (by unfold dlen at hbl;omega)];unfold dlen at h3 ⊢;omega
   have w4:IntKind.i64.wrap ((b / w+1:Nat):Int)=((b / w+1:Nat):Int):=wi64 (Nat.lt_of_le_of_lt (Nat.succ_le_of_lt hbw) (by decide))
   have hb0:(((b / w+1:Nat):Int)=0)=False:=by simp only [eq_iff_iff,iff_false];exact Int.natCast_ne_zero.2 (Nat.succ_ne_zero _)
   have hgk:=guess_le R b w hb hwp
   have wq:IntKind.i64.wrap (((R / w:Nat):Int).tdiv ((b / w+1:Nat):Int))=((R / w / (b / w+1):Nat):Int):=by
    rw [←Int.ofNat_tdiv];exact wi64 (Nat.lt_of_le_of_lt hgk (Nat.lt_trans hRq (by decide)))
   generalize dlen BT b-3=fr at t1 t2 w3
   generalize R / w / (b / w+1)=kk at wq ⊢
   generalize R / w=rw' at t1 wq
   generalize b / w=bw at t2 w4 hb0 wq
   unfold zD at t1 t2 ⊢
   simp only [go_sem,hb4,hgl,w3,t1,t2,add1,w4,hb0,wq]
  ·refine ⟨0,Nat.zero_le _,fun ob fz nx X x0 x7 x8=>⟨[(40,.one (.bool false))], ?_⟩⟩
   have hgl:(((digs BT R).length:Int)≥((digs BT b).length:Int))=False:=by simp only [ge_iff_le,eq_iff_iff,iff_false];unfold dlen at hge;omega
   have z0:((0:Nat):Int)=0:=rfl
   unfold zD
   simp only [go_sem,hb4,hgl,z0]
def RestIs (x:SV) (r:Nat):Prop:=x=.one (zD r)∨(r=0∧x=.one .nils)
section
variable {ob:Nat→Option AObj} {fz:Nat→Nat} {nx:Nat}
theorem yq4 {n:Nat} {i:Nat} (us:List Nat) (b rest d R:Nat) (hR:R=d+BT*rest) (hd:d<BT) (x1 x7 xr:SV) (hxr:RestIs xr rest) (gu:us[i]? =some d) (hrl:dlen BT rest<2^39) (hn:dlen BT rest+10≤n) (X:List (Nat×SV)):
  ∃(ob':Nat→Option AObj) (fz':Nat→Nat),(∀id,id<nx→ob' id=ob id)∧(∀id,id<nx→fz' id=fz id)∧evC (evF E (n+1)) (n+1) oB ⟨env ((0,.one (.sl false (intE us)))::(1,x1)::(6,xr)::(7,x7)::(8,.one (.int .i64 (i:Int)))::X),ob,fz,nx⟩=
   some (.nrm,⟨env [(0,.one (.sl false (intE us))),(1,x1),(6,.one (zD R)),(7,x7),(8,.one (.int .i64 (i:Int)))],ob',fz',nx+9⟩):=by
 have hcd:∀x∈d::digs BT rest,x<BT:=by
  intro x hx
  rcases List.mem_cons.1 hx with rfl | h
  ·exact hd
  ·exact y1m BT2 rest x h
 have hkp:(((i:Nat):Int)≥0)=True:=by simp
 have hob:∀(y:AObj) id,id<nx→upd ob (nx+4) y id=ob id:=fun y id h=>y00 (by omega)
 have hfz:∀m id,id<nx→raise fz (nx+4) m id=fz id:=fun m id h=>y8b (by omega)
 have hval:val BT ([d]++digs BT rest)=R:=by rw [hR];show d+BT*val BT (digs BT rest)=_;rw [y13 BT2]
 have ht:=fun ob fz v h=>yab (n:=n+1) (id:=nx+4) (ver:=v) (full:=false) (ob:=ob) (fz:=fz) ([d]++digs BT rest) (by unfold dlen at hrl;simp;omega) hcd (by unfold dlen at hn;simp;omega) h
 rw [hval] at ht
 have key:∃v x,(xr=.one x∧x=v)∧(v=.nils∧digs BT rest=[]∨v=.sl false (intE (digs BT rest))):=by
  rcases hxr with rfl | ⟨rfl,rfl⟩
  ·exact ⟨_,_,⟨rfl,rfl⟩,.inr rfl⟩
  ·exact ⟨_,_,⟨rfl,rfl⟩,.inl ⟨rfl,y0p _⟩⟩
 obtain ⟨v,_,⟨rfl,rfl⟩,hv⟩:=key
 unfold oB Fn.y0i
 unfold dlen at hrl hn
 generalize digs BT rest=ds at*
 have e1:[[AV.int .i64 (d:Int)]]=intE [d]:=rfl
 rcases ds with _ | ⟨e,es⟩
 ·have e2:intE []=[]:=rfl
  have ht:=fun ob fz h=>ht ob fz 0 h
  simp only [List.append_nil] at ht
  rcases hv with ⟨rfl,_⟩ | rfl
  ·refine ⟨upd ob (nx+4) (.row 1 [[AV.int .i64 (d:Int)]] 0),raise fz (nx+4) 1,hob _,hfz _, ?_⟩
   have ht:=ht (upd ob (nx+4) (.row 1 [[AV.int .i64 (d:Int)]] 0)) fz y3j
   simp only [List.length_cons,List.length_nil,Nat.zero_add] at ht
   simp only [go_sem,gu,hkp,ht]
  ·refine ⟨upd ob (nx+4) (.row 1 [[AV.int .i64 (d:Int)]] 0),raise fz (nx+4) 1,hob _,hfz _, ?_⟩
   have ht:=ht (upd ob (nx+4) (.row 1 [[AV.int .i64 (d:Int)]] 0)) fz y3j
   simp only [List.length_cons,List.length_nil,Nat.zero_add] at ht
   simp only [go_sem,gu,hkp,e2,show okSz 1 ([]:List (List AV))=true from rfl,ht]
 ·rcases hv with ⟨_,h⟩ | rfl
  ·exact absurd h (by simp)
  ·have e2:intE (e::es)=[AV.int .i64 (e:Int)]::intE es:=rfl
   have hl8:(1+(es.length+1))*8≤140737488355328:=by simp only [List.length_cons] at hrl;omega
   refine ⟨upd ob (nx+4) (.row 1 ([AV.int .i64 (d:Int)]::[AV.int .i64 (e:Int)]::intE es) 1),raise fz (nx+4) (1+(es.length+1)),hob _,hfz _, ?_⟩
   have ht:=ht (upd ob (nx+4) (.row 1 ([AV.int .i64 (d:Int)]::[AV.int .i64 (e:Int)]::intE es) 1)) fz 1 y3j
   rw [show ([d]++e::es).length=1+(es.length+1) by simp;omega] at ht
   simp only [go_sem,gu,hkp,e2,show okSz 1 ([AV.int .i64 (e:Int)]::intE es)=true from rfl,hl8,ROOM,ht]
theorem yoq {n:Nat} (b R k:Nat) (hk:k≤R / b) (hb:0<b) (hkl:R / b<BT) (hbl:dlen BT b<2^39) (hRl:dlen BT R≤dlen BT b+1) (hn:2*dlen BT b+200000≤n) (x0 x7 x8:SV) (X:List (Nat×SV)):∃X',
  evC (evF E (n+1)) (n+1) oM ⟨env ((0,x0)::(1,.one (zD b))::(6,.one (zD R))::(7,x7)::(8,x8)::(9,.one (.int .i64 (k:Int)))::X),ob,fz,nx⟩=
   some (.nrm,⟨env ((0,x0)::(1,.one (zD b))::(6,.one (zD (R-b*k)))::(7,x7)::(8,x8)::(9,.one (.int .i64 (k:Int)))::X'),ob,fz,nx⟩):=by
 have hkB:k<BT:=Nat.lt_of_le_of_lt hk hkl
 have hz:=y01 (y87 (k:Int) (by omega) (by unfold BT at hkB;omega) (n:=n) (by omega)) (can1 (y24 _ _)) ob fz
 have hbk:b*k≤R:=by
  have:=Nat.mul_div_le R b
  exact Nat.le_trans (Nat.mul_le_mul_left _ hk) this
 have hkd:dlen BT k≤1:=y45 BT2 (by rw [Nat.pow_one];exact hkB)
 have ht:=y01 (yd5 b k (by omega) (by omega) (n:=n) (by omega)) (can2 (y3b _) (y3b _)) ob fz
 have hm:=y01 (yda R (b*k) hbk (by omega) (n:=n) (by omega)) (can2 (y3b _) (y3b _)) ob fz
 refine ⟨[], ?_⟩
 unfold oM Fn.y0i
 have e:sV (k:Int)=.agg [.bool false,zD k]:=by
  have h0:decide ((k:Int)<0)=false:=by simp
  simp only [sV,zC,h0,Int.natAbs_natCast]
 rw [e] at hz
 simp only [go_sem,hz,ht,hm]
end
end Go.Ev
namespace Go.Ev
open Go.Dig
section
variable {ob:Nat→Option AObj} {fz:Nat→Nat} {nx:Nat}
theorem yke {n:Nat} {idq i:Nat} (us qs:List Nat) (b rest d:Nat) (hb:0<b) (hrest:rest<b) (xr:SV) (hxr:RestIs xr rest) (hi:i<us.length) (hqs:qs.length=us.length) (hs:us.length<2^39) (gu:us[i]? =some d) (hd:d<BT) (hbl:dlen BT b<2^38) (hidq:idq<nx) (hfq:fz idq=0) (hq:ob idq=some (.row 1 (intE qs) 0)) (hn:2*dlen BT b+200000≤n) (X:List (Nat×SV)):
  ∃(ob':Nat→Option AObj) (fz':Nat→Nat) (X':List (Nat×SV)),evC (evF E (n+1)) (n+1) Fn.y0i ⟨env ((0,.one (.sl false (intE us)))::(1,.one (zD b))::(6,xr)::(7,.one (.rsl idq 0 1 0 us.length false))::(8,.one (.int .i64 (i:Int)))::X),ob,fz,nx⟩=
   some (.nrm,⟨env ((0,.one (.sl false (intE us)))::(1,.one (zD b))::(6,.one (zD ((d+BT*rest)%b)))::(7,.one (.rsl idq 0 1 0 us.length false))::(8,.one (.int .i64 ((i:Int)-1)))::X'),ob',fz',nx+9⟩)∧fz' idq=0∧ob' idq=some (.row 1 (intE (qs.set i ((d+BT*rest) / b))) 0)∧(d+BT*rest) / b<BT:=by
 obtain ⟨R,hR⟩:∃R,R=d+BT*rest:=⟨_,rfl⟩
 rw [←hR]
 have hRb:R<BT*b:=by
  have:BT*rest+BT≤BT*b:=by rw [←Nat.mul_succ];exact Nat.mul_le_mul_left _ hrest
  omega
 have hRq:R / b<BT:=Nat.div_lt_of_lt_mul (by rw [Nat.mul_comm];exact hRb)
 have hRl:dlen BT R≤dlen BT b+1:=by
  refine y45 BT2 (Nat.lt_of_lt_of_le hRb ?_)
  rw [Nat.pow_succ,Nat.mul_comm]
  exact Nat.mul_le_mul_right _ (Nat.le_of_lt (y58 BT2 b))
 have hrl:dlen BT rest≤dlen BT b:=y4u BT2 (Nat.le_of_lt hrest)
 have hkp:(((i:Nat):Int)≥0)=True:=by simp
 have wi:IntKind.i64.wrap ((i:Int)-1)=(i:Int)-1:=wrap_i64 (by omega)
 obtain ⟨k,hk,hG⟩:=ykg n R b hb hRq hRl (by omega) hn
 obtain ⟨ob',fz',hob,hfz,hB⟩:=yq4 (ob:=ob) (fz:=fz) (nx:=nx) (n:=n) (i:=i) us b rest d R hR hd (.one (zD b)) (.one (.rsl idq 0 1 0 us.length false)) xr hxr gu (by omega) (by omega) [(17,.one (.bool true))]
 obtain ⟨X2,hG⟩:=hG ob' fz' (nx+9) [] (.one (.sl false (intE us))) (.one (.rsl idq 0 1 0 us.length false)) (.one (.int .i64 (i:Int)))
 obtain ⟨X3,hM⟩:=yoq (ob:=ob') (fz:=fz') (nx:=nx+9) b R k hk hb hRq (by omega) hRl hn (.one (.sl false (intE us))) (.one (.rsl idq 0 1 0 us.length false)) (.one (.int .i64 (i:Int))) X2
 have hbk:b*k≤R:=Nat.le_trans (Nat.mul_le_mul_left _ hk) (Nat.mul_div_le R b)
 have hdm:R=b*k+(R-b*k):=by omega
 have hq1:k+(R-b*k) / b=R / b:=by
  have h1:(R-b*k) / b=R / b-k:=Nat.sub_mul_div R b k
  rw [h1];exact Nat.add_sub_cancel' hk
 have hr1:(R-b*k)%b=R%b:=by
  have h1:(b*k+(R-b*k))%b=(R-b*k)%b:=Nat.mul_add_mod _ _ _
  rw [←hdm] at h1;exact h1.symm
 have hk2:k+(R-b*k) / b<100000:=by rw [hq1];exact Nat.lt_trans hRq (by decide)
 obtain ⟨X4,hL⟩:=ykv (ob:=ob') (fz:=fz') (nx:=nx+9) (n:=n) b hb (.one (.sl false (intE us))) (.one (.rsl idq 0 1 0 us.length false)) (.one (.int .i64 (i:Int))) (R-b*k) k X3 (Nat.lt_of_le_of_lt (y4u BT2 (Nat.sub_le _ _)) (by omega)) (Nat.le_trans (Nat.add_le_add_right (y4u BT2 (Nat.sub_le R (b*k))) _) (by omega)) hk2 (n+1) (Nat.lt_of_le_of_lt (Nat.le_trans (Nat.le_add_left _ k) (Nat.le_of_lt hk2)) (by omega))
 rw [hq1,hr1] at hL
 have hq':ob' idq=some (.row 1 (intE qs) 0):=by rw [hob _ hidq];exact hq
 have hf':fz' idq=0:=by rw [hfz _ hidq];exact hfq
 have hrw:rowAt ob' idq 0=some (1,intE qs):=y25 hq'
 refine ⟨upd ob' idq (.row 1 (intE (qs.set i (R / b))) 0),fz',[], ?_,hf',upd_same _ _ _,hRq⟩
 rw [ydm]
 have hA:evC (evF E (n+1)) (n+1) oA ⟨env ((0,.one (.sl false (intE us)))::(1,.one (zD b))::(6,xr)::(7,.one (.rsl idq 0 1 0 us.length false))::(8,.one (.int .i64 (i:Int)))::X),ob,fz,nx⟩=
   some (.nrm,⟨env [(0,.one (.sl false (intE us))),(1,.one (zD b)),(6,xr),(7,.one (.rsl idq 0 1 0 us.length false)),(8,.one (.int .i64 (i:Int))),(17,.one (.bool true))],ob,fz,nx⟩):=by
  unfold oA Fn.y0i
  simp only [go_sem,hkp]
 have hC:evC (evF E (n+1)) (n+1) oC ⟨env [(0,.one (.sl false (intE us))),(1,.one (zD b)),(6,.one (zD R)),(7,.one (.rsl idq 0 1 0 us.length false)),(8,.one (.int .i64 (i:Int)))],ob',fz',nx+9⟩=
   some (.nrm,⟨env [(0,.one (.sl false (intE us))),(1,.one (zD b)),(6,.one (zD R)),(7,.one (.rsl idq 0 1 0 us.length false)),(8,.one (.int .i64 (i:Int))),(9,.one (.int .i64 0))],ob',fz',nx+9⟩):=by
  unfold oC Fn.y0i
  simp only [go_sem]
 have hS:evC (evF E (n+1)) (n+1) oS ⟨env ((0,.one (.sl false (intE us)))::(1,.one (zD b))::(6,.one (zD (R%b)))::(7,.one (.rsl idq 0 1 0 us.length false))::(8,.one (.int .i64 (i:Int)))::(9,.one (.int .i64 ((R / b:Nat):Int)))::X4),ob',fz',nx+9⟩=
   some (.nrm,⟨env [(0,.one (.sl false (intE us))),(1,.one (zD b)),(6,.one (zD (R%b))),(7,.one (.rsl idq 0 1 0 us.length false)),(8,.one (.int .i64 (i:Int)))],upd ob' idq (.row 1 (intE (qs.set i (R / b))) 0),fz',nx+9⟩):=by
  unfold oS Fn.y0i
  have hiq:i<qs.length:=by omega
  have gq:qs[i]? =some qs[i]:=by simp
  generalize qs[i]=qi at gq
  simp only [go_sem,hi,hrw,hq',hf',gq]
 have hI:evC (evF E (n+1)) (n+1) oI ⟨env [(0,.one (.sl false (intE us))),(1,.one (zD b)),(6,.one (zD (R%b))),(7,.one (.rsl idq 0 1 0 us.length false)),(8,.one (.int .i64 (i:Int)))],upd ob' idq (.row 1 (intE (qs.set i (R / b))) 0),fz',nx+9⟩=
   some (.nrm,⟨env [(0,.one (.sl false (intE us))),(1,.one (zD b)),(6,.one (zD (R%b))),(7,.one (.rsl idq 0 1 0 us.length false)),(8,.one (.int .i64 ((i:Int)-1)))],upd ob' idq (.row 1 (intE (qs.set i (R / b))) 0),fz',nx+9⟩):=by
  unfold oI Fn.y0i
  simp only [go_sem,wi]
 simp only [x_seq,hA,yf9,yjw,hB,hC,hG,hM,yle,hL,yhu,yhr,hS,hI,go_sem]
theorem yfe {n:Nat} {idq:Nat} (us:List Nat) (b:Nat) (hb:0<b) (hs:us.length<2^39) (hus:∀d∈us,d<BT) (hbl:dlen BT b<2^38) (hn:2*dlen BT b+200000≤n):∀(m:Nat),m≤us.length→∀(ob:Nat→Option AObj) (fz:Nat→Nat) (nx:Nat) (qs:List Nat) (rest:Nat) (xr:SV) (X:List (Nat×SV)),idq<nx→fz idq=0→ob idq=some (.row 1 (intE qs) 0)→qs.length=us.length→(∀d∈qs,d<BT)→rest<b→RestIs xr rest→val BT (qs.drop m)*b+rest=val BT (us.drop m)→∀N,m<N→
  ∃(ob':Nat→Option AObj) (fz':Nat→Nat) (nx':Nat) (qs':List Nat) (rest':Nat) (xr':SV) (X':List (Nat×SV)),loopN (evC (evF E (n+1)) (n+1) Fn.y0i) N ⟨env ((0,.one (.sl false (intE us)))::(1,.one (zD b))::(6,xr)::(7,.one (.rsl idq 0 1 0 us.length false))::(8,.one (.int .i64 ((m:Int)-1)))::X),ob,fz,nx⟩=
   some (.ext 0,⟨env ((0,.one (.sl false (intE us)))::(1,.one (zD b))::(6,xr')::(7,.one (.rsl idq 0 1 0 us.length false))::X'),ob',fz',nx'⟩)∧fz' idq=0∧ob' idq=some (.row 1 (intE qs') 0)∧qs'.length=us.length∧(∀d∈qs',d<BT)∧rest'<b∧RestIs xr' rest'∧val BT qs'*b+rest'=val BT us
 | 0,_,ob,fz,nx,qs,rest,xr,X,h1,h2,h3,h4,h5,h6,h7,h8,N+1,_=>by
  refine ⟨ob,fz,nx,qs,rest,xr,[(8,.one (.int .i64 (-1))),(17,.one (.bool false))],y09 ?_,h2,h3,h4,h5,h6,h7,by simpa using h8⟩
  have e:(((0:Nat):Int)-1)=-1:=rfl
  have g:((-1:Int)≥0)=False:=by simp
  rw [ydm]
  unfold oA Fn.y0i
  simp only [go_sem,e,g]
 | m+1,hm,ob,fz,nx,qs,rest,xr,X,h1,h2,h3,h4,h5,h6,h7,h8,N+1,hN=>by
  have gu:us[m]? =some us[m]:=by simp
  have hd:us[m]<BT:=hus _ (by simp)
  have e:((m+1:Nat):Int)-1=(m:Int):=by omega
  obtain ⟨ob',fz',X',hr,a1,a2,a3⟩:=yke (n:=n) us qs b rest us[m] hb h6 xr h7 (by omega) h4 hs gu hd hbl h1 h2 h3 hn X
  rw [e,y08 hr]
  refine yfe us b hb hs hus hbl hn m (by omega) ob' fz' (nx+9) _ _ _ X' (by omega) a1 a2 (by simp [h4]) ?_ (Nat.mod_lt _ hb) (.inl rfl) ?_ N (by omega)
  ·intro d hd
   rcases List.mem_or_eq_of_mem_set hd with h | h
   ·exact h5 d h
   ·rw [h];exact a3
  ·have hmq:m<(qs.set m ((us[m]+BT*rest) / b)).length:=by simp;omega
   rw [List.drop_eq_getElem_cons hmq,List.drop_eq_getElem_cons (show m<us.length by omega)]
   have e1:(qs.set m ((us[m]+BT*rest) / b))[m]=(us[m]+BT*rest) / b:=by simp
   rw [e1,List.drop_set_of_lt (by omega),val,val,←h8]
   have hdm:=Nat.div_add_mod (us[m]+BT*rest) b
   generalize (us[m]+BT*rest) / b=q at*
   generalize (us[m]+BT*rest)%b=r at*
   rw [Nat.add_mul,Nat.mul_add,Nat.mul_assoc,Nat.mul_comm q b]
   omega
end
theorem yay (a b:Nat) (hb:0<b) (ha:dlen BT a<2^38) (hbl:dlen BT b<2^38) {n:Nat} (hn:dlen BT a+2*dlen BT b+200001≤n):evV E (n+1) Id.y1o [.one (zD a),.one (zD b)]=some (.tup [.one (zD (a / b)),.one (zD (a%b))]):=by
 obtain ⟨n,rfl⟩:∃k,n=k+1:=⟨n-1,by omega⟩
 rw [y06 ybr]
 have hal:(digs BT a).length=dlen BT a:=rfl
 obtain ⟨ob',fz',nx',qs',rest',xr',X',hloop,h2,h3,h4,h5,h6,h7,h8⟩:=yfe (n:=n) (idq:=2) (digs BT a) b hb (by omega) (y1m BT2 a) hbl (by omega) (digs BT a).length (Nat.le_refl _) (upd ob0 2 (.row 1 (intE (List.replicate (digs BT a).length 0)) 0)) fz0 4 (List.replicate (digs BT a).length 0) 0 (.one .nils) [] (by omega) rfl (upd_same _ _ _) (by simp) (fun d hd=>by rw [(List.mem_replicate.1 hd).2];decide) hb (.inr ⟨rfl,rfl⟩) (by simp [val]) (n+1) (by omega)
 rw [y13 BT2] at h8
 have hq:val BT qs'=a / b:=by
  rw [←h8,Nat.mul_comm,Nat.mul_add_div hb,Nat.div_eq_of_lt h6,Nat.add_zero]
 have hr:rest'=a%b:=by
  rw [←h8,Nat.mul_comm,Nat.mul_add_mod,Nat.mod_eq_of_lt h6]
 have hnr:=yab (n:=n+1) (id:=2) (ver:=0) (full:=false) (ob:=ob') (fz:=fz') qs' (by rw [h4];omega) h5 (by rw [h4];omega) (y25 h3)
 rw [h4,hq] at hnr
 have wl:IntKind.i64.wrap (((digs BT a).length:Int)-1)=((digs BT a).length:Int)-1:=wrap_i64 (by omega)
 have l2:(digs BT a).length≤9223372036854775807:=by omega
 have l3:8*(digs BT a).length≤281474976710656:=by omega
 unfold zD at hnr hloop ⊢
 rcases h7 with rfl | ⟨rfl,rfl⟩
 ·rw [hr] at hloop
  unfold zD at hloop
  simp only [go_sem,Fn.y1o,wl,l2,l3,ycu,hloop,hnr]
 ·rw [←hr,y0p]
  have e0:intE []=[]:=rfl
  simp only [go_sem,Fn.y1o,wl,l2,l3,ycu,hloop,hnr,e0]
end Go.Ev
namespace Go.Ev
open Go.Dig
section
variable {F:Caller} {fuel:Nat} {fz:Nat→Nat} {ob:Nat→Option AObj} {nx:Nat}
theorem ybz {id:Nat} {sg:AV} (ds:List Nat) (hl:ds.length≤4) (hd:∀d∈ds,d<BT) (hob:ob id=some (.box [sg,.sl false (intE ds)])):∀(k:Nat),k≤ds.length→∀(X:List (Nat×SV)) (N:Nat),k<N→∃X',
  loopN (evC F fuel Fn.y5j) N ⟨env ((1,.one (.box id 0))::(4,.one (.int .i64 (val BT (ds.drop k):Int)))::(5,.one (.int .i64 ((k:Int)-1)))::X),ob,fz,nx⟩=
   some (.ext 0,⟨env ((1,.one (.box id 0))::(4,.one (.int .i64 (val BT ds:Int)))::X'),ob,fz,nx⟩)
 | 0,hk,X,N+1,hN=>by
  have h1:((-1:Int)≥0)=False:=by simp
  have e:(((0:Nat):Int)-1)=-1:=rfl
  refine ⟨[(5,.one (.int .i64 (-1))),(15,.one (.bool false))],y09 ?_⟩
  rw [List.drop_zero,e]
  simp only [go_sem,Fn.y5j,h1]
 | j+1,hk,X,N+1,hN=>by
  have h0:(((j+1:Nat):Int)-1)=(j:Nat):=by omega
  have h1:(((j:Nat):Int)≥0)=True:=by simp
  have hjl:j<ds.length:=by omega
  have gd:ds[j]? =some ds[j]:=by simp
  have e:ds.drop j=ds[j]::ds.drop (j+1):=List.drop_eq_getElem_cons hjl
  have hb:val BT (ds.drop j)<10000000000000000:=by
   have h2:=y4j BT2 (ds.drop j) (fun d h=>hd d (List.mem_of_mem_drop h))
   have h3:BT^(ds.drop j).length≤BT^4:=Nat.pow_le_pow_right (by decide) (by simp;omega)
   exact Nat.lt_of_lt_of_le h2 (Nat.le_trans h3 (by decide))
  have hv:val BT (ds.drop j)=ds[j]+10000*val BT (ds.drop (j+1)):=by rw [e];rfl
  rw [hv] at hb
  have wm:IntKind.i64.wrap ((val BT (ds.drop (j+1)):Int)*10000)=((val BT (ds.drop (j+1))*10000:Nat):Int):=by
   rw [show ((val BT (ds.drop (j+1)):Int)*10000)=((val BT (ds.drop (j+1))*10000:Nat):Int) from (Int.natCast_mul _ 10000).symm]
   exact wi64 (by omega)
  have wa:IntKind.i64.wrap (((val BT (ds.drop (j+1))*10000:Nat):Int)+(ds[j]:Int))=(val BT (ds.drop j):Int):=by
   rw [addi64 _ _ (by omega),hv]
   congr 1
   omega
  have wj:IntKind.i64.wrap ((j:Int)-1)=(j:Int)-1:=wrap_i64 (by omega)
  obtain ⟨X',h⟩:=ybz ds hl hd hob j (by omega) [] N (by omega)
  refine ⟨X', ?_⟩
  rw [←h]
  refine y08 ?_
  generalize val BT (ds.drop j)=v1 at wa ⊢
  generalize val BT (ds.drop (j+1))=v0 at wm wa ⊢
  generalize v0*10000=v2 at wm wa
  simp only [go_sem,Fn.y5j,h0,h1,hob,gd,wm,wa,wj]
end
def smallR (x:Nat):SV:=if dlen BT x≤4 then .tup [.one (.int .i64 (x:Int)),.one (.bool true)] else .tup [.one (.int .i64 0),.one (.bool false)]
theorem ydy (x:Nat) (sg:Bool) (hx:dlen BT x<2^60) {n:Nat} (hn:6≤n):evV E (n+1) Id.y1r [.agg [.bool sg,zD x]]=some (smallR x):=by
 rw [y06 yah]
 unfold smallR
 by_cases h:dlen BT x≤4
 ·rw [if_pos h]
  unfold dlen at h
  have hg:(((digs BT x).length:Int)>4)=False:=by simp only [eq_iff_iff,iff_false];omega
  have hw:IntKind.i64.wrap (((digs BT x).length:Int)-1)=((digs BT x).length:Int)-1:=wrap_i64 (by omega)
  obtain ⟨X',hl⟩:=ybz (F:=evF E n) (fuel:=n) (fz:=fz0) (nx:=3) (id:=0) (sg:=.bool sg) (ob:=upd ob0 0 (.box [.bool sg,.sl false (intE (digs BT x))])) (digs BT x) h (y1m BT2 x) (upd_same _ _ _) (digs BT x).length (Nat.le_refl _) [] n (by omega)
  rw [List.drop_length,y13 BT2,val,show ((0:Nat):Int)=0 from rfl] at hl
  unfold zD
  simp only [go_sem,Fn.y1r,hg,hw,hl]
 ·rw [if_neg h]
  unfold dlen at h
  have hg:(((digs BT x).length:Int)>4)=True:=by simp only [eq_iff_iff,iff_true];omega
  unfold zD
  simp only [go_sem,Fn.y1r,hg]
section
variable {F:Caller} {fuel:Nat} {fz:Nat→Nat} {ob:Nat→Option AObj} {nx:Nat}
theorem ykh (x4:SV):∀(y x:Nat) (X:List (Nat×SV)) (N:Nat),y<N→∃X',
  loopN (evC F fuel Fn.y3q) N ⟨env ((4,x4)::(7,.one (.int .i64 (x:Int)))::(9,.one (.int .i64 (y:Int)))::X),ob,fz,nx⟩=
   some (.ext 2,⟨env ((4,x4)::(7,.one (.int .i64 (Nat.gcd x y:Int)))::X'),ob,fz,nx⟩):=by
 intro y
 induction y using Nat.strongRecOn with
 | _ y ih=>
  intro x X N hN
  obtain ⟨M,rfl⟩:∃M,N=M+1:=⟨N-1,by omega⟩
  by_cases hy:y=0
  ·subst hy
   have h1:(((0:Nat):Int) !=0)=false:=rfl
   refine ⟨[(9,.one (.int .i64 ((0:Nat):Int))),(37,.one (.bool false))],y09 ?_⟩
   rw [Nat.gcd_zero_right]
   simp only [go_sem,Fn.y3q,h1]
  ·have h1:(((y:Nat):Int) !=0)=true:=by simp;omega
   have h0:(((y:Nat):Int)=0)=False:=by simp only [eq_iff_iff,iff_false];omega
   have hr:((x:Int)).tmod (y:Int)=((x%y:Nat):Int):=(Int.ofNat_tmod x y).symm
   have hst:evC F fuel Fn.y3q ⟨env ((4,x4)::(7,.one (.int .i64 (x:Int)))::(9,.one (.int .i64 (y:Int)))::X),ob,fz,nx⟩=some (.nrm,⟨env [(4,x4),(7,.one (.int .i64 (y:Int))),(9,.one (.int .i64 ((x%y:Nat):Int)))],ob,fz,nx⟩):=by
    simp only [go_sem,Fn.y3q,h1,h0,hr]
   rw [y08 hst]
   have hlt:x%y<y:=Nat.mod_lt _ (by omega)
   have:Nat.gcd y (x%y)=Nat.gcd x y:=by rw [Nat.gcd_comm y (x%y),←Nat.gcd_rec,Nat.gcd_comm]
   rw [←this]
   exact ih (x%y) hlt y [] M (by omega)
def KR (S:Nat):Nat:=2^S+6*S+20000000000000000
theorem y33 {x S:Nat} (h:x<2^S):dlen BT x≤S:=by
 refine y45 BT2 (Nat.lt_of_lt_of_le h ?_)
 exact Nat.pow_le_pow_left (by decide) S
theorem yfd {x:Nat} (h:dlen BT x≤4):x<10000000000000000:=by
 have h1:=y58 BT2 x
 exact Nat.lt_of_lt_of_le h1 (Nat.le_trans (Nat.pow_le_pow_right (by decide) h) (by decide))
theorem ylf {n id S:Nat} (hS:S<2^37) (hn:KR S≤n) (hob:∃cs,ob id=some (.box cs)∧cs.length=2):∀(y x:Nat) (X:List (Nat×SV)) (N:Nat),x<2^S→y<2^S→y<N→ 
  (∃X',loopN (evC (evF E (n+1)) (n+1) Fn.y2v) N ⟨env ((4,.one (.box id 0))::(5,.one (zD x))::(6,.one (zD y))::X),ob,fz,nx⟩=
   some (.ext 0,⟨env ((4,.one (.box id 0))::(5,.one (zD (Nat.gcd x y)))::X'),ob,fz,nx⟩))∨
  (∃X',loopN (evC (evF E (n+1)) (n+1) Fn.y2v) N ⟨env ((4,.one (.box id 0))::(5,.one (zD x))::(6,.one (zD y))::X),ob,fz,nx⟩=
   some (.ret,⟨env ((4,.one (.box id 0))::X'),upd ob id (.box (zC (Nat.gcd x y:Nat))),fz,nx⟩)):=by
 intro y
 induction y using Nat.strongRecOn with
 | _ y ih=>
  intro x X N hx hy hN
  obtain ⟨M,rfl⟩:∃M,N=M+1:=⟨N-1,by omega⟩
  have hyl:=ycp y
  have hK:6*S+20000000000000000≤n:=Nat.le_trans (Nat.add_le_add_right (Nat.le_add_left _ _) _) hn
  have dx:=y33 hx
  have dy:=y33 hy
  by_cases hy0:y=0
  ·subst hy0
   left
   refine ⟨[(6,.one (zD 0)),(19,.one (.bool false))],y09 ?_⟩
   rw [Nat.gcd_zero_right]
   have e:(0≠0)=False:=by simp
   rw [e] at hyl
   unfold zD
   simp only [go_sem,Fn.y2v,hyl]
  ·have e:(y≠0)=True:=by simp [hy0]
   rw [e] at hyl
   have s1:=y01 (ydy x false (by omega) (n:=n) (by omega)) (can1 (.agg _ fun v hv=>by
    simp only [List.mem_cons,List.not_mem_nil,or_false] at hv
    rcases hv with rfl | rfl
    ·exact .bool _
    ·exact .sl _)) ob fz
   have s2:=y01 (ydy y false (by omega) (n:=n) (by omega)) (can1 (.agg _ fun v hv=>by
    simp only [List.mem_cons,List.not_mem_nil,or_false] at hv
    rcases hv with rfl | rfl
    ·exact .bool _
    ·exact .sl _)) ob fz
   by_cases hsm:dlen BT x≤4∧dlen BT y≤4
   ·right
    obtain ⟨h4,h5⟩:=hsm
    unfold smallR at s1 s2
    rw [if_pos h4] at s1
    rw [if_pos h5] at s2
    have hy5:=yfd h5
    have hlt5:x%y<y:=Nat.mod_lt _ (by omega)
    obtain ⟨X',hin⟩:=ykh (F:=evF E (n+1)) (fuel:=n+1) (fz:=fz) (ob:=ob) (nx:=nx) (.one (.box id 0)) (x%y) y [] n (by omega)
    have hge:Nat.gcd y (x%y)=Nat.gcd x y:=by rw [Nat.gcd_comm y (x%y),←Nat.gcd_rec,Nat.gcd_comm]
    rw [hge] at hin
    have h1:(((y:Nat):Int) !=0)=true:=by simp;omega
    have h0:(((y:Nat):Int)=0)=False:=by simp only [eq_iff_iff,iff_false];omega
    have hr:((x:Int)).tmod (y:Int)=((x%y:Nat):Int):=(Int.ofNat_tmod x y).symm
    have hst:evC (evF E (n+1)) (n+1) Fn.y3q ⟨env [(4,.one (.box id 0)),(5,.one (zD x)),(6,.one (zD y)),(7,.one (.int .i64 (x:Int))),(9,.one (.int .i64 (y:Int))),(35,.one (.bool true))],ob,fz,nx⟩=some (.nrm,⟨env [(4,.one (.box id 0)),(7,.one (.int .i64 (y:Int))),(9,.one (.int .i64 ((x%y:Nat):Int)))],ob,fz,nx⟩):=by
     simp only [go_sem,Fn.y3q,h1,h0,hr]
    have hin:=(y08 (N:=n) hst).trans hin
    have hx4:=yfd h4
    have hg:Nat.gcd x y<10000000000000000:=Nat.lt_of_le_of_lt (Nat.gcd_le_right x (by omega)) hy5
    have hz:=y01 (y87 (Nat.gcd x y:Int) (by omega) (by omega) (n:=n) (by omega)) (can1 (y24 _ _)) ob fz
    obtain ⟨cs,hb1,hb2⟩:=hob
    refine ⟨[],y57 ?_⟩
    unfold sV at hz
    obtain ⟨c1,c2,rfl⟩:∃c1 c2,cs=[c1,c2]:=by
     rcases cs with _ | ⟨c1,_ | ⟨c2,_ | ⟨c3,r⟩⟩⟩
     ·simp at hb2
     ·simp at hb2
     ·exact ⟨c1,c2,rfl⟩
     ·simp at hb2
    unfold zC at hz ⊢
    unfold zD at s1 s2 hz hin ⊢
    simp only [go_sem,Fn.y2v,hyl,s1,s2,hin,hz,hb1]
   ·have hov:=y01 (yay x y (by omega) (by omega) (by omega) (n:=n) (by omega)) (can2 (y3b _) (y3b _)) ob fz
    have hst:∃X1,evC (evF E (n+1)) (n+1) Fn.y2v ⟨env ((4,.one (.box id 0))::(5,.one (zD x))::(6,.one (zD y))::X),ob,fz,nx⟩=some (.nrm,⟨env ((4,.one (.box id 0))::(5,.one (zD y))::(6,.one (zD (x%y)))::X1),ob,fz,nx⟩):=by
     refine ⟨[], ?_⟩
     unfold smallR at s1 s2
     by_cases h4:dlen BT x≤4
     ·have h5:¬dlen BT y≤4:=fun h=>hsm ⟨h4,h⟩
      rw [if_pos h4] at s1
      rw [if_neg h5] at s2
      unfold zD at s1 s2 hov ⊢
      simp only [go_sem,Fn.y2v,hyl,s1,s2,hov]
     ·rw [if_neg h4] at s1
      by_cases h5:dlen BT y≤4
      ·rw [if_pos h5] at s2
       unfold zD at s1 s2 hov ⊢
       simp only [go_sem,Fn.y2v,hyl,s1,s2,hov]
      ·rw [if_neg h5] at s2
       unfold zD at s1 s2 hov ⊢
       simp only [go_sem,Fn.y2v,hyl,s1,s2,hov]
    obtain ⟨X1,hst⟩:=hst
    rw [y08 hst]
    have hlt:x%y<y:=Nat.mod_lt _ (by omega)
    have hge:Nat.gcd y (x%y)=Nat.gcd x y:=by rw [Nat.gcd_comm y (x%y),←Nat.gcd_rec,Nat.gcd_comm]
    rw [←hge]
    exact ih (x%y) hlt y X1 M hy (by omega) (by omega)
end
theorem yp7 (a b:Int) {S:Nat} (ha:a.natAbs<2^S) (hb:b.natAbs<2^S) (hS:S<2^37) {n:Nat} (hn:KR S+1≤n):evV E (n+1) Id.y26 [sV a,sV b]=some (sV (Nat.gcd a.natAbs b.natAbs:Nat)):=by
 obtain ⟨n,rfl⟩:∃k,n=k+1:=⟨n-1,by omega⟩
 rw [y06 ybh]
 have hK:b.natAbs<n+1:=by unfold KR at hn;omega
 have h:=ylf (n:=n) (id:=2) (S:=S) (fz:=fz0) (nx:=3) (ob:=upd (upd (upd ob0 0 (.box (zC a))) 1 (.box (zC b))) 2 (.box [.bool false,.nils])) hS (by omega) ⟨_,upd_same _ _ _,rfl⟩ b.natAbs a.natAbs [] (n+1) ha hb hK
 unfold sV zC at*
 rcases h with ⟨X',h⟩ | ⟨X',h⟩
 ·unfold zD at h ⊢
  have e0:decide (((Nat.gcd a.natAbs b.natAbs:Nat):Int)<0)=false:=by simp
  rw [Int.natAbs_natCast,e0]
  simp only [go_sem,Fn.y26,h]
 ·unfold zD at h ⊢
  simp only [go_sem,Fn.y26,h]
end Go.Ev
namespace Go.Ev
open Go.Dig
def aggS:Option ((Nat→Nat)×List AV)→Option ((Nat→Nat)×SV)
 | some p=>some (p.1,.agg p.2)
 | none=>none
theorem yf3 (p:(Nat→Nat)×List AV):aggS (some p)=some (p.1,.agg p.2):=Eq.trans rfl rfl
theorem yg3 (ob:Nat→Option AObj) (fz:Nat→Nat) (cs:List AV):frzS ob fz (.agg cs)=aggS (mapFz (frz ob DEPTH) fz cs):=by
 simp only [frzS]
 cases mapFz (frz ob DEPTH) fz cs<;>rfl
theorem yau (ob:Nat→Option AObj) (fz:Nat→Nat) (b:Bool):frz ob DEPTH fz (.bool b)=some (fz,.bool b):=Eq.trans rfl rfl
theorem yom (ob:Nat→Option AObj) (fz:Nat→Nat) (k:IntKind) (b:Int):frz ob DEPTH fz (.int k b)=some (fz,.int k b):=Eq.trans rfl rfl
theorem ypp (ob:Nat→Option AObj) (fz:Nat→Nat) (b:ByteArray):frz ob DEPTH fz (.str b)=some (fz,.str b):=Eq.trans rfl rfl
theorem yrt (ob:Nat→Option AObj) (fz:Nat→Nat) (f:Bool) (es:List (List AV)):frz ob DEPTH fz (.sl f es)=some (fz,.sl false es):=Eq.trans rfl rfl
theorem ya9 (ob:Nat→Option AObj) (fz:Nat→Nat):frz ob DEPTH fz .nils=some (fz,.sl false []):=Eq.trans rfl rfl
attribute [go_sem] yf3 yg3 yau yom ypp yrt ya9
theorem yk1 (z:Int):sgn (!decide (z<0)) z.natAbs=-z:=by
 unfold sgn
 by_cases h:z<0
 ·rw [decide_eq_true h,Bool.not_true,if_neg (by simp)];omega
 ·rw [decide_eq_false h,Bool.not_false,if_pos rfl];omega
theorem yhf (z:Int) {n:Nat} (hn:1≤n):evV E (n+1) Id.y28 [sV z]=some (sV (-z)):=by
 rw [y06 yb9]
 have hs:=y7i (!decide (z<0)) z.natAbs (-z) (yk1 z) hn
 unfold sV zC zD at hs ⊢
 simp only [go_sem,Fn.y28,hs]
theorem ypn (a b:Bool):(!(a==b))=(a !=b):=rfl
theorem y8n (a b:Int) (ha:dlen BT a.natAbs<2^40) (hb:dlen BT b.natAbs<2^40) {n:Nat} (hn:dlen BT a.natAbs+dlen BT b.natAbs+7≤n):evV E (n+1) Id.y1s [sV a,sV b]=some (sV (a*b)):=by
 rw [y06 ybs]
 obtain ⟨n,rfl⟩:∃k,n=k+1:=⟨n-1,by omega⟩
 have ht:=y01 (yd5 a.natAbs b.natAbs ha hb (n:=n) (by omega)) (can2 (y3b _) (y3b _))
 have hs:=y7i (decide (a<0) !=decide (b<0)) (a.natAbs*b.natAbs) (a*b) (yjf a b) (n:=n+1) (by omega)
 generalize a*b=c at hs ⊢
 generalize a.natAbs*b.natAbs=m at ht hs
 unfold sV zC zD at hs ⊢
 unfold zD at ht
 simp only [go_sem,Fn.y1s,ht,yer,ypn,hs]
def rC (q:Rat):List AV:=zC q.num++zC (q.den:Int)
def rV (q:Rat):SV:=.agg (rC q)
theorem yad (q:Rat):CanS (rV q):=.agg _ fun x hx=>by
 simp only [rC,zC,List.mem_append,List.mem_cons,List.not_mem_nil,or_false] at hx
 rcases hx with (rfl | rfl) | (rfl | rfl)
 ·exact .bool _
 ·exact .sl _
 ·exact .bool _
 ·exact .sl _
theorem rC_eq (q:Rat):rC q=[.bool (decide (q.num<0)),zD q.num.natAbs,.bool (decide ((q.den:Int)<0)),zD q.den]:=by
 unfold rC zC
 rw [Int.natAbs_natCast]
 rfl
theorem ycs (q:Rat) (hd:dlen BT q.den<2^60) {n:Nat} (hn:1≤n):evV E (n+1) Id.y0w [rV q]=some (sV (q.den:Int)):=by
 rw [y06 y7r]
 have h0:((((digs BT q.den).length:Nat):Int)==0)=false:=by
  have:=y3f BT2 (Nat.pos_iff_ne_zero.1 q.den_pos)
  have:(digs BT q.den).length≠0:=fun e=>this (List.length_eq_zero_iff.1 e)
  simp only [beq_eq_false_iff_ne,ne_eq];omega
 unfold rV sV
 rw [rC_eq]
 unfold zC zD
 rw [Int.natAbs_natCast]
 simp only [go_sem,Fn.y0w,h0]
theorem yrh {z w:Int} (hw:w≠0) (h:w<0):ofQ z w hw=Rat.normalize (-z) (-w).natAbs (by omega):=by
 unfold ofQ
 have e:(decide (z<0) !=decide (w<0))= !decide (z<0):=by rw [decide_eq_true h];cases decide (z<0)<;>rfl
 have e2:=yk1 z
 congr 1
 ·rw [e,e2]
 ·omega
theorem yrl {z w:Int} (hw:w≠0) (h:¬w<0):ofQ z w hw=Rat.normalize z w.natAbs (by omega):=by
 unfold ofQ
 have e:(decide (z<0) !=decide (w<0))=decide (z<0):=by rw [decide_eq_false h];cases decide (z<0)<;>rfl
 congr 1
 rw [e,y73 z]
theorem ygr (S:Nat):6*S+20000000000000000≤KR S:=Nat.add_le_add_right (Nat.le_add_left _ _) _
theorem ycr (z w:Int) (hw:0<w) {S:Nat} (hz:z.natAbs<2^S) (hws:w.natAbs<2^S) (hS:S<2^37) {n:Nat} (hn:KR S+3≤n) (neg:Bool) (a b:Int) (hab:(neg=false∧a=z∧b=w)∨(neg=true∧-a=z∧-b=w)):evV E (n+1) Id.y14 [sV a,sV b]=some (rV (Rat.normalize z w.natAbs (by omega))):=by
 rw [y06 yd4]
 have hK:=ygr S
 obtain ⟨n,rfl⟩:∃k,n=k+1:=⟨n-1,by omega⟩
 have dz:=y33 hz
 have dw:=y33 hws
 have hgc:=y01 (yp7 z w hz hws hS (n:=n) (by omega)) (can2 (y4b _) (y4b _))
 obtain ⟨e1,e2⟩:=yd2 z w.natAbs (by omega)
 generalize Rat.normalize z w.natAbs _=q at e1 e2
 obtain ⟨g,hg⟩:∃g,g=z.natAbs.gcd w.natAbs:=⟨_,rfl⟩
 rw [←hg] at hgc e1 e2
 have hgp:0<g:=by rw [hg];exact Nat.gcd_pos_of_pos_right _ (by omega)
 have hgl:g≤w.natAbs:=by rw [hg];exact Nat.gcd_le_right _ (by omega)
 have dg:dlen BT g≤S:=Nat.le_trans (y4u BT2 hgl) dw
 have n1:=y01 (yhf a (n:=n) (by omega)) (can1 (y4b _))
 have n2:=y01 (yhf b (n:=n) (by omega)) (can1 (y4b _))
 have hb:decide (b<0)=neg:=by
  rcases hab with ⟨rfl,rfl,rfl⟩ | ⟨rfl,rfl,rfl⟩
  ·simp;omega
  ·simp;omega
 have hw0:decide (w<0)=false:=by simp;omega
 have hq0:decide ((q.den:Int)<0)=false:=by simp
 have hg0:decide ((g:Int)<0)=false:=by simp
 unfold rV
 rw [rC_eq,hq0]
 by_cases hg1:g=1
 ·subst hg1
  have hdig:digs BT 1=[1]:=by
   rw [y5f BT2 (by decide)]
   rw [show (1:Nat) / BT=0 from rfl,y0p]
   rfl
  rw [Nat.div_one] at e1 e2
  rw [y73] at e1
  have e3:intE [1]=[[AV.int .i64 1]]:=rfl
  have e4:(((1:Nat):Int)==1)=true:=rfl
  have e5:((1:Int)==1)=true:=rfl
  have n0:natOf 0=some 0:=rfl
  rw [e1,e2]
  rcases hab with ⟨rfl,rfl,rfl⟩ | ⟨rfl,h1,h2⟩
  ·unfold sV zC at hgc ⊢
   rw [Int.natAbs_natCast,hg0,hw0] at hgc
   unfold zD at hgc ⊢
   rw [hdig,e3] at hgc
   simp only [go_sem,Fn.y14,hb,hgc,e4,e5,n0]
  ·rw [h1] at n1
   rw [h2] at n2
   unfold sV zC at hgc n1 n2 ⊢
   rw [Int.natAbs_natCast,hg0,hw0] at hgc
   rw [hw0] at n2
   rw [hb] at n2
   unfold zD at hgc n1 n2 ⊢
   rw [hdig,e3] at hgc
   simp only [go_sem,Fn.y14,hb,n1,n2,hgc,e4,e5,n0]
 ·have hz2:=y01 (yay z.natAbs g hgp (by omega) (by omega) (n:=n) (by omega)) (can2 (y3b _) (y3b _))
  have hw2:=y01 (yay w.natAbs g hgp (by omega) (by omega) (n:=n) (by omega)) (can2 (y3b _) (y3b _))
  have s1:=y7i (decide (z<0)) (z.natAbs / g) q.num e1.symm (n:=n+1) (by omega)
  have s2:=y7i false (w.natAbs / g) (q.den:Int) (by rw [e2];rfl) (n:=n+1) (by omega)
  generalize z.natAbs / g=zg at hz2 s1
  generalize w.natAbs / g=wg at hw2 s2
  generalize z.natAbs%g=zr at hz2
  generalize w.natAbs%g=wr at hw2
  have n0:natOf 0=some 0:=rfl
  unfold sV zC at s1 s2
  rw [Int.natAbs_natCast,hq0] at s2
  unfold zD at hz2 hw2 s1 s2
  by_cases hl:(digs BT g).length=1
  ·obtain ⟨x,hx⟩:=List.length_eq_one_iff.1 hl
   have hv:=y13 BT2 g
   rw [hx] at hv hz2 hw2
   have hxg:x=g:=by simpa [val] using hv
   have e3:intE [x]=[[AV.int .i64 (x:Int)]]:=rfl
   have e4:(((1:Nat):Int)==1)=true:=rfl
   have e5:(((x:Nat):Int)==1)=false:=by rw [hxg];simp only [beq_eq_false_iff_ne,ne_eq];omega
   rw [e3] at hz2 hw2
   rcases hab with ⟨rfl,rfl,rfl⟩ | ⟨rfl,h1,h2⟩
   ·unfold sV zC at hgc ⊢
    rw [Int.natAbs_natCast,hg0,hw0] at hgc
    unfold zD at hgc ⊢
    rw [hx,e3] at hgc
    simp only [go_sem,Fn.y14,hb,hgc,e4,e5,n0,hz2,hw2,s1,s2]
   ·rw [h1] at n1
    rw [h2] at n2
    unfold sV zC at hgc n1 n2 ⊢
    rw [Int.natAbs_natCast,hg0,hw0] at hgc
    rw [hw0] at n2
    rw [hb] at n2
    unfold zD at hgc n1 n2 ⊢
    rw [hx,e3] at hgc
    simp only [go_sem,Fn.y14,hb,n1,n2,hgc,e4,e5,n0,hz2,hw2,s1,s2]
  ·have e4:((((digs BT g).length:Nat):Int)==1)=false:=by simp only [beq_eq_false_iff_ne,ne_eq];omega
   rcases hab with ⟨rfl,rfl,rfl⟩ | ⟨rfl,h1,h2⟩
   ·unfold sV zC at hgc ⊢
    rw [Int.natAbs_natCast,hg0,hw0] at hgc
    unfold zD at hgc ⊢
    simp only [go_sem,Fn.y14,hb,hgc,e4,n0,hz2,hw2,s1,s2]
   ·rw [h1] at n1
    rw [h2] at n2
    unfold sV zC at hgc n1 n2 ⊢
    rw [Int.natAbs_natCast,hg0,hw0] at hgc
    rw [hw0] at n2
    rw [hb] at n2
    unfold zD at hgc n1 n2 ⊢
    simp only [go_sem,Fn.y14,hb,n1,n2,hgc,e4,n0,hz2,hw2,s1,s2]
theorem yo7 (z w:Int) (hw:w≠0) {S:Nat} (hz:z.natAbs<2^S) (hws:w.natAbs<2^S) (hS:S<2^37) {n:Nat} (hn:KR S+3≤n):evV E (n+1) Id.y14 [sV z,sV w]=some (rV (ofQ z w hw)):=by
 by_cases h:w<0
 ·rw [yrh hw h]
  exact ycr (-z) (-w) (by omega) (by omega) (by omega) hS hn true z w (.inr ⟨rfl,rfl,rfl⟩)
 ·rw [yrl hw h]
  exact ycr z w (by omega) hz hws hS hn false z w (.inl ⟨rfl,rfl,rfl⟩)
theorem yrd (z d:Int) (hd:d≠0) (h1:-9223372036854775808≤z) (h2:z<9223372036854775808) (h3:-9223372036854775808≤d) (h4:d<9223372036854775808) {n:Nat} (hn:KR 64+4≤n):evV E (n+1) Id.y34 [.one (.int .i64 z),.one (.int .i64 d)]=some (rV (ofQ z d hd)):=by
 rw [y06 ydn]
 have hK:=ygr 64
 have e:(2:Nat)^64=18446744073709551616:=rfl
 obtain ⟨n,rfl⟩:∃k,n=k+1:=⟨n-1,by omega⟩
 have z1:=y01 (y87 z h1 h2 (n:=n) (by omega)) (can1 (y24 _ _))
 have z2:=y01 (y87 d h3 h4 (n:=n) (by omega)) (can1 (y24 _ _))
 have hq:=y01 (yo7 z d hd (S:=64) (by rw [e];omega) (by rw [e];omega) (by decide) (n:=n) (by omega)) (can2 (y4b _) (y4b _))
 generalize ofQ z d hd=q at hq ⊢
 unfold rV at hq ⊢
 rw [rC_eq] at hq ⊢
 unfold sV zC zD at z1 z2 hq
 unfold zD
 simp only [go_sem,Fn.y34,z1,z2,hq]
theorem yor (a b:Rat) {S T:Nat} (ha:SmQ S a) (hb:SmQ T b) (hS:S+T<2^36) {n:Nat} (hn:KR (S+T)+4≤n):evV E (n+1) Id.y2t [rV a,rV b]=some (rV (a*b)):=by
 rw [y06 yco,Rat.mul_def]
 have hK:=ygr (S+T)
 obtain ⟨n,rfl⟩:∃k,n=k+1:=⟨n-1,by omega⟩
 have da:=y33 ha.den
 have db:=y33 hb.den
 have na:=y33 ha.num
 have nb:=y33 hb.num
 have d1:=y01 (ycs a (by omega) (n:=n) (by omega)) (can1 (yad _))
 have d2:=y01 (ycs b (by omega) (n:=n) (by omega)) (can1 (yad _))
 have m1:=y01 (y8n a.num b.num (by omega) (by omega) (n:=n) (by omega)) (can2 (y4b _) (y4b _))
 have m2:=y01 (y8n (a.den:Int) (b.den:Int) (by rw [Int.natAbs_natCast];omega) (by rw [Int.natAbs_natCast];omega) (n:=n) (by rw [Int.natAbs_natCast,Int.natAbs_natCast];omega)) (can2 (y4b _) (y4b _))
 have h1:(a.num*b.num).natAbs<2^(S+T):=by rw [Int.natAbs_mul];exact y5t ha.num hb.num
 have h2:((a.den:Int)*(b.den:Int)).natAbs<2^(S+T):=by
  rw [Int.natAbs_mul,Int.natAbs_natCast,Int.natAbs_natCast];exact y5t ha.den hb.den
 have hp:(0:Int)<(a.den:Int)*(b.den:Int):=Int.mul_pos (by have:=a.den_pos;omega) (by have:=b.den_pos;omega)
 have hq:=y01 (ycr (a.num*b.num) ((a.den:Int)*(b.den:Int)) hp h1 h2 (by omega) (n:=n) (by omega) false _ _ (.inl ⟨rfl,rfl,rfl⟩)) (can2 (y4b _) (y4b _))
 have en:Rat.normalize (a.num*b.num) ((a.den:Int)*(b.den:Int)).natAbs (by omega)=Rat.normalize (a.num*b.num) (a.den*b.den) (Nat.mul_ne_zero a.den_nz b.den_nz):=by
  congr 1
 rw [en] at hq
 generalize Rat.normalize (a.num*b.num) (a.den*b.den) _=q at hq ⊢
 generalize a.num*b.num=p at m1 hq
 generalize (a.den:Int)*(b.den:Int)=r at m2 hq
 unfold rV at d1 d2 hq ⊢
 rw [rC_eq] at d1 d2 hq
 rw [rC_eq a,rC_eq b,rC_eq q]
 unfold sV zC at d1 d2 m1 m2 hq
 rw [Int.natAbs_natCast] at d1 d2
 rw [Int.natAbs_natCast,Int.natAbs_natCast] at m2
 unfold zD at d1 d2 m1 m2 hq ⊢
 simp only [go_sem,Fn.y2t,d1,d2,m1,m2,hq]
end Go.Ev
namespace Go.Ev
open Go.Dig
def Ends (f:FuncId) (args:List SV) (r:SV):Prop:=∃N,∀n,N≤n→evV E n f args=some r
theorem Ends.of {f:FuncId} {args:List SV} {r:SV} (N:Nat) (h:∀{n},N≤n→evV E (n+1) f args=some r):Ends f args r:=
 ⟨N+1,fun n hn=>by obtain ⟨m,rfl⟩:∃m,n=m+1:=⟨n-1,by omega⟩;exact h (by omega)⟩
def Calling (f:FuncId) (args:List SV) (r:SV):Prop:=∃N,∀n,N≤n→∀(ob:Nat→Option AObj) (fz:Nat→Nat),callV (evF E n) f args ob fz=some (.fzd fz r)
theorem Ends.call {f:FuncId} {args:List SV} {r:SV} (h:Ends f args r) (hc:∀x∈args,CanS x):Calling f args r:=by
 obtain ⟨N,h⟩:=h
 exact ⟨N,fun n hn=>y01 (h n hn) hc⟩
structure Num where
 n:Int
 d:Int
 p:Nat
 n1:-9223372036854775808≤n
 n2:n<9223372036854775808
 d1:-9223372036854775808≤d
 d2:d<9223372036854775808
 p2:p<256
def Num.c (x:Num):List AV:=[.int .i64 x.n,.int .i64 x.d,.int .u8 (x.p:Int)]
def Num.den (x:Num):Int:=if x.d=0 then 1 else x.d
theorem Num.den0 (x:Num):x.den≠0:=by unfold Num.den;split<;>omega
theorem Num.denR (x:Num):-9223372036854775808≤x.den∧x.den<9223372036854775808:=by
 have h1:=x.d1
 have h2:=x.d2
 unfold Num.den;split<;>omega
def Num.base (x:Num):Rat:=ofQ x.n x.den x.den0
def Num.q (x:Num):Rat:=x.base^(x.p%4+1)
theorem Num.baseS (x:Num):SmQ 64 x.base:=SmQ.ofQ x.den0 x.n1 x.n2 x.denR.1 x.denR.2
theorem powS {a:Rat} (h:SmQ 64 a):∀k,SmQ (64*(k+1)) (a^(k+1))
 | 0=>by rw [Rat.pow_succ,Rat.pow_zero,Rat.one_mul];exact h
 | k+1=>by
  rw [Rat.pow_succ]
  exact SmQ.mono (SmQ.mul (powS h k) h) (by omega)
theorem Num.qS (x:Num):SmQ 256 x.q:=SmQ.mono (powS x.baseS (x.p%4)) (by omega)
theorem yfr {n i1 i4 i6 i7 i8:Nat} {fz:Nat→Nat} {nx:Nat} (a:Rat) (ha:SmQ 64 a) (x2 x3:SV) (c1 c2:AV) (p:Nat) (h14:i7≠i1∧i7≠i4∧i7≠i6∧i8≠i1∧i8≠i4∧i8≠i6∧i8≠i7) (hn:KR 320≤n) (hn':K 320≤n):∀(m k:Nat),k+m=p%4→∀(ob:Nat→Option AObj) (X:List (Nat×SV)),ob i1=some (.box [c1,c2,.int .u8 (p:Int)])→ob i4=some (.box (qC a))→ob i6=some (.box (rC a))→ob i7=some (.box (qC (a^(k+1))))→ob i8=some (.box (rC (a^(k+1))))→∀N,m<N→
  ∃(ob':Nat→Option AObj) (X':List (Nat×SV)),loopN (evC (evF E (n+6)) (n+6) Fn.y4s) N ⟨env ((1,.one (.box i1 0))::(2,x2)::(3,x3)::(4,.one (.box i4 0))::(6,.one (.box i6 0))::(7,.one (.box i7 0))::(8,.one (.box i8 0))::(9,.one (.int .u8 (k:Int)))::X),ob,fz,nx⟩=
   some (.ext 0,⟨env ((1,.one (.box i1 0))::(2,x2)::(3,x3)::(4,.one (.box i4 0))::(6,.one (.box i6 0))::(7,.one (.box i7 0))::(8,.one (.box i8 0))::X'),ob',fz,nx⟩)∧ob' i7=some (.box (qC (a^(p%4+1))))∧ob' i8=some (.box (rC (a^(p%4+1))))∧∀i,i≠i7→i≠i8→ob' i=ob i
 | 0,k,hk,ob,X,o1,o4,o6,o7,o8,N+1,hN=>by
  have hk':k=p%4:=by omega
  subst hk'
  refine ⟨ob,[(9,.one (.int .u8 ((p%4:Nat):Int))),(33,.one (.bool false))],y09 ?_,o7,o8,fun _ _ _=>rfl⟩
  have t4:((4:Int)=0)=False:=by simp
  have hr:((p:Int)).tmod 4=((p%4:Nat):Int):=(Int.ofNat_tmod p 4).symm
  have hl:(((p%4:Nat):Int)<((p%4:Nat):Int))=False:=by simp
  simp only [go_sem,Fn.y4s,o1,t4,hr,hl]
 | m+1,k,hk,ob,X,o1,o4,o6,o7,o8,N+1,hN=>by
  have t4:((4:Int)=0)=False:=by simp
  have hr:((p:Int)).tmod 4=((p%4:Nat):Int):=(Int.ofNat_tmod p 4).symm
  have hl:(((k:Nat):Int)<((p%4:Nat):Int))=True:=by simp;omega
  have hw:IntKind.u8.wrap ((k+1:Nat):Int)=((k+1:Nat):Int):=by rw [IntKind.wrap_u8];omega
  have hs:SmQ 256 (a^(k+1)):=SmQ.mono (powS ha k) (by omega)
  have m1:=y01 (yrf (a^(k+1)) a hs ha (by decide) (n:=n+5) (by show K 320+_≤_;omega)) (can2 (y52 _) (y52 _)) ob fz
  have m2:=fun ob=>y01 (yor (a^(k+1)) a hs ha (by decide) (n:=n+5) (by show KR 320+_≤_;omega)) (can2 (yad _) (yad _)) ob fz
  rw [←Rat.pow_succ] at m1 m2
  obtain ⟨g1,g2,g3,g4,g5,g6,g7⟩:=h14
  obtain ⟨ob',X',h1,h2,h3,h4⟩:=yfr (fz:=fz) (nx:=nx) a ha x2 x3 c1 c2 p ⟨g1,g2,g3,g4,g5,g6,g7⟩ hn hn' m (k+1) (by omega) (upd (upd ob i7 (.box (qC (a^(k+1+1))))) i8 (.box (rC (a^(k+1+1))))) []
   (by rw [y00 g4.symm,y00 g1.symm];exact o1) (by rw [y00 g5.symm,y00 g2.symm];exact o4) (by rw [y00 g6.symm,y00 g3.symm];exact o6) (by rw [y00 g7.symm];exact upd_same _ _ _) (upd_same _ _ _) N (by omega)
  refine ⟨ob',X', ?_,h2,h3,fun i e7 e8=>by rw [h4 i e7 e8,y00 e8,y00 e7]⟩
  rw [←h1]
  refine y08 ?_
  have u6:∀y,upd ob i7 y i6=ob i6:=fun y=>y00 g3.symm
  have u8:∀y,upd ob i7 y i8=ob i8:=fun y=>y00 g7
  generalize a^(k+1)=b at*
  generalize a^(k+1+1)=c at*
  unfold qV at m1
  unfold rV at m2
  rw [rC_eq] at o6 o8
  rw [rC_eq b,rC_eq a,rC_eq c] at m2
  rw [rC_eq c]
  unfold qC natV at m1 o4 o7 ⊢
  unfold zD at m2 o6 o8 ⊢
  simp only [go_sem,Fn.y4s,o1,t4,hr,hl,o4,o6,o7,o8,u6,u8,m1,m2,add1,hw]
theorem nbeq (a b:Nat):Nat.beq a b=(a==b):=by
 rw [Bool.eq_iff_iff,Nat.beq_eq,beq_iff_eq]
attribute [go_sem] List.all_cons List.all_nil nbeq Nat.reduceBEq
theorem rV_eq (q:Rat):rV q=.agg [.bool (decide (q.num<0)),zD q.num.natAbs,.bool (decide ((q.den:Int)<0)),zD q.den]:=by unfold rV;rw [rC_eq]
def bothT:ACode:=match Fn.y0j.code with | .seq _ (.seq _ (.seq _ (.seq _ (.seq _ (.seq _ t)))))=>t | _=>.skip
theorem yqe (x:Num) {n:Nat} (hn:K 320+KR 320+20≤n):evV E (n+1) Id.y0j [.agg x.c]=some (.tup [qV x.q,rV x.q]):=by
 rw [y06 ybn]
 have hK:K 64≤K 320:=ys4 (by decide)
 have hR:KR 64≤KR 320:=by unfold KR;have:=Nat.pow_le_pow_right (show 0<2 by decide) (show 64≤320 by decide);omega
 obtain ⟨n,rfl⟩:∃k,n=k+6:=⟨n-6,by omega⟩
 have h1:=y01 (ysm x.n x.den x.den0 x.n1 x.n2 x.denR.1 x.denR.2 (n:=n+5) (by omega)) (can2 (y24 _ _) (y24 _ _))
 have h2:=y01 (yrd x.n x.den x.den0 x.n1 x.n2 x.denR.1 x.denR.2 (n:=n+5) (by omega)) (can2 (y24 _ _) (y24 _ _))
 have hb:=x.baseS
 rw [show ofQ x.n x.den x.den0=x.base from rfl] at h1 h2
 have hq:x.q=x.base^(x.p%4+1):=rfl
 have hc:x.c=[.int .i64 x.n,.int .i64 x.d,.int .u8 (x.p:Int)]:=rfl
 have hden:x.den=if x.d=0 then 1 else x.d:=rfl
 rw [hq,hc]
 generalize x.den=den at*
 generalize x.base=a at*
 have hlo:=fun i1 i4 i6 i7 i8 nx c1 c2 x2 x3 hne ob=>yfr (n:=n) (i1:=i1) (i4:=i4) (i6:=i6) (i7:=i7) (i8:=i8) (fz:=fz0) (nx:=nx) a hb x2 x3 c1 c2 x.p hne (by omega) (by omega) (x.p%4) 0 (by omega) ob []
 have ga:a^(0+1)=a:=by rw [Rat.pow_succ,Rat.pow_zero,Rat.one_mul]
 generalize a^(x.p%4+1)=b at*
 have key:∀(c1 c2:AV) (ob:Nat→Option AObj),ob 0=some (.box [c1,c2,.int .u8 (x.p:Int)])→ob 1=some (.box [.bool false,.nils,.nils])→ob 2=some (.box [.bool false,.nils,.bool false,.nils])→ob 11=some (.box (qC a))→ob 19=some (.box (rC a))→ob 23=some (.box (qC a))→ob 24=some (.box (rC a))→
   finV Fn.y0j.res (thenC (evF E (n+6)) (n+6) bothT (blkC 0 (loopN (evC (evF E (n+6)) (n+6) Fn.y4s) (n+6) ⟨env [(1,.one (.box 0 0)),(2,.one (.box 1 0)),(3,.one (.box 2 0)),(4,.one (.box 11 0)),(6,.one (.box 19 0)),(7,.one (.box 23 0)),(8,.one (.box 24 0)),(9,.one (.int .u8 0))],ob,fz0,27⟩)))=some (.tup [qV b,rV b]):=by
  intro c1 c2 ob o0 o1 o2 o11 o19 o23 o24
  obtain ⟨ob',X',hl,p7,p8,pr⟩:=hlo 0 11 19 23 24 27 c1 c2 (.one (.box 1 0)) (.one (.box 2 0)) (by decide) ob o0 o11 o19 (by rw [ga];exact o23) (by rw [ga];exact o24) (n+6) (by omega)
  rw [show ((0:Nat):Int)=0 from rfl] at hl
  have q1:ob' 1=_:=(pr 1 (by decide) (by decide)).trans o1
  have q2:ob' 2=_:=(pr 2 (by decide) (by decide)).trans o2
  have u2:∀y,upd ob' 1 y 2=ob' 2:=fun y=>y00 (by decide)
  rw [rC_eq] at p8
  rw [rV_eq]
  unfold qC natV at p7
  unfold zD at p8
  unfold qV qC natV zD
  unfold bothT Fn.y0j
  simp only [go_sem,hl,p7,p8,q1,q2,u2]
 rw [rV_eq] at h2
 unfold qV qC natV at h1
 unfold zD at h2
 by_cases hd:x.d=0
 ·rw [if_pos hd] at hden
  have e0:(x.d==0)=true:=by simp [hd]
  rw [hden] at h1 h2
  unfold Fn.y0j
  simp only [go_sem,e0,h1,h2]
  exact key _ _ _ rfl rfl rfl rfl rfl rfl rfl
 ·rw [if_neg hd] at hden
  have e0:(x.d==0)=false:=by simp [hd]
  rw [hden] at h1 h2
  unfold Fn.y0j
  simp only [go_sem,e0,h1,h2]
  exact key _ _ _ rfl rfl rfl rfl rfl rfl rfl
end Go.Ev
namespace Go.Ev
open Go.Dig
def Fz (x:AV):Prop:=∀(ob:Nat→Option AObj) (fz:Nat→Nat),frz ob DEPTH fz x=some (fz,x)
theorem Canon.fz {x:AV} (h:Canon x):Fz x:=fun ob fz=>h.frz ob 7 fz
def CanL (l:List AV):Prop:=∀x∈l,Canon x
theorem CanL.nil:CanL []:=fun _ h=>by simp at h
theorem CanL.cons {x:AV} {l:List AV} (h:Canon x) (hl:CanL l):CanL (x::l):=fun y hy=>by
 rcases List.mem_cons.1 hy with rfl | e
 ·exact h
 ·exact hl y e
theorem CanL.app {l m:List AV} (h:CanL l) (hm:CanL m):CanL (l++m):=fun y hy=>by
 rcases List.mem_append.1 hy with e | e
 ·exact h y e
 ·exact hm y e
theorem CanL.q (q:Rat):CanL (qC q):=.cons (.bool _) (.cons (.sl _) (.cons (.sl _) .nil))
theorem CanL.r (q:Rat):CanL (rC q):=by
 rw [rC_eq]
 exact .cons (.bool _) (.cons (.sl _) (.cons (.bool _) (.cons (.sl _) .nil)))
theorem CanL.num (x:Num):CanL x.c:=.cons (.int _ _) (.cons (.int _ _) (.cons (.int _ _) .nil))
theorem CanL.agg {l:List AV} (h:CanL l):CanS (.agg l):=.agg _ h
theorem can1' {l:List AV} (h:CanL l):∀x∈[SV.agg l],CanS x:=can1 h.agg
theorem y0n (q:Rat):∃a b c,qC q=[a,b,c]∧Fz a∧Fz b∧Fz c:=⟨_,_,_,rfl,(Canon.bool _).fz,(Canon.sl _).fz,(Canon.sl _).fz⟩
theorem y83 (q:Rat):∃a b c d,rC q=[a,b,c,d]∧Fz a∧Fz b∧Fz c∧Fz d:=⟨_,_,_,_,rfl,(Canon.bool _).fz,(Canon.sl _).fz,(Canon.bool _).fz,(Canon.sl _).fz⟩
theorem ymi (x:Num):Ends Id.y0j [.agg x.c] (.tup [.agg (qC x.q),.agg (rC x.q)]):=.of _ fun hn=>yqe x hn
theorem y8j (x:Num):Calling Id.y0j [.agg x.c] (.tup [.agg (qC x.q),.agg (rC x.q)]):=(ymi x).call (can1' (.num x))
structure Beat where
 load:Num
 angle:Num
 speed:Num
def Beat.c (b:Beat):List AV:=b.load.c++b.angle.c++b.speed.c
structure Samp where
 load:Rat
 angle:Rat
 speed:Rat
def Samp.c (s:Samp):List AV:=qC s.load++qC s.angle++qC s.speed
def Samp.r (s:Samp):List AV:=rC s.load++rC s.angle++rC s.speed
def Beat.s (b:Beat):Samp:=⟨b.load.q,b.angle.q,b.speed.q⟩
theorem CanL.beat (b:Beat):CanL b.c:=.app (.app (.num _) (.num _)) (.num _)
theorem CanL.samp (b:Samp):CanL b.c:=.app (.app (.q _) (.q _)) (.q _)
theorem CanL.sampr (b:Samp):CanL b.r:=.app (.app (.r _) (.r _)) (.r _)
theorem ymu (b:Beat):Ends Id.y0r [.agg b.c] (.tup [.agg b.s.c,.agg b.s.r]):=by
 obtain ⟨x,z,w⟩:=b
 obtain ⟨N1,h1⟩:=y8j x
 obtain ⟨N2,h2⟩:=y8j z
 obtain ⟨N3,h3⟩:=y8j w
 refine .of (N1+N2+N3) fun {n} hn=> ?_
 have h1:=h1 n (by omega)
 have h2:=h2 n (by omega)
 have h3:=h3 n (by omega)
 rw [y06 y90]
 unfold Beat.c Beat.s Samp.c Samp.r
 obtain ⟨a,b,c,e1,f1,f2,f3⟩:=y0n x.q
 obtain ⟨a',b',c',e2,f1',f2',f3'⟩:=y0n z.q
 obtain ⟨a'',b'',c'',e5,f1'',f2'',f3''⟩:=y0n w.q
 obtain ⟨p,q,r,s,e3,g1,g2,g3,g4⟩:=y83 x.q
 obtain ⟨p',q',r',s',e4,g1',g2',g3',g4'⟩:=y83 z.q
 obtain ⟨p'',q'',r'',s'',e6,g1'',g2'',g3'',g4''⟩:=y83 w.q
 rw [e1,e3] at h1
 rw [e2,e4] at h2
 rw [e5,e6] at h3
 simp only [e1,e2,e3,e4,e5,e6]
 unfold Fz at*
 unfold Num.c at*
 simp only [go_sem,Fn.y0r,h1,h2,h3,f1,f2,f3,f1',f2',f3',g1,g2,g3,g4,g1',g2',g3',g4',f1'',f2'',f3'',g1'',g2'',g3'',g4'']
theorem yl2 (b:Beat):Calling Id.y0r [.agg b.c] (.tup [.agg b.s.c,.agg b.s.r]):=(ymu b).call (can1' (.beat b))
theorem y7y (s:Samp):∃c0 c1 c2 c3 c4 c5 c6 c7 c8,s.c=[c0,c1,c2,c3,c4,c5,c6,c7,c8]∧Fz c0∧Fz c1∧Fz c2∧Fz c3∧Fz c4∧Fz c5∧Fz c6∧Fz c7∧Fz c8:=by
 have h:CanL (s.c):=CanL.samp s
 obtain ⟨l,hl⟩:∃l,l=s.c:=⟨_,rfl⟩
 rw [←hl] at h ⊢
 have hn:l.length=9:=by rw [hl];rfl
 obtain ⟨c0,l,rfl⟩:∃c m,l=c::m:=by cases l with | nil=>simp at hn | cons c m=>exact ⟨c,m,rfl⟩
 obtain ⟨c1,l,rfl⟩:∃c m,l=c::m:=by cases l with | nil=>simp at hn | cons c m=>exact ⟨c,m,rfl⟩
 obtain ⟨c2,l,rfl⟩:∃c m,l=c::m:=by cases l with | nil=>simp at hn | cons c m=>exact ⟨c,m,rfl⟩
 obtain ⟨c3,l,rfl⟩:∃c m,l=c::m:=by cases l with | nil=>simp at hn | cons c m=>exact ⟨c,m,rfl⟩
 obtain ⟨c4,l,rfl⟩:∃c m,l=c::m:=by cases l with | nil=>simp at hn | cons c m=>exact ⟨c,m,rfl⟩
 obtain ⟨c5,l,rfl⟩:∃c m,l=c::m:=by cases l with | nil=>simp at hn | cons c m=>exact ⟨c,m,rfl⟩
 obtain ⟨c6,l,rfl⟩:∃c m,l=c::m:=by cases l with | nil=>simp at hn | cons c m=>exact ⟨c,m,rfl⟩
 obtain ⟨c7,l,rfl⟩:∃c m,l=c::m:=by cases l with | nil=>simp at hn | cons c m=>exact ⟨c,m,rfl⟩
 obtain ⟨c8,l,rfl⟩:∃c m,l=c::m:=by cases l with | nil=>simp at hn | cons c m=>exact ⟨c,m,rfl⟩
 have e:l=[]:=by cases l with | nil=>rfl | cons c m=>simp only [List.length_cons] at hn;omega
 subst e
 exact ⟨c0,c1,c2,c3,c4,c5,c6,c7,c8,rfl,(h c0 (by simp)).fz,(h c1 (by simp)).fz,(h c2 (by simp)).fz,(h c3 (by simp)).fz,(h c4 (by simp)).fz,(h c5 (by simp)).fz,(h c6 (by simp)).fz,(h c7 (by simp)).fz,(h c8 (by simp)).fz⟩
theorem yiv (s:Samp):∃c0 c1 c2 c3 c4 c5 c6 c7 c8 c9 c10 c11,s.r=[c0,c1,c2,c3,c4,c5,c6,c7,c8,c9,c10,c11]∧Fz c0∧Fz c1∧Fz c2∧Fz c3∧Fz c4∧Fz c5∧Fz c6∧Fz c7∧Fz c8∧Fz c9∧Fz c10∧Fz c11:=by
 have h:CanL (s.r):=CanL.sampr s
 obtain ⟨l,hl⟩:∃l,l=s.r:=⟨_,rfl⟩
 rw [←hl] at h ⊢
 have hn:l.length=12:=by rw [hl];rfl
 obtain ⟨c0,l,rfl⟩:∃c m,l=c::m:=by cases l with | nil=>simp at hn | cons c m=>exact ⟨c,m,rfl⟩
 obtain ⟨c1,l,rfl⟩:∃c m,l=c::m:=by cases l with | nil=>simp at hn | cons c m=>exact ⟨c,m,rfl⟩
 obtain ⟨c2,l,rfl⟩:∃c m,l=c::m:=by cases l with | nil=>simp at hn | cons c m=>exact ⟨c,m,rfl⟩
 obtain ⟨c3,l,rfl⟩:∃c m,l=c::m:=by cases l with | nil=>simp at hn | cons c m=>exact ⟨c,m,rfl⟩
 obtain ⟨c4,l,rfl⟩:∃c m,l=c::m:=by cases l with | nil=>simp at hn | cons c m=>exact ⟨c,m,rfl⟩
 obtain ⟨c5,l,rfl⟩:∃c m,l=c::m:=by cases l with | nil=>simp at hn | cons c m=>exact ⟨c,m,rfl⟩
 obtain ⟨c6,l,rfl⟩:∃c m,l=c::m:=by cases l with | nil=>simp at hn | cons c m=>exact ⟨c,m,rfl⟩
 obtain ⟨c7,l,rfl⟩:∃c m,l=c::m:=by cases l with | nil=>simp at hn | cons c m=>exact ⟨c,m,rfl⟩
 obtain ⟨c8,l,rfl⟩:∃c m,l=c::m:=by cases l with | nil=>simp at hn | cons c m=>exact ⟨c,m,rfl⟩
 obtain ⟨c9,l,rfl⟩:∃c m,l=c::m:=by cases l with | nil=>simp at hn | cons c m=>exact ⟨c,m,rfl⟩
 obtain ⟨c10,l,rfl⟩:∃c m,l=c::m:=by cases l with | nil=>simp at hn | cons c m=>exact ⟨c,m,rfl⟩
 obtain ⟨c11,l,rfl⟩:∃c m,l=c::m:=by cases l with | nil=>simp at hn | cons c m=>exact ⟨c,m,rfl⟩
 have e:l=[]:=by cases l with | nil=>rfl | cons c m=>simp only [List.length_cons] at hn;omega
 subst e
 exact ⟨c0,c1,c2,c3,c4,c5,c6,c7,c8,c9,c10,c11,rfl,(h c0 (by simp)).fz,(h c1 (by simp)).fz,(h c2 (by simp)).fz,(h c3 (by simp)).fz,(h c4 (by simp)).fz,(h c5 (by simp)).fz,(h c6 (by simp)).fz,(h c7 (by simp)).fz,(h c8 (by simp)).fz,(h c9 (by simp)).fz,(h c10 (by simp)).fz,(h c11 (by simp)).fz⟩
theorem ykz (b:Beat):∃c0 c1 c2 c3 c4 c5 c6 c7 c8,b.c=[c0,c1,c2,c3,c4,c5,c6,c7,c8]∧Fz c0∧Fz c1∧Fz c2∧Fz c3∧Fz c4∧Fz c5∧Fz c6∧Fz c7∧Fz c8:=by
 have h:CanL (b.c):=CanL.beat b
 obtain ⟨l,hl⟩:∃l,l=b.c:=⟨_,rfl⟩
 rw [←hl] at h ⊢
 have hn:l.length=9:=by rw [hl];rfl
 obtain ⟨c0,l,rfl⟩:∃c m,l=c::m:=by cases l with | nil=>simp at hn | cons c m=>exact ⟨c,m,rfl⟩
 obtain ⟨c1,l,rfl⟩:∃c m,l=c::m:=by cases l with | nil=>simp at hn | cons c m=>exact ⟨c,m,rfl⟩
 obtain ⟨c2,l,rfl⟩:∃c m,l=c::m:=by cases l with | nil=>simp at hn | cons c m=>exact ⟨c,m,rfl⟩
 obtain ⟨c3,l,rfl⟩:∃c m,l=c::m:=by cases l with | nil=>simp at hn | cons c m=>exact ⟨c,m,rfl⟩
 obtain ⟨c4,l,rfl⟩:∃c m,l=c::m:=by cases l with | nil=>simp at hn | cons c m=>exact ⟨c,m,rfl⟩
 obtain ⟨c5,l,rfl⟩:∃c m,l=c::m:=by cases l with | nil=>simp at hn | cons c m=>exact ⟨c,m,rfl⟩
 obtain ⟨c6,l,rfl⟩:∃c m,l=c::m:=by cases l with | nil=>simp at hn | cons c m=>exact ⟨c,m,rfl⟩
 obtain ⟨c7,l,rfl⟩:∃c m,l=c::m:=by cases l with | nil=>simp at hn | cons c m=>exact ⟨c,m,rfl⟩
 obtain ⟨c8,l,rfl⟩:∃c m,l=c::m:=by cases l with | nil=>simp at hn | cons c m=>exact ⟨c,m,rfl⟩
 have e:l=[]:=by cases l with | nil=>rfl | cons c m=>simp only [List.length_cons] at hn;omega
 subst e
 exact ⟨c0,c1,c2,c3,c4,c5,c6,c7,c8,rfl,(h c0 (by simp)).fz,(h c1 (by simp)).fz,(h c2 (by simp)).fz,(h c3 (by simp)).fz,(h c4 (by simp)).fz,(h c5 (by simp)).fz,(h c6 (by simp)).fz,(h c7 (by simp)).fz,(h c8 (by simp)).fz⟩
structure Rng where
 low:Beat
 high:Beat
def Rng.c (r:Rng):List AV:=r.low.c++r.high.c
structure Bx where
 low:Samp
 high:Samp
def Bx.c (b:Bx):List AV:=b.low.c++b.high.c
def Bx.r (b:Bx):List AV:=b.low.r++b.high.r
def Rng.b (r:Rng):Bx:=⟨r.low.s,r.high.s⟩
theorem CanL.bx (b:Bx):CanL b.c:=.app (.samp _) (.samp _)
theorem CanL.bxr (b:Bx):CanL b.r:=.app (.sampr _) (.sampr _)
end Go.Ev
namespace Go.Ev
open Go.Dig
theorem yrg (a b:Nat):(a=a+b)=(b=0):=by rw [eq_iff_iff];omega
theorem yr3 (a b:Nat):(a+b=a)=(b=0):=by rw [eq_iff_iff];omega
theorem yru (a b c:Nat):(a+b<a+c)=(b<c):=by rw [eq_iff_iff];omega
attribute [go_sem] yrg yr3 yru
def OutE (sz:Nat) (ob:Nat→Option AObj) (nx:Nat) (x:AV) (es:List (List AV)):Prop:=
 (es=[]∧x=.nils)∨∃id ver,x=.rsl id ver sz 0 es.length false∧ob id=some (.row sz es ver)∧id<nx
theorem OutE.frzD {sz:Nat} {ob:Nat→Option AObj} {nx:Nat} {x:AV} {es:List (List AV)} (h:OutE sz ob nx x es) (hc:CanonEs es):∃g:(Nat→Nat)→(Nat→Nat),∀fz,frz ob DEPTH fz x=some (g fz,.sl false es):=by
 rcases h with ⟨rfl,rfl⟩ | ⟨id,ver,rfl,hid,_⟩
 ·exact ⟨fun fz=>fz,fun fz=>rfl⟩
 ·refine ⟨fun fz=>raise fz id (0+es.length),fun fz=> ?_⟩
  have hb:Nat.ble (0+es.length) es.length=true:=by simp
  rw [show DEPTH=6+1+1 from rfl,y76,y25 hid]
  simp only [hb,cond_true,List.drop_zero,List.take_length]
  rw [hc.frz ob 6]
theorem OutE.frz {sz:Nat} {ob:Nat→Option AObj} {nx:Nat} {x:AV} {es:List (List AV)} (h:OutE sz ob nx x es) (hc:CanonEs es):∃g:(Nat→Nat)→(Nat→Nat),∀fz,frzS ob fz (.one x)=some (g fz,.one (.sl false es)):=by
 obtain ⟨g,hg⟩:=h.frzD hc
 exact ⟨g,fun fz=>by simp only [frzS,hg]⟩
def Two (ob:Nat→Option AObj) (nx sz sz' i:Nat) (x y:AV) (es fs:List (List AV)):Prop:=
 es.length=i∧fs.length=i∧((es=[]∧fs=[]∧x=.nils∧y=.nils)∨∃a va b vb,x=.rsl a va sz 0 i false∧y=.rsl b vb sz' 0 i false∧ob a=some (.row sz es va)∧ob b=some (.row sz' fs vb)∧a<nx∧b<nx∧a≠b)
theorem Two.fst {ob:Nat→Option AObj} {nx sz sz' i:Nat} {x y:AV} {es fs:List (List AV)} (h:Two ob nx sz sz' i x y es fs):OutE sz ob nx x es:=by
 obtain ⟨h1,h2,⟨e1,e2,e3,e4⟩ | ⟨a,va,b,vb,e1,e2,e3,e4,e5,e6,e7⟩⟩:=h
 ·exact .inl ⟨e1,e3⟩
 ·exact .inr ⟨a,va,by rw [h1];exact e1,e3,e5⟩
theorem Two.snd {ob:Nat→Option AObj} {nx sz sz' i:Nat} {x y:AV} {es fs:List (List AV)} (h:Two ob nx sz sz' i x y es fs):OutE sz' ob nx y fs:=by
 obtain ⟨h1,h2,⟨e1,e2,e3,e4⟩ | ⟨a,va,b,vb,e1,e2,e3,e4,e5,e6,e7⟩⟩:=h
 ·exact .inl ⟨e2,e4⟩
 ·exact .inr ⟨b,vb,by rw [h2];exact e2,e4,e6⟩
theorem y3z {ob:Nat→Option AObj} {id q ver:Nat} {y:AObj} (h:id≠q):rowAt (upd ob q y) id ver=rowAt ob id ver:=by
 unfold rowAt
 rw [y00 h]
structure Spot where
 x:Num
 z:Num
def Spot.c (p:Spot):List AV:=p.x.c++p.z.c
structure Pt where
 x:Rat
 z:Rat
def Pt.c (p:Pt):List AV:=qC p.x++qC p.z
def Pt.r (p:Pt):List AV:=rC p.x++rC p.z
def Spot.p (s:Spot):Pt:=⟨s.x.q,s.z.q⟩
theorem CanL.spot (b:Spot):CanL b.c:=.app (.num _) (.num _)
theorem CanL.ptr (b:Pt):CanL b.r:=.app (.r _) (.r _)
theorem ybv {α:Type} {f:α→List AV} (h:∀a,CanL (f a)) (l:List α):CanonEs (l.map f):=fun e he x hx=>by
 obtain ⟨a,_,rfl⟩:=List.mem_map.1 he
 exact h a x hx
section
variable {fz:Nat→Nat}
end
theorem y7g {α:Type} {f:FuncId} {a:α→List SV} {r:α→SV} (h:∀x,Calling f (a x) (r x)):∀(l:List α),∃N,∀n,N≤n→∀x∈l,∀(ob:Nat→Option AObj) (fz:Nat→Nat),callV (evF E n) f (a x) ob fz=some (.fzd fz (r x))
 | []=>⟨0,fun _ _ _ h=>by simp at h⟩
 | x::l=>by
  obtain ⟨N1,h1⟩:=h x
  obtain ⟨N2,h2⟩:=y7g h l
  refine ⟨N1+N2,fun n hn y hy=> ?_⟩
  rcases List.mem_cons.1 hy with rfl | e
  ·exact h1 n (by omega)
  ·exact h2 n (by omega) y e
end Go.Ev
namespace Go.Ev
open Go.Dig
def TwoB (base:Nat) (ob:Nat→Option AObj) (nx sz sz' i:Nat) (x y:AV) (es fs:List (List AV)):Prop:=
 es.length=i∧fs.length=i∧((es=[]∧fs=[]∧x=.nils∧y=.nils)∨∃a va b vb,x=.rsl a va sz 0 i false∧y=.rsl b vb sz' 0 i false∧ob a=some (.row sz es va)∧ob b=some (.row sz' fs vb)∧a<nx∧b<nx∧a≠b∧base≤a∧base≤b)
theorem TwoB.two {base:Nat} {ob:Nat→Option AObj} {nx sz sz' i:Nat} {x y:AV} {es fs:List (List AV)} (h:TwoB base ob nx sz sz' i x y es fs):Two ob nx sz sz' i x y es fs:=by
 obtain ⟨h1,h2,h | ⟨a,va,b,vb,e1,e2,e3,e4,e5,e6,e7,_,_⟩⟩:=h
 ·exact ⟨h1,h2,.inl h⟩
 ·exact ⟨h1,h2,.inr ⟨a,va,b,vb,e1,e2,e3,e4,e5,e6,e7⟩⟩
theorem TwoB.frame {base:Nat} {ob ob':Nat→Option AObj} {nx nx' sz sz' i:Nat} {x y:AV} {es fs:List (List AV)} (h:TwoB base ob nx sz sz' i x y es fs) (hnx:nx≤nx') (hob:∀id,base≤id→id<nx→ob' id=ob id):TwoB base ob' nx' sz sz' i x y es fs:=by
 obtain ⟨h1,h2,h | ⟨a,va,b,vb,e1,e2,e3,e4,e5,e6,e7,e8,e9⟩⟩:=h
 ·exact ⟨h1,h2,.inl h⟩
 ·exact ⟨h1,h2,.inr ⟨a,va,b,vb,e1,e2,by rw [hob a e8 e5];exact e3,by rw [hob b e9 e6];exact e4,by omega,by omega,e7,e8,e9⟩⟩
structure Gate where
 from_:Nat
 to:Nat
 box:Rng
 hold:Int
def Gate.c (g:Gate):List AV:=[.int .u8 (g.from_:Int),.int .u8 (g.to:Int)]++g.box.c++[.int .i64 g.hold]
structure Guard where
 from_:Nat
 to:Nat
 box:Bx
 hold:Int
def Guard.c (g:Guard):List AV:=[.int .u8 (g.from_:Int),.int .u8 (g.to:Int)]++g.box.c++[.int .i64 g.hold]
def Guard.r (g:Guard):List AV:=[.int .u8 (g.from_:Int),.int .u8 (g.to:Int)]++g.box.r++[.int .i64 g.hold]
def Gate.g (g:Gate):Guard:=⟨g.from_,g.to,g.box.b,g.hold⟩
theorem CanL.guard (g:Guard):CanL g.c:=.app (.app (.cons (.int _ _) (.cons (.int _ _) .nil)) (.bx _)) (.cons (.int _ _) .nil)
structure LegIds (b1 b6 b7 base:Nat):Prop where
 h1:b1<base
 h6:b6<base
 h7:b7<base
 h16:b1≠b6
 h17:b1≠b7
 h67:b6≠b7
section
variable {fz:Nat→Nat}
end
end Go.Ev
namespace Go.Ev
open Go.Dig
section
variable {fz:Nat→Nat}
end
structure Leg where
 gates:List Gate
 curves:List (List Spot)
 limits:List Spot
 step:Num
def Leg.c (g:Leg):List AV:=[.sl false (g.gates.map Gate.c),.sl false (g.curves.map fun s=>[.sl false (s.map Spot.c)]),.sl false (g.limits.map Spot.c)]++g.step.c
structure Dev where
 guards:List Guard
 curves:List (List Pt)
 limits:List Pt
 step:Rat
def Dev.c (g:Dev):List AV:=[.sl false (g.guards.map Guard.c),.sl false (g.curves.map fun s=>[.sl false (s.map Pt.c)]),.sl false (g.limits.map Pt.c)]++qC g.step
def Dev.r (g:Dev):List AV:=[.sl false (g.guards.map Guard.r),.sl false (g.curves.map fun s=>[.sl false (s.map Pt.r)]),.sl false (g.limits.map Pt.r)]++rC g.step
def Leg.d (g:Leg):Dev:=⟨g.gates.map Gate.g,g.curves.map fun s=>s.map Spot.p,g.limits.map Spot.p,g.step.q⟩
theorem OutE.frame {sz:Nat} {ob ob':Nat→Option AObj} {nx nx' base:Nat} {x:AV} {es:List (List AV)} (h:OutE sz ob nx x es):True:=trivial
theorem TwoB.out {base:Nat} {ob ob':Nat→Option AObj} {nx sz sz' i:Nat} {x y:AV} {es fs:List (List AV)} (h:TwoB base ob nx sz sz' i x y es fs) (hob:∀id,base≤id→ob' id=ob id) (he:CanonEs es) (hf:CanonEs fs):∃g g':(Nat→Nat)→(Nat→Nat),(∀fz,frz ob' DEPTH fz x=some (g fz,.sl false es))∧∀fz,frz ob' DEPTH fz y=some (g' fz,.sl false fs):=by
 have h':=(h.frame (Nat.le_refl _) (fun id q1 _=>hob id q1)).two
 obtain ⟨g,hg⟩:=h'.fst.frzD he
 obtain ⟨g',hg'⟩:=h'.snd.frzD hf
 exact ⟨g,g',hg,hg'⟩
end Go.Ev
namespace Go.Ev
open Go.Dig
section
variable {fz:Nat→Nat}
end
section
variable {F:Caller} {fuel:Nat} {ob:Nat→Option AObj} {fz:Nat→Nat} {nx:Nat}
end
end Go.Ev
namespace Go.Ev
open Go.RowKit
open Go.Proofs
def numD:TD:=.struct [.int .i64,.int .i64,.int .u8]
def beatD:TD:=.struct [numD,numD,numD]
theorem yd8 {z:Int} (h:(Lit.int .i64 z).wf=true):-9223372036854775808≤z∧z<9223372036854775808:=by
 simp only [Lit.wf,Bool.and_eq_true,decide_eq_true_eq] at h
 have e1:IntKind.i64.min=-9223372036854775808:=by decide
 have e2:IntKind.i64.max=9223372036854775807:=by decide
 rw [e1,e2] at h
 omega
theorem wf_u8 {z:Int} (h:(Lit.int .u8 z).wf=true):∃n:Nat,z=(n:Int)∧n<256:=by
 simp only [Lit.wf,Bool.and_eq_true,decide_eq_true_eq] at h
 have e1:IntKind.u8.min=0:=by decide
 have e2:IntKind.u8.max=255:=by decide
 rw [e1,e2] at h
 exact ⟨z.toNat,by omega,by omega⟩
section
variable {H:Type} {d:DataW H} {xs:List AV}
theorem yb4 (h:IsD numD d xs):∃x:Num,xs=x.c:=by
 unfold numD at h
 simp only [IsD,IsDs] at h
 obtain ⟨ds,-,d1,r1,y1,z1,-,rfl,⟨a,ha,-,rfl⟩,d2,r2,y2,z2,-,rfl,⟨b,hb,-,rfl⟩,d3,r3,y3,z3,-,rfl,⟨c,hc,-,rfl⟩,-,rfl⟩:=h
 have h1:=yd8 ha
 have h2:=yd8 hb
 obtain ⟨p,rfl,hp⟩:=wf_u8 hc
 exact ⟨⟨a,b,p,h1.1,h1.2,h2.1,h2.2,hp⟩,rfl⟩
theorem yqg (h:IsD beatD d xs):∃x:Beat,xs=x.c:=by
 unfold beatD at h
 simp only [IsD,IsDs] at h
 obtain ⟨ds,-,d1,r1,y1,z1,-,rfl,h1,d2,r2,y2,z2,-,rfl,h2,d3,r3,y3,z3,-,rfl,h3,-,rfl⟩:=h
 obtain ⟨x,rfl⟩:=yb4 h1
 obtain ⟨y,rfl⟩:=yb4 h2
 obtain ⟨z,rfl⟩:=yb4 h3
 exact ⟨⟨x,y,z⟩,by rw [List.append_nil,←List.append_assoc];rfl⟩
theorem ygc {x:DataW H} {ds:List (DataW H)} {B:Nat} (hb:YthghhnhojdmcpaaGreat.Rows.uptoBulkAll (x::ds)≤B):YthghhnhojdmcpaaGreat.Rows.uptoBulk x≤B∧YthghhnhojdmcpaaGreat.Rows.uptoBulkAll ds≤B:=by
 simp only [YthghhnhojdmcpaaGreat.Rows.uptoBulkAll] at hb;omega
theorem yrj (h:IsD (.int .i64) d xs):∃z:Int,xs=[.int .i64 z]∧-9223372036854775808≤z∧z<9223372036854775808:=by
 simp only [IsD] at h
 obtain ⟨z,hz,-,rfl⟩:=h
 exact ⟨z,rfl,(yd8 hz).1,(yd8 hz).2⟩
end
end Go.Ev
namespace Go.Ev
open Go.Dig
structure Note where
 ph:Nat
 beat:Beat
 mom:Num
structure Rcd where
 ph:Nat
 s:Samp
 m:Rat
def Note.c (x:Note):List AV:=[.int .u8 (x.ph:Int)]++x.beat.c++x.mom.c
def Rcd.c (x:Rcd):List AV:=[.int .u8 (x.ph:Int)]++x.s.c++qC x.m
def Rcd.r (x:Rcd):List AV:=[.int .u8 (x.ph:Int)]++x.s.r++rC x.m
def Note.q (x:Note):Rcd:=⟨x.ph,x.beat.s,x.mom.q⟩
theorem CanL.rcd (x:Rcd):CanL x.c:=.app (.app (.cons (.int _ _) .nil) (.samp _)) (.q _)
section
variable {fz:Nat→Nat}
end
end Go.Ev
namespace Go.Ev
open Go.RowKit
open Go.Proofs
def noteD:TD:=.struct [.int .u8,beatD,numD]
section
variable {H:Type} {d:DataW H} {xs:List AV}
theorem yq8 (h:IsD noteD d xs):∃x:Note,xs=x.c:=by
 unfold noteD at h
 simp only [IsD,IsDs] at h
 obtain ⟨ds,-,d1,r1,y1,z1,-,rfl,⟨a,ha,-,rfl⟩,d2,r2,y2,z2,-,rfl,h2,d3,r3,y3,z3,-,rfl,h3,-,rfl⟩:=h
 obtain ⟨p,rfl,hp⟩:=wf_u8 ha
 obtain ⟨b,rfl⟩:=yqg h2
 obtain ⟨m,rfl⟩:=yb4 h3
 exact ⟨⟨p,b,m⟩,by rw [List.append_nil];rfl⟩
theorem ylv {B:Nat} (h:IsD (.slice noteD) d xs) (hb:YthghhnhojdmcpaaGreat.Rows.uptoBulk d≤B):∃l:List Note,xs=[.sl false (l.map Note.c)]∧l.length<B:=by
 obtain ⟨l,rfl,hl,-⟩:=yla (c:=Note.c) (Q:=fun _=>True) (fun d xs h _=>by obtain ⟨x,hx⟩:=yq8 h;exact ⟨x,hx,trivial⟩) h hb
 exact ⟨l,rfl,hl⟩
end
end Go.Ev
namespace Go.Ev
open Go.Dig
def byteE (ds:List Nat):List (List AV):=ds.map fun (d:Nat)=>[AV.int .u8 d]
theorem y7p (ds:List Nat):(byteE ds).length=ds.length:=by simp [byteE]
theorem ylp (ds:List Nat) (k:Nat):(byteE ds)[k]? =(ds[k]?).map fun (d:Nat)=>[AV.int .u8 d]:=by simp [byteE]
theorem ym4 (ds:List Nat) (k d:Nat):(byteE ds).set k [AV.int .u8 d]=byteE (ds.set k d):=by simp [byteE,List.map_set]
theorem ye6 (o:List Nat) (d:Nat):byteE o++[[AV.int .u8 (d:Int)]]=byteE (o++[d]):=by simp [byteE]
attribute [go_sem] y7p ylp ym4
theorem yjq {ob:Nat→Option AObj} {id:Nat} {o:AObj} (h:ob id=some o):upd ob id o=ob:=by
 funext k
 by_cases e:k=id
 ·subst e;rw [upd_same,h]
 ·rw [y00 e]
section
variable {F:Caller} {fuel:Nat} {fz:Nat→Nat} {nx:Nat}
set_option maxRecDepth 100000 in
theorem yof {id ver T:Nat} (hid:id<nx) (hfz:fz id=0) (o:List Nat) (hT:o.length=T) (hT2:T<2^60):∀(m i j:Nat),i+j+1=T→j≤m→∀(ob:Nat→Option AObj) (o':List Nat) (X:List (Nat×SV)),o'.length=T→ob id=some (.row 1 (byteE o') ver)→(∀k,k<T→o'[k]? =if k<i∨j<k then o[T-1-k]? else o[k]?)→∀N,m<N→
  ∃X',loopN (evC F fuel Fn.y2q) N ⟨env ((0,.one (.rsl id ver 1 0 T false))::(2,.one (.int .i64 (i:Int)))::(3,.one (.int .i64 (j:Int)))::X),ob,fz,nx⟩=
   some (.ext 0,⟨env ((0,.one (.rsl id ver 1 0 T false))::X'),upd ob id (.row 1 (byteE o.reverse) ver),fz,nx⟩):=by
 intro m
 induction m with
 | zero=>
  intro i j hij hjm ob o' X hol hob hinv N hN
  obtain ⟨N,rfl⟩:∃k,N=k+1:=⟨N-1,by omega⟩
  have hr:o'=o.reverse:=by
   apply List.ext_getElem?
   intro k
   by_cases hk:k<T
   ·rw [hinv k hk,List.getElem?_reverse (by omega),hT]
    split
    ·rfl
    ·rw [show T-1-k=k by omega]
   ·rw [List.getElem?_eq_none (by omega),List.getElem?_eq_none (by rw [List.length_reverse];omega)]
  have hlt:(((i:Nat):Int)<((j:Nat):Int))=False:=by simp;omega
  refine ⟨[(2,.one (.int .i64 (i:Int))),(3,.one (.int .i64 (j:Int))),(9,.one (.bool false))],y09 ?_⟩
  rw [←hr,yjq hob]
  simp only [go_sem,Fn.y2q,hlt]
 | succ m ih=>
  intro i j hij hjm ob o' X hol hob hinv N hN
  obtain ⟨N,rfl⟩:∃k,N=k+1:=⟨N-1,by omega⟩
  by_cases hlt':i<j
  ·have hlt:(((i:Nat):Int)<((j:Nat):Int))=True:=by simp;omega
   obtain ⟨x,gi⟩:∃x,o'[i]? =some x:=⟨o'[i],by simp⟩
   obtain ⟨y,gj⟩:∃y,o'[j]? =some y:=⟨o'[j],by simp⟩
   have w1:IntKind.i64.wrap ((i+1:Nat):Int)=((i+1:Nat):Int):=wi64 (by omega)
   have w2:IntKind.i64.wrap (((j:Nat):Int)-1)=((j-1:Nat):Int):=by rw [wrap_i64 (by omega)];omega
   have li:(i<T)=True:=by simp;omega
   have lj:(j<T)=True:=by simp;omega
   have lid:∀k,(id<nx+k)=True:=fun k=>by simp only [eq_iff_iff,iff_true];omega
   have lid0:(id<nx)=True:=by simp only [eq_iff_iff,iff_true];omega
   have hrow:rowAt ob id ver=some (1,byteE o'):=y25 hob
   have hset:(o'.set i y).length=T:=by simp [hol]
   have gj2:(o'.set i y)[j]? =some y:=by rw [List.getElem?_set_ne (by omega)];exact gj
   have hst:evC F fuel Fn.y2q ⟨env ((0,.one (.rsl id ver 1 0 T false))::(2,.one (.int .i64 (i:Int)))::(3,.one (.int .i64 (j:Int)))::X),ob,fz,nx⟩=
     some (.nrm,⟨env [(0,.one (.rsl id ver 1 0 T false)),(2,.one (.int .i64 ((i+1:Nat):Int))),(3,.one (.int .i64 ((j-1:Nat):Int)))],upd (upd ob id (.row 1 (byteE (o'.set i y)) ver)) id (.row 1 (byteE ((o'.set i y).set j x)) ver),fz,nx⟩):=by
    simp only [go_sem,Fn.y2q,hlt,hob,hrow,gi,gj,gj2,li,lj,lid,lid0,hfz,hol,hset,add1,w1,w2]
   rw [y08 hst]
   obtain ⟨X',hX⟩:=ih (i+1) (j-1) (by omega) (by omega) (upd (upd ob id (.row 1 (byteE (o'.set i y)) ver)) id (.row 1 (byteE ((o'.set i y).set j x)) ver)) ((o'.set i y).set j x) [] (by simp [hol]) (upd_same _ _ _) (fun k hk=>by
    have q:=hinv k hk
    have qi:=hinv i (by omega)
    have qj:=hinv j (by omega)
    rw [if_neg (by omega)] at qi qj
    by_cases e1:k=j
    ·subst e1
     rw [List.getElem?_set_self (by simp;omega),if_pos (by omega),show T-1-k=i by omega,←qi,gi]
    ·rw [List.getElem?_set_ne (by omega)]
     by_cases e2:k=i
     ·subst e2
      rw [List.getElem?_set_self (by omega),if_pos (by omega),show T-1-k=j by omega,←qj,gj]
     ·rw [List.getElem?_set_ne (by omega),q]
      by_cases e3:k<i∨j<k
      ·rw [if_pos e3,if_pos (by omega)]
      ·rw [if_neg e3,if_neg (by omega)]) N (by omega)
   exact ⟨X',by rw [hX,yex,yex]⟩
  ·have hr:o'=o.reverse:=by
    apply List.ext_getElem?
    intro k
    by_cases hk:k<T
    ·rw [hinv k hk,List.getElem?_reverse (by omega),hT]
     split
     ·rfl
     ·rw [show T-1-k=k by omega]
    ·rw [List.getElem?_eq_none (by omega),List.getElem?_eq_none (by rw [List.length_reverse];omega)]
   have hlt:(((i:Nat):Int)<((j:Nat):Int))=False:=by simp;omega
   refine ⟨[(2,.one (.int .i64 (i:Int))),(3,.one (.int .i64 (j:Int))),(9,.one (.bool false))],y09 ?_⟩
   rw [←hr,yjq hob]
   simp only [go_sem,Fn.y2q,hlt]
end
theorem yr2 {n id ver:Nat} {ob:Nat→Option AObj} {fz:Nat→Nat} {nx:Nat} (hid:id<nx) (hfz:fz id=0) (o:List Nat) (h1:1≤o.length) (h2:o.length<2^60) (hob:ob id=some (.row 1 (byteE o) ver)) (hn:o.length+1≤n):
  evF E (n+1) (.fn Id.y0u) [.one (.rsl id ver 1 0 o.length false)] ⟨ob,fz,nx⟩=some (.tup [],⟨upd ob id (.row 1 (byteE o.reverse) ver),fz,nx⟩):=by
 rw [y88 y7v]
 obtain ⟨X',hX⟩:=yof (F:=evF E n) (fuel:=n) (nx:=nx) hid hfz o rfl h2 (o.length-1) 0 (o.length-1) (by omega) (Nat.le_refl _) ob o [] rfl hob (fun k hk=>by
  rw [if_neg (by omega)]) n (by omega)
 have w1:IntKind.i64.wrap (((o.length:Nat):Int)-1)=((o.length-1:Nat):Int):=by rw [wrap_i64 (by omega)];omega
 rw [show ((0:Nat):Int)=0 from rfl] at hX
 simp only [go_sem,Fn.y0u,w1,hX,yhq]
end Go.Ev
namespace Go.Ev
open Go.Dig
def padD:Nat→Nat→List Nat
 | 0,_=>[]
 | k+1,d=>d%10::padD k (d / 10)
theorem yia {q:Nat} (hq:q≠0):∀(k d:Nat),d<10^k→digs 10 (d+10^k*q)=padD k d++digs 10 q
 | 0,d,h=>by
  have:d=0:=by simpa using h
  subst this
  simp [padD]
 | k+1,d,h=>by
  have hp:0<10^(k+1)*q:=Nat.mul_pos (Nat.pow_pos (by decide)) (Nat.pos_of_ne_zero hq)
  rw [y5f (by decide) (by omega)]
  have e:10^(k+1)*q=10*(10^k*q):=by rw [Nat.pow_succ];rw [Nat.mul_comm (10^k) 10,Nat.mul_assoc]
  have e1:(d+10^(k+1)*q)%10=d%10:=by omega
  have e2:(d+10^(k+1)*q) / 10=d / 10+10^k*q:=by omega
  rw [e1,e2,yia hq k (d / 10) (by rw [Nat.pow_succ] at h;omega)]
  rfl
def chD (ds:List Nat):List Nat:=ds.map (48+·)
theorem yro (a b:List Nat):chD (a++b)=chD a++chD b:=by simp [chD]
def tailD (q k d:Nat):List Nat:=if q≠0 then padD k d else digs 10 d
theorem ykq {q k d:Nat} (h:q≠0∨d≠0):tailD q (k+1) d=d%10::tailD q k (d / 10):=by
 unfold tailD
 by_cases hq:q≠0
 ·rw [if_pos hq,if_pos hq];rfl
 ·rw [if_neg hq,if_neg hq,y5f (by decide) (by omega)]
theorem ylw (a:Nat):tailD (a / 1000000000) 9 (a%1000000000)++digs 10 (a / 1000000000)=digs 10 a:=by
 unfold tailD
 have e:a%1000000000+1000000000*(a / 1000000000)=a:=Nat.mod_add_div a 1000000000
 by_cases hq:a / 1000000000≠0
 ·rw [if_pos hq,←yia hq 9 _ (by show _<1000000000;omega)]
  rw [show (10:Nat)^9=1000000000 from rfl,e]
 ·rw [if_neg hq]
  have h0:a / 1000000000=0:=by omega
  rw [h0,y0p,List.append_nil,Nat.mod_eq_of_lt (by omega)]
section
variable {F:Caller} {fuel:Nat} {fz:Nat→Nat}
set_option maxRecDepth 100000 in
theorem yn9 {ob:Nat→Option AObj} {nx:Nat} (q d i:Nat) (hi:i<9) (hqd:q≠0∨d≠0) (hd:d<10^9) (x:AV) (o:List Nat) (ho:o.length<2^40) (hx:OutE 1 ob nx x (byteE o)) (X:List (Nat×SV)):∃ob' nx' x',
  evC F fuel Fn.y0x ⟨env ((3,.one x)::(4,.one (natV q))::(6,.one (.int .u64 (d:Int)))::(7,.one (.int .i64 (i:Int)))::X),ob,fz,nx⟩=
   some (.nrm,⟨env [(3,.one x'),(4,.one (natV q)),(6,.one (.int .u64 ((d / 10:Nat):Int))),(7,.one (.int .i64 ((i+1:Nat):Int)))],ob',fz,nx'⟩)∧nx≤nx'∧OutE 1 ob' nx' x' (byteE (o++[48+d%10])):=by
 have hd9:d<1000000000:=hd
 have h1:(((i:Nat):Int)<9)=True:=by simp;omega
 have wk:IntKind.i64.wrap ((i+1:Nat):Int)=((i+1:Nat):Int):=wi64 (by omega)
 have t10:((10:Int)=0)=False:=by simp
 have m1:((d:Nat):Int).tmod 10=((d%10:Nat):Int):=by rw [Int.tmod_eq_emod_of_nonneg (by omega)];omega
 have m2:IntKind.u64.wrap (48+((d%10:Nat):Int))=((48+d%10:Nat):Int):=by
  have:(48+((d%10:Nat):Int))=((48+d%10:Nat):Int):=by omega
  rw [this,IntKind.wrap_u64];omega
 have m3:IntKind.u8.wrap ((48+d%10:Nat):Int)=((48+d%10:Nat):Int):=by rw [IntKind.wrap_u8];omega
 have m4:IntKind.u64.wrap (((d:Nat):Int).tdiv 10)=((d / 10:Nat):Int):=by
  rw [Int.tdiv_eq_ediv_of_nonneg (by omega)]
  have:((d:Nat):Int) / 10=((d / 10:Nat):Int):=by omega
  rw [this,IntKind.wrap_u64];omega
 have gd:(((d:Nat):Int)>0)=(d≠0):=by rw [eq_iff_iff];omega
 have gq:(((digs B32 q).length:Int)>0)=(q≠0):=by
  by_cases h0:q=0
  ·subst h0;rw [y0p];simp
  ·have:=y3f (B:=B32) (by decide) h0
   have:(digs B32 q).length≠0:=fun e=>this (List.length_eq_zero_iff.1 e)
   simp only [eq_iff_iff,ne_eq,h0,not_false_eq_true,iff_true];omega
 have one8:[[AV.int .u8 ((48+d%10:Nat):Int)]]=byteE [48+d%10]:=rfl
 unfold natV at*
 have key:∀(gq':((digs B32 q).length:Int)>0∨True),∃ob' nx' x',
  evC F fuel Fn.y0x ⟨env ((3,.one x)::(4,.one (.sl false (natE (digs B32 q))))::(6,.one (.int .u64 (d:Int)))::(7,.one (.int .i64 (i:Int)))::X),ob,fz,nx⟩=
   some (.nrm,⟨env [(3,.one x'),(4,.one (.sl false (natE (digs B32 q)))),(6,.one (.int .u64 ((d / 10:Nat):Int))),(7,.one (.int .i64 ((i+1:Nat):Int)))],ob',fz,nx'⟩)∧nx≤nx'∧OutE 1 ob' nx' x' (byteE (o++[48+d%10])):=by
  intro _
  by_cases hq:q≠0
  ·have gq1:(((digs B32 q).length:Int)>0)=True:=by rw [gq];simp [hq]
   rcases hx with ⟨he,rfl⟩ | ⟨a,va,rfl,h2,h3⟩
   ·have ho0:o=[]:=by simpa [byteE] using he
    subst ho0
    obtain ⟨r,hr0⟩:∃r,evC F fuel Fn.y0x ⟨env ((3,.one .nils)::(4,.one (.sl false (natE (digs B32 q))))::(6,.one (.int .u64 (d:Int)))::(7,.one (.int .i64 (i:Int)))::X),ob,fz,nx⟩=r:=⟨_,rfl⟩
    have hr:=hr0
    simp only [go_sem,Fn.y0x,y47,h1,gq1,gd,t10,m1,m2,m3,m4,okSz,ROOM,Nat.reduceBEq,add1,wk] at hr
    rw [hr0,←hr]
    exact ⟨_,_,_,rfl,by omega,.inr ⟨_,0,rfl,upd_same _ _ _,by omega⟩⟩
   ·have hrow:∀k y,rowAt (upd ob (nx+k) y) a va=some (1,byteE o):=fun k y=>(y3z (by omega)).trans (y25 h2)
    have w1:(o.length+1)*1≤140737488355328:=by omega
    obtain ⟨r,hr0⟩:∃r,evC F fuel Fn.y0x ⟨env ((3,.one (.rsl a va 1 0 (byteE o).length false))::(4,.one (.sl false (natE (digs B32 q))))::(6,.one (.int .u64 (d:Int)))::(7,.one (.int .i64 (i:Int)))::X),ob,fz,nx⟩=r:=⟨_,rfl⟩
    have hr:=hr0
    simp only [go_sem,Fn.y0x,y47,h1,gq1,gd,t10,m1,m2,m3,m4,okSz,ROOM,Nat.reduceBEq,hrow,w1,beq_self_eq_true,add1,wk] at hr
    rw [hr0,←hr]
    refine ⟨_,_,_,rfl,by omega,.inr ⟨a,va+1, ?_, ?_,by omega⟩⟩
    ·rw [y7p,List.length_append];rfl
    ·rw [←ye6];exact upd_same _ _ _
  ·have hd0:(d≠0)=True:=by rw [eq_iff_iff];simp;omega
   have gq1:(((digs B32 q).length:Int)>0)=False:=by rw [gq];simp [hq]
   rcases hx with ⟨he,rfl⟩ | ⟨a,va,rfl,h2,h3⟩
   ·have ho0:o=[]:=by simpa [byteE] using he
    subst ho0
    obtain ⟨r,hr0⟩:∃r,evC F fuel Fn.y0x ⟨env ((3,.one .nils)::(4,.one (.sl false (natE (digs B32 q))))::(6,.one (.int .u64 (d:Int)))::(7,.one (.int .i64 (i:Int)))::X),ob,fz,nx⟩=r:=⟨_,rfl⟩
    have hr:=hr0
    simp only [go_sem,Fn.y0x,y47,h1,gq1,gd,hd0,t10,m1,m2,m3,m4,okSz,ROOM,Nat.reduceBEq,add1,wk] at hr
    rw [hr0,←hr]
    exact ⟨_,_,_,rfl,by omega,.inr ⟨_,0,rfl,upd_same _ _ _,by omega⟩⟩
   ·have hrow:∀k y,rowAt (upd ob (nx+k) y) a va=some (1,byteE o):=fun k y=>(y3z (by omega)).trans (y25 h2)
    have w1:(o.length+1)*1≤140737488355328:=by omega
    obtain ⟨r,hr0⟩:∃r,evC F fuel Fn.y0x ⟨env ((3,.one (.rsl a va 1 0 (byteE o).length false))::(4,.one (.sl false (natE (digs B32 q))))::(6,.one (.int .u64 (d:Int)))::(7,.one (.int .i64 (i:Int)))::X),ob,fz,nx⟩=r:=⟨_,rfl⟩
    have hr:=hr0
    simp only [go_sem,Fn.y0x,y47,h1,gq1,gd,hd0,t10,m1,m2,m3,m4,okSz,ROOM,Nat.reduceBEq,hrow,w1,beq_self_eq_true,add1,wk] at hr
    rw [hr0,←hr]
    refine ⟨_,_,_,rfl,by omega,.inr ⟨a,va+1, ?_, ?_,by omega⟩⟩
    ·rw [y7p,List.length_append];rfl
    ·rw [←ye6];exact upd_same _ _ _
 exact key (.inr trivial)
end
end Go.Ev
namespace Go.Ev
open Go.Dig
def strB (l:List Nat):ByteArray:=byteStr (l.map fun (d:Nat)=>(d:Int))
theorem ybu:∀l:List Nat,bytesOf (byteE l)=some (l.map fun (d:Nat)=>(d:Int))
 | []=>rfl
 | d::r=>by
  have ih:=ybu r
  show (match byteOf [AV.int .u8 (d:Int)],bytesOf (byteE r) with
   | some n,some l=>some (n::l)
   | _,_=>none)=_
  rw [ih];rfl
theorem y9s:∀(k d:Nat),(padD k d).length=k
 | 0,_=>rfl
 | k+1,d=>by unfold padD;rw [List.length_cons,y9s k]
def decL (a:Nat):List Nat:=if a=0 then [48] else (chD (digs 10 a)).reverse
section
variable {fz:Nat→Nat}
set_option maxRecDepth 100000 in
theorem ymo {F:Caller} {fuel:Nat} (q:Nat):∀(m i d:Nat),i+m=9→d<10^m→∀(ob:Nat→Option AObj) (nx:Nat) (x:AV) (o:List Nat) (X:List (Nat×SV)),o.length+m<2^40→OutE 1 ob nx x (byteE o)→∀N,m<N→
  ∃ob' nx' x' X',loopN (evC F fuel Fn.y0x) N ⟨env ((3,.one x)::(4,.one (natV q))::(6,.one (.int .u64 (d:Int)))::(7,.one (.int .i64 (i:Int)))::X),ob,fz,nx⟩=
   some (.ext 2,⟨env ((3,.one x')::(4,.one (natV q))::X'),ob',fz,nx'⟩)∧nx≤nx'∧OutE 1 ob' nx' x' (byteE (o++chD (tailD q m d))):=by
 intro m
 induction m with
 | zero=>
  intro i d hi hd ob nx x o X ho hx N hN
  obtain ⟨N,rfl⟩:∃k,N=k+1:=⟨N-1,by omega⟩
  have h1:(((i:Nat):Int)<9)=False:=by simp;omega
  have h0:d=0:=by simpa using hd
  have e:tailD q 0 d=[]:=by
   unfold tailD
   rw [h0,y0p]
   split<;>rfl
  rw [e]
  refine ⟨ob,nx,x,[(6,.one (.int .u64 (d:Int))),(7,.one (.int .i64 (i:Int))),(31,.one (.bool false))],y09 ?_,Nat.le_refl _,by simpa [chD] using hx⟩
  simp only [go_sem,Fn.y0x,h1]
 | succ m ih=>
  intro i d hi hd ob nx x o X ho hx N hN
  obtain ⟨N,rfl⟩:∃k,N=k+1:=⟨N-1,by omega⟩
  by_cases hqd:q≠0∨d≠0
  ·have hd9:d<10^9:=Nat.lt_of_lt_of_le hd (Nat.pow_le_pow_right (by decide) (by omega))
   obtain ⟨ob1,nx1,x1,hst,g1,g2⟩:=yn9 (F:=F) (fuel:=fuel) (fz:=fz) q d i (by omega) hqd hd9 x o (by omega) hx X
   obtain ⟨ob',nx',x',X',k1,k2,k3⟩:=ih (i+1) (d / 10) (by omega) (by rw [Nat.pow_succ] at hd;omega) ob1 nx1 x1 (o++[48+d%10]) [] (by rw [List.length_append];simp;omega) g2 N (by omega)
   refine ⟨ob',nx',x',X',by rw [y08 hst];exact k1,by omega, ?_⟩
   rw [ykq hqd]
   have:o++chD (d%10::tailD q m (d / 10))=o++[48+d%10]++chD (tailD q m (d / 10)):=by simp [chD]
   rw [this];exact k3
  ·have hq0:q=0:=by omega
   have hd0:d=0:=by omega
   subst hq0 hd0
   have h1:(((i:Nat):Int)<9)=True:=by simp;omega
   have e:tailD 0 (m+1) 0=[]:=by unfold tailD;rw [if_neg (by simp),y0p]
   rw [e]
   have hq:(((digs B32 0).length:Int)>0)=False:=by rw [y0p];simp
   have hd:(((0:Nat):Int)>0)=False:=by simp
   refine ⟨ob,nx,x,[(6,.one (.int .u64 ((0:Nat):Int))),(7,.one (.int .i64 (i:Int))),(31,.one (.bool false))],y09 ?_,Nat.le_refl _,by simpa [chD] using hx⟩
   unfold natV
   simp only [go_sem,Fn.y0x,y47,h1,hq,hd]
set_option maxRecDepth 100000 in
theorem ylo {n:Nat}:∀(k a:Nat),a<2^k→k+30≤n→k<2^36→∀(ob:Nat→Option AObj) (nx:Nat) (x:AV) (o:List Nat) (X:List (Nat×SV)),o.length+9*k<2^39+(2^39-1)→OutE 1 ob nx x (byteE o)→∀N,k<N→
  ∃ob' nx' x' X',loopN (evC (evF E n) n Fn.y3x) N ⟨env ((0,.one (natV a))::(3,.one x)::X),ob,fz,nx⟩=
   some (.ext 0,⟨env ((0,.one (natV 0))::(3,.one x')::X'),ob',fz,nx'⟩)∧nx≤nx'∧OutE 1 ob' nx' x' (byteE (o++chD (digs 10 a))):=by
 intro k
 induction k with
 | zero=>
  intro a ha hn hk ob nx x o X ho hx N hN
  obtain ⟨N,rfl⟩:∃k,N=k+1:=⟨N-1,by omega⟩
  have h0:a=0:=by simpa using ha
  subst h0
  have hq:(((digs B32 0).length:Int)>0)=False:=by rw [y0p];simp
  refine ⟨ob,nx,x,[(13,.one (.bool false))],y09 ?_,Nat.le_refl _,by rw [y0p];simpa [chD] using hx⟩
  unfold natV
  simp only [go_sem,Fn.y3x,y47,hq]
 | succ k ih=>
  intro a ha hn hk ob nx x o X ho hx N hN
  obtain ⟨N,rfl⟩:∃k,N=k+1:=⟨N-1,by omega⟩
  by_cases h0:a=0
  ·subst h0
   have hq:(((digs B32 0).length:Int)>0)=False:=by rw [y0p];simp
   refine ⟨ob,nx,x,[(13,.one (.bool false))],y09 ?_,Nat.le_refl _,by rw [y0p];simpa [chD] using hx⟩
   unfold natV
   simp only [go_sem,Fn.y3x,y47,hq]
  ·have hq:(((digs B32 a).length:Int)>0)=True:=by
    have:=y3f (B:=B32) (by decide) h0
    have:(digs B32 a).length≠0:=fun e=>this (List.length_eq_zero_iff.1 e)
    simp;omega
   have hla:=y4r ha
   have hlr:dlen B32 (a%1000000000)≤2:=y45 (by decide) (by
    have h1:a%1000000000<1000000000:=Nat.mod_lt _ (by decide)
    have h2:(1000000000:Nat)≤B32^2:=by decide
    omega)
   obtain ⟨n,rfl⟩:∃j,n=j+1:=⟨n-1,by omega⟩
   have k1:=y01 (ygb a 1000000000 (by decide) (by decide) (by omega) (n:=n) (by omega)) (can2 (y0q _) (y24 _ _))
   have k2:=y01 (yaz (a%1000000000) hlr (n:=n) (by omega)) (can1 (y0q _))
   have hd:a%1000000000<10^9:=Nat.mod_lt _ (by decide)
   obtain ⟨ob1,nx1,x1,X1,q1,q2,q3⟩:=ymo (F:=evF E (n+1)) (fuel:=n+1) (fz:=fz) (a / 1000000000) 9 0 (a%1000000000) rfl hd ob nx x o [] (by omega) hx (n+1) (by omega)
   have z0:((0:Nat):Int)=0:=rfl
   have z1:((1000000000:Nat):Int)=1000000000:=rfl
   rw [z0] at q1
   rw [z1] at k1
   have hlt:a / 1000000000<2^k:=by rw [Nat.pow_succ] at ha;omega
   have tl:(chD (tailD (a / 1000000000) 9 (a%1000000000))).length≤9:=by
    unfold chD tailD
    rw [List.length_map]
    split
    ·rw [y9s];exact Nat.le_refl _
    ·exact y45 (B:=10) (by decide) hd
   obtain ⟨ob',nx',x',X',r1,r2,r3⟩:=ih (a / 1000000000) hlt (by omega) (by omega) ob1 nx1 x1 (o++chD (tailD (a / 1000000000) 9 (a%1000000000))) [] (by rw [List.length_append];omega) q3 N (by omega)
   have hst:evC (evF E (n+1)) (n+1) Fn.y3x ⟨env ((0,.one (natV a))::(3,.one x)::X),ob,fz,nx⟩=some (.nrm,⟨env [(0,.one (natV (a / 1000000000))),(3,.one x1)],ob1,fz,nx1⟩):=by
    unfold natV at k1 k2 q1 ⊢
    simp only [go_sem,Fn.y3x,y47,hq,k1,k2,q1]
   refine ⟨ob',nx',x',X',by rw [y08 hst];exact r1,by omega, ?_⟩
   have e:=ylw a
   have:o++chD (digs 10 a)=o++chD (tailD (a / 1000000000) 9 (a%1000000000))++chD (digs 10 (a / 1000000000)):=by rw [←e,yro,List.append_assoc]
   rw [this];exact r3
end
theorem y5b (ob:Nat→Option AObj) (fz:Nat→Nat) (b:ByteArray):frzS ob fz (.one (.str b))=some (fz,.one (.str b)):=Eq.trans rfl rfl
theorem y9i {a:Nat} (h:a≠0):decL a=(chD (digs 10 a)).reverse:=by unfold decL;rw [if_neg h]
theorem yc2 {x S:Nat} (h:x<2^S):(digs 10 x).length≤S:=by
 have h2:x<10^S:=Nat.lt_of_lt_of_le h (Nat.pow_le_pow_left (by decide) S)
 exact y45 (B:=10) (by decide) h2
set_option maxRecDepth 100000 in
theorem yc1 (a:Nat) {S:Nat} (ha:a<2^S) (hS:S<2^35) {n:Nat} (hn:2*S+40≤n):evV E (n+1) Id.y1j [.one (natV a)]=some (.one (.str (strB (decL a)))):=by
 rw [y06 ya4]
 by_cases h0:a=0
 ·subst h0
  have hq:(((digs B32 0).length:Int)==0)=true:=by rw [y0p];rfl
  have e:strB (decL 0)=⟨#[48]⟩:=by rfl
  rw [e]
  unfold natV
  simp only [go_sem,Fn.y1j,y47,hq,y5b]
 ·have hq:(((digs B32 a).length:Int)==0)=false:=by
   have:=y3f (B:=B32) (by decide) h0
   have:(digs B32 a).length≠0:=fun e=>this (List.length_eq_zero_iff.1 e)
   simp only [beq_eq_false_iff_ne,ne_eq];omega
  rw [y9i h0]
  obtain ⟨ob',nx',x',X',hloop,g1,g2⟩:=ylo (fz:=fz0) (n:=n) S a ha (by omega) (by omega) ob0 0 .nils [] [] (by simp;omega) (.inl ⟨rfl,rfl⟩) n (by omega)
  rw [List.nil_append] at g2
  have hl10:=yc2 ha
  have hne:digs 10 a≠[]:=y3f (by decide) h0
  have hlen:(chD (digs 10 a)).length=(digs 10 a).length:=by simp [chD]
  have hpos:0<(digs 10 a).length:=List.length_pos_iff.2 hne
  generalize hD:chD (digs 10 a)=D at*
  rcases g2 with ⟨he,-⟩ | ⟨id,ver,rfl,hob,hid⟩
  ·have:D=[]:=by simpa [byteE] using he
   rw [this] at hlen;simp at hlen;omega
  ·obtain ⟨n,rfl⟩:∃j,n=j+1:=⟨n-1,by omega⟩
   have hrev:=yr2 (n:=n) (fz:=fz0) hid rfl D (by omega) (by omega) hob (by omega)
   have hrow:=y25 (upd_same ob' id (.row 1 (byteE D.reverse) ver))
   have hle:(D.length≤D.reverse.length)=True:=by rw [List.length_reverse];simp
   have htk:(byteE D.reverse).take D.length=byteE D.reverse:=List.take_of_length_le (by rw [y7p,List.length_reverse];exact Nat.le_refl _)
   have hby:=ybu D.reverse
   rw [y7p] at hloop
   unfold natV at hloop ⊢
   generalize upd ob' id (.row 1 (byteE D.reverse) ver)=obR at hrev hrow
   simp only [go_sem,Fn.y1j,y47,hq,hloop,hrev,hrow,hle,htk,hby,beq_self_eq_true,y5b]
   rfl
end Go.Ev
namespace Go.Ev
open Go.Dig
theorem ydb:∀(l:List Int) (s:ByteArray),(l.foldl (fun r n=>r.push (UInt8.ofNat n.toNat)) s).data=s.data++(l.map fun n=>UInt8.ofNat n.toNat).toArray
 | [],s=>by simp
 | n::r,s=>by
  rw [List.foldl_cons,ydb r]
  simp [ByteArray.push]
theorem y5y (l:List Nat):(strB l).data=(l.map fun d=>UInt8.ofNat d).toArray:=by
 unfold strB byteStr
 rw [ydb]
 simp [ByteArray.empty,ByteArray.emptyWithCapacity]
 rfl
theorem yon (a b:List Nat):strB (a++b)=strB a++strB b:=by
 apply ByteArray.ext
 rw [ByteArray.data_append,y5y,y5y,y5y]
 simp
def txtL (q:Rat):List Nat:=(if q.num<0 then 45::decL q.num.natAbs else decL q.num.natAbs)++(if q.den=1 then [] else 47::decL q.den)
theorem y8s (l:List Nat):(strB l).size=l.length:=by
 show (strB l).data.size=_
 rw [y5y];simp
theorem y9f {a S:Nat} (h:a<2^S):(decL a).length≤S+1:=by
 unfold decL
 split
 ·simp
 ·rw [List.length_reverse]
  have:=yc2 h
  simp only [chD,List.length_map];omega
theorem y6o (a b:List Nat) (h:a.length+b.length<2^60):binS .add (strB a) (strB b)=some (.str (strB (a++b))):=by
 have hmax:IntKind.i64.max=9223372036854775807:=rfl
 show (if (((strB a).size+(strB b).size:Nat):Int)>IntKind.i64.max then none else some (AV.str (strB a++strB b)))=_
 rw [y8s,y8s,if_neg (by rw [hmax];omega),yon]
theorem yl8 (a:ByteArray):binS .eql a a=some (.bool true):=by
 show some (AV.bool (a.toList==a.toList))=_
 rw [beq_self_eq_true]
set_option maxRecDepth 100000 in
theorem yo5 (q:Rat) {S:Nat} (h:SmQ S q) (hS:S<2^34) {n:Nat} (hn:2*S+100≤n):evV E (n+1) Id.y2o [qV q]=some (.one (.str (strB (txtL q)))):=by
 rw [y06 yf2]
 obtain ⟨n,rfl⟩:∃j,n=j+1:=⟨n-1,by omega⟩
 have k1:=y01 (yc1 q.num.natAbs h.num (by omega) (n:=n) (by omega)) (can1 (y0q _))
 have k2:=y01 (yc1 q.den h.den (by omega) (n:=n) (by omega)) (can1 (y0q _))
 have k3:=y8d q h.den (by omega) (n:=n+1) (by omega)
 have hpos:=q.den_pos
 have s1:=y9f h.num
 have s2:=y9f h.den
 have g1:binS .add ⟨#[45]⟩ (strB (decL q.num.natAbs))=some (.str (strB (45::decL q.num.natAbs))):=y6o [45] _ (by simp;omega)
 have g2:binS .add ⟨#[47]⟩ (strB (decL q.den))=some (.str (strB (47::decL q.den))):=y6o [47] _ (by simp;omega)
 have g3:∀l:List Nat,l.length≤S+2→binS .add (strB l) (strB (47::decL q.den))=some (.str (strB (l++47::decL q.den))):=fun l hl=>y6o l _ (by simp;omega)
 have gd:(((digs B32 (q.den-1)).length:Int)>0)=(q.den≠1):=by
  by_cases h0:q.den=1
  ·rw [h0,Nat.sub_self,y0p];simp
  ·have:=y3f (B:=B32) (n:=q.den-1) (by decide) (by omega)
   have:(digs B32 (q.den-1)).length≠0:=fun e=>this (List.length_eq_zero_iff.1 e)
   simp only [eq_iff_iff,ne_eq,h0,not_false_eq_true,iff_true];omega
 unfold txtL
 unfold qV qC at k3 ⊢
 generalize hd1:decL q.num.natAbs=D at*
 generalize hd2:decL q.den=D2 at*
 unfold natV at k1 k2 k3 ⊢
 by_cases hn:q.num<0
 ·have g3:=g3 (45::D) (by simp;omega)
  rw [decide_eq_true hn,if_pos hn] at*
  by_cases h1:q.den=1
  ·have gd':(((digs B32 (q.den-1)).length:Int)>0)=False:=by rw [gd];simp [h1]
   rw [if_pos h1,List.append_nil]
   simp only [go_sem,Fn.y2o,y47,k1,g1,gd',y5b]
  ·have gd':(((digs B32 (q.den-1)).length:Int)>0)=True:=by rw [gd];simp [h1]
   rw [if_neg h1]
   simp only [go_sem,Fn.y2o,y47,k1,k2,k3,g1,g2,g3,gd',y5b]
 ·have g3:=g3 D (by omega)
  rw [decide_eq_false hn,if_neg hn] at*
  by_cases h1:q.den=1
  ·have gd':(((digs B32 (q.den-1)).length:Int)>0)=False:=by rw [gd];simp [h1]
   rw [if_pos h1,List.append_nil]
   simp only [go_sem,Fn.y2o,y47,k1,gd',y5b]
  ·have gd':(((digs B32 (q.den-1)).length:Int)>0)=True:=by rw [gd];simp [h1]
   rw [if_neg h1]
   simp only [go_sem,Fn.y2o,y47,k1,k2,k3,g2,g3,gd',y5b]
end Go.Ev
namespace Go.Ev
open Go.Dig
section
variable {F:Caller} {fuel:Nat} {fz:Nat→Nat}
end
end Go.Ev
namespace Go.Ev
open Go.Dig
section
variable {F:Caller} {fuel:Nat} {fz:Nat→Nat}
def PlusEnd (M v:Nat) (o:List Nat):Prop:=(∀d∈o,d<BT)∧val BT o=v∧(o.length=M∨(o.length=M+1∧BT^M≤v))
end
theorem yog (o:List Nat) (hd:∀d∈o,d<BT) (hl:o.length≤dlen BT (val BT o)):o=digs BT (val BT o):=by
 have h1:=y9a BT2 o hd
 have h2:=y8u o
 rw [h1] at h2
 unfold dlen at hl
 rw [List.take_of_length_le hl] at h2
 exact h2
theorem PlusEnd.eq {M a b:Nat} {o:List Nat} (h:PlusEnd M (a+b) o) (hM:M≤dlen BT (a+b)):o=digs BT (a+b):=by
 obtain ⟨hd,hv,hl⟩:=h
 have:=yog o hd (by
  rw [hv]
  rcases hl with hl | ⟨hl,hb⟩
  ·omega
  ·rw [hl]
   have h1:=y58 BT2 (a+b)
   have h2:BT^M<BT^dlen BT (a+b):=by omega
   exact (Nat.pow_lt_pow_iff_right (by decide)).1 h2)
 rw [hv] at this
 exact this
theorem ymr (a b:Int) (ha:dlen BT a.natAbs<2^38) (hb:dlen BT b.natAbs<2^38) {n:Nat} (hn:dlen BT a.natAbs+dlen BT b.natAbs+8≤n):evV E (n+1) Id.y1q [sV a,sV b]=some (.one (.int .i64 (cmpZ a b))):=by
 rw [y06 ybg]
 obtain ⟨n,rfl⟩:∃k,n=k+1:=⟨n-1,by omega⟩
 have hab:=y01 (ycx a.natAbs b.natAbs (by omega) (n:=n) (by omega)) (can2 (y3b _) (y3b _))
 have hba:=y01 (ycx b.natAbs a.natAbs (by omega) (n:=n) (by omega)) (can2 (y3b _) (y3b _))
 unfold zD at hab hba
 unfold sV zC zD
 by_cases h1:a<0
 ·by_cases h2:b<0
  ·have e:cmpZ a b=cmpI b.natAbs a.natAbs:=by
    unfold cmpZ cmpI
    clear hab hba
    split
    ·rw [if_pos (by omega)]
    ·split
     ·rw [if_neg (by omega),if_pos (by omega)]
     ·rw [if_neg (by omega),if_neg (by omega)]
   rw [e,decide_eq_true h1,decide_eq_true h2]
   have n0:(!(true==true))=false:=rfl
   simp only [go_sem,Fn.y1q,n0,hba]
  ·have e:cmpZ a b=-1:=by unfold cmpZ;rw [if_pos (by omega)]
   rw [e,decide_eq_true h1,decide_eq_false h2]
   have n0:(!(true==false))=true:=rfl
   simp only [go_sem,Fn.y1q,n0]
 ·by_cases h2:b<0
  ·have e:cmpZ a b=1:=by unfold cmpZ;rw [if_neg (by omega),if_pos (by omega)]
   rw [e,decide_eq_false h1,decide_eq_true h2]
   have n0:(!(false==true))=true:=rfl
   simp only [go_sem,Fn.y1q,n0]
  ·have e:cmpZ a b=cmpI a.natAbs b.natAbs:=by
    unfold cmpZ cmpI
    clear hab hba
    split
    ·rw [if_pos (by omega)]
    ·split
     ·rw [if_neg (by omega),if_pos (by omega)]
     ·rw [if_neg (by omega),if_neg (by omega)]
   rw [e,decide_eq_false h1,decide_eq_false h2]
   have n0:(!(false==false))=false:=rfl
   simp only [go_sem,Fn.y1q,n0,hab]
end Go.Ev
namespace Go.Ev
open Go.Dig
theorem ygz {S:Nat} (a b:Rat) (ha:SmQ S a) (hb:SmQ S b) (hS:S≤2^30):Calling Id.y1b [.agg (qC a),.agg (qC b)] (.one (.int .i64 (cmpQ a b))):=
 (Ends.of (4*(S+S)+100) fun hn=>yey a b ha hb (by omega) hn:Ends Id.y1b [.agg (qC a),.agg (qC b)] (.one (.int .i64 (cmpQ a b)))).call (can2 (y52 _) (y52 _))
structure SmSamp (s:Samp):Prop where
 load:SmQ 256 s.load
 angle:SmQ 256 s.angle
 speed:SmQ 256 s.speed
theorem Beat.sm (b:Beat):SmSamp b.s:=⟨Num.qS _,Num.qS _,Num.qS _⟩
structure SmBx (b:Bx):Prop where
 low:SmSamp b.low
 high:SmSamp b.high
theorem Rng.sm (b:Rng):SmBx b.b:=⟨Beat.sm _,Beat.sm _⟩
def amongB (q lo hi:Rat):Bool:=decide (cmpQ q lo≥0)&&decide (cmpQ q hi≤0)
theorem ykn (q lo hi:Rat) (h1:SmQ 256 q) (h2:SmQ 256 lo) (h3:SmQ 256 hi):Ends Id.y32 [.agg (qC q),.agg (qC lo),.agg (qC hi)] (.one (.bool (amongB q lo hi))):=by
 obtain ⟨N1,k1⟩:=ygz q lo h1 h2 (by decide)
 obtain ⟨N2,k2⟩:=ygz q hi h1 h3 (by decide)
 refine .of (N1+N2) fun {n} hn=> ?_
 have k1:=k1 n (by omega)
 have k2:=k2 n (by omega)
 rw [y06 yid]
 unfold amongB
 obtain ⟨a1,a2,a3,ea,-,-,-⟩:=y0n q
 obtain ⟨b1,b2,b3,eb,-,-,-⟩:=y0n lo
 obtain ⟨c1,c2,c3,ec,-,-,-⟩:=y0n hi
 simp only [ea,eb,ec] at k1 k2 ⊢
 generalize cmpQ q lo=x at*
 generalize cmpQ q hi=y at*
 by_cases g:x≥0
 ·simp only [go_sem,Fn.y32,k1,k2,g]
 ·have g':(x≥0)=False:=by simp [g]
  simp only [go_sem,Fn.y32,k1,k2,g']
theorem y9o (q lo hi:Rat) (h1:SmQ 256 q) (h2:SmQ 256 lo) (h3:SmQ 256 hi):Calling Id.y32 [.agg (qC q),.agg (qC lo),.agg (qC hi)] (.one (.bool (amongB q lo hi))):=
 (ykn q lo hi h1 h2 h3).call fun x hx=>by
  simp only [List.mem_cons,List.not_mem_nil,or_false] at hx
  rcases hx with rfl | rfl | rfl<;>exact y52 _
def hasBx (b:Bx) (s:Samp):Bool:=amongB s.load b.low.load b.high.load&&(amongB s.angle b.low.angle b.high.angle&&amongB s.speed b.low.speed b.high.speed)
theorem ypv (b:Bx) (s:Samp) (hb:SmBx b) (hs:SmSamp s):Ends Id.y1v [.agg b.c,.agg s.c] (.one (.bool (hasBx b s))):=by
 obtain ⟨N1,k1⟩:=y9o _ _ _ hs.load hb.low.load hb.high.load
 obtain ⟨N2,k2⟩:=y9o _ _ _ hs.angle hb.low.angle hb.high.angle
 obtain ⟨N3,k3⟩:=y9o _ _ _ hs.speed hb.low.speed hb.high.speed
 refine .of (N1+N2+N3) fun {n} hn=> ?_
 have k1:=k1 n (by omega)
 have k2:=k2 n (by omega)
 have k3:=k3 n (by omega)
 rw [y06 yet]
 unfold hasBx
 obtain ⟨x,y⟩:=b
 unfold Bx.c Samp.c
 dsimp only at*
 obtain ⟨a1,a2,a3,ea,-,-,-⟩:=y0n x.load
 obtain ⟨b1,b2,b3,eb,-,-,-⟩:=y0n x.angle
 obtain ⟨c1,c2,c3,ec,-,-,-⟩:=y0n x.speed
 obtain ⟨p1,p2,p3,ep,-,-,-⟩:=y0n y.load
 obtain ⟨q1,q2,q3,eq,-,-,-⟩:=y0n y.angle
 obtain ⟨r1,r2,r3,er,-,-,-⟩:=y0n y.speed
 obtain ⟨u1,u2,u3,eu,-,-,-⟩:=y0n s.load
 obtain ⟨v1,v2,v3,ev,-,-,-⟩:=y0n s.angle
 obtain ⟨w1,w2,w3,ew,-,-,-⟩:=y0n s.speed
 simp only [ea,eb,ec,ep,eq,er,eu,ev,ew] at k1 k2 k3 ⊢
 generalize amongB s.load x.load y.load=z1 at*
 generalize amongB s.angle x.angle y.angle=z2 at*
 generalize amongB s.speed x.speed y.speed=z3 at*
 cases z1<;>cases z2<;>simp only [go_sem,Fn.y1v,k1,k2,k3]
theorem yqc (b:Bx) (s:Samp) (hb:SmBx b) (hs:SmSamp s):Calling Id.y1v [.agg b.c,.agg s.c] (.one (.bool (hasBx b s))):=(ypv b s hb hs).call (can2 (CanL.bx b).agg (CanL.samp s).agg)
end Go.Ev
namespace Go.Ev
open Go.Dig
structure SmPt (p:Pt):Prop where
 x:SmQ 256 p.x
 z:SmQ 256 p.z
theorem Spot.sm (s:Spot):SmPt s.p:=⟨Num.qS _,Num.qS _⟩
def incC:List Pt→Bool
 | a::b::r=>decide (cmpQ a.x b.x<0)&&incC (b::r)
 | _=>true
theorem y6e {α:Type} {f:α→List AV} {k:Nat} (h:∀a,(f a).length=k) (l:List α):okSz k (l.map f)=true:=by
 cases l with
 | nil=>rfl
 | cons a r=>simp only [List.map_cons,okSz,h,Nat.beq_refl]
end Go.Ev
namespace Go.Ev
open Go.Dig
structure SmGuard (g:Guard):Prop where
 box:SmBx g.box
 f:g.from_<256
 t:g.to<256
structure SmDev (d:Dev):Prop where
 gs:∀g∈d.guards,SmGuard g
 cs:∀c∈d.curves,∀p∈c,SmPt p
 ls:∀p∈d.limits,SmPt p
 st:SmQ 256 d.step
 gl:d.guards.length<2^20
 cl:d.curves.length<2^20
 cll:∀c∈d.curves,c.length<2^20
 ll:d.limits.length<2^20
end Go.Ev
namespace Go.Ev
open Go.Dig
theorem yq7 {n:Nat} {f:FuncId} {r:SV} {es:List (List AV)} (h:evV E n f [.one (.sl false es)]=some r) (hc:CanonEs es) {ob:Nat→Option AObj} {fz:Nat→Nat} {id ver sz z:Nat} {full:Bool} (hr:rowAt ob id ver=some (z,es)):
  callV (evF E n) f [.one (.rsl id ver sz 0 es.length full)] ob fz=some (.fzd (raise fz id es.length) r):=by
 rw [y5q]
 have h1:=y9e (sz:=sz) (full:=full) fz hr (lo:=0) (len:=es.length) (by simp) hc
 simp only [List.drop_zero,Nat.zero_add,List.take_length] at h1
 simp only [mapFz,h1,h,Option.map_some]
theorem canonEs2 {a b:List AV} (ha:CanL a) (hb:CanL b):CanonEs [a,b]:=fun e he x hx=>by
 simp only [List.mem_cons,List.not_mem_nil,or_false] at he
 rcases he with rfl | rfl
 ·exact ha x hx
 ·exact hb x hx
def minQ (a b:Rat):Rat:=if cmpQ b a<0 then b else a
def maxQ (a b:Rat):Rat:=if cmpQ b a>0 then b else a
theorem ycg {S:Nat} (a b:Rat) (ha:SmQ S a) (hb:SmQ S b) (hS:S≤2^30):Ends Id.y3t [.one (.sl false [qC a,qC b])] (.agg (qC (minQ a b))):=by
 refine .of (4*(S+S)+110) fun {n} hn=> ?_
 obtain ⟨n,rfl⟩:∃m,n=m+2:=⟨n-2,by omega⟩
 have h:=y01 (yh6 Id.y3d a b _ (n:=n+1) (by omega) (yp2 b a hb ha (by omega) (n:=n) (by omega))) (can2 (.one _ (.fn _)) (.one _ (.sl _)))
 rw [y06 yix]
 have e:(if decide (cmpQ b a<0)=true then b else a)=minQ a b:=by unfold minQ;simp
 rw [e] at h
 unfold qV at h
 obtain ⟨a1,a2,a3,ea,f1,f2,f3⟩:=y0n (minQ a b)
 rw [ea] at h ⊢
 unfold Fz at*
 simp only [go_sem,Fn.y3t,h,f1,f2,f3]
theorem ycq {S:Nat} (a b:Rat) (ha:SmQ S a) (hb:SmQ S b) (hS:S≤2^30):Ends Id.y3p [.one (.sl false [qC a,qC b])] (.agg (qC (maxQ a b))):=by
 refine .of (4*(S+S)+110) fun {n} hn=> ?_
 obtain ⟨n,rfl⟩:∃m,n=m+2:=⟨n-2,by omega⟩
 have h:=y01 (yh6 Id.y3g a b _ (n:=n+1) (by omega) (yp1 b a hb ha (by omega) (n:=n) (by omega))) (can2 (.one _ (.fn _)) (.one _ (.sl _)))
 rw [y06 yis]
 have e:(if decide (cmpQ b a>0)=true then b else a)=maxQ a b:=by unfold maxQ;simp
 rw [e] at h
 unfold qV at h
 obtain ⟨a1,a2,a3,ea,f1,f2,f3⟩:=y0n (maxQ a b)
 rw [ea] at h ⊢
 unfold Fz at*
 simp only [go_sem,Fn.y3p,h,f1,f2,f3]
theorem SmQ.min {S:Nat} {a b:Rat} (ha:SmQ S a) (hb:SmQ S b):SmQ S (minQ a b):=by unfold minQ;split<;>assumption
theorem SmQ.max {S:Nat} {a b:Rat} (ha:SmQ S a) (hb:SmQ S b):SmQ S (maxQ a b):=by unfold maxQ;split<;>assumption
def clampQ (q lo hi:Rat):Rat:=maxQ lo (minQ hi q)
def bs (l:List Pt) (q:Rat):Nat→Nat→Nat→Nat
 | 0,lo,_=>lo
 | m+1,lo,hi=>if lo<hi then (if cmpQ ((l[(lo+hi) / 2]?).getD ⟨0,0⟩).x q<0 then bs l q m ((lo+hi) / 2+1) hi else bs l q m lo ((lo+hi) / 2)) else lo
def place (l:List Pt) (q:Rat):Nat:=bs l q l.length 0 l.length
end Go.Ev
namespace Go.Ev
open Go.Dig
theorem SmQ.one:SmQ 1 (Rat.ofInt 1):=⟨by decide,by decide⟩
def partC (p:Nat×Rat):List AV:=.int .i64 (p.1:Int)::qC p.2
theorem CanL.part (p:Nat×Rat):CanL (partC p):=.cons (.int _ _) (.q _)
def ptAt (l:List Pt) (k:Nat):Pt:=(l[k]?).getD ⟨0,0⟩
def shareQ (l:List Pt) (q:Rat) (k:Nat):Rat:=(q-(ptAt l (k-1)).x) / ((ptAt l k).x-(ptAt l (k-1)).x)
def partsL (l:List Pt) (q:Rat):List (Nat×Rat):=
 if place l q=l.length then [(place l q-1,Rat.ofInt 1)]
 else if place l q=0 then [(place l q,Rat.ofInt 1)]
 else if cmpQ (ptAt l (place l q)).x q=0 then [(place l q,Rat.ofInt 1)]
 else [(place l q-1,Rat.ofInt 1-shareQ l q (place l q)),(place l q,shareQ l q (place l q))]
end Go.Ev
namespace Go.Ev
open Go.Dig
theorem y9c:qC 0=[.bool false,.sl false [],.sl false []]:=by
 unfold qC natV
 have e1:((0:Rat).num.natAbs)=0:=rfl
 have e2:((0:Rat).den-1)=0:=rfl
 rw [e1,e2,y0p]
 rfl
def atQ (l:List Pt) (q:Rat):Rat:=(partsL l q).foldl (fun m p=>m+(ptAt l p.1).z*p.2) 0
theorem SmQ.zero:SmQ 1 (0:Rat):=⟨by decide,by decide⟩
end Go.Ev
namespace Go.Ev
open Go.Dig
def IntKeys (es:List AEnt):Prop:=∀e∈es,∃z:Int,e.key=.int .i64 z
def Rep (es:List AEnt) (cnt:Nat→Nat):Prop:=IntKeys es∧∀i:Nat,(findE (.int .i64 (i:Int)) es 0=some none∧cnt i=0)∨∃j e,findE (.int .i64 (i:Int)) es 0=some (some (j,e))∧e.val=.one (.int .i64 (cnt i:Int))
theorem Rep.nil:Rep [] fun _=>0:=⟨fun _ h=>by simp at h,fun i=>.inl ⟨rfl,rfl⟩⟩
def setN (c:Nat→Nat) (i v:Nat):Nat→Nat:=fun k=>if k=i then v else c k
def seeS (ph:Nat) (s:Samp) (g:Guard) (i:Nat) (c:Nat→Nat) (f:Option Nat):(Nat→Nat)×Option Nat:=
 if g.from_=ph then (if hasBx g.box s=true then (setN c i (c i+1),if g.hold≤((c i+1:Nat):Int)∧f=none then some i else f) else (setN c i 0,f)) else (c,f)
def seeL (ph:Nat) (s:Samp):List Guard→Nat→(Nat→Nat)→Option Nat→(Nat→Nat)×Option Nat
 | [],_,c,f=>(c,f)
 | g::r,i,c,f=>seeL ph s r (i+1) (seeS ph s g i c f).1 (seeS ph s g i c f).2
section
variable {n:Nat} {fz:Nat→Nat}
end
end Go.Ev
namespace Go.Ev
open Go.Dig
def seeW (gs:List Guard) (ph:Nat) (cnt:Nat→Nat) (s:Samp):Nat×(Nat→Nat):=
 match (seeL ph s gs 0 cnt none).2 with
 | none=>(ph,(seeL ph s gs 0 cnt none).1)
 | some k=>(((gs[k]?).map Guard.to).getD 0,fun _=>0)
section
variable {n:Nat} {fz:Nat→Nat}
end
theorem yg5 {ob0 ob:Nat→Option AObj} {k sz v:Nat} {es:List (List AV)} (h:ob k=some (.row sz es v)):shut ob0 ob k=some (.row sz es v):=by
 unfold shut;rw [h]
end Go.Ev
namespace Go.Ev
open Go.Dig
def OutB (base:Nat) (ob:Nat→Option AObj) (nx:Nat) (x:AV) (es:List (List AV)):Prop:=
 (es=[]∧x=.nils)∨∃id ver,x=.rsl id ver 4 0 es.length false∧ob id=some (.row 4 es ver)∧id<nx∧base≤id
theorem OutB.frame {base nx nx':Nat} {ob ob':Nat→Option AObj} {x:AV} {es:List (List AV)} (h:OutB base ob nx x es) (hnx:nx≤nx') (hf:∀id,base≤id→id<nx→ob' id=ob id):OutB base ob' nx' x es:=by
 rcases h with h | ⟨id,ver,h1,h2,h3,h4⟩
 ·exact .inl h
 ·exact .inr ⟨id,ver,h1,by rw [hf id h4 h3];exact h2,by omega,h4⟩
end Go.Ev
namespace Go.Ev
open Go.Dig
def wkB:ACode:=match Fn.y6u with | .seq _ (.seq _ (.seq (.block _ b) _))=>b | _=>.skip
def wk2:ACode:=match wkB with | .seq _ (.seq a _)=>a | _=>.skip
def MQ (m:Rat) (mc:List AV):Prop:=mc=qC m∨(m=0∧mc=[.bool false,.nils,.nils])
section
variable {n:Nat} {fz:Nat→Nat} {ob:Nat→Option AObj} {nx:Nat}
def stopB (ph:Nat) (m v:Rat):Bool:=decide (ph=4)&&decide (signI (m*v).num>0)
end
end Go.Ev
namespace Go.Ev
open Go.Dig
structure WSt where
 ph:Nat
 cnt:Nat→Nat
 m:Rat
def curveAt (d:Dev) (ph:Nat):List Pt:=(d.curves[ph]?).getD []
def momW (d:Dev) (w:WSt) (s:Samp):Rat:=
 clampQ (clampQ (atQ (curveAt d (seeW d.guards w.ph w.cnt s).1) s.angle) (w.m-(ptAt d.limits (seeW d.guards w.ph w.cnt s).1).z) (w.m+(ptAt d.limits (seeW d.guards w.ph w.cnt s).1).z)) (-(ptAt d.limits (seeW d.guards w.ph w.cnt s).1).x) (ptAt d.limits (seeW d.guards w.ph w.cnt s).1).x
def stopW (d:Dev) (w:WSt) (s:Samp):Bool:=stopB (seeW d.guards w.ph w.cnt s).1 (momW d w s) s.speed
def stepW (d:Dev) (w:WSt) (s:Samp):WSt:=⟨(seeW d.guards w.ph w.cnt s).1,(seeW d.guards w.ph w.cnt s).2,bif stopW d w s then 0 else momW d w s⟩
def rawM (d:Dev) (w:WSt) (s:Samp):List AV:=bif stopW d w s then [.bool false,.nils,.nils] else qC (momW d w s)
def rawA (d:Dev) (w:WSt) (s:Samp):List AV:=.int .u8 ((stepW d w s).ph:Int)::rawM d w s
theorem MQ.cells {m:Rat} {mc:List AV} (h:MQ m mc):∃a b c,mc=[a,b,c]:=by
 rcases h with rfl | ⟨_,rfl⟩
 ·exact ⟨_,_,_,rfl⟩
 ·exact ⟨_,_,_,rfl⟩
structure OkDev (d:Dev):Prop where
 sm:SmDev d
 c5:d.curves.length=5
 l5:d.limits.length=5
 to:∀g∈d.guards,g.to<5
 cr:∀c∈d.curves,incC c=true∧1≤c.length
structure WIds (Own:Nat→Prop) (bd bw mid bm base:Nat):Prop where
 d:bd<base
 w:bw<base
 i:mid<base
 m:bm<base
 dw:bd≠bw
 di:bd≠mid
 dm:bd≠bm
 wi:bw≠mid
 wm:bw≠bm
 im:mid≠bm
 od:¬Own bd
 ow:¬Own bw
 oi:¬Own mid
 om:¬Own bm
 o:∀id,Own id→id<base
structure Taker (d:Dev) (n0 base lid Smax Lmax:Nat) (fz:Nat→Nat) (Own:Nat→Prop) (Acc:(Nat→Option AObj)→Nat→List (WSt×Samp)→Prop):Prop where
 frame:∀ob ob' nx nx' out,Acc ob nx out→nx≤nx'→(∀id,Own id∨(base≤id∧id<nx)→ob' id=ob id)→Acc ob' nx' out
 step:∀n,n0≤n→∀(w:WSt) (s:Samp) (ob:Nat→Option AObj) (nx:Nat) (out:List (WSt×Samp)),Acc ob nx out→base≤nx→out.length<Lmax→SmSamp s→(stepW d w s).ph<5→SmQ Smax (stepW d w s).m→
  ∃ob' nx',evF E (n+1) (.rnd lid) [.agg s.c,.agg (rawA d w s)] ⟨ob,fz,nx⟩=some (.one (.bool true),⟨ob',fz,nx'⟩)∧nx≤nx'∧Acc ob' nx' (out++[(w,s)])∧∀id,id<base→¬Own id→ob' id=ob id
end Go.Ev
namespace Go.Ev
open Go.Dig
theorem OutB.shut {base nx:Nat} {ob0 ob:Nat→Option AObj} {x:AV} {es:List (List AV)} (h:OutB base ob nx x es):OutB base (shut ob0 ob) nx x es:=by
 rcases h with h | ⟨id,ver,h1,h2,h3,h4⟩
 ·exact .inl h
 ·exact .inr ⟨id,ver,h1,yg5 h2,h3,h4⟩
def w0:WSt:=⟨0,fun _=>0,0⟩
theorem OutB.frzR {base nx:Nat} {ob:Nat→Option AObj} {x:AV} {es fs:List (List AV)} (h:OutB base ob nx x es) (hf:∀fz,mapFz (mapFz (Ev.frz ob 7)) fz es=some (fz,fs)) (hl:es=[]→fs=[]):∃g:(Nat→Nat)→(Nat→Nat),∀fz,frzS ob fz (.one x)=some (g fz,.one (.sl false fs)):=by
 rcases h with ⟨h1,rfl⟩ | ⟨id,ver,rfl,hid,_⟩
 ·exact ⟨fun fz=>fz,fun fz=>by rw [hl h1];rfl⟩
 ·refine ⟨fun fz=>raise fz id (0+es.length),fun fz=> ?_⟩
  have hb:Nat.ble (0+es.length) es.length=true:=by simp
  have h1:Ev.frz ob DEPTH fz (.rsl id ver 4 0 es.length false)=some (raise fz id (0+es.length),.sl false fs):=by
   rw [show DEPTH=7+1 from rfl,y76,y25 hid]
   simp only [hb,cond_true,List.drop_zero,List.take_length,hf]
  simp only [frzS,h1]
end Go.Ev
namespace Go.Ev
def CLe (F F':Caller):Prop:=∀c args s r,F c args s=some r→F' c args s=some r
theorem ydg {F F':Caller} (h:CLe F F') {f:FuncId} {args:List SV} {ob:Nat→Option AObj} {fz:Nat→Nat} {e:Eff} (he:callV F f args ob fz=some e):callV F' f args ob fz=some e:=by
 unfold callV at he ⊢
 cases h1:mapFz (frzS ob) fz args with
 | none=>rw [h1] at he;cases he
 | some p=>
  obtain ⟨fz',args'⟩:=p
  rw [h1] at he
  simp only at he ⊢
  cases h2:F (.fn f) args' Sto.empty with
  | none=>rw [h2] at he;cases he
  | some q=>
   rw [h _ _ _ _ h2]
   rw [h2] at he
   exact he
theorem ylt {F F':Caller} (h:CLe F F') {d:Bool} {rb id:Nat} {st:St} {o:AOp} {e:Eff} (he:evOp F d rb id st o=some e):evOp F' d rb id st o=some e:=by
 cases o with
 | call byref f args=>
  simp only [evOp] at he ⊢
  cases byref with
  | true=>
   simp only [cond_true] at he ⊢
   cases h2:F (.fn f) (args.map (·.ev st.sl)) ⟨st.ob,st.fz,st.nx⟩ with
   | none=>rw [h2] at he;cases he
   | some q=>rw [h _ _ _ _ h2];rw [h2] at he;exact he
  | false=>exact ydg h he
 | callv x args=>
  simp only [evOp] at he ⊢
  split at he
  ·exact ydg h he
  ·rename_i f first caps hne hx
   cases h2:F (.fn f) (first.map .one++args.map (·.ev st.sl)++caps.map .one) ⟨st.ob,st.fz,st.nx⟩ with
   | none=>rw [h2] at he;cases he
   | some q=>rw [h _ _ _ _ h2];rw [h2] at he;exact he
  ·rename_i l hx
   cases h2:F (.rnd l) (args.map (·.ev st.sl)) ⟨st.ob,st.fz,st.nx⟩ with
   | none=>rw [h2] at he;cases he
   | some q=>rw [h _ _ _ _ h2];rw [h2] at he;exact he
  ·cases he
 | _=>exact he
theorem yq2 {F F':Caller} (h:CLe F F') {d:Bool} {rb i:Nat} {st st':St} {o:AOper} (he:evO F d rb i o st=some st'):evO F' d rb i o st=some st':=by
 unfold evO at he ⊢
 split at he
 ·cases hl:limOk st.sl o.op o.lim with
  | false=>rw [hl] at he;cases he
  | true=>
   rw [hl] at he
   simp only [cond_true] at he ⊢
   cases h2:evOp F d rb (rb+i) st o.op with
   | none=>rw [h2] at he;cases he
   | some q=>rw [ylt h h2];rw [h2] at he;exact he
 ·exact he
 ·cases he
theorem yds {F F':Caller} (h:CLe F F') {d:Bool} {rb:Nat}:∀{ops:List AOper} {i:Nat} {st st':St},evOps F d rb i ops st=some st'→evOps F' d rb i ops st=some st'
 | [],i,st,st',he=>he
 | o::r,i,st,st',he=>by
  unfold evOps at he ⊢
  cases h2:evO F d rb i o st with
  | none=>rw [h2] at he;cases he
  | some q=>rw [yq2 h h2];rw [h2] at he;exact yds h he
theorem y9k {b b':St→Option (Ex×St)} (h:∀st r,b st=some r→b' st=some r):∀{k k':Nat} {st:St} {r:Ex×St},k≤k'→loopN b k st=some r→loopN b' k' st=some r
 | 0,k',st,r,hk,he=>by cases he
 | k+1,0,st,r,hk,he=>by omega
 | k+1,k'+1,st,r,hk,he=>by
  unfold loopN at he ⊢
  cases h2:b st with
  | none=>rw [h2] at he;cases he
  | some q=>
   rw [h _ _ h2]
   rw [h2] at he
   obtain ⟨e,st'⟩:=q
   cases e with
   | nrm=>exact y9k h (by omega) he
   | ext id=>exact he
   | ret=>exact he
theorem y6h {F F':Caller} (h:CLe F F') {fuel fuel':Nat} (hf:fuel≤fuel'):∀(a:ACode) {st:St} {r:Ex×St},evC F fuel a st=some r→evC F' fuel' a st=some r
 | .skip,st,r,he=>he
 | .reg d ops na ks,st,r,he=>by
  unfold evC at he ⊢
  cases h2:evOps F d st.nx 0 ops { st with nx:=st.nx+na } with
  | none=>rw [h2] at he;cases he
  | some q=>rw [yds h h2];rw [h2] at he;exact he
 | .seq a b,st,r,he=>by
  unfold evC at he ⊢
  cases h2:evC F fuel a st with
  | none=>rw [h2] at he;cases he
  | some q=>
   rw [y6h h hf a h2]
   rw [h2] at he
   obtain ⟨e,st'⟩:=q
   cases e with
   | nrm=>exact y6h h hf b he
   | ext id=>exact he
   | ret=>exact he
 | .cond c a b,st,r,he=>by
  unfold evC at he ⊢
  cases h2:isBool (c.ev st.sl) with
  | none=>rw [h2] at he;cases he
  | some t=>
   rw [h2] at he
   cases t with
   | true=>exact y6h h hf a he
   | false=>exact y6h h hf b he
 | .block id a,st,r,he=>by
  unfold evC at he ⊢
  cases h2:evC F fuel a st with
  | none=>rw [h2] at he;cases he
  | some q=>rw [y6h h hf a h2];rw [h2] at he;exact he
 | .loop a,st,r,he=>by
  unfold evC at he ⊢
  exact y9k (fun st r hr=>y6h h hf a hr) hf he
 | .exit id,st,r,he=>he
 | .ret,st,r,he=>he
 | .rangeF g ps asg body,st,r,he=>by
  unfold evC at he ⊢
  split at he
  ·rename_i f first caps hg
   cases h2:F (.fn f) (first.map .one++[.one (.yld (st.nx+1))]++caps.map .one) ⟨upd (upd st.ob st.nx .dfr) (st.nx+1) (.loop ⟨st.sl,ps,asg,body,.ready,none⟩),st.fz,st.nx+2⟩ with
   | none=>rw [h2] at he;cases he
   | some q=>rw [h _ _ _ _ h2];rw [h2] at he;exact he
  ·cases he
theorem yhn (E:Env):∀n,CLe (evF E n) (evF E (n+1))
 | 0=>fun c args s r h=>by cases c<;>cases h
 | n+1=>fun c args s r h=>by
  have ih:=yhn E n
  have hC:∀(a:ACode) (st:St) (r:Ex×St),evC (evF E n) n a st=some r→evC (evF E (n+1)) (n+1) a st=some r:=fun a st r hr=>y6h ih (Nat.le_succ n) a hr
  cases c with
  | fn f=>
   rw [evF] at h ⊢
   cases hE:E f with
   | none=>rw [hE] at h;cases h
   | some fn=>
    rw [hE] at h
    simp only at h ⊢
    cases h2:evC (evF E n) n fn.code { sl:=env (ofArgs 0 args),ob:=s.ob,fz:=s.fz,nx:=s.nx } with
    | none=>rw [h2] at h;cases h
    | some q=>rw [hC _ _ _ h2];rw [h2] at h;exact h
  | rnd l=>
   rw [evF] at h ⊢
   split at h
   ·rename_i lr hl
    cases hb:(Nat.beq args.length lr.ps.length&&naOk lr.asg&&naOk lr.body) with
    | false=>rw [hb] at h;cases h
    | true=>
     rw [hb] at h
     simp only [cond_true] at h ⊢
     cases h2:evC (evF E n) n lr.asg { sl:=setPs lr.ps args lr.sl,ob:=s.ob,fz:=s.fz,nx:=s.nx } with
     | none=>rw [h2] at h;cases h
     | some q=>
      rw [hC _ _ _ h2]
      rw [h2] at h
      obtain ⟨e,st⟩:=q
      cases e with
      | ext id=>cases h
      | ret=>cases h
      | nrm=>
       simp only at h ⊢
       split at h
       ·rename_i r1 hr1
        split at h
        ·rename_i hst
         cases h3:evC (evF E n) n lr.body { st with ob:=upd st.ob l (.loop { r1 with st:=.busy }) } with
         | none=>rw [h3] at h;cases h
         | some q=>rw [hC _ _ _ h3];rw [h3] at h;exact h
        ·cases h
       ·cases h
   ·cases h
theorem ycn (E:Env) {n m:Nat} (h:n≤m):CLe (evF E n) (evF E m):=by
 induction h with
 | refl=>exact fun c args s r h=>h
 | step _ ih=>exact fun c args s r h=>yhn E _ c args s r (ih c args s r h)
theorem yq3 {E:Env} {n m:Nat} (h:n≤m) {f:FuncId} {args:List SV} {r:SV} (he:evV E n f args=some r):evV E m f args=some r:=by
 unfold evV at he ⊢
 cases h2:evF E n (.fn f) args Sto.empty with
 | none=>rw [h2] at he;cases he
 | some q=>rw [ycn E h _ _ _ _ h2];rw [h2] at he;exact he
end Go.Ev
namespace Go.Ev
open Go.Dig
theorem Leg.sm (g:Leg) (h1:g.gates.length<2^20) (h2:g.curves.length<2^20) (h2':∀c∈g.curves,c.length<2^20) (h3:g.limits.length<2^20) (hg:∀x∈g.gates,x.from_<256∧x.to<256):SmDev g.d:=by
 refine ⟨fun x hx=> ?_,fun c hc p hp=> ?_,fun p hp=> ?_,Num.qS _,by unfold Leg.d;simpa using h1,by unfold Leg.d;simpa using h2,fun c hc=> ?_,by unfold Leg.d;simpa using h3⟩
 ·obtain ⟨y,hy,rfl⟩:=List.mem_map.1 hx
  exact ⟨⟨Beat.sm _,Beat.sm _⟩,(hg y hy).1,(hg y hy).2⟩
 ·obtain ⟨y,hy,rfl⟩:=List.mem_map.1 hc
  obtain ⟨z,hz,rfl⟩:=List.mem_map.1 hp
  exact ⟨Num.qS _,Num.qS _⟩
 ·obtain ⟨z,hz,rfl⟩:=List.mem_map.1 hp
  exact ⟨Num.qS _,Num.qS _⟩
 ·obtain ⟨y,hy,rfl⟩:=List.mem_map.1 hc
  simpa using h2' y hy
end Go.Ev
namespace Go.Ev
theorem yry (a b:Int):(cmpZ a b>0)=(b<a):=by
 unfold cmpZ;rw [eq_iff_iff];(repeat split)<;>omega
theorem yr8 (a b:Int):(cmpZ a b<0)=(a<b):=by
 unfold cmpZ;rw [eq_iff_iff];(repeat split)<;>omega
theorem yk9 (a b:Rat):(cmpQ a b>0)=(b<a):=by
 unfold cmpQ;rw [yry,Rat.lt_iff]
theorem yk4 (a b:Rat):(cmpQ a b<0)=(a<b):=by
 unfold cmpQ;rw [yr8,Rat.lt_iff]
theorem yjd (a b:Rat):minQ a b=if b<a then b else a:=by
 unfold minQ;simp only [yk4]
theorem yjg (a b:Rat):maxQ a b=if a<b then b else a:=by
 unfold maxQ;simp only [yk9]
end Go.Ev
namespace Go.Ev
open Go.Dig
def FzS (x y:SV):Prop:=∀(ob:Nat→Option AObj) (fz:Nat→Nat),frzS ob fz x=some (fz,y)
theorem FzS.one {x y:SV} (h:FzS x y):∀(ob:Nat→Option AObj) (fz:Nat→Nat),mapFz (frzS ob) fz [x]=some (fz,[y]):=fun ob fz=>by simp only [mapFz,h ob fz]
theorem FzS.two {x y x' y':SV} (h:FzS x y) (h':FzS x' y'):∀(ob:Nat→Option AObj) (fz:Nat→Nat),mapFz (frzS ob) fz [x,x']=some (fz,[y,y']):=fun ob fz=>by simp only [mapFz,h ob fz,h' ob fz]
theorem FzS.three {x y x' y' x2 y2:SV} (h:FzS x y) (h':FzS x' y') (h2:FzS x2 y2):∀(ob:Nat→Option AObj) (fz:Nat→Nat),mapFz (frzS ob) fz [x,x',x2]=some (fz,[y,y',y2]):=fun ob fz=>by simp only [mapFz,h ob fz,h' ob fz,h2 ob fz]
theorem CanS.fzs {x:SV} (h:CanS x):FzS x x:=fun ob fz=>by
 cases h with
 | one v h=>
  have e:Ev.frz ob DEPTH fz v=some (fz,v):=h.frz ob 7 fz
  simp only [frzS,e]
 | agg cs h=>
  have e:mapFz (Ev.frz ob DEPTH) fz cs=some (fz,cs):=y66 cs fun x hx=>(h x hx).frz ob 7 fz
  simp only [frzS,e]
theorem MQ.fzs {m:Rat} {mc:List AV} (h:MQ m mc):FzS (.agg mc) (.agg (qC m)):=by
 rcases h with rfl | ⟨rfl,rfl⟩
 ·exact (y52 _).fzs
 ·intro ob fz;rw [y9c];exact yjj _ _ _
end Go.Ev
namespace Go.Ev
open Go.Dig
theorem Ends.row2 {f:FuncId} {a b r:Rat} (h:Ends f [.one (.sl false [qC a,qC b])] (.agg (qC r))):∃N,∀n,N≤n→∀(ob:Nat→Option AObj) (fz:Nat→Nat) (id:Nat),callV (evF E n) f [.one (.rsl id 0 3 0 2 false)] (upd ob id (.row 3 [qC a,qC b] 0)) fz=some (.fzd (raise fz id 2) (.agg (qC r))):=by
 obtain ⟨N,h⟩:=h
 exact ⟨N,fun n hn ob fz id=>yq7 (sz:=3) (z:=3) (full:=false) (fz:=fz) (h n hn) (canonEs2 (.q _) (.q _)) y3j⟩
def joinB (b:Bx) (s:Samp):Bx:=⟨⟨minQ b.low.load s.load,minQ b.low.angle s.angle,minQ b.low.speed s.speed⟩,⟨maxQ b.high.load s.load,maxQ b.high.angle s.angle,maxQ b.high.speed s.speed⟩⟩
theorem yi7 (b:Bx) (a1 a2 a3 a4 a5 a6 a7 a8 a9 b1 b2 b3 b4 b5 b6 b7 b8 b9:AV) (h1:qC b.low.load=[a1,a2,a3]) (h2:qC b.low.angle=[a4,a5,a6]) (h3:qC b.low.speed=[a7,a8,a9]) (h4:qC b.high.load=[b1,b2,b3]) (h5:qC b.high.angle=[b4,b5,b6]) (h6:qC b.high.speed=[b7,b8,b9]):
  b.c=[a1,a2,a3,a4,a5,a6,a7,a8,a9,b1,b2,b3,b4,b5,b6,b7,b8,b9]:=by
 unfold Bx.c Samp.c
 rw [h1,h2,h3,h4,h5,h6]
 rfl
theorem ybx (s:Samp) (a1 a2 a3 a4 a5 a6 a7 a8 a9:AV) (h1:qC s.load=[a1,a2,a3]) (h2:qC s.angle=[a4,a5,a6]) (h3:qC s.speed=[a7,a8,a9]):s.c=[a1,a2,a3,a4,a5,a6,a7,a8,a9]:=by
 unfold Samp.c
 rw [h1,h2,h3]
 rfl
set_option maxRecDepth 100000 in
theorem yj1 {S:Nat} (b:Bx) (s:Samp) (hS:S≤2^30) (b1:SmQ S b.low.load) (b2:SmQ S b.low.angle) (b3:SmQ S b.low.speed) (b4:SmQ S b.high.load) (b5:SmQ S b.high.angle) (b6:SmQ S b.high.speed) (s1:SmQ S s.load) (s2:SmQ S s.angle) (s3:SmQ S s.speed):Ends Id.y1y [.agg b.c,.agg s.c] (.agg (joinB b s).c):=by
 obtain ⟨N1,k1⟩:=(ycg b.low.load s.load b1 s1 hS).row2
 obtain ⟨N2,k2⟩:=(ycg b.low.angle s.angle b2 s2 hS).row2
 obtain ⟨N3,k3⟩:=(ycg b.low.speed s.speed b3 s3 hS).row2
 obtain ⟨N4,k4⟩:=(ycq b.high.load s.load b4 s1 hS).row2
 obtain ⟨N5,k5⟩:=(ycq b.high.angle s.angle b5 s2 hS).row2
 obtain ⟨N6,k6⟩:=(ycq b.high.speed s.speed b6 s3 hS).row2
 refine .of (N1+N2+N3+N4+N5+N6) fun {n} hn=> ?_
 have k1:=k1 n (by omega)
 have k2:=k2 n (by omega)
 have k3:=k3 n (by omega)
 have k4:=k4 n (by omega)
 have k5:=k5 n (by omega)
 have k6:=k6 n (by omega)
 obtain ⟨x1,x2,x3,e1,-,-,-⟩:=y0n b.low.load
 obtain ⟨x4,x5,x6,e2,-,-,-⟩:=y0n b.low.angle
 obtain ⟨x7,x8,x9,e3,-,-,-⟩:=y0n b.low.speed
 obtain ⟨y1,y2,y3,e4,-,-,-⟩:=y0n b.high.load
 obtain ⟨y4,y5,y6,e5,-,-,-⟩:=y0n b.high.angle
 obtain ⟨y7,y8,y9,e6,-,-,-⟩:=y0n b.high.speed
 obtain ⟨z1,z2,z3,e7,-,-,-⟩:=y0n s.load
 obtain ⟨z4,z5,z6,e8,-,-,-⟩:=y0n s.angle
 obtain ⟨z7,z8,z9,e9,-,-,-⟩:=y0n s.speed
 have eb:=yi7 b _ _ _ _ _ _ _ _ _ _ _ _ _ _ _ _ _ _ e1 e2 e3 e4 e5 e6
 have es:=ybx s _ _ _ _ _ _ _ _ _ e7 e8 e9
 obtain ⟨u1,u2,u3,g1,p1,p2,p3⟩:=y0n (minQ b.low.load s.load)
 obtain ⟨u4,u5,u6,g2,p4,p5,p6⟩:=y0n (minQ b.low.angle s.angle)
 obtain ⟨u7,u8,u9,g3,p7,p8,p9⟩:=y0n (minQ b.low.speed s.speed)
 obtain ⟨v1,v2,v3,g4,q1,q2,q3⟩:=y0n (maxQ b.high.load s.load)
 obtain ⟨v4,v5,v6,g5,q4,q5,q6⟩:=y0n (maxQ b.high.angle s.angle)
 obtain ⟨v7,v8,v9,g6,q7,q8,q9⟩:=y0n (maxQ b.high.speed s.speed)
 have ej:=yi7 (joinB b s) _ _ _ _ _ _ _ _ _ _ _ _ _ _ _ _ _ _ g1 g2 g3 g4 g5 g6
 rw [e1,e7,g1] at k1
 rw [e2,e8,g2] at k2
 rw [e3,e9,g3] at k3
 rw [e4,e7,g4] at k4
 rw [e5,e8,g5] at k5
 rw [e6,e9,g6] at k6
 rw [eb,es,ej,y06 ybe]
 unfold Fz at*
 simp only [go_sem,Fn.y1y,k1,k2,k3,k4,k5,k6,frzS,p1,p2,p3,p4,p5,p6,p7,p8,p9,q1,q2,q3,q4,q5,q6,q7,q8,q9]
end Go.Ev
namespace Go.Ev
open Go.Dig
theorem yg8 (x:Rcd):∃a1 a2 a3 a4 a5 a6 a7 a8 a9 a10 a11 a12 a13,x.c=[a1,a2,a3,a4,a5,a6,a7,a8,a9,a10,a11,a12,a13]:=⟨_,_,_,_,_,_,_,_,_,_,_,_,_,rfl⟩
theorem y84 {n:Nat} {ob:Nat→Option AObj} {fz:Nat→Nat} {nx:Nat} (f:FuncId) (bad:Rcd→Bool) (l:List Rcd) (hl:l.length<2^60) (hc:∀p∈l,∀(ob:Nat→Option AObj) (fz:Nat→Nat),callV (evF E n) f [.agg p.c] ob fz=some (.fzd fz (.one (.bool (bad p))))):∀(m i:Nat),i+m=l.length→∀(X:List (Nat×SV)) (N:Nat),m<N→
  if (l.drop i).any bad=true then ∃(k:Int) (X':List (Nat×SV)),k≥0∧loopN (evC (evF E n) n Fn.y0k) N ⟨env ((0,.one (.sl false (l.map Rcd.c)))::(1,.one (.fn f [] []))::(7,.one (.int .i64 (l.length:Int)))::(8,.one (.int .i64 (i:Int)))::X),ob,fz,nx⟩=some (.ret,⟨env ((4,.one (.int .i64 k))::X'),ob,fz,nx⟩)
  else ∃X',loopN (evC (evF E n) n Fn.y0k) N ⟨env ((0,.one (.sl false (l.map Rcd.c)))::(1,.one (.fn f [] []))::(7,.one (.int .i64 (l.length:Int)))::(8,.one (.int .i64 (i:Int)))::X),ob,fz,nx⟩=some (.ext 0,⟨env X',ob,fz,nx⟩)
 | 0,i,hi,X,N+1,hN=>by
  have hi':i=l.length:=by omega
  subst hi'
  rw [List.drop_length,List.any_nil,if_neg (by simp)]
  have h1:(((l.length:Nat):Int)<((l.length:Nat):Int))=False:=by simp
  refine ⟨[(0,.one (.sl false (l.map Rcd.c))),(1,.one (.fn f [] [])),(7,.one (.int .i64 (l.length:Int))),(8,.one (.int .i64 (l.length:Int))),(9,.one (.bool false))],y09 ?_⟩
  simp only [go_sem,Fn.y0k,h1]
 | m+1,i,hi,X,N+1,hN=>by
  have hil:i<l.length:=by omega
  have h1:(((i:Nat):Int)<((l.length:Nat):Int))=True:=by simp;omega
  have wk:IntKind.i64.wrap ((i+1:Nat):Int)=((i+1:Nat):Int):=wi64 (by omega)
  have okz:okSz 13 (l.map Rcd.c)=true:=y6e (f:=Rcd.c) (k:=13) (fun _=>rfl) l
  have hcc:=hc l[i] (by simp)
  rw [List.drop_eq_getElem_cons hil,List.any_cons]
  have gd:(l.map Rcd.c)[i]? =some (Rcd.c l[i]):=by rw [List.getElem?_map,List.getElem?_eq_getElem hil];rfl
  generalize l[i]=p at*
  obtain ⟨a1,a2,a3,a4,a5,a6,a7,a8,a9,a10,a11,a12,a13,ec⟩:=yg8 p
  rw [ec] at gd hcc
  cases hb:bad p with
  | true=>
   rw [hb] at hcc
   rw [Bool.true_or,if_pos rfl]
   refine ⟨(i:Int),[],by omega,y57 ?_⟩
   simp only [go_sem,Fn.y0k,h1,gd,okz,hcc]
  | false=>
   rw [hb] at hcc
   rw [Bool.false_or]
   have hst:evC (evF E n) n Fn.y0k ⟨env ((0,.one (.sl false (l.map Rcd.c)))::(1,.one (.fn f [] []))::(7,.one (.int .i64 (l.length:Int)))::(8,.one (.int .i64 (i:Int)))::X),ob,fz,nx⟩=some (.nrm,⟨env [(0,.one (.sl false (l.map Rcd.c))),(1,.one (.fn f [] [])),(7,.one (.int .i64 (l.length:Int))),(8,.one (.int .i64 ((i+1:Nat):Int)))],ob,fz,nx⟩):=by
    simp only [go_sem,Fn.y0k,h1,gd,okz,hcc,add1,wk]
   rw [y08 hst]
   exact y84 f bad l hl hc m (i+1) (by omega) [] N (by omega)
theorem ya1 (f:FuncId) (bad:Rcd→Bool) (l:List Rcd) (hl:l.length<2^60) (hc:∃N,∀n,N≤n→∀p∈l,∀(ob:Nat→Option AObj) (fz:Nat→Nat),callV (evF E n) f [.agg p.c] ob fz=some (.fzd fz (.one (.bool (bad p))))):Ends Id.y04 [.one (.sl false (l.map Rcd.c)),.one (.fn f [] [])] (.one (.bool (l.any bad))):=by
 obtain ⟨N,hN⟩:=hc
 refine .of (N+l.length+3) fun {n} hn=> ?_
 obtain ⟨n,rfl⟩:∃m,n=m+1:=⟨n-1,by omega⟩
 have hcn:CanS (.one (.fn f [] [])):=.one _ (.fn _)
 have hi:∃k:Int,decide (k≥0)=l.any bad∧evV E (n+1) Id.y07 [.one (.sl false (l.map Rcd.c)),.one (.fn f [] [])]=some (.one (.int .i64 k)):=by
  rw [y06 y5s]
  have hlo:=y84 (n:=n) (ob:=ob0) (fz:=fz0) (nx:=0) f bad l hl (hN n (by omega)) l.length 0 (by omega) [] n (by omega)
  rw [show ((0:Nat):Int)=0 from rfl,List.drop_zero] at hlo
  by_cases ha:l.any bad=true
  ·rw [if_pos ha] at hlo
   obtain ⟨k,X',hk,hlo⟩:=hlo
   refine ⟨k,by rw [ha];simpa using hk, ?_⟩
   simp only [go_sem,Fn.y07,List.length_map,hlo]
  ·rw [if_neg ha] at hlo
   obtain ⟨X',hlo⟩:=hlo
   rw [Bool.not_eq_true] at ha
   refine ⟨-1,by rw [ha];rfl, ?_⟩
   simp only [go_sem,Fn.y07,List.length_map,hlo]
 obtain ⟨k,hk,hi⟩:=hi
 have hic:=y01 hi (can2 (.one _ (.sl _)) hcn)
 rw [y06 y5k,←hk]
 simp only [go_sem,Fn.y04,hic]
theorem ya7 (f:FuncId) (bad:Rcd→Bool) (l:List Rcd) (hl:l.length<2^60) (hc:∃N,∀n,N≤n→∀p∈l,∀(ob:Nat→Option AObj) (fz:Nat→Nat),callV (evF E n) f [.agg p.c] ob fz=some (.fzd fz (.one (.bool (bad p))))):Calling Id.y04 [.one (.sl false (l.map Rcd.c)),.one (.fn f [] [])] (.one (.bool (l.any bad))):=
 (ya1 f bad l hl hc).call (can2 (.one _ (.sl _)) (.one _ (.fn _)))
def badR (x:Rcd):Bool:=decide (5≤x.ph)
theorem yj6 (x:Rcd):Ends Id.y35 [.agg x.c] (.one (.bool (badR x))):=by
 refine .of 0 fun {n} hn=> ?_
 rw [y06 yf0]
 obtain ⟨s0,s1,s2,s3,s4,s5,s6,s7,s8,es',-,-,-,-,-,-,-,-,-⟩:=y7y x.s
 obtain ⟨q0,q1,q2,eq,-,-,-⟩:=y0n x.m
 have ec:x.c=[.int .u8 (x.ph:Int),s0,s1,s2,s3,s4,s5,s6,s7,s8,q0,q1,q2]:=by unfold Rcd.c;rw [es',eq];rfl
 have h5:decide (((x.ph:Nat):Int)≥5)=badR x:=by unfold badR;rw [Bool.eq_iff_iff];simp only [decide_eq_true_eq];omega
 rw [ec]
 simp only [go_sem,Fn.y35,h5]
def z18:List AV:=[.bool false,.nils,.nils,.bool false,.nils,.nils,.bool false,.nils,.nils,.bool false,.nils,.nils,.bool false,.nils,.nils,.bool false,.nils,.nils]
def rawB (p:Bx×Bool):List AV:=bif p.2 then p.1.c else z18
def rawK (p:Bx×Bool):List AV:=[.bool p.2]
def bxOf (p:Bx×Bool) (x:Rcd):Bx:=bif p.2 then p.1 else ⟨x.s,x.s⟩
def bx0:Bx×Bool:=(⟨⟨0,0,0⟩,⟨0,0,0⟩⟩,false)
def boxS (S:List (Bx×Bool)) (x:Rcd):List (Bx×Bool):=S.set x.ph (joinB (bxOf ((S[x.ph]?).getD bx0) x) x.s,true)
def boxL:List (Bx×Bool)→List Rcd→List (Bx×Bool)
 | S,[]=>S
 | S,x::r=>boxL (boxS S x) r
theorem y9q (S:List (Bx×Bool)) (x:Rcd):(boxS S x).length=S.length:=by unfold boxS;simp
theorem yck:∀(l:List Rcd) (S:List (Bx×Bool)),(boxL S l).length=S.length
 | [],S=>rfl
 | x::r,S=>by unfold boxL;rw [yck r,y9q]
set_option maxRecDepth 100000 in
set_option maxHeartbeats 1000000 in
theorem yja {n nx i:Nat} {ob:Nat→Option AObj} (l:List Rcd) (x:Rcd) (gl:l[i]? =some x) (hl:l.length<2^20) (hi:i<l.length) (S:List (Bx×Bool)) (hS:S.length=5) (p:Bx×Bool) (gp:S[x.ph]? =some p) (hph:x.ph<5) (hn2:2≤nx) (o0:ob 0=some (.row 18 (S.map rawB) 0)) (o1:ob 1=some (.row 1 (S.map rawK) 0))
  (hc:∀(ob:Nat→Option AObj) (fz:Nat→Nat),callV (evF E n) Id.y1y [.agg (bxOf p x).c,.agg x.s.c] ob fz=some (.fzd fz (.agg (joinB (bxOf p x) x.s).c))) (v4:SV) (X:List (Nat×SV)):
  ∃ob',evC (evF E n) n Fn.y51 ⟨env ((0,.one (.sl false (l.map Rcd.c)))::(2,.one (.rsl 0 0 18 0 5 false))::(3,.one (.rsl 1 0 1 0 5 false))::(4,v4)::(21,.one (.sl false (l.map Rcd.c)))::(22,.one (.int .i64 (l.length:Int)))::(23,.one (.int .i64 (i:Int)))::X),ob,fz0,nx⟩=
   some (.nrm,⟨env [(0,.one (.sl false (l.map Rcd.c))),(2,.one (.rsl 0 0 18 0 5 false)),(3,.one (.rsl 1 0 1 0 5 false)),(4,v4),(21,.one (.sl false (l.map Rcd.c))),(22,.one (.int .i64 (l.length:Int))),(23,.one (.int .i64 ((i+1:Nat):Int)))],ob',fz0,nx+4⟩)∧ob' 0=some (.row 18 ((boxS S x).map rawB) 0)∧ob' 1=some (.row 1 ((boxS S x).map rawK) 0):=by
 have h1:(((i:Nat):Int)<((l.length:Nat):Int))=True:=by simp;omega
 have wk:IntKind.i64.wrap ((i+1:Nat):Int)=((i+1:Nat):Int):=wi64 (by omega)
 have okz:okSz 13 (l.map Rcd.c)=true:=y6e (f:=Rcd.c) (k:=13) (fun _=>rfl) l
 have ge:(l.map Rcd.c)[i]? =some x.c:=by rw [List.getElem?_map,gl];rfl
 have gB:(S.map rawB)[x.ph]? =some (rawB p):=by rw [List.getElem?_map,gp];rfl
 have gK:(S.map rawK)[x.ph]? =some [.bool p.2]:=by rw [List.getElem?_map,gp];rfl
 have hset:∀v,((S.map rawB).set x.ph v)[x.ph]? =some v:=fun v=>by rw [List.getElem?_set_self];simp;omega
 have ss:∀a b,((S.map rawB).set x.ph a).set x.ph b=(S.map rawB).set x.ph b:=fun a b=>List.set_set _
 have h5:(x.ph<5)=True:=by simp [hph]
 have fB:fz0 0=0:=rfl
 have fK:fz0 1=0:=rfl
 have n0:∀k,(0=nx+k)=False:=fun k=>by simp only [eq_iff_iff,iff_false];omega
 have n1:∀k,(1=nx+k)=False:=fun k=>by simp only [eq_iff_iff,iff_false];omega
 have n0':∀k,(nx+k=0)=False:=fun k=>by simp only [eq_iff_iff,iff_false];omega
 have n1':∀k,(nx+k=1)=False:=fun k=>by simp only [eq_iff_iff,iff_false];omega
 have p0:∀k,(0<nx+k)=True:=fun k=>by simp only [eq_iff_iff,iff_true];omega
 have p1:∀k,(1<nx+k)=True:=fun k=>by simp only [eq_iff_iff,iff_true];omega
 have r0:rowAt ob 0 0=some (18,S.map rawB):=y25 o0
 have r1:rowAt ob 1 0=some (1,S.map rawK):=y25 o1
 have ra:∀k y ob a ver,a<2→rowAt (upd ob (nx+k) y) a ver=rowAt ob a ver:=fun k y ob a ver ha=>y3z (by omega)
 have ra0:∀k y ob ver,rowAt (upd ob (nx+k) y) 0 ver=rowAt ob 0 ver:=fun k y ob ver=>ra k y ob 0 ver (by omega)
 have ra1:∀k y ob ver,rowAt (upd ob (nx+k) y) 1 ver=rowAt ob 1 ver:=fun k y ob ver=>ra k y ob 1 ver (by omega)
 have rb1:∀y ob ver,rowAt (upd ob 0 y) 1 ver=rowAt ob 1 ver:=fun y ob ver=>y3z (by decide)
 have rb0:∀y ob ver,rowAt (upd ob 1 y) 0 ver=rowAt ob 0 ver:=fun y ob ver=>y3z (by decide)
 obtain ⟨s0,s1,s2,s3,s4,s5,s6,s7,s8,es',-,-,-,-,-,-,-,-,-⟩:=y7y x.s
 obtain ⟨q0,q1,q2,eq,-,-,-⟩:=y0n x.m
 have ec:x.c=[.int .u8 (x.ph:Int),s0,s1,s2,s3,s4,s5,s6,s7,s8,q0,q1,q2]:=by unfold Rcd.c;rw [es',eq];rfl
 obtain ⟨j1,j2,j3,j4,j5,j6,j7,j8,j9,k1,k2,k3,k4,k5,k6,k7,k8,k9,ej⟩:∃a1 a2 a3 a4 a5 a6 a7 a8 a9 b1 b2 b3 b4 b5 b6 b7 b8 b9,(joinB (bxOf p x) x.s).c=[a1,a2,a3,a4,a5,a6,a7,a8,a9,b1,b2,b3,b4,b5,b6,b7,b8,b9]:=⟨_,_,_,_,_,_,_,_,_,_,_,_,_,_,_,_,_,_,rfl⟩
 have fin:(boxS S x).map rawB=(S.map rawB).set x.ph (joinB (bxOf p x) x.s).c∧(boxS S x).map rawK=(S.map rawK).set x.ph [.bool true]:=by
  unfold boxS
  rw [gp]
  refine ⟨?_, ?_⟩<;>rw [List.map_set]<;>rfl
 rw [fin.1,fin.2]
 rw [ej] at hc ⊢
 rw [ec] at ge
 obtain ⟨r,hr0⟩:∃r,evC (evF E n) n Fn.y51 ⟨env ((0,.one (.sl false (l.map Rcd.c)))::(2,.one (.rsl 0 0 18 0 5 false))::(3,.one (.rsl 1 0 1 0 5 false))::(4,v4)::(21,.one (.sl false (l.map Rcd.c)))::(22,.one (.int .i64 (l.length:Int)))::(23,.one (.int .i64 (i:Int)))::X),ob,fz0,nx⟩=r:=⟨_,rfl⟩
 have hr:=hr0
 cases hk:p.2 with
 | true=>
  have eb:bxOf p x=p.1:=by unfold bxOf;rw [hk];rfl
  have erb:rawB p=p.1.c:=by unfold rawB;rw [hk];rfl
  obtain ⟨a1,a2,a3,a4,a5,a6,a7,a8,a9,b1,b2,b3,b4,b5,b6,b7,b8,b9,e1⟩:∃a1 a2 a3 a4 a5 a6 a7 a8 a9 b1 b2 b3 b4 b5 b6 b7 b8 b9,p.1.c=[a1,a2,a3,a4,a5,a6,a7,a8,a9,b1,b2,b3,b4,b5,b6,b7,b8,b9]:=⟨_,_,_,_,_,_,_,_,_,_,_,_,_,_,_,_,_,_,rfl⟩
  rw [hk] at gK
  rw [eb,e1,es'] at hc
  rw [erb,e1] at gB
  simp only [go_sem,Fn.y51,h1,ge,okz,gB,gK,hset,ss,h5,fB,fK,n0,n1,n0',n1',p0,p1,r0,r1,ra0,ra1,rb0,rb1,hc,add1,wk] at hr
  rw [hr0,←hr]
  refine ⟨_,rfl, ?_,upd_same _ _ _⟩
  rw [y00 (by decide)];exact upd_same _ _ _
 | false=>
  have eb:bxOf p x=⟨x.s,x.s⟩:=by unfold bxOf;rw [hk];rfl
  have erb:rawB p=z18:=by unfold rawB;rw [hk];rfl
  have e1:(⟨x.s,x.s⟩:Bx).c=[s0,s1,s2,s3,s4,s5,s6,s7,s8,s0,s1,s2,s3,s4,s5,s6,s7,s8]:=by unfold Bx.c;rw [es'];rfl
  rw [hk] at gK
  rw [eb,e1,es'] at hc
  rw [erb] at gB
  unfold z18 at gB
  simp only [go_sem,Fn.y51,h1,ge,okz,gB,gK,hset,ss,h5,fB,fK,n0,n1,n0',n1',p0,p1,r0,r1,ra0,ra1,rb0,rb1,hc,add1,wk] at hr
  rw [hr0,←hr]
  refine ⟨_,rfl, ?_,upd_same _ _ _⟩
  rw [y00 (by decide)];exact upd_same _ _ _
end Go.Ev
namespace Go.Ev
open Go.Dig
def SmS (S:List (Bx×Bool)):Prop:=∀p∈S,p.2=true→SmBx p.1
theorem yho {b:Bx} {s:Samp} (hb:SmBx b) (hs:SmSamp s):SmBx (joinB b s):=
 ⟨⟨hb.low.load.min hs.load,hb.low.angle.min hs.angle,hb.low.speed.min hs.speed⟩,⟨hb.high.load.max hs.load,hb.high.angle.max hs.angle,hb.high.speed.max hs.speed⟩⟩
theorem yk8 {p:Bx×Bool} {x:Rcd} (hp:p.2=true→SmBx p.1) (hs:SmSamp x.s):SmBx (bxOf p x):=by
 unfold bxOf
 cases h:p.2 with
 | true=>exact hp h
 | false=>exact ⟨hs,hs⟩
theorem yk3 {S:List (Bx×Bool)} {x:Rcd} (hS:SmS S) (hs:SmSamp x.s):SmS (boxS S x):=by
 intro p hp hk
 unfold boxS at hp
 rcases List.mem_or_eq_of_mem_set hp with h | h
 ·exact hS p h hk
 ·rw [h]
  refine yho (yk8 ?_ hs) hs
  intro h'
  cases hq:S[x.ph]? with
  | none=>rw [hq] at h';cases h'
  | some q=>rw [hq] at h';exact hS q (List.mem_of_getElem? hq) h'
theorem yk2:∀(l:List Rcd) (S:List (Bx×Bool)),SmS S→(∀x∈l,SmSamp x.s)→SmS (boxL S l)
 | [],S,hS,hl=>hS
 | x::r,S,hS,hl=>yk2 r (boxS S x) (yk3 hS (hl x (by simp))) fun y hy=>hl y (by simp [hy])
theorem yiz (b:Bx) (s:Samp) (hb:SmBx b) (hs:SmSamp s):Calling Id.y1y [.agg b.c,.agg s.c] (.agg (joinB b s).c):=
 (yj1 b s (S:=256) (by decide) hb.low.load hb.low.angle hb.low.speed hb.high.load hb.high.angle hb.high.speed hs.load hs.angle hs.speed).call (can2 (CanL.bx b).agg (CanL.samp s).agg)
theorem ydo:∀(r pre:List Rcd) (S:List (Bx×Bool)),S.length=5→SmS S→(∀x∈r,x.ph<5∧SmSamp x.s)→(pre++r).length<2^20→
  ∃N,∀n,N≤n→∀(ob:Nat→Option AObj) (nx:Nat) (v4:SV) (X:List (Nat×SV)),2≤nx→ob 0=some (.row 18 (S.map rawB) 0)→ob 1=some (.row 1 (S.map rawK) 0)→∀M,r.length<M→
   ∃ob' nx' X',loopN (evC (evF E n) n Fn.y51) M ⟨env ((0,.one (.sl false ((pre++r).map Rcd.c)))::(2,.one (.rsl 0 0 18 0 5 false))::(3,.one (.rsl 1 0 1 0 5 false))::(4,v4)::(21,.one (.sl false ((pre++r).map Rcd.c)))::(22,.one (.int .i64 ((pre++r).length:Int)))::(23,.one (.int .i64 (pre.length:Int)))::X),ob,fz0,nx⟩=
    some (.ext 1,⟨env ((0,.one (.sl false ((pre++r).map Rcd.c)))::(2,.one (.rsl 0 0 18 0 5 false))::(3,.one (.rsl 1 0 1 0 5 false))::(4,v4)::X'),ob',fz0,nx'⟩)∧nx≤nx'∧ob' 0=some (.row 18 ((boxL S r).map rawB) 0)∧ob' 1=some (.row 1 ((boxL S r).map rawK) 0)
 | [],pre,S,hS,hs,hr,hlen=>by
  refine ⟨0,fun n hn ob nx v4 X h2 o0 o1 M hM=> ?_⟩
  obtain ⟨M,rfl⟩:∃k,M=k+1:=⟨M-1,by simp at hM;omega⟩
  rw [List.append_nil]
  have hlt:(((pre.length:Nat):Int)<((pre.length:Nat):Int))=False:=by simp
  refine ⟨ob,nx,[(21,.one (.sl false (pre.map Rcd.c))),(22,.one (.int .i64 (pre.length:Int))),(23,.one (.int .i64 (pre.length:Int))),(24,.one (.bool false))],y09 ?_,Nat.le_refl _,o0,o1⟩
  simp only [go_sem,Fn.y51,hlt]
 | x::r,pre,S,hS,hs,hr,hlen=>by
  obtain ⟨hph,hsm⟩:=hr x (by simp)
  have gp:S[x.ph]? =some S[x.ph]:=List.getElem?_eq_getElem (by omega)
  have hb:SmBx (bxOf S[x.ph] x):=yk8 (hs _ (by simp)) hsm
  obtain ⟨N1,k1⟩:=yiz (bxOf S[x.ph] x) x.s hb hsm
  obtain ⟨N2,k2⟩:=ydo r (pre++[x]) (boxS S x) (by rw [y9q,hS]) (yk3 hs hsm) (fun y hy=>hr y (by simp [hy])) (by simpa using hlen)
  refine ⟨N1+N2,fun n hn ob nx v4 X h2 o0 o1 M hM=> ?_⟩
  obtain ⟨M,rfl⟩:∃k,M=k+1:=⟨M-1,by simp at hM;omega⟩
  have gx:(pre++x::r)[pre.length]? =some x:=by simp
  obtain ⟨ob1,hst,q0,q1⟩:=yja (n:=n) (nx:=nx) (ob:=ob) (pre++x::r) x gx hlen (by simp) S hS _ gp hph h2 o0 o1 (k1 n (by omega)) v4 X
  obtain ⟨ob',nx',X',g1,g2,g3,g4⟩:=k2 n (by omega) ob1 (nx+4) v4 [] (by omega) q0 q1 M (by simp only [List.length_cons] at hM;omega)
  rw [show pre++[x]++r=pre++x::r by simp,show (pre++[x]).length=pre.length+1 by simp] at g1
  exact ⟨ob',nx',X',by rw [y08 hst];exact g1,by omega,g3,g4⟩
def mixP (S:List (Bx×Bool)) (x:Rcd) (p:Nat):Bool:=match S[p]? with
 | some q=>q.2&&(decide (p≠x.ph)&&hasBx q.1 x.s)
 | none=>false
def mixC (q:Nat×Nat):List AV:=[.int .i64 (q.1:Int),.int .i64 (q.2:Int)]
def mixR (S:List (Bx×Bool)) (i:Nat) (x:Rcd) (p m:Nat):List (Nat×Nat):=((List.range' p m).filter (mixP S x)).map fun p=>(i,p)
def mixL (S:List (Bx×Bool)):Nat→List Rcd→List (Nat×Nat)
 | _,[]=>[]
 | i,x::r=>mixR S i x 0 5++mixL S (i+1) r
set_option maxRecDepth 100000 in
set_option maxHeartbeats 2000000 in
theorem yny {n nx:Nat} {ob:Nat→Option AObj} (S:List (Bx×Bool)) (hS:S.length=5) (p:Nat) (hp:p<5) (q:Bx×Bool) (gp:S[p]? =some q) (i:Nat) (hi:i<2^20) (x:Rcd) (hx:x.ph<5) (b9:Nat) (h9:2≤b9) (h9':b9<nx) (o9:ob b9=some (.box x.c)) (o0:ob 0=some (.row 18 (S.map rawB) 0)) (o1:ob 1=some (.row 1 (S.map rawK) 0)) (v:AV) (es:List (List AV)) (hv:OutE 2 ob nx v es) (hes:es.length<2^30)
  (hc:q.2=true→∀(ob:Nat→Option AObj) (fz:Nat→Nat),callV (evF E n) Id.y1v [.agg q.1.c,.agg x.s.c] ob fz=some (.fzd fz (.one (.bool (hasBx q.1 x.s))))) (y59 y60 y61:SV) (X:List (Nat×SV)):
  ∃ob' nx' v',evC (evF E n) n Fn.y3v ⟨env ((2,.one (.rsl 0 0 18 0 5 false))::(3,.one (.rsl 1 0 1 0 5 false))::(4,.one v)::(8,.one (.int .i64 (i:Int)))::(9,.one (.box b9 0))::(59,y59)::(60,y60)::(61,y61)::(66,.one (.rsl 0 0 18 0 5 false))::(67,.one (.int .i64 5))::(68,.one (.int .i64 (p:Int)))::X),ob,fz0,nx⟩=
   some (.nrm,⟨env [(2,.one (.rsl 0 0 18 0 5 false)),(3,.one (.rsl 1 0 1 0 5 false)),(4,.one v'),(8,.one (.int .i64 (i:Int))),(9,.one (.box b9 0)),(59,y59),(60,y60),(61,y61),(66,.one (.rsl 0 0 18 0 5 false)),(67,.one (.int .i64 5)),(68,.one (.int .i64 ((p+1:Nat):Int)))],ob',fz0,nx'⟩)∧nx≤nx'∧OutE 2 ob' nx' v' (bif mixP S x p then es++[mixC (i,p)] else es)∧ob' 0=ob 0∧ob' 1=ob 1∧ob' b9=ob b9:=by
 have h1:(((p:Nat):Int)<5)=True:=by simp;omega
 have h5:(p<5)=True:=by simp [hp]
 have wk:IntKind.i64.wrap ((p+1:Nat):Int)=((p+1:Nat):Int):=wi64 (by omega)
 have wph:IntKind.i64.wrap ((x.ph:Nat):Int)=((x.ph:Nat):Int):=wi64 (by omega)
 have gB:(S.map rawB)[p]? =some (rawB q):=by rw [List.getElem?_map,gp];rfl
 have gK:(S.map rawK)[p]? =some [.bool q.2]:=by rw [List.getElem?_map,gp];rfl
 have n0:∀k,(0=nx+k)=False:=fun k=>by simp only [eq_iff_iff,iff_false];omega
 have n1:∀k,(1=nx+k)=False:=fun k=>by simp only [eq_iff_iff,iff_false];omega
 have n9:∀k,(b9=nx+k)=False:=fun k=>by simp only [eq_iff_iff,iff_false];omega
 have n0':∀k,(nx+k=0)=False:=fun k=>by simp only [eq_iff_iff,iff_false];omega
 have n1':∀k,(nx+k=1)=False:=fun k=>by simp only [eq_iff_iff,iff_false];omega
 have n9':∀k,(nx+k=b9)=False:=fun k=>by simp only [eq_iff_iff,iff_false];omega
 have nxa:∀a b:Nat,nx+a+b=nx+(a+b):=fun a b=>Nat.add_assoc nx a b
 have r0:rowAt ob 0 0=some (18,S.map rawB):=y25 o0
 have r1:rowAt ob 1 0=some (1,S.map rawK):=y25 o1
 have ra0:∀k y ob ver,rowAt (upd ob (nx+k) y) 0 ver=rowAt ob 0 ver:=fun k y ob ver=>y3z (by omega)
 have ra1:∀k y ob ver,rowAt (upd ob (nx+k) y) 1 ver=rowAt ob 1 ver:=fun k y ob ver=>y3z (by omega)
 obtain ⟨s0,s1,s2,s3,s4,s5,s6,s7,s8,es',-,-,-,-,-,-,-,-,-⟩:=y7y x.s
 obtain ⟨q0,q1,q2,eq,-,-,-⟩:=y0n x.m
 have ec:x.c=[.int .u8 (x.ph:Int),s0,s1,s2,s3,s4,s5,s6,s7,s8,q0,q1,q2]:=by unfold Rcd.c;rw [es',eq];rfl
 obtain ⟨a1,a2,a3,a4,a5,a6,a7,a8,a9,b1,b2,b3,b4,b5,b6,b7,b8,b9',e1⟩:∃a1 a2 a3 a4 a5 a6 a7 a8 a9 b1 b2 b3 b4 b5 b6 b7 b8 b9,rawB q=[a1,a2,a3,a4,a5,a6,a7,a8,a9,b1,b2,b3,b4,b5,b6,b7,b8,b9]:=by
  unfold rawB
  cases q.2
  ·exact ⟨_,_,_,_,_,_,_,_,_,_,_,_,_,_,_,_,_,_,rfl⟩
  ·exact ⟨_,_,_,_,_,_,_,_,_,_,_,_,_,_,_,_,_,_,rfl⟩
 have hc':q.2=true→∀(ob:Nat→Option AObj) (fz:Nat→Nat),callV (evF E n) Id.y1v [.agg [a1,a2,a3,a4,a5,a6,a7,a8,a9,b1,b2,b3,b4,b5,b6,b7,b8,b9'],.agg [s0,s1,s2,s3,s4,s5,s6,s7,s8]] ob fz=some (.fzd fz (.one (.bool (hasBx q.1 x.s)))):=by
  intro hk
  have:=hc hk
  have e2:rawB q=q.1.c:=by unfold rawB;rw [hk];rfl
  rw [←e1,e2,←es']
  exact this
 rw [e1] at gB
 rw [ec] at o9
 have hm:mixP S x p=(q.2&&(decide (p≠x.ph)&&hasBx q.1 x.s)):=by unfold mixP;rw [gp]
 rw [hm]
 have qne:(((p:Nat):Int) !=((x.ph:Nat):Int))=decide (p≠x.ph):=by rw [Bool.eq_iff_iff];simp;omega
 obtain ⟨r,hr0⟩:∃r,evC (evF E n) n Fn.y3v ⟨env ((2,.one (.rsl 0 0 18 0 5 false))::(3,.one (.rsl 1 0 1 0 5 false))::(4,.one v)::(8,.one (.int .i64 (i:Int)))::(9,.one (.box b9 0))::(59,y59)::(60,y60)::(61,y61)::(66,.one (.rsl 0 0 18 0 5 false))::(67,.one (.int .i64 5))::(68,.one (.int .i64 (p:Int)))::X),ob,fz0,nx⟩=r:=⟨_,rfl⟩
 have hr:=hr0
 have kp:∀id,id<nx→∀y:AObj,upd ob (nx+3) y id=ob id:=fun id h y=>y00 (by omega)
 have keep:∀y:AObj,OutE 2 (upd ob (nx+3) y) (nx+6) v es:=fun y=>by
  rcases hv with h | ⟨id,ver,h1,h2,h3⟩
  ·exact .inl h
  ·exact .inr ⟨id,ver,h1,by rw [kp id h3];exact h2,by omega⟩
 cases hk:q.2 with
 | false=>
  rw [hk] at gK
  rw [Bool.false_and,cond_false]
  simp only [go_sem,Fn.y3v,h1,h5,gB,gK,n0,n1,n9,n0',n1',n9',nxa,r0,r1,ra0,ra1,o9,add1,wk] at hr
  rw [hr0,←hr]
  exact ⟨_,_,_,rfl,by omega,keep _,kp 0 (by omega) _,kp 1 (by omega) _,kp b9 h9' _⟩
 | true=>
  rw [hk] at gK
  have hc':=hc' hk
  rw [Bool.true_and]
  cases hpx:decide (p≠x.ph) with
  | false=>
   rw [hpx] at qne
   rw [Bool.false_and,cond_false]
   simp only [go_sem,Fn.y3v,h1,h5,gB,gK,n0,n1,n9,n0',n1',n9',nxa,r0,r1,ra0,ra1,o9,wph,qne,add1,wk] at hr
   rw [hr0,←hr]
   exact ⟨_,_,_,rfl,by omega,keep _,kp 0 (by omega) _,kp 1 (by omega) _,kp b9 h9' _⟩
  | true=>
   rw [hpx] at qne
   rw [Bool.true_and]
   cases hh:hasBx q.1 x.s with
   | false=>
    rw [hh] at hc'
    rw [cond_false]
    simp only [go_sem,Fn.y3v,h1,h5,gB,gK,n0,n1,n9,n0',n1',n9',nxa,r0,r1,ra0,ra1,o9,wph,qne,hc',add1,wk] at hr
    rw [hr0,←hr]
    exact ⟨_,_,_,rfl,by omega,keep _,kp 0 (by omega) _,kp 1 (by omega) _,kp b9 h9' _⟩
   | true=>
    rw [hh] at hc'
    rw [cond_true]
    rcases hv with ⟨rfl,rfl⟩ | ⟨a,va,rfl,h2,h3⟩
    ·simp only [go_sem,Fn.y3v,h1,h5,gB,gK,n0,n1,n9,n0',n1',n9',nxa,r0,r1,ra0,ra1,o9,wph,qne,hc',okSz,ROOM,add1,wk] at hr
     rw [hr0,←hr]
     refine ⟨_,_,_,rfl,by omega,.inr ⟨nx+11,0,rfl,upd_same _ _ _,by omega⟩, ?_, ?_, ?_⟩
     all_goals rw [y00 (by omega),y00 (by omega),y00 (by omega)]
    ·have a0:a≠0:=fun e=>by rw [e,o0] at h2;simp at h2
     have a1':a≠1:=fun e=>by rw [e,o1] at h2;simp at h2
     have a9:a≠b9:=fun e=>by rw [e,o9] at h2;simp at h2
     have k1:∀k ob y ver,rowAt (upd ob (nx+k) y) a ver=rowAt ob a ver:=fun k ob y ver=>y3z (by omega)
     have hra:rowAt ob a va=some (2,es):=y25 h2
     have b1':(es.length==es.length)=true:=by simp
     have w1:(es.length+1)*16≤140737488355328:=by omega
     simp only [go_sem,Fn.y3v,h1,h5,gB,gK,n0,n1,n9,n0',n1',n9',nxa,r0,r1,ra0,ra1,o9,wph,qne,hc',okSz,ROOM,k1,hra,b1',w1,add1,wk] at hr
     rw [hr0,←hr]
     refine ⟨_,_,_,rfl,by omega,.inr ⟨a,va+1, ?_,upd_same _ _ _,by omega⟩, ?_, ?_, ?_⟩
     ·rw [List.length_append];rfl
     ·rw [y00 (Ne.symm a0),y00 (by omega),y00 (by omega)]
     ·rw [y00 (Ne.symm a1'),y00 (by omega),y00 (by omega)]
     ·rw [y00 (Ne.symm a9),y00 (by omega),y00 (by omega)]
theorem yfh {n:Nat} (S:List (Bx×Bool)) (hS:S.length=5) (i:Nat) (hi:i<2^20) (x:Rcd) (hx:x.ph<5) (b9:Nat) (h9:2≤b9) (hc:∀q∈S,q.2=true→∀(ob:Nat→Option AObj) (fz:Nat→Nat),callV (evF E n) Id.y1v [.agg q.1.c,.agg x.s.c] ob fz=some (.fzd fz (.one (.bool (hasBx q.1 x.s))))) (y59 y60 y61:SV):∀(m p:Nat),p+m=5→∀(ob:Nat→Option AObj) (nx:Nat) (v:AV) (es:List (List AV)) (X:List (Nat×SV)),b9<nx→ob b9=some (.box x.c)→ob 0=some (.row 18 (S.map rawB) 0)→ob 1=some (.row 1 (S.map rawK) 0)→OutE 2 ob nx v es→es.length+m<2^30→∀N,m<N→
  ∃ob' nx' v' X',loopN (evC (evF E n) n Fn.y3v) N ⟨env ((2,.one (.rsl 0 0 18 0 5 false))::(3,.one (.rsl 1 0 1 0 5 false))::(4,.one v)::(8,.one (.int .i64 (i:Int)))::(9,.one (.box b9 0))::(59,y59)::(60,y60)::(61,y61)::(66,.one (.rsl 0 0 18 0 5 false))::(67,.one (.int .i64 5))::(68,.one (.int .i64 (p:Int)))::X),ob,fz0,nx⟩=
   some (.ext 5,⟨env ((2,.one (.rsl 0 0 18 0 5 false))::(3,.one (.rsl 1 0 1 0 5 false))::(4,.one v')::(8,.one (.int .i64 (i:Int)))::(9,.one (.box b9 0))::(59,y59)::(60,y60)::(61,y61)::X'),ob',fz0,nx'⟩)∧nx≤nx'∧OutE 2 ob' nx' v' (es++(mixR S i x p m).map mixC)∧ob' 0=some (.row 18 (S.map rawB) 0)∧ob' 1=some (.row 1 (S.map rawK) 0)
 | 0,p,hp,ob,nx,v,es,X,h9',o9,o0,o1,hv,hes,N+1,hN=>by
  have hp':p=5:=by omega
  subst hp'
  have hlt:(((5:Nat):Int)<5)=False:=by simp
  refine ⟨ob,nx,v,[(66,.one (.rsl 0 0 18 0 5 false)),(67,.one (.int .i64 5)),(68,.one (.int .i64 ((5:Nat):Int))),(69,.one (.bool false))],y09 ?_,Nat.le_refl _, ?_,o0,o1⟩
  ·simp only [go_sem,Fn.y3v,hlt]
  ·have e:mixR S i x 5 0=[]:=rfl
   rw [e];simpa using hv
 | m+1,p,hp,ob,nx,v,es,X,h9',o9,o0,o1,hv,hes,N+1,hN=>by
  have gp:S[p]? =some S[p]:=List.getElem?_eq_getElem (by omega)
  obtain ⟨ob1,nx1,v1,hst,g1,g2,g3,g4,g5⟩:=yny (n:=n) (nx:=nx) (ob:=ob) S hS p (by omega) S[p] gp i hi x hx b9 h9 h9' o9 o0 o1 v es hv (by omega) (hc _ (by simp)) y59 y60 y61 X
  have hl:(bif mixP S x p then es++[mixC (i,p)] else es).length+m<2^30:=by
   cases mixP S x p
   ·simp only [cond_false];omega
   ·simp only [cond_true,List.length_append,List.length_cons,List.length_nil];omega
  obtain ⟨ob',nx',v',X',q1,q2,q3,q4,q5⟩:=yfh S hS i hi x hx b9 h9 hc y59 y60 y61 m (p+1) (by omega) ob1 nx1 v1 _ [] (by omega) (g5.trans o9) (g3.trans o0) (g4.trans o1) g2 hl N (by omega)
  refine ⟨ob',nx',v',X',by rw [y08 hst];exact q1,by omega, ?_,q4,q5⟩
  have e:mixR S i x p (m+1)=(bif mixP S x p then [(i,p)] else [])++mixR S i x (p+1) m:=by
   unfold mixR
   rw [List.range'_succ,List.filter_cons]
   cases mixP S x p<;>simp
  rw [e]
  cases hm:mixP S x p<;>rw [hm] at q3<;>simpa using q3
theorem yr9 (S:List (Bx×Bool)) (hS:SmS S) (x:Rcd) (hx:SmSamp x.s):∃N,∀n,N≤n→∀q∈S,q.2=true→∀(ob:Nat→Option AObj) (fz:Nat→Nat),callV (evF E n) Id.y1v [.agg q.1.c,.agg x.s.c] ob fz=some (.fzd fz (.one (.bool (hasBx q.1 x.s)))):=by
 induction S with
 | nil=>exact ⟨0,fun _ _ _ h=>by cases h⟩
 | cons c r ih=>
  obtain ⟨Nb,kb⟩:=ih fun q hq hk=>hS q (by simp [hq]) hk
  cases hk:c.2 with
  | false=>
   refine ⟨Nb,fun n hn q hq hk'=> ?_⟩
   rcases List.mem_cons.1 hq with rfl | h
   ·rw [hk] at hk';cases hk'
   ·exact kb n hn q h hk'
  | true=>
   obtain ⟨Na,ka⟩:=yqc c.1 x.s (hS c (by simp) hk) hx
   refine ⟨Na+Nb,fun n hn q hq hk'=> ?_⟩
   rcases List.mem_cons.1 hq with rfl | h
   ·exact ka n (by omega)
   ·exact kb n (by omega) q h hk'
theorem ygt (S:List (Bx×Bool)) (i:Nat) (x:Rcd) (p m:Nat):(mixR S i x p m).length≤m:=by
 unfold mixR
 rw [List.length_map]
 exact Nat.le_trans (List.length_filter_le _ _) (by simp)
theorem yfw (S:List (Bx×Bool)) (hS:S.length=5) (hsS:SmS S):∀(r pre:List Rcd),(∀x∈r,x.ph<5∧SmSamp x.s)→(pre++r).length<2^20→
  ∃N,∀n,N≤n→∀(ob:Nat→Option AObj) (nx:Nat) (v:AV) (es:List (List AV)) (X:List (Nat×SV)),2≤nx→ob 0=some (.row 18 (S.map rawB) 0)→ob 1=some (.row 1 (S.map rawK) 0)→OutE 2 ob nx v es→es.length+5*r.length+5<2^30→∀M,r.length<M→
   ∃ob' nx' v' X',loopN (evC (evF E n) n Fn.y6n) M ⟨env ((2,.one (.rsl 0 0 18 0 5 false))::(3,.one (.rsl 1 0 1 0 5 false))::(4,.one v)::(59,.one (.sl false ((pre++r).map Rcd.c)))::(60,.one (.int .i64 ((pre++r).length:Int)))::(61,.one (.int .i64 (pre.length:Int)))::X),ob,fz0,nx⟩=
    some (.ext 3,⟨env ((2,.one (.rsl 0 0 18 0 5 false))::(3,.one (.rsl 1 0 1 0 5 false))::(4,.one v')::X'),ob',fz0,nx'⟩)∧nx≤nx'∧OutE 2 ob' nx' v' (es++(mixL S pre.length r).map mixC)∧ob' 0=some (.row 18 (S.map rawB) 0)∧ob' 1=some (.row 1 (S.map rawK) 0)
 | [],pre,hr,hlen=>by
  refine ⟨0,fun n hn ob nx v es X h2 o0 o1 hv hes M hM=> ?_⟩
  obtain ⟨M,rfl⟩:∃k,M=k+1:=⟨M-1,by simp at hM;omega⟩
  rw [List.append_nil]
  have hlt:(((pre.length:Nat):Int)<((pre.length:Nat):Int))=False:=by simp
  refine ⟨ob,nx,v,[(59,.one (.sl false (pre.map Rcd.c))),(60,.one (.int .i64 (pre.length:Int))),(61,.one (.int .i64 (pre.length:Int))),(62,.one (.bool false))],y09 ?_,Nat.le_refl _, ?_,o0,o1⟩
  ·simp only [go_sem,Fn.y6n,hlt]
  ·unfold mixL;simpa using hv
 | x::r,pre,hr,hlen=>by
  obtain ⟨hph,hsm⟩:=hr x (by simp)
  obtain ⟨N1,k1⟩:=yr9 S hsS x hsm
  obtain ⟨N2,k2⟩:=yfw S hS hsS r (pre++[x]) (fun y hy=>hr y (by simp [hy])) (by simpa using hlen)
  refine ⟨N1+N2+6,fun n hn ob nx v es X h2 o0 o1 hv hes M hM=> ?_⟩
  obtain ⟨M,rfl⟩:∃k,M=k+1:=⟨M-1,by simp at hM;omega⟩
  have gx:(pre++x::r)[pre.length]? =some x:=by simp
  have ge:((pre++x::r).map Rcd.c)[pre.length]? =some x.c:=by rw [List.getElem?_map,gx];rfl
  have okz:okSz 13 ((pre++x::r).map Rcd.c)=true:=y6e (f:=Rcd.c) (k:=13) (fun _=>rfl) _
  have hi:pre.length<2^20:=by simp at hlen;omega
  have h1:(((pre.length:Nat):Int)<(((pre++x::r).length:Nat):Int))=True:=by simp;omega
  have wk:IntKind.i64.wrap ((pre.length+1:Nat):Int)=((pre.length+1:Nat):Int):=wi64 (by omega)
  obtain ⟨c1,c2,c3,c4,c5,c6,c7,c8,c9,c10,c11,c12,c13,ec⟩:=yg8 x
  have fr:∀id,id<nx→upd ob (nx+3) (.box x.c) id=ob id:=fun id h=>y00 (by omega)
  have hv1:OutE 2 (upd ob (nx+3) (.box x.c)) (nx+6) v es:=by
   rcases hv with h | ⟨id,ver,h1,h2,h3⟩
   ·exact .inl h
   ·exact .inr ⟨id,ver,h1,by rw [fr id h3];exact h2,by omega⟩
  obtain ⟨ob1,nx1,v1,X1,hl1,g1,g2,g3,g4⟩:=yfh (n:=n) S hS pre.length hi x hph (nx+3) (by omega) (k1 n (by omega)) (.one (.sl false ((pre++x::r).map Rcd.c))) (.one (.int .i64 ((pre++x::r).length:Int))) (.one (.int .i64 (pre.length:Int))) 5 0 (by omega) (upd ob (nx+3) (.box x.c)) (nx+6) v es [] (by omega) (upd_same _ _ _) ((fr 0 (by omega)).trans o0) ((fr 1 (by omega)).trans o1) hv1 (by omega) n (by omega)
  have hm:=ygt S pre.length x 0 5
  obtain ⟨ob',nx',v',X',q1,q2,q3,q4,q5⟩:=k2 n (by omega) ob1 nx1 v1 _ [] (by omega) g3 g4 g2 (by rw [List.length_append,List.length_map];simp only [List.length_cons] at hes;omega) M (by simp only [List.length_cons] at hM;omega)
  rw [show pre++[x]++r=pre++x::r by simp,show (pre++[x]).length=pre.length+1 by simp] at q1
  rw [show (pre++[x]).length=pre.length+1 by simp] at q3
  refine ⟨ob',nx',v',X', ?_,by omega,by unfold mixL;rw [List.map_append,←List.append_assoc];exact q3,q4,q5⟩
  rw [y08 (st':=⟨env [(2,.one (.rsl 0 0 18 0 5 false)),(3,.one (.rsl 1 0 1 0 5 false)),(4,.one v1),(59,.one (.sl false ((pre++x::r).map Rcd.c))),(60,.one (.int .i64 ((pre++x::r).length:Int))),(61,.one (.int .i64 ((pre.length+1:Nat):Int)))],ob1,fz0,nx1⟩)]
  ·exact q1
  ·rw [show ((0:Nat):Int)=0 from rfl] at hl1
   rw [ec] at ge hl1
   have e55:((5:Nat):Int)=5:=rfl
   simp only [go_sem,Fn.y6n,h1,ge,okz,Nat.add_assoc,e55,hl1,add1,wk]
end Go.Ev
namespace Go.Ev
open Go.Dig
def Z0 (S:List (Bx×Bool)):Prop:=∀q∈S,q.2=false→q=bx0
theorem yjk:∀(l:List Rcd) (S:List (Bx×Bool)),Z0 S→Z0 (boxL S l)
 | [],S,h=>h
 | x::r,S,h=>yjk r (boxS S x) fun q hq hk=>by
  unfold boxS at hq
  rcases List.mem_or_eq_of_mem_set hq with h1 | h1
  ·exact h q h1 hk
  ·rw [h1] at hk;cases hk
theorem yqy (ob:Nat→Option AObj) (k:Nat) (fz:Nat→Nat):mapFz (Ev.frz ob (k+1)) fz z18=some (fz,bx0.1.c):=by
 unfold bx0 Bx.c Samp.c
 simp only [y9c]
 rfl
theorem yg7 (ob:Nat→Option AObj) (k:Nat) (fz:Nat→Nat):∀(S:List (Bx×Bool)),Z0 S→mapFz (mapFz (Ev.frz ob (k+1))) fz (S.map rawB)=some (fz,S.map fun q=>q.1.c)
 | [],h=>rfl
 | q::r,h=>by
  have h1:mapFz (Ev.frz ob (k+1)) fz (rawB q)=some (fz,q.1.c):=by
   unfold rawB
   cases hk:q.2 with
   | true=>exact y66 _ fun x hx=>(CanL.bx q.1 x hx).frz ob k fz
   | false=>rw [cond_false,yqy,h q (by simp) hk]
  simp only [List.map_cons,mapFz,h1,yg7 ob k fz r fun q hq=>h q (by simp [hq])]
theorem yde {ob:Nat→Option AObj} {id ver sz z:Nat} {full:Bool} {es fs:List (List AV)} (fz:Nat→Nat) (hr:ob id=some (.row z es ver)) (hf:∀fz,mapFz (mapFz (Ev.frz ob 7)) fz es=some (fz,fs)) (n:Nat) (hn:n=es.length):
  frzS ob fz (.one (.rsl id ver sz 0 n full))=some (raise fz id n,.one (.sl false fs)):=by
 subst hn
 have hb:Nat.ble (0+es.length) es.length=true:=by simp
 have h1:Ev.frz ob DEPTH fz (.rsl id ver sz 0 es.length full)=some (raise fz id (0+es.length),.sl false fs):=by
  rw [show DEPTH=7+1 from rfl,y76,y25 hr]
  simp only [hb,cond_true,List.drop_zero,List.take_length,hf]
 rw [Nat.zero_add] at h1
 simp only [frzS,h1]
theorem ym8 (q:Bx×Bool):CanL (rawK q):=.cons (.bool _) .nil
theorem yno (q:Nat×Nat):CanL (mixC q):=.cons (.int _ _) (.cons (.int _ _) .nil)
def boxesE (l:List Rcd):Int:=if l.any badR=true then 2 else if 1024<l.length then 5 else 0
def boxes0:List (Bx×Bool):=List.replicate 5 bx0
def boxesF (l:List Rcd):List (Bx×Bool):=boxL boxes0 l
def boxesA (l:List Rcd):SV:=if boxesE l=0 then .tup [.one (.sl false ((boxesF l).map fun q=>q.1.c)),.one (.sl false ((boxesF l).map rawK)),.one (.sl false ((mixL (boxesF l) 0 l).map mixC)),.one (.int .i64 0)] else .tup [.one (.sl false []),.one (.sl false []),.one (.sl false []),.one (.int .i64 (boxesE l))]
theorem yfc {l:List Rcd} (h:boxesE l=0):(∀x∈l,x.ph<5)∧l.length≤1024:=by
 unfold boxesE at h
 by_cases h1:l.any badR=true
 ·rw [if_pos h1] at h;simp at h
 ·rw [if_neg h1] at h
  by_cases h2:1024<l.length
  ·rw [if_pos h2] at h;simp at h
  ·refine ⟨fun x hx=> ?_,by omega⟩
   rw [Bool.not_eq_true] at h1
   have hb:=List.any_eq_false.1 h1 x hx
   unfold badR at hb
   simp only [decide_eq_true_eq] at hb
   omega
set_option maxRecDepth 100000 in
theorem ye1 (l:List Rcd) (hl:l.length<2^20) (hs:∀x∈l,SmSamp x.s):Ends Id.y3l [.one (.sl false (l.map Rcd.c))] (boxesA l):=by
 obtain ⟨N1,k1⟩:=ya7 Id.y35 badR l (Nat.lt_trans hl (by decide)) (y7g (fun x:Rcd=>(yj6 x).call (can1' (CanL.rcd x))) l)
 unfold boxesA
 have q1:(((l.length:Nat):Int)>1024)=(1024<l.length):=by rw [eq_iff_iff];omega
 by_cases h1:l.any badR=true
 ·have e:boxesE l=2:=by unfold boxesE;rw [if_pos h1]
  rw [e,if_neg (by decide)]
  rw [h1] at k1
  refine .of N1 fun {n} hn=> ?_
  have k1:=k1 n hn
  rw [y06 y8a]
  simp only [go_sem,Fn.y3l,k1]
 ·by_cases h2:1024<l.length
  ·have e:boxesE l=5:=by unfold boxesE;rw [if_neg h1,if_pos h2]
   rw [e,if_neg (by decide)]
   rw [Bool.not_eq_true] at h1
   rw [h1] at k1
   refine .of N1 fun {n} hn=> ?_
   have k1:=k1 n hn
   rw [y06 y8a]
   simp only [go_sem,Fn.y3l,k1,List.length_map,q1,h2]
  ·have e:boxesE l=0:=by unfold boxesE;rw [if_neg h1,if_neg h2]
   obtain ⟨hph,-⟩:=yfc e
   rw [if_pos e]
   rw [Bool.not_eq_true] at h1
   rw [h1] at k1
   have hS0:SmS boxes0:=fun q hq hk=>by
    rw [List.eq_of_mem_replicate hq] at hk;cases hk
   have hF:(boxesF l).length=5:=by unfold boxesF;rw [yck];rfl
   have hFs:SmS (boxesF l):=yk2 l boxes0 hS0 hs
   have hFz:Z0 (boxesF l):=yjk l boxes0 fun q hq _=>List.eq_of_mem_replicate hq
   obtain ⟨N2,k2⟩:=ydo l [] boxes0 rfl hS0 (fun x hx=>⟨hph x hx,hs x hx⟩) (by simpa using hl)
   obtain ⟨N3,k3⟩:=yfw (boxesF l) hF hFs l [] (fun x hx=>⟨hph x hx,hs x hx⟩) (by simpa using hl)
   refine .of (N1+N2+N3+l.length+1) fun {n} hn=> ?_
   have k1:=k1 n (by omega)
   have k2:=k2 n (by omega) (upd (upd ob0 0 (.row 18 [z18,z18,z18,z18,z18] 0)) 1 (.row 1 [[.bool false],[.bool false],[.bool false],[.bool false],[.bool false]] 0)) 4 (.one .nils) [] (by decide) (by rw [y00 (by decide)];exact upd_same _ _ _) (upd_same _ _ _) n (by omega)
   obtain ⟨ob1,nx1,X1,g1,g2,g3,g4⟩:=k2
   obtain ⟨ob2,nx2,v2,X2,g5,g6,g7,g8,g9⟩:=k3 n (by omega) ob1 nx1 .nils [] [] (by omega) g3 g4 (.inl ⟨rfl,rfl⟩) (by simp only [List.length_nil];omega) n (by omega)
   have z0:(([]:List Rcd).length:Int)=0:=rfl
   rw [List.nil_append,z0] at g1 g5
   have f1:=fun fz=>yde (sz:=18) (full:=false) fz g8 (fun fz=>yg7 ob2 6 fz (boxesF l) hFz) 5 (by rw [List.length_map,hF])
   have f2:=fun fz=>yde (sz:=1) (full:=false) fz g9 (fun fz=>(ybv ym8 (boxesF l)).frz ob2 6 fz) 5 (by rw [List.length_map,hF])
   rw [List.nil_append] at g7
   obtain ⟨g,f3⟩:=g7.frz (ybv yno (mixL (boxesF l) 0 l))
   rw [y06 y8a]
   unfold z18 at g1
   have r5:∀(z:List AV),List.replicate (Int.toNat 5) z=[z,z,z,z,z]:=fun z=>rfl
   simp only [go_sem,Fn.y3l,k1,List.length_map,q1,h2,natOf,g1,g5,f1,f2,f3]
end Go.Ev
namespace Go.Ev
open Go.Dig
def powW (d:Dev) (q:WSt×Samp):Rat:=(stepW d q.1 q.2).m*q.2.speed
def wsum (d:Dev) (p:Nat):Rat→List (WSt×Samp)→Rat
 | a,[]=>a
 | a,q::r=>wsum d p (if (stepW d q.1 q.2).ph=p then a+powW d q*d.step else a) r
@[irreducible] def WKB:Nat:=2^19+514
theorem MQ.frz {m:Rat} {mc:List AV} (h:MQ m mc) (ob:Nat→Option AObj) (k:Nat) (fz:Nat→Nat):mapFz (Ev.frz ob (k+1)) fz mc=some (fz,qC m):=by
 rcases h with rfl | ⟨rfl,rfl⟩
 ·exact y66 _ fun x hx=>(CanL.q m x hx).frz ob k fz
 ·rw [y9c];rfl
end Go.Ev
namespace Go.Ev
open Go.Dig
def RQ (q:Rat) (cs:List AV):Prop:=cs=rC q∨(q=0∧cs=[.bool false,.sl false [],.bool false,.sl false []])
theorem RQ.self (q:Rat):RQ q (rC q):=.inl rfl
theorem RQ.can {q:Rat} {cs:List AV} (h:RQ q cs):CanS (.agg cs):=by
 rcases h with rfl | ⟨rfl,rfl⟩
 ·exact yad q
 ·refine .agg _ fun x hx=> ?_
  simp only [List.mem_cons,List.not_mem_nil,or_false] at hx
  rcases hx with rfl | rfl | rfl | rfl
  ·exact .bool _
  ·exact .sl _
  ·exact .bool _
  ·exact .sl _
theorem RQ.cells {q:Rat} {cs:List AV} (h:RQ q cs):∃e y,cs=[.bool (decide (q.num<0)),zD q.num.natAbs,e,y]:=by
 rcases h with rfl | ⟨rfl,rfl⟩
 ·exact ⟨_,_,rC_eq q⟩
 ·refine ⟨.bool false,.sl false [], ?_⟩
  have h1:((0:Rat).num.natAbs)=0:=rfl
  rw [h1]
  unfold zD
  rw [y0p];rfl
theorem rdn {q:Rat} {cs:List AV} (h:RQ q cs) (hd:dlen BT q.den<2^60) {n:Nat} (hn:12≤n) (ob:Nat→Option AObj) (fz:Nat→Nat):callV (evF E n) Id.y0w [.agg cs] ob fz=some (.fzd fz (sV (q.den:Int))):=by
 obtain ⟨n,rfl⟩:∃k,n=k+1:=⟨n-1,by omega⟩
 refine y01 ?_ (can1 h.can) ob fz
 rcases h with rfl | ⟨rfl,rfl⟩
 ·exact ycs q hd (by omega)
 ·rw [y06 y7r]
  obtain ⟨n,rfl⟩:∃k,n=k+1:=⟨n-1,by omega⟩
  have hz:=y01 (y87 1 (by decide) (by decide) (n:=n) (by omega)) (can1 (y24 _ _))
  have e1:((0:Rat).den:Int)=1:=rfl
  have e0:((((0:Nat):Int))==0)=true:=rfl
  rw [e1]
  unfold sV zC zD at hz ⊢
  simp only [go_sem,Fn.y0w,e0,hz]
theorem yig (a b:Rat) {ca cb:List AV} (h:RQ a ca) (h':RQ b cb) {S T:Nat} (ha:SmQ S a) (hb:SmQ T b) (hS:S+T<2^36) {n:Nat} (hn:2*(S+T)+20≤n):evV E (n+1) Id.y15 [.agg ca,.agg cb]=some (.one (.int .i64 (cmpQ a b))):=by
 rw [y06 ycj]
 unfold cmpQ
 obtain ⟨n,rfl⟩:∃k,n=k+1:=⟨n-1,by omega⟩
 have da:=y33 ha.den
 have db:=y33 hb.den
 have na:=y33 ha.num
 have nb:=y33 hb.num
 have d1:=rdn h (by omega) (n:=n+1) (by omega)
 have d2:=rdn h' (by omega) (n:=n+1) (by omega)
 have m1:=y01 (y8n a.num (b.den:Int) (by omega) (by rw [Int.natAbs_natCast];omega) (n:=n) (by rw [Int.natAbs_natCast];omega)) (can2 (y4b _) (y4b _))
 have m2:=y01 (y8n b.num (a.den:Int) (by omega) (by rw [Int.natAbs_natCast];omega) (n:=n) (by rw [Int.natAbs_natCast];omega)) (can2 (y4b _) (y4b _))
 have h1:(a.num*(b.den:Int)).natAbs<2^(S+T):=by rw [Int.natAbs_mul,Int.natAbs_natCast];exact y5t ha.num hb.den
 have h2:(b.num*(a.den:Int)).natAbs<2^(S+T):=by rw [Int.natAbs_mul,Int.natAbs_natCast,Nat.add_comm];exact y5t hb.num ha.den
 have l1:=y33 h1
 have l2:=y33 h2
 have hc:=y01 (ymr (a.num*(b.den:Int)) (b.num*(a.den:Int)) (by omega) (by omega) (n:=n) (by omega)) (can2 (y4b _) (y4b _))
 generalize a.num*(b.den:Int)=p at m1 hc ⊢
 generalize b.num*(a.den:Int)=r at m2 hc ⊢
 obtain ⟨e,y,rfl⟩:=h.cells
 obtain ⟨e',y',rfl⟩:=h'.cells
 unfold sV zC at d1 d2 m1 m2 hc
 rw [Int.natAbs_natCast] at d1 d2 m1 m2
 unfold zD at d1 d2 m1 m2 hc ⊢
 simp only [go_sem,Fn.y15,d1,d2,m1,m2,hc]
end Go.Ev
namespace Go.Ev
open Go.Dig
theorem yr6 (c:Nat) (h:c<10):(⟨#[48,49,50,51,52,53,54,55,56,57]⟩:ByteArray).extract c (c+1)=strB [48+c]:=by
 match c,h with
 | 0,_=>rfl
 | 1,_=>rfl
 | 2,_=>rfl
 | 3,_=>rfl
 | 4,_=>rfl
 | 5,_=>rfl
 | 6,_=>rfl
 | 7,_=>rfl
 | 8,_=>rfl
 | 9,_=>rfl
theorem yll (a:Nat) (l:List Nat):(strB (a::l)).extract 1 (l.length+1)=strB l:=by
 apply ByteArray.ext
 rw [ByteArray.data_extract,y5y,y5y]
 simp
 exact List.take_of_length_le (by simp)
theorem ymz (a:Nat) (l:List Nat):(strB (a::l))[0]? =some (UInt8.ofNat a):=by
 have h:0<(strB (a::l)).size:=by rw [y8s];simp
 rw [getElem?_pos _ 0 h]
 congr 1
 show (strB (a::l)).data[0]'h=_
 simp only [y5y]
 simp
section
variable {F:Caller} {fuel:Nat} {fz:Nat→Nat} {ob:Nat→Option AObj} {nx:Nat}
set_option maxRecDepth 100000 in
theorem zt_L0 (y1 y4:SV):∀(m k d:Nat) (s:List Nat) (X:List (Nat×SV)),k+m=4→d<10000→s.length+m<2^50→∀N,m<N→
  ∃X',loopN (evC F fuel Fn.y4i) N ⟨env ((1,y1)::(3,.one (.str (strB s)))::(4,y4)::(5,.one (.int .i64 (d:Int)))::(6,.one (.int .i64 (k:Int)))::X),ob,fz,nx⟩=
   some (.ext 2,⟨env ((1,y1)::(3,.one (.str (strB ((chD (padD m d)).reverse++s))))::(4,y4)::X'),ob,fz,nx⟩)
 | 0,k,d,s,X,hk,hd,hs,N,hN=>by
  obtain ⟨N,rfl⟩:∃k,N=k+1:=⟨N-1,by omega⟩
  have h1:(((k:Nat):Int)<4)=False:=by simp;omega
  refine ⟨[(5,.one (.int .i64 (d:Int))),(6,.one (.int .i64 (k:Int))),(24,.one (.bool false))],y09 ?_⟩
  simp only [go_sem,Fn.y4i,h1,padD,chD,List.map_nil,List.reverse_nil,List.nil_append]
 | m+1,k,d,s,X,hk,hd,hs,N,hN=>by
  obtain ⟨N,rfl⟩:∃k,N=k+1:=⟨N-1,by omega⟩
  have h1:(((k:Nat):Int)<4)=True:=by simp;omega
  have wk:IntKind.i64.wrap ((k+1:Nat):Int)=((k+1:Nat):Int):=wi64 (by omega)
  have t10:((10:Int)=0)=False:=by simp
  have m1:((d:Nat):Int).tmod 10=((d%10:Nat):Int):=by rw [Int.tmod_eq_emod_of_nonneg (by omega)];omega
  have m4:IntKind.i64.wrap (((d:Nat):Int).tdiv 10)=((d / 10:Nat):Int):=by
   rw [Int.tdiv_eq_ediv_of_nonneg (by omega)]
   have:((d:Nat):Int) / 10=((d / 10:Nat):Int):=by omega
   rw [this,wrap_i64 (by omega)]
  have hc:d%10<10:=Nat.mod_lt _ (by decide)
  have e:(chD (padD (m+1) d)).reverse++s=(chD (padD m (d / 10))).reverse++((48+d%10)::s):=by
   have:padD (m+1) d=d%10::padD m (d / 10):=rfl
   rw [this]
   simp [chD]
  rw [e]
  generalize hcc:d%10=c at*
  have w1:IntKind.i64.wrap ((c+1:Nat):Int)=((c+1:Nat):Int):=wi64 (by omega)
  have hx:=yr6 c hc
  have hadd:=y6o [48+c] s (by simp;omega)
  have b1:(c≤c+1)=True:=by simp
  have b2:(c+1≤10)=True:=by simp;omega
  have sz:(⟨#[48,49,50,51,52,53,54,55,56,57]⟩:ByteArray).size=10:=rfl
  have hst:evC F fuel Fn.y4i ⟨env ((1,y1)::(3,.one (.str (strB s)))::(4,y4)::(5,.one (.int .i64 (d:Int)))::(6,.one (.int .i64 (k:Int)))::X),ob,fz,nx⟩=
    some (.nrm,⟨env [(1,y1),(3,.one (.str (strB ((48+c)::s)))),(4,y4),(5,.one (.int .i64 ((d / 10:Nat):Int))),(6,.one (.int .i64 ((k+1:Nat):Int)))],ob,fz,nx⟩):=by
   simp only [go_sem,Fn.y4i,h1,t10,m1,m4,add1,w1,b1,b2,sz,hx,hadd,wk]
  rw [y08 hst]
  exact zt_L0 y1 y4 m (k+1) (d / 10) ((48+c)::s) [] (by omega) (by omega) (by simp;omega) N (by omega)
set_option maxRecDepth 100000 in
theorem zt_L2 (y1:SV):∀(m:Nat) (D:List Nat) (X:List (Nat×SV)),D.length=m→(∀d∈D,d<10)→trim D≠[]→D.length<2^50→∀N,m<N→
  ∃X',loopN (evC F fuel Fn.y4k) N ⟨env ((1,y1)::(3,.one (.str (strB (chD D).reverse)))::X),ob,fz,nx⟩=
   some (.ext 4,⟨env ((1,y1)::(3,.one (.str (strB (chD (trim D)).reverse)))::X'),ob,fz,nx⟩):=by
 intro m
 induction m with
 | zero=>
  intro D X hm hd ht hl N hN
  have:D=[]:=List.eq_nil_of_length_eq_zero hm
  subst this
  exact absurd rfl ht
 | succ m ih=>
  intro D X hm hd ht hl N hN
  obtain ⟨N,rfl⟩:∃k,N=k+1:=⟨N-1,by omega⟩
  obtain ⟨l,x,rfl⟩:∃l x,D=l++[x]:=by
   rcases List.eq_nil_or_concat D with h | ⟨l,x,h⟩
   ·rw [h] at hm;simp at hm
   ·exact ⟨l,x,by simpa using h⟩
  have hx:x<10:=hd x (by simp)
  have hrev:(chD (l++[x])).reverse=(48+x)::(chD l).reverse:=by simp [chD]
  have hh:=ymz (48+x) (chD l).reverse
  have hn:((UInt8.ofNat (48+x)).toNat:Int)=((48+x:Nat):Int):=by
   rw [UInt8.toNat_ofNat'];omega
  have nz:Ev.natOf 0=some 0:=rfl
  by_cases h0:x=0
  ·subst h0
   have hb:(((48+0:Nat):Int)==48)=true:=rfl
   have hll:(chD l).reverse.length=l.length:=by simp [chD]
   have ht1:=yll (48+0) (chD l).reverse
   have hsz:(strB ((48+0)::(chD l).reverse)).size=(chD l).reverse.length+1:=by rw [y8s];rfl
   have nz1:Ev.natOf 1=some 1:=rfl
   have b1:(1≤(chD l).reverse.length+1)=True:=by simp
   have hst:evC F fuel Fn.y4k ⟨env ((1,y1)::(3,.one (.str (strB (chD (l++[0])).reverse)))::X),ob,fz,nx⟩=
     some (.nrm,⟨env [(1,y1),(3,.one (.str (strB (chD l).reverse)))],ob,fz,nx⟩):=by
    rw [hrev]
    generalize (chD l).reverse=R at*
    simp only [go_sem,Fn.y4k,nz,hh,hn,hb,nz1,hsz,b1,ht1]
   rw [y08 hst,y5i]
   rw [y5i] at ht
   exact ih l [] (by simpa using hm) (fun d hd'=>hd d (by simp [hd'])) ht (by simp at hl;omega) N (by omega)
  ·rw [y6a h0]
   have hb:(((48+x:Nat):Int)==48)=false:=by simp;omega
   refine ⟨[(39,.one (.bool false))],y09 ?_⟩
   rw [hrev]
   simp only [go_sem,Fn.y4k,nz,hh,hn,hb]
end
end Go.Ev
namespace Go.Ev
open Go.Dig
section
variable {F:Caller} {fuel:Nat} {fz:Nat→Nat} {ob:Nat→Option AObj} {nx:Nat}
def ztP (ds:List Nat):List Nat:=(chD (ds.flatMap (padD 4))).reverse
theorem yq1 (ds:List Nat) (d:Nat):ztP (ds++[d])=(chD (padD 4 d)).reverse++ztP ds:=by
 unfold ztP
 rw [List.flatMap_append]
 simp [chD]
theorem yjv (ds:List Nat):(ztP ds).length=4*ds.length:=by
 unfold ztP chD
 rw [List.length_reverse,List.length_map]
 induction ds with
 | nil=>rfl
 | cons d r ih=>rw [List.flatMap_cons,List.length_append,ih,y9s,List.length_cons];omega
set_option maxRecDepth 100000 in
theorem zt_L1 {sg:AV} (ds:List Nat) (hds:∀d∈ds,d<BT) (hl:ds.length<2^40) (hob:ob 0=some (.box [sg,.sl false (intE ds)])) (hf:5≤fuel):∀(m i:Nat) (X:List (Nat×SV)),i+m=ds.length→∀N,m<N→
  ∃X',loopN (evC F fuel Fn.y4h) N ⟨env ((1,.one (.box 0 0))::(3,.one (.str (strB (ztP (ds.take i)))))::(4,.one (.int .i64 (i:Int)))::X),ob,fz,nx⟩=
   some (.ext 0,⟨env ((1,.one (.box 0 0))::(3,.one (.str (strB (ztP ds))))::X'),ob,fz,nx⟩)
 | 0,i,X,hi,N,hN=>by
  obtain ⟨N,rfl⟩:∃k,N=k+1:=⟨N-1,by omega⟩
  have hi':i=ds.length:=by omega
  subst hi'
  rw [List.take_length]
  have h1:(((ds.length:Nat):Int)<((ds.length:Nat):Int))=False:=by simp
  refine ⟨[(4,.one (.int .i64 (ds.length:Int))),(15,.one (.bool false))],y09 ?_⟩
  simp only [go_sem,Fn.y4h,hob,y7e,h1]
 | m+1,i,X,hi,N,hN=>by
  obtain ⟨N,rfl⟩:∃k,N=k+1:=⟨N-1,by omega⟩
  have hil:i<ds.length:=by omega
  have h1:(((i:Nat):Int)<((ds.length:Nat):Int))=True:=by simp;omega
  have wk:IntKind.i64.wrap ((i+1:Nat):Int)=((i+1:Nat):Int):=wi64 (by omega)
  have gd:ds[i]? =some ds[i]:=by simp
  have hd:ds[i]<10000:=hds _ (by simp)
  have td:ds.take (i+1)=ds.take i++[ds[i]]:=by rw [List.take_add_one,gd];rfl
  have okz:okSz 1 (intE ds)=true:=ygd ds
  have ih:=zt_L1 ds hds hl hob hf m (i+1) [] (by omega) N (by omega)
  rw [td,yq1] at ih
  have hlen:(ztP (ds.take i)).length+4<2^50:=by rw [yjv,List.length_take];omega
  generalize ds[i]=d at*
  obtain ⟨X',hX⟩:=zt_L0 (F:=F) (fuel:=fuel) (fz:=fz) (ob:=ob) (nx:=nx) (.one (.box 0 0)) (.one (.int .i64 (i:Int))) 4 0 d (ztP (ds.take i)) [] rfl hd hlen fuel hf
  have z0:((0:Nat):Int)=0:=rfl
  rw [z0] at hX
  generalize ztP (ds.take i)=s at*
  generalize (chD (padD 4 d)).reverse++s=s' at*
  have hst:evC F fuel Fn.y4h ⟨env ((1,.one (.box 0 0))::(3,.one (.str (strB s)))::(4,.one (.int .i64 (i:Int)))::X),ob,fz,nx⟩=
    some (.nrm,⟨env [(1,.one (.box 0 0)),(3,.one (.str (strB s'))),(4,.one (.int .i64 ((i+1:Nat):Int)))],ob,fz,nx⟩):=by
   simp only [go_sem,Fn.y4h,hob,y7e,yhz,gd,okz,h1,hX,add1,wk]
  rw [y08 hst]
  exact ih
end
theorem yez:∀(k d:Nat),∀x∈padD k d,x<10
 | 0,d,x,h=>by cases h
 | k+1,d,x,h=>by
  rcases List.mem_cons.1 h with rfl | h
  ·omega
  ·exact yez k _ x h
theorem yjt:∀(k d:Nat),d<10^k→val 10 (padD k d)=d
 | 0,d,h=>by
  have:d=0:=by simpa using h
  rw [this];rfl
 | k+1,d,h=>by
  show d%10+10*val 10 (padD k (d / 10))=d
  rw [yjt k (d / 10) (by rw [Nat.pow_succ] at h;omega)];omega
theorem yif:∀(ds:List Nat),(∀d∈ds,d<BT)→val 10 (ds.flatMap (padD 4))=val BT ds
 | [],h=>rfl
 | d::r,h=>by
  have hd:d<10^4:=h d (by simp)
  rw [List.flatMap_cons,y6z,yjt 4 d hd,y9s,yif r fun x hx=>h x (by simp [hx])]
  rfl
theorem ynq (ds:List Nat) (h:∀d∈ds,d<BT):trim (ds.flatMap (padD 4))=digs 10 (val BT ds):=by
 rw [y9a (show 2≤10 by decide) _ (fun x hx=>by
  obtain ⟨d,_,hd⟩:=List.mem_flatMap.1 hx
  exact yez 4 d x hd),yif ds h]
def zL (z:Int):List Nat:=if z<0 then 45::decL z.natAbs else decL z.natAbs
set_option maxRecDepth 100000 in
theorem yfm (z:Int) (hz:dlen BT z.natAbs<2^38) {n:Nat} (hn:4*dlen BT z.natAbs+20≤n):evV E (n+1) Id.y1f [sV z]=some (.one (.str (strB (zL z)))):=by
 rw [y06 yag]
 unfold zL sV zC zD
 by_cases h0:z.natAbs=0
 ·have hz0:z=0:=by omega
  subst hz0
  have hq:(((digs BT (0:Int).natAbs).length:Int)==0)=true:=by rw [show (0:Int).natAbs=0 from rfl,y0p];rfl
  have e:strB (if (0:Int)<0 then 45::decL (0:Int).natAbs else decL (0:Int).natAbs)=⟨#[48]⟩:=by rfl
  rw [e]
  simp only [go_sem,Fn.y1f,y7e,hq,y5b]
 ·have hq:(((digs BT z.natAbs).length:Int)==0)=false:=by
   have:=y3f BT2 h0
   have:(digs BT z.natAbs).length≠0:=fun e=>this (List.length_eq_zero_iff.1 e)
   simp only [beq_eq_false_iff_ne,ne_eq];omega
  rw [y9i h0]
  unfold dlen at hz hn
  obtain ⟨ob1,hob1⟩:∃o,o=upd ob0 0 (.box [.bool (decide (z<0)),.sl false (intE (digs BT z.natAbs))]):=⟨_,rfl⟩
  have o0:ob1 0=some (.box [.bool (decide (z<0)),.sl false (intE (digs BT z.natAbs))]):=by rw [hob1];exact upd_same _ _ _
  obtain ⟨X1,k1⟩:=zt_L1 (F:=evF E n) (fuel:=n) (fz:=fz0) (ob:=ob1) (nx:=2) (digs BT z.natAbs) (y1m BT2 _) (by omega) o0 (by omega) (digs BT z.natAbs).length 0 [] (by omega) n (by omega)
  have hft:=ynq (digs BT z.natAbs) (y1m BT2 _)
  rw [y13 BT2] at hft
  have hne:digs 10 z.natAbs≠[]:=y3f (by decide) h0
  have hfl:((digs BT z.natAbs).flatMap (padD 4)).length=4*(digs BT z.natAbs).length:=by
   have:=yjv (digs BT z.natAbs)
   unfold ztP chD at this
   simpa using this
  obtain ⟨X2,k2⟩:=zt_L2 (F:=evF E n) (fuel:=n) (fz:=fz0) (ob:=ob1) (nx:=2) (.one (.box 0 0)) ((digs BT z.natAbs).flatMap (padD 4)).length ((digs BT z.natAbs).flatMap (padD 4)) X1 rfl (fun x hx=>by
   obtain ⟨d,_,hd⟩:=List.mem_flatMap.1 hx
   exact yez 4 d x hd) (by rw [hft];exact hne) (by omega) n (by omega)
  have e0:strB (ztP ((digs BT z.natAbs).take 0))=⟨#[]⟩:=rfl
  have z0:((0:Nat):Int)=0:=rfl
  rw [e0,z0] at k1
  rw [hft] at k2
  have eP:ztP (digs BT z.natAbs)=(chD ((digs BT z.natAbs).flatMap (padD 4))).reverse:=rfl
  rw [eP] at k1
  have hl10:(digs 10 z.natAbs).length≤4*(digs BT z.natAbs).length:=by
   rw [←hft,←hfl];exact ybw _
  have hadd:=y6o [45] (chD (digs 10 z.natAbs)).reverse (by simp [chD];omega)
  have hadd:binS .add ⟨#[45]⟩ (strB (chD (digs 10 z.natAbs)).reverse)=some (.str (strB (45::(chD (digs 10 z.natAbs)).reverse))):=hadd
  generalize (chD (digs 10 z.natAbs)).reverse=R at*
  generalize (chD ((digs BT z.natAbs).flatMap (padD 4))).reverse=R2 at*
  by_cases hneg:z<0
  ·rw [if_pos hneg]
   rw [decide_eq_true hneg] at o0 hob1 ⊢
   simp only [go_sem,Fn.y1f,y7e,hq,←hob1,k1,k2,o0,hadd,y5b]
  ·rw [if_neg hneg]
   rw [decide_eq_false hneg] at o0 hob1 ⊢
   simp only [go_sem,Fn.y1f,y7e,hq,←hob1,k1,k2,o0,y5b]
end Go.Ev
namespace Go.Ev
open Go.Dig
theorem yj8 (l:List Nat):(strB l).toList=l.map fun d=>UInt8.ofNat d:=by
 rw [ByteArray.toList_eq,y5y]
theorem ypu (a:Nat):(((decL a).map fun d=>UInt8.ofNat d)=[49])↔a=1:=by
 constructor
 ·intro h
  by_cases h0:a=0
  ·subst h0;exact absurd h (by decide)
  ·rw [y9i h0] at h
   have hl:(digs 10 a).length=1:=by
    have:=congrArg List.length h
    simpa [chD] using this
   obtain ⟨d,hd⟩:∃d,digs 10 a=[d]:=List.length_eq_one_iff.1 hl
   have hlt:d<10:=y1m (show 2≤10 by decide) a d (by rw [hd];simp)
   have hv:=y13 (show 2≤10 by decide) a
   rw [hd] at hv h
   have hv:d=a:=by simpa [val] using hv
   have h1:UInt8.ofNat (48+d)=49:=by simpa [chD] using h
   have h2:=congrArg UInt8.toNat h1
   rw [UInt8.toNat_ofNat'] at h2
   have h3:(49:UInt8).toNat=49:=rfl
   rw [h3] at h2
   omega
 ·rintro rfl
  have:decL 1=[49]:=by
   rw [y9i (by decide),y5f (by decide) (by decide),y0p];rfl
  rw [this];rfl
theorem yrr (a:Nat):binS .eql (strB (decL a)) ⟨#[49]⟩=some (.bool (decide (a=1))):=by
 show some (AV.bool ((strB (decL a)).toList==(⟨#[49]⟩:ByteArray).toList))=_
 have h1:(⟨#[49]⟩:ByteArray).toList=[49]:=by rw [ByteArray.toList_eq]
 rw [h1,yj8]
 congr 2
 rw [Bool.eq_iff_iff,beq_iff_eq,decide_eq_true_iff,ypu]
set_option maxRecDepth 100000 in
theorem ymt (q:Rat) {ca:List AV} (hq:RQ q ca) {S:Nat} (h:SmQ S q) (hS:S<2^34) {n:Nat} (hn:4*S+100≤n):evV E (n+1) Id.y2a [.agg ca]=some (.one (.str (strB (txtL q)))):=by
 rw [y06 ybf]
 obtain ⟨n,rfl⟩:∃j,n=j+1:=⟨n-1,by omega⟩
 have na:=y33 h.num
 have da:=y33 h.den
 have k1:=y01 (yfm q.num (by omega) (n:=n) (by omega)) (can1 (y4b _))
 have k2:=rdn hq (by omega) (n:=n+1) (by omega)
 have k3:=y01 (yfm (q.den:Int) (by rw [Int.natAbs_natCast];omega) (n:=n) (by rw [Int.natAbs_natCast];omega)) (can1 (y4b _))
 have s1:=y9f h.num
 have s2:=y9f h.den
 have ez:zL (q.den:Int)=decL q.den:=by unfold zL;rw [if_neg (by omega),Int.natAbs_natCast]
 rw [ez] at k3
 have ezl:(zL q.num).length≤S+2:=by
  unfold zL
  split
  ·rw [List.length_cons];omega
  ·omega
 have g1:binS .add (strB (zL q.num)) ⟨#[47]⟩=some (.str (strB (zL q.num++[47]))):=y6o _ [47] (by simp;omega)
 have g2:=y6o (zL q.num++[47]) (decL q.den) (by simp;omega)
 have g3:=yrr q.den
 have et:txtL q=zL q.num++(if q.den=1 then [] else 47::decL q.den):=rfl
 rw [et]
 obtain ⟨e,y,rfl⟩:=hq.cells
 generalize zL q.num=A at*
 generalize decL q.den=B at*
 unfold sV zC at k1 k2 k3
 rw [Int.natAbs_natCast] at k2 k3
 unfold zD at k1 k2 k3 ⊢
 by_cases h1:q.den=1
 ·rw [decide_eq_true h1] at g3
  rw [if_pos h1,List.append_nil]
  simp only [go_sem,Fn.y2a,k1,k2,k3,g3,y5b]
 ·rw [decide_eq_false h1] at g3
  rw [if_neg h1,show A++47::B=A++[47]++B by simp]
  simp only [go_sem,Fn.y2a,k1,k2,k3,g1,g2,g3,y5b]
theorem ypa (q:Rat) {ca:List AV} (hq:RQ q ca) {S:Nat} (h:SmQ S q) (hS:S<2^34) {n:Nat} (hn:4*S+110≤n):evV E (n+1) Id.y1p [qV q,.agg ca]=some (.one (.bool true)):=by
 rw [y06 ybj]
 obtain ⟨n,rfl⟩:∃j,n=j+1:=⟨n-1,by omega⟩
 have k1:=y01 (yo5 q h hS (n:=n) (by omega)) (can1 (y52 _))
 have k2:=y01 (ymt q hq h hS (n:=n) (by omega)) (can1 hq.can)
 have k3:=yl8 (strB (txtL q))
 obtain ⟨e,y,rfl⟩:=hq.cells
 obtain ⟨a1,a2,a3,ea,-,-,-⟩:=y0n q
 unfold qV at k1 ⊢
 rw [ea] at k1 ⊢
 unfold zD at k2 ⊢
 simp only [go_sem,Fn.y1p,k1,k2,k3]
end Go.Ev
namespace Go.Ev
open Go.Dig
theorem ypk (S:Nat) (hS:S≤2^30):∃N,∀(a b:Rat) (ca cb:List AV),RQ a ca→RQ b cb→SmQ S a→SmQ S b→∀n,N≤n→∀(ob:Nat→Option AObj) (fz:Nat→Nat),callV (evF E n) Id.y15 [.agg ca,.agg cb] ob fz=some (.fzd fz (.one (.int .i64 (cmpQ a b)))):=
 ⟨2*(S+S)+21,fun a b ca cb ha hb sa sb n hn=>by
  obtain ⟨m,rfl⟩:∃m,n=m+1:=⟨n-1,by omega⟩
  exact y01 (yig a b ha hb sa sb (by omega) (n:=m) (by omega)) (can2 ha.can hb.can)⟩
end Go.Ev
namespace Go.Ev
open Go.Dig
theorem rC4 (q:Rat):∃a b c d,rC q=[a,b,c,d]:=⟨_,_,_,_,rfl⟩
theorem yln (b:Bx):b.r=rC b.low.load++rC b.low.angle++rC b.low.speed++(rC b.high.load++rC b.high.angle++rC b.high.speed):=rfl
end Go.Ev
namespace Go.Ev
open Go.Dig
end Go.Ev
namespace Go.Ev
open Go.Dig
end Go.Ev
namespace Go.Ev
open Go.Dig
set_option maxRecDepth 100000 in
set_option maxHeartbeats 1000000 in
theorem yp9 (b:Bx) (s:Samp) (h:SmBx b) (hs:SmSamp s):Ends Id.y2b [.agg b.r,.agg s.r] (.one (.bool (hasBx b s))):=by
 obtain ⟨N,hN⟩:=ypk 256 (by decide)
 refine .of (N+5) fun {n} hn=> ?_
 have k0:=hN s.load b.low.load _ _ (RQ.self _) (RQ.self _) hs.load h.low.load n (by omega)
 have j0:=hN s.load b.high.load _ _ (RQ.self _) (RQ.self _) hs.load h.high.load n (by omega)
 have k1:=hN s.angle b.low.angle _ _ (RQ.self _) (RQ.self _) hs.angle h.low.angle n (by omega)
 have j1:=hN s.angle b.high.angle _ _ (RQ.self _) (RQ.self _) hs.angle h.high.angle n (by omega)
 have k2:=hN s.speed b.low.speed _ _ (RQ.self _) (RQ.self _) hs.speed h.low.speed n (by omega)
 have j2:=hN s.speed b.high.speed _ _ (RQ.self _) (RQ.self _) hs.speed h.high.speed n (by omega)
 rw [y06 ye0]
 unfold hasBx amongB
 rw [yln]
 unfold Samp.r
 obtain ⟨a0,a1,a2,a3,e0⟩:=rC4 b.low.load
 obtain ⟨b0,b1,b2,b3,f0⟩:=rC4 b.high.load
 obtain ⟨s0,s1,s2,s3,g0⟩:=rC4 s.load
 rw [e0,g0] at k0
 rw [f0,g0] at j0
 obtain ⟨a4,a5,a6,a7,e1⟩:=rC4 b.low.angle
 obtain ⟨b4,b5,b6,b7,f1⟩:=rC4 b.high.angle
 obtain ⟨s4,s5,s6,s7,g1⟩:=rC4 s.angle
 rw [e1,g1] at k1
 rw [f1,g1] at j1
 obtain ⟨a8,a9,a10,a11,e2⟩:=rC4 b.low.speed
 obtain ⟨b8,b9,b10,b11,f2⟩:=rC4 b.high.speed
 obtain ⟨s8,s9,s10,s11,g2⟩:=rC4 s.speed
 rw [e2,g2] at k2
 rw [f2,g2] at j2
 rw [e0,e1,e2,f0,f1,f2,g0,g1,g2]
 generalize cmpQ s.load b.low.load=c0 at*
 generalize cmpQ s.load b.high.load=d0 at*
 generalize cmpQ s.angle b.low.angle=c1 at*
 generalize cmpQ s.angle b.high.angle=d1 at*
 generalize cmpQ s.speed b.low.speed=c2 at*
 generalize cmpQ s.speed b.high.speed=d2 at*
 obtain ⟨m,rfl⟩:∃m,n=m+4:=⟨n-4,by omega⟩
 have nz:Ev.natOf 0=some 0:=rfl
 have n1:Ev.natOf 1=some 1:=rfl
 have n2:Ev.natOf 2=some 2:=rfl
 have l0:((0:Int)<3)=True:=by simp
 have l1:((1:Int)<3)=True:=by simp
 have l2:((2:Int)<3)=True:=by simp
 have l3:((3:Int)<3)=False:=by simp
 have w1:IntKind.i64.wrap (0+1)=1:=rfl
 have w2:IntKind.i64.wrap (1+1)=2:=rfl
 have w3:IntKind.i64.wrap (2+1)=3:=rfl
 obtain ⟨ob,hob⟩:∃o,o=upd (upd ob0 0 (.box [a0,a1,a2,a3,a4,a5,a6,a7,a8,a9,a10,a11,b0,b1,b2,b3,b4,b5,b6,b7,b8,b9,b10,b11])) 1 (.box [s0,s1,s2,s3,s4,s5,s6,s7,s8,s9,s10,s11]):=⟨_,rfl⟩
 have o0:ob 0=some (.box [a0,a1,a2,a3,a4,a5,a6,a7,a8,a9,a10,a11,b0,b1,b2,b3,b4,b5,b6,b7,b8,b9,b10,b11]):=by rw [hob,y00 (by decide)];exact upd_same _ _ _
 have o1:ob 1=some (.box [s0,s1,s2,s3,s4,s5,s6,s7,s8,s9,s10,s11]):=by rw [hob];exact upd_same _ _ _
 have fin:∀X,evC (evF E (m+4)) (m+4) Fn.y17 ⟨env ((2,.one (.box 0 0))::(3,.one (.box 1 0))::(5,.one (.int .i64 3))::X),ob,fz0,3⟩=some (.ext 0,⟨env [(2,.one (.box 0 0)),(3,.one (.box 1 0)),(5,.one (.int .i64 3)),(7,.one (.bool false))],ob,fz0,3⟩):=fun X=>by
  simp only [go_sem,Fn.y17,l3]
 have r0:∀X,evC (evF E (m+4)) (m+4) Fn.y17 ⟨env ((2,.one (.box 0 0))::(3,.one (.box 1 0))::(5,.one (.int .i64 0))::X),ob,fz0,3⟩=if c0≥0∧d0≤0 then some (.nrm,⟨env [(2,.one (.box 0 0)),(3,.one (.box 1 0)),(5,.one (.int .i64 1))],ob,fz0,3⟩) else some (.ret,⟨env [(4,.one (.bool false))],ob,fz0,3⟩):=fun X=>by
  by_cases hc:c0<0
  ·rw [if_neg (fun h=>by omega)]
   simp only [go_sem,Fn.y17,l0,nz,o0,o1,k0,j0,hc]
  ·by_cases hd:d0>0
   ·rw [if_neg (fun h=>by omega)]
    simp only [go_sem,Fn.y17,l0,nz,o0,o1,k0,j0,hc,hd]
   ·rw [if_pos ⟨by omega,by omega⟩]
    simp only [go_sem,Fn.y17,l0,nz,o0,o1,k0,j0,hc,hd,w1]
 have r1:∀X,evC (evF E (m+4)) (m+4) Fn.y17 ⟨env ((2,.one (.box 0 0))::(3,.one (.box 1 0))::(5,.one (.int .i64 1))::X),ob,fz0,3⟩=if c1≥0∧d1≤0 then some (.nrm,⟨env [(2,.one (.box 0 0)),(3,.one (.box 1 0)),(5,.one (.int .i64 2))],ob,fz0,3⟩) else some (.ret,⟨env [(4,.one (.bool false))],ob,fz0,3⟩):=fun X=>by
  by_cases hc:c1<0
  ·rw [if_neg (fun h=>by omega)]
   simp only [go_sem,Fn.y17,l1,n1,o0,o1,k1,j1,hc]
  ·by_cases hd:d1>0
   ·rw [if_neg (fun h=>by omega)]
    simp only [go_sem,Fn.y17,l1,n1,o0,o1,k1,j1,hc,hd]
   ·rw [if_pos ⟨by omega,by omega⟩]
    simp only [go_sem,Fn.y17,l1,n1,o0,o1,k1,j1,hc,hd,w2]
 have r2:∀X,evC (evF E (m+4)) (m+4) Fn.y17 ⟨env ((2,.one (.box 0 0))::(3,.one (.box 1 0))::(5,.one (.int .i64 2))::X),ob,fz0,3⟩=if c2≥0∧d2≤0 then some (.nrm,⟨env [(2,.one (.box 0 0)),(3,.one (.box 1 0)),(5,.one (.int .i64 3))],ob,fz0,3⟩) else some (.ret,⟨env [(4,.one (.bool false))],ob,fz0,3⟩):=fun X=>by
  by_cases hc:c2<0
  ·rw [if_neg (fun h=>by omega)]
   simp only [go_sem,Fn.y17,l2,n2,o0,o1,k2,j2,hc]
  ·by_cases hd:d2>0
   ·rw [if_neg (fun h=>by omega)]
    simp only [go_sem,Fn.y17,l2,n2,o0,o1,k2,j2,hc,hd]
   ·rw [if_pos ⟨by omega,by omega⟩]
    simp only [go_sem,Fn.y17,l2,n2,o0,o1,k2,j2,hc,hd,w3]
 have hloop:loopN (evC (evF E (m+4)) (m+4) Fn.y17) (m+4) ⟨env [(2,.one (.box 0 0)),(3,.one (.box 1 0)),(5,.one (.int .i64 0))],ob,fz0,3⟩=
   if (c0≥0∧d0≤0)∧(c1≥0∧d1≤0)∧(c2≥0∧d2≤0) then some (.ext 0,⟨env [(2,.one (.box 0 0)),(3,.one (.box 1 0)),(5,.one (.int .i64 3)),(7,.one (.bool false))],ob,fz0,3⟩) else some (.ret,⟨env [(4,.one (.bool false))],ob,fz0,3⟩):=by
  by_cases h0:c0≥0∧d0≤0
  ·have q0:=r0 []
   rw [if_pos h0] at q0
   rw [y08 q0]
   by_cases h1:c1≥0∧d1≤0
   ·have q1:=r1 []
    rw [if_pos h1] at q1
    rw [y08 q1]
    by_cases h2:c2≥0∧d2≤0
    ·have q2:=r2 []
     rw [if_pos h2] at q2
     rw [y08 q2,y09 (fin []),if_pos ⟨h0,h1,h2⟩]
    ·have q2:=r2 []
     rw [if_neg h2] at q2
     rw [y57 q2,if_neg (fun h=>h2 h.2.2)]
   ·have q1:=r1 []
    rw [if_neg h1] at q1
    rw [y57 q1,if_neg (fun h=>h1 h.2.1)]
  ·have q0:=r0 []
   rw [if_neg h0] at q0
   rw [y57 q0,if_neg (fun h=>h0 h.1)]
 have e:(decide (c0≥0)&&decide (d0≤0)&&(decide (c1≥0)&&decide (d1≤0)&&(decide (c2≥0)&&decide (d2≤0))))=decide ((c0≥0∧d0≤0)∧(c1≥0∧d1≤0)∧(c2≥0∧d2≤0)):=by
  rw [Bool.eq_iff_iff]
  simp only [Bool.and_eq_true,decide_eq_true_eq]
 rw [e]
 by_cases hall:(c0≥0∧d0≤0)∧(c1≥0∧d1≤0)∧(c2≥0∧d2≤0)
 ·rw [if_pos hall] at hloop
  rw [decide_eq_true hall]
  simp only [go_sem,Fn.y2b,←hob,hloop]
 ·rw [if_neg hall] at hloop
  rw [decide_eq_false hall]
  simp only [go_sem,Fn.y2b,←hob,hloop]
theorem yod (b:Bx) (s:Samp) (h:SmBx b) (hs:SmSamp s):Calling Id.y2b [.agg b.r,.agg s.r] (.one (.bool (hasBx b s))):=(yp9 b s h hs).call (can2 (CanL.bxr b).agg (CanL.sampr s).agg)
end Go.Ev
namespace Go.Ev
end Go.Ev
namespace Go.Ev
open Go.Dig
end Go.Ev
namespace Go.Ev
open Go.Dig
end Go.Ev
namespace Go.Ev
open Go.Dig
def rawQ:Option Rat→List AV
 | some q=>rC q
 | none=>[.bool false,.nils,.bool false,.nils]
def frzQ:Option Rat→List AV
 | some q=>rC q
 | none=>[.bool false,.sl false [],.bool false,.sl false []]
theorem yjn (o:Option Rat):RQ (o.getD 0) (frzQ o):=by
 cases o with
 | none=>exact .inr ⟨rfl,rfl⟩
 | some q=>exact .inl rfl
end Go.Ev
namespace Go.Ev
open Go.Dig
def dotZ:List (Option Rat)→List Pt→Rat→Rat
 | o::L,p::c,m=>dotZ L c (m+o.getD 0*p.z)
 | _,_,m=>m
structure ShOk (c:List Pt) (q:Rat) (L:List (Option Rat)):Prop where
 len:L.length=c.length
 sm:∀o∈L,SmQ 1100 (o.getD 0)
 eq:dotZ L c 0=atQ c q
theorem sm0 (S:Nat):SmQ (S+1) 0:=⟨Nat.two_pow_pos _,Nat.one_lt_two_pow (by omega)⟩
end Go.Ev
namespace Go.Ev
open Go.Dig
def RW (q:Rat) (cs:List AV):Prop:=RQ q cs∨(q=0∧cs=[.bool false,.nils,.bool false,.nils])
theorem RQ.w {q:Rat} {cs:List AV} (h:RQ q cs):RW q cs:=.inl h
theorem RW.self (q:Rat):RW q (rC q):=.inl (.self q)
theorem RW.zero:RW 0 [.bool false,.nils,.bool false,.nils]:=.inr ⟨rfl,rfl⟩
theorem RW.fz {q:Rat} {cs:List AV} (h:RW q cs):∃cs',RQ q cs'∧FzS (.agg cs) (.agg cs'):=by
 rcases h with h | ⟨rfl,rfl⟩
 ·exact ⟨cs,h,h.can.fzs⟩
 ·exact ⟨[.bool false,.sl false [],.bool false,.sl false []],.inr ⟨rfl,rfl⟩,fun ob fz=>rfl⟩
theorem yei {f:FuncId} {xs ys:List SV} {r:SV} {n:Nat} (h:evV E n f ys=some r) (hx:∀(ob:Nat→Option AObj) (fz:Nat→Nat),mapFz (frzS ob) fz xs=some (fz,ys)) (ob:Nat→Option AObj) (fz:Nat→Nat):callV (evF E n) f xs ob fz=some (.fzd fz r):=by
 rw [y5q,hx]
 simp only [h,Option.map_some]
section
variable {a b:Rat} {ca cb:List AV} {S T:Nat}
theorem yna (S T:Nat) (hS:S+T<2^36):∃N,∀(a b:Rat) (ca cb:List AV),RW a ca→RW b cb→SmQ S a→SmQ T b→∀n,N≤n→∀(ob:Nat→Option AObj) (fz:Nat→Nat),callV (evF E n) Id.y15 [.agg ca,.agg cb] ob fz=some (.fzd fz (.one (.int .i64 (cmpQ a b)))):=
 ⟨2*(S+T)+21,fun a b ca cb ha hb sa sb n hn ob fz=>by
  obtain ⟨m,rfl⟩:∃m,n=m+1:=⟨n-1,by omega⟩
  obtain ⟨ca',ha,fa⟩:=ha.fz
  obtain ⟨cb',hb,fb⟩:=hb.fz
  exact yei (yig a b ha hb sa sb hS (n:=m) (by omega)) (fa.two fb) ob fz⟩
end
theorem rawQ4 (o:Option Rat):∃a b c d,rawQ o=[a,b,c,d]:=by
 cases o with
 | none=>exact ⟨_,_,_,_,rfl⟩
 | some q=>exact rC4 q
theorem frzQ4 (o:Option Rat):∃a b c d,frzQ o=[a,b,c,d]:=by
 cases o with
 | none=>exact ⟨_,_,_,_,rfl⟩
 | some q=>exact rC4 q
end Go.Ev
namespace Go.Ev
open Go.Dig
end Go.Ev
namespace Go.Ev
open Go.Dig
end Go.Ev
namespace Go.Ev
open Go.Dig
end Go.Ev
namespace Go.Ev
open Go.Dig
theorem yph {ob ob':Nat→Option AObj} {id:Nat} (h:ob' id=ob id):shut ob ob' id=ob id:=by
 unfold shut
 rw [h]
 cases ob id with
 | none=>rfl
 | some o=>cases o<;>rfl
theorem yfp {ob ob':Nat→Option AObj} {id sz ver:Nat} {es:List (List AV)} (h:ob' id=some (.row sz es ver)):shut ob ob' id=some (.row sz es ver):=by
 unfold shut
 rw [h]
structure NextOb (ob:Nat→Option AObj) (d:Dev) (ph:Nat) (cs:List Nat) (s:Samp) (o:List Nat):Prop where
 o0:ob 0=some (.box d.r)
 o1:ob 1=some (.box [.int .u8 (ph:Int),.sl false (intE cs)])
 o2:ob 2=some (.box s.r)
 o3:ob 3=some (.box [.int .u8 0,.nils])
 o8:ob 8=some (.box [.int .u8 (ph:Int),.rsl 16 0 1 0 d.guards.length false])
 o16:ob 16=some (.row 1 (intE o) 0)
theorem NextOb.step {ob:Nat→Option AObj} {d:Dev} {ph:Nat} {cs:List Nat} {s:Samp} {o:List Nat} (h:NextOb ob d ph cs s o) (o':List Nat):NextOb (upd ob 16 (.row 1 (intE o') 0)) d ph cs s o':=
 ⟨(y00 (by decide)).trans h.o0,(y00 (by decide)).trans h.o1,(y00 (by decide)).trans h.o2,(y00 (by decide)).trans h.o3,(y00 (by decide)).trans h.o8,upd_same _ _ _⟩
end Go.Ev
namespace Go.Ev
open Go.Dig
end Go.Ev
namespace Go.Ev
open Go.Dig
end Go.Ev
namespace Go.Ev
def fires (ph:Nat) (s:Samp) (g:Guard) (x:Nat):Prop:=g.from_=ph∧hasBx g.box s=true∧g.hold≤((x+1:Nat):Int)
instance (ph:Nat) (s:Samp) (g:Guard) (x:Nat):Decidable (fires ph s g x):=by unfold fires;exact inferInstance
structure CntOk (gs:List Guard) (ph:Nat) (cnt:Nat→Nat) (cs:List Nat):Prop where
 len:cs.length=gs.length
 eq:∀i,i<gs.length→cs[i]? =some (cnt i)
 zero:∀i g,gs[i]? =some g→g.from_≠ph→cnt i=0
end Go.Ev
namespace Go.Ev
open Go.Dig
def OutF (sz base:Nat) (ob:Nat→Option AObj) (nx:Nat) (x:AV) (es:List (List AV)):Prop:=
 (es=[]∧x=.nils)∨∃id ver,x=.rsl id ver sz 0 es.length false∧ob id=some (.row sz es ver)∧base≤id∧id<nx
theorem OutF.out {sz base:Nat} {ob:Nat→Option AObj} {nx:Nat} {x:AV} {es:List (List AV)} (h:OutF sz base ob nx x es):OutE sz ob nx x es:=by
 rcases h with h | ⟨id,ver,h1,h2,-,h3⟩
 ·exact .inl h
 ·exact .inr ⟨id,ver,h1,h2,h3⟩
def rawR (a:Nat×Option Rat):List AV:=.int .u8 (a.1:Int)::rawQ a.2
end Go.Ev
namespace Go.Ev
open Go.Dig
structure ActOb (ob:Nat→Option AObj) (nx:Nat) (d:Dev) (w:WSt) (cs:List Nat) (x:AV) (done:List (Nat×Option Rat)):Prop where
 nx16:16≤nx
 o0:ob 0=some (.box d.r)
 o4:∃(b:AV) (h:(Nat→Nat)→(Nat→Nat)),ob 4=some (.box [.int .u8 (w.ph:Int),b])∧∀fz,frz ob DEPTH fz b=some (h fz,.sl false (intE cs))
 o15:∃mc,ob 15=some (.box mc)∧RW w.m mc
 out:OutF 5 16 ob nx x (done.map rawR)
theorem y9v {n:Nat} {f:FuncId} {xs ys:List SV} {r:SV} {ob:Nat→Option AObj} {fz fz':Nat→Nat} (h:evV E n f ys=some r) (hx:mapFz (frzS ob) fz xs=some (fz',ys)):callV (evF E n) f xs ob fz=some (.fzd fz' r):=by
 rw [y5q,hx]
 simp only [h,Option.map_some]
theorem yhg {α:Type} {P:α→Nat→Prop}:∀l:List α,(∀x∈l,∃N,∀n,N≤n→P x n)→∃N,∀n,N≤n→∀x∈l,P x n
 | [],h=>⟨0,fun _ _ _ h=>by simp at h⟩
 | x::l,h=>by
  obtain ⟨N1,h1⟩:=h x (by simp)
  obtain ⟨N2,h2⟩:=yhg l fun y hy=>h y (by simp [hy])
  refine ⟨N1+N2,fun n hn y hy=> ?_⟩
  rcases List.mem_cons.1 hy with rfl | e
  ·exact h1 n (by omega)
  ·exact h2 n (by omega) y e
theorem y92 {α:Type} {l r:List α} {s:α} {i:Nat} (h:l.drop i=s::r):l[i]? =some s∧l.drop (i+1)=r∧s∈l:=by
 have h1:l[i]? =some s:=by
  have:=List.getElem?_drop (xs:=l) (i:=i) (j:=0)
  rw [h,Nat.add_zero] at this
  exact this.symm
 refine ⟨h1, ?_,List.mem_of_getElem? h1⟩
 have:=List.drop_drop (l:=l) (i:=1) (j:=i)
 rw [h] at this
 exact this.symm
end Go.Ev
namespace Go.Ev
open Go.Dig
end Go.Ev
namespace Go.Ev
set_option maxRecDepth 100000 in
theorem ylb:evV E 200 Id.y1e []=some (.one (.bool true)):=by kernel_rfl
theorem awake_ends:Ends Id.y1e [] (.one (.bool true)):=⟨200,fun n hn=>yq3 hn ylb⟩
theorem ykb:Calling Id.y1e [] (.one (.bool true)):=awake_ends.call fun x h=>by cases h
end Go.Ev
namespace Go.Ev
open Go.Dig
end Go.Ev
namespace Go.Ev
open Go.Dig
end Go.Ev
namespace Go.Ev
open Go.Dig
theorem OutF.frzTo {sz base:Nat} {ob:Nat→Option AObj} {nx:Nat} {x:AV} {es es':List (List AV)} (h:OutF sz base ob nx x es) (hc:∀fz,mapFz (mapFz (Ev.frz ob (6+1))) fz es=some (fz,es')) (fz:Nat→Nat):∃fz',frzS ob fz (.one x)=some (fz',.one (.sl false es')):=by
 rcases h with ⟨rfl,rfl⟩ | ⟨id,ver,rfl,hid,_⟩
 ·have:=hc fz
  simp only [mapFz,Option.some.injEq,Prod.mk.injEq] at this
  rw [←this.2]
  exact ⟨fz,rfl⟩
 ·have hb:Nat.ble (0+es.length) es.length=true:=by simp
  refine ⟨raise fz id (0+es.length), ?_⟩
  have h1:Ev.frz ob DEPTH fz (.rsl id ver sz 0 es.length false)=some (raise fz id (0+es.length),.sl false es'):=by
   rw [show DEPTH=6+1+1 from rfl,y76,y25 hid]
   simp only [hb,cond_true,List.drop_zero,List.take_length]
   rw [hc]
  simp only [frzS,h1]
theorem ynl (S:Nat) (hS:S<2^34):∃N,∀n,N≤n→∀o:Option Rat,SmQ S (o.getD 0)→∀(ob:Nat→Option AObj) (fz:Nat→Nat),callV (evF E n) Id.y1p [.agg (qC (o.getD 0)),.agg (frzQ o)] ob fz=some (.fzd fz (.one (.bool true))):=
 ⟨4*S+111,fun n hn o h=>by
  obtain ⟨m,rfl⟩:∃m,n=m+1:=⟨n-1,by omega⟩
  exact y01 (ypa (o.getD 0) (yjn o) h hS (n:=m) (by omega)) (can2 (y52 _) (yjn o).can)⟩
end Go.Ev
namespace Go.Ev
open Go.Dig
structure WkR (d:Dev) (pre:List (WSt×Samp)) (L:List (Option Rat)):Prop where
 len:L.length=5
 val:∀p,p<5→∃o,L[p]? =some o∧o.getD 0=wsum d p 0 pre
 sm:∀p,SmQ ((pre.length+1)*WKB) (wsum d p 0 pre)
end Go.Ev
namespace Go.Ev
open Go.Dig
def flatN:List (Option Rat)→List AV
 | []=>[]
 | o::r=>rawQ o++flatN r
theorem y6t (o:Option Rat):(rawQ o).length=4:=by
 obtain ⟨a,b,c,d,e⟩:=rawQ4 o;rw [e];rfl
theorem y8k:∀N:List (Option Rat),(flatN N).length=4*N.length
 | []=>rfl
 | o::r=>by rw [flatN,List.length_append,y6t,y8k r,List.length_cons];omega
theorem y71:∀(N:List (Option Rat)) (k:Nat),(flatN N).drop (4*k)=flatN (N.drop k)
 | N,0=>rfl
 | [],k+1=>by simp [flatN]
 | o::r,k+1=>by
  rw [flatN,show 4*(k+1)=(rawQ o).length+4*k by rw [y6t];omega,List.drop_append,List.drop_eq_nil_of_le (by omega),List.nil_append,List.drop_succ_cons,show (rawQ o).length+4*k-(rawQ o).length=4*k by omega]
  exact y71 r k
theorem y9p:∀(N:List (Option Rat)) (k:Nat),(flatN N).take (4*k)=flatN (N.take k)
 | N,0=>rfl
 | [],k+1=>by simp [flatN]
 | o::r,k+1=>by
  rw [flatN,show 4*(k+1)=(rawQ o).length+4*k by rw [y6t];omega,List.take_append,List.take_of_length_le (by omega),show (rawQ o).length+4*k-(rawQ o).length=4*k by omega,List.take_succ_cons,flatN,y9p r k]
theorem ymh (N M:List (Option Rat)):flatN (N++M)=flatN N++flatN M:=by
 induction N with
 | nil=>rfl
 | cons o r ih=>rw [List.cons_append,flatN,flatN,ih,List.append_assoc]
theorem yg9 {N:List (Option Rat)} {k:Nat} {o:Option Rat} (h:N[k]? =some o):((flatN N).drop (4*k)).take 4=rawQ o:=by
 have hk:=(List.getElem?_eq_some_iff.1 h).1
 rw [y71,List.drop_eq_getElem_cons hk,flatN,List.take_append,List.take_of_length_le (by rw [y6t];exact Nat.le_refl _),y6t,Nat.sub_self,List.take_zero,List.append_nil]
 rw [List.getElem?_eq_getElem hk] at h
 cases h;rfl
theorem yg0 {N:List (Option Rat)} {k:Nat} (hk:k<N.length) (q:Rat):(flatN N).take (4*k)++rC q++(flatN N).drop (4*k+4)=flatN (N.set k (some q)):=by
 rw [y9p,show 4*k+4=4*(k+1) by omega,y71,List.set_eq_take_append_cons_drop,if_pos hk,ymh,flatN,List.append_assoc]
 rfl
def sqN (s:Samp):Nat→Rat
 | 0=>s.load
 | 1=>s.angle
 | _=>s.speed
theorem y9w (x:Rcd):x.r.length=17:=rfl
theorem yo2 (x:Rcd) (s:Nat) (h:s<3):(x.r.drop (1+s*4)).take 4=rC (sqN x.s s):=by
 obtain ⟨a1,a2,a3,a4,ea⟩:=rC4 x.s.load
 obtain ⟨a5,a6,a7,a8,eb⟩:=rC4 x.s.angle
 obtain ⟨a9,a10,a11,a12,ec⟩:=rC4 x.s.speed
 unfold Rcd.r Samp.r
 rcases s with _ | _ | _ | s
 ·rw [sqN,ea,eb,ec];rfl
 ·rw [sqN,ea,eb,ec];rfl
 ·rw [sqN,ea,eb,ec];rfl
  all_goals (intro h;cases h)
 ·omega
def YOk (ob:Nat→Option AObj) (base:Nat) (y:AV) (l:List Rcd):Prop:=(l=[]∧y=.nils)∨∃b vb,y=.rsl b vb 17 0 l.length false∧ob b=some (.row 17 (l.map Rcd.r) vb)∧b<base
theorem YOk.frame {ob ob':Nat→Option AObj} {base:Nat} {y:AV} {l:List Rcd} (h:YOk ob base y l) (hf:∀id,id<base→ob' id=ob id):YOk ob' base y l:=by
 rcases h with h | ⟨b,vb,h1,h2,h3⟩
 ·exact .inl h
 ·exact .inr ⟨b,vb,h1,(hf b h3).trans h2,h3⟩
theorem yib {α:Type} {l:List α} {k:Nat} {a:α} (h:l[k]? =some a):l.set k a=l:=by
 apply List.ext_getElem?
 intro j
 by_cases e:k=j
 ·subst e
  rw [List.getElem?_set_self (List.getElem?_eq_some_iff.1 h).1,h]
 ·rw [List.getElem?_set_ne e]
def lowN (st:Bool) (o:Option Rat) (q:Rat):Rat:=if st=true then minQ (o.getD 0) q else q
def highN (st:Bool) (o:Option Rat) (q:Rat):Rat:=if st=true then maxQ (o.getD 0) q else q
set_option maxRecDepth 100000 in
set_option maxHeartbeats 2000000 in
theorem ypw {n base bb nx i p s:Nat} {ob:Nat→Option AObj} {fz:Nat→Nat} (y7 y8 y9:SV) (l:List Rcd) (hl:l.length<2^20) (b vb:Nat) (hrow:ob b=some (.row 17 (l.map Rcd.r) vb)) (hb:b<base) (hbb:base≤bb) (hbx:bb<nx) (x:Rcd) (gx:l[i]? =some x) (hs:s<3) (hp:p<5) (N:List (Option Rat)) (hN:N.length=30) (obb:ob bb=some (.box (flatN N))) (st:Bool) (o1 o2:Option Rat) (g1:N[6*p+s]? =some o1) (g2:N[6*p+3+s]? =some o2) (hst:st=true→(∃v,o1=some v)∧∃v,o2=some v)
  (k1:∀(ob:Nat→Option AObj) (fz:Nat→Nat),callV (evF E n) Id.y15 [.agg (rC (sqN x.s s)),.agg (rawQ o1)] ob fz=some (.fzd fz (.one (.int .i64 (cmpQ (sqN x.s s) (o1.getD 0))))))
  (k2:∀(ob:Nat→Option AObj) (fz:Nat→Nat),callV (evF E n) Id.y15 [.agg (rC (sqN x.s s)),.agg (rawQ o2)] ob fz=some (.fzd fz (.one (.int .i64 (cmpQ (sqN x.s s) (o2.getD 0)))))) (X:List (Nat×SV)):
  ∃ob',evC (evF E n) n Fn.y16 ⟨env ((6,.one (.rsl b vb 17 0 l.length false))::(7,y7)::(8,y8)::(9,y9)::(13,.one (.box bb 0))::(14,.one (.int .i64 (p:Int)))::(15,.one (.bool st))::(16,.one (.int .i64 (i:Int)))::(17,.one (.int .i64 (s:Int)))::X),ob,fz,nx⟩=
   some (.nrm,⟨env [(6,.one (.rsl b vb 17 0 l.length false)),(7,y7),(8,y8),(9,y9),(13,.one (.box bb 0)),(14,.one (.int .i64 (p:Int))),(15,.one (.bool st)),(16,.one (.int .i64 (i:Int))),(17,.one (.int .i64 ((s+1:Nat):Int)))],ob',fz,nx+9⟩)∧
   ob' bb=some (.box (flatN ((N.set (6*p+s) (some (lowN st o1 (sqN x.s s)))).set (6*p+3+s) (some (highN st o2 (sqN x.s s))))))∧∀id,id<base→ob' id=ob id:=by
 have hil:i<l.length:=(List.getElem?_eq_some_iff.1 gx).1
 have wk:IntKind.i64.wrap ((s+1:Nat):Int)=((s+1:Nat):Int):=wi64 (by omega)
 have hs':(((s:Nat):Int)<3)=True:=by simp;omega
 have hsb:(s<3)=True:=eq_true hs
 have hpb:(p<5)=True:=eq_true hp
 have hib:(i<l.length)=True:=eq_true hil
 have gl:(l.map Rcd.r)[i]? =some x.r:=by rw [List.getElem?_map,gx];rfl
 have hx17:=y9w x
 have hxl:(1+s*4+4≤17)=True:=by simp;omega
 have hxs:=yo2 x s hs
 have np:Ev.natOf (p:Int)=some p:=y4q _
 have ns:Ev.natOf (s:Int)=some s:=y4q _
 have ni:Ev.natOf (i:Int)=some i:=y4q _
 have lb:∀k,(bb<nx+k)=True:=fun k=>by simp only [eq_iff_iff,iff_true];omega
 have m1:∀k,(bb=nx+k)=False:=fun k=>by simp only [eq_iff_iff,iff_false];omega
 have m1':∀k,(nx+k=bb)=False:=fun k=>by simp only [eq_iff_iff,iff_false];omega
 have hfl:∀M:List (Option Rat),M.length=30→(flatN M).length=120:=fun M h=>by rw [y8k,h]
 have hlA:(p*24+s*4+4≤120)=True:=by simp;omega
 have hlB:(p*24+12+s*4+4≤120)=True:=by simp;omega
 have eA:p*24+s*4=4*(6*p+s):=by omega
 have eB:p*24+12+s*4=4*(6*p+3+s):=by omega
 have hr0:rowAt ob b vb=some (17,l.map Rcd.r):=y25 hrow
 have hf0:=hfl N hN
 have nxa:∀a b:Nat,nx+a+b=nx+(a+b):=fun a b=>Nat.add_assoc nx a b
 have hne:6*p+s≠6*p+3+s:=by omega
 obtain ⟨q0,q1,q2,q3,eq⟩:=rC4 (sqN x.s s)
 obtain ⟨a0,a1,a2,a3,ea⟩:=rawQ4 o1
 obtain ⟨b0,b1,b2,b3,eb⟩:=rawQ4 o2
 have hdA:((flatN N).drop (p*24+s*4)).take 4=[a0,a1,a2,a3]:=by rw [eA,yg9 g1,ea]
 have hdB:∀M:List (Option Rat),M[6*p+3+s]? =some o2→((flatN M).drop (p*24+12+s*4)).take 4=[b0,b1,b2,b3]:=fun M h=>by rw [eB,yg9 h,eb]
 have hdB0:=hdB N g2
 have hpA:∀M:List (Option Rat),M.length=30→(flatN M).take (p*24+s*4)++[q0,q1,q2,q3]++(flatN M).drop (p*24+s*4+4)=flatN (M.set (6*p+s) (some (sqN x.s s))):=fun M h=>by rw [eA,←eq];exact yg0 (by omega) _
 have hpB:∀M:List (Option Rat),M.length=30→(flatN M).take (p*24+12+s*4)++[q0,q1,q2,q3]++(flatN M).drop (p*24+12+s*4+4)=flatN (M.set (6*p+3+s) (some (sqN x.s s))):=fun M h=>by rw [eB,←eq];exact yg0 (by omega) _
 have hpA0:=hpA N hN
 have hN1:(N.set (6*p+s) (some (sqN x.s s))).length=30:=by rw [List.length_set];exact hN
 have hf1:=hfl _ hN1
 have hdB1:=hdB (N.set (6*p+s) (some (sqN x.s s))) (by rw [List.getElem?_set_ne hne];exact g2)
 have hpB1:=hpB _ hN1
 have hpB0:=hpB N hN
 rw [eq,ea] at k1
 rw [eq,eb] at k2
 rw [eq] at hxs
 obtain ⟨r,hr0'⟩:∃r,evC (evF E n) n Fn.y16 ⟨env ((6,.one (.rsl b vb 17 0 l.length false))::(7,y7)::(8,y8)::(9,y9)::(13,.one (.box bb 0))::(14,.one (.int .i64 (p:Int)))::(15,.one (.bool st))::(16,.one (.int .i64 (i:Int)))::(17,.one (.int .i64 (s:Int)))::X),ob,fz,nx⟩=r:=⟨_,rfl⟩
 have hr:=hr0'
 have key:∀M:List (Option Rat),(∃ob1:Nat→Option AObj,r=some (.nrm,⟨env [(6,.one (.rsl b vb 17 0 l.length false)),(7,y7),(8,y8),(9,y9),(13,.one (.box bb 0)),(14,.one (.int .i64 (p:Int))),(15,.one (.bool st)),(16,.one (.int .i64 (i:Int))),(17,.one (.int .i64 ((s+1:Nat):Int)))],ob1,fz,nx+9⟩)∧ob1 bb=some (.box (flatN M))∧∀id,id<base→ob1 id=ob id)→(N.set (6*p+s) (some (lowN st o1 (sqN x.s s)))).set (6*p+3+s) (some (highN st o2 (sqN x.s s)))=M→∃ob',r=some (.nrm,⟨env [(6,.one (.rsl b vb 17 0 l.length false)),(7,y7),(8,y8),(9,y9),(13,.one (.box bb 0)),(14,.one (.int .i64 (p:Int))),(15,.one (.bool st)),(16,.one (.int .i64 (i:Int))),(17,.one (.int .i64 ((s+1:Nat):Int)))],ob',fz,nx+9⟩)∧
   ob' bb=some (.box (flatN ((N.set (6*p+s) (some (lowN st o1 (sqN x.s s)))).set (6*p+3+s) (some (highN st o2 (sqN x.s s))))))∧∀id,id<base→ob' id=ob id:=fun M h e=>by rw [e];exact h
 rw [hr0']
 cases st with
 | false=>
  refine key _ ?_ rfl
  have e1:lowN false o1 (sqN x.s s)=sqN x.s s:=rfl
  have e2:highN false o2 (sqN x.s s)=sqN x.s s:=rfl
  rw [e1,e2]
  simp only [go_sem,Fn.y16,hs',hsb,hpb,hib,gl,hx17,hxl,hxs,np,ns,ni,lb,m1,m1',hf0,hf1,hlA,hlB,hdA,hdB0,hdB1,hpA0,hpB0,hpB1,hr0,obb,k1,k2,nxa,add1,wk,y5a] at hr
  refine ⟨_,hr.symm, ?_,fun id hid=> ?_⟩
  ·simp only [y5a,m1,m1',if_false,if_true,obb,hf0,hf1]
  ·simp (discharger:=omega) only [y00]
 | true=>
  obtain ⟨⟨v1,rfl⟩,v2,rfl⟩:=hst rfl
  rw [Option.getD_some] at k1 k2
  have e1:lowN true (some v1) (sqN x.s s)=if sqN x.s s<v1 then sqN x.s s else v1:=by unfold lowN;rw [if_pos rfl,Option.getD_some,yjd]
  have e2:highN true (some v2) (sqN x.s s)=if v2<sqN x.s s then sqN x.s s else v2:=by unfold highN;rw [if_pos rfl,Option.getD_some,yjg]
  have c1:=yk4 (sqN x.s s) v1
  have c2:=yk9 (sqN x.s s) v2
  have sA:N.set (6*p+s) (some v1)=N:=yib g1
  have sB:N.set (6*p+3+s) (some v2)=N:=yib g2
  have sB1:(N.set (6*p+s) (some (sqN x.s s))).set (6*p+3+s) (some v2)=N.set (6*p+s) (some (sqN x.s s)):=yib (by rw [List.getElem?_set_ne hne];exact g2)
  generalize cmpQ (sqN x.s s) v1=t1 at k1 c1
  generalize cmpQ (sqN x.s s) v2=t2 at k2 c2
  by_cases z1:t1<0
  ·have w1:=c1.mp z1
   by_cases z2:t2>0
   ·have w2:=c2.mp z2
    refine key _ ?_ rfl
    rw [e1,e2,if_pos w1,if_pos w2]
    simp only [go_sem,Fn.y16,hs',hsb,hpb,hib,gl,hx17,hxl,hxs,np,ns,ni,lb,m1,m1',hf0,hf1,hlA,hlB,hdA,hdB0,hdB1,hpA0,hpB0,hpB1,hr0,obb,k1,k2,nxa,add1,wk,y5a,z1,z2] at hr
    refine ⟨_,hr.symm, ?_,fun id hid=> ?_⟩
    ·simp only [y5a,m1,m1',if_false,if_true,obb,hf0,hf1]
    ·simp (discharger:=omega) only [y00]
   ·have w2:=fun h=>z2 (c2.mpr h)
    refine key (N.set (6*p+s) (some (sqN x.s s))) ?_ (by rw [e1,e2,if_pos w1,if_neg w2,sB1])
    simp only [go_sem,Fn.y16,hs',hsb,hpb,hib,gl,hx17,hxl,hxs,np,ns,ni,lb,m1,m1',hf0,hf1,hlA,hlB,hdA,hdB0,hdB1,hpA0,hpB0,hpB1,hr0,obb,k1,k2,nxa,add1,wk,y5a,z1,z2] at hr
    refine ⟨_,hr.symm, ?_,fun id hid=> ?_⟩
    ·simp only [y5a,m1,m1',if_false,if_true,obb,hf0,hf1]
    ·simp (discharger:=omega) only [y00]
  ·have w1:=fun h=>z1 (c1.mpr h)
   by_cases z2:t2>0
   ·have w2:=c2.mp z2
    refine key (N.set (6*p+3+s) (some (sqN x.s s))) ?_ (by rw [e1,e2,if_neg w1,if_pos w2,sA])
    simp only [go_sem,Fn.y16,hs',hsb,hpb,hib,gl,hx17,hxl,hxs,np,ns,ni,lb,m1,m1',hf0,hf1,hlA,hlB,hdA,hdB0,hdB1,hpA0,hpB0,hpB1,hr0,obb,k1,k2,nxa,add1,wk,y5a,z1,z2] at hr
    refine ⟨_,hr.symm, ?_,fun id hid=> ?_⟩
    ·simp only [y5a,m1,m1',if_false,if_true,obb,hf0,hf1]
    ·simp (discharger:=omega) only [y00]
   ·have w2:=fun h=>z2 (c2.mpr h)
    refine key N ?_ (by rw [e1,e2,if_neg w1,if_neg w2,sA,sB])
    simp only [go_sem,Fn.y16,hs',hsb,hpb,hib,gl,hx17,hxl,hxs,np,ns,ni,lb,m1,m1',hf0,hf1,hlA,hlB,hdA,hdB0,hdB1,hpA0,hpB0,hpB1,hr0,obb,k1,k2,nxa,add1,wk,y5a,z1,z2] at hr
    refine ⟨_,hr.symm, ?_,fun id hid=> ?_⟩
    ·simp only [y5a,m1,m1',if_false,if_true,obb,hf0,hf1]
    ·simp (discharger:=omega) only [y00]
end Go.Ev
namespace Go.Ev
open Go.Dig
def newV (N:List (Option Rat)) (p:Nat) (st:Bool) (s:Samp) (j:Nat):Option Rat:=if j<3 then some (lowN st ((N[6*p+j]?).getD none) (sqN s j)) else some (highN st ((N[6*p+j]?).getD none) (sqN s (j-3)))
theorem yio {base bb p:Nat} (y7 y8 y9:SV) (l:List Rcd) (hl:l.length<2^20) (b vb:Nat) (hb:b<base) (hbb:base≤bb) (hp:p<5) (st:Bool):∃M,∀n,M≤n→∀(i:Nat) (x:Rcd) (N0:List (Option Rat)),l[i]? =some x→SmSamp x.s→N0.length=30→(∀o∈N0,SmQ 256 (o.getD 0))→(st=true→∀j,j<6→∃v,N0[6*p+j]? =some (some v))→
  ∀(r s:Nat),s+r=3→∀(ob:Nat→Option AObj) (fz:Nat→Nat) (nx:Nat) (N:List (Option Rat)) (X:List (Nat×SV)) (K:Nat),r<K→bb<nx→ob b=some (.row 17 (l.map Rcd.r) vb)→ob bb=some (.box (flatN N))→N.length=30→(∀k,k<30→N[k]? =if 6*p≤k∧k<6*p+6∧(k-6*p)%3<s then some (newV N0 p st x.s (k-6*p)) else N0[k]?)→
  ∃ob' nx' N' X',loopN (evC (evF E n) n Fn.y16) K ⟨env ((6,.one (.rsl b vb 17 0 l.length false))::(7,y7)::(8,y8)::(9,y9)::(13,.one (.box bb 0))::(14,.one (.int .i64 (p:Int)))::(15,.one (.bool st))::(16,.one (.int .i64 (i:Int)))::(17,.one (.int .i64 (s:Int)))::X),ob,fz,nx⟩=
   some (.ext 8,⟨env ((6,.one (.rsl b vb 17 0 l.length false))::(7,y7)::(8,y8)::(9,y9)::(13,.one (.box bb 0))::(14,.one (.int .i64 (p:Int)))::(15,.one (.bool st))::(16,.one (.int .i64 (i:Int)))::X'),ob',fz,nx'⟩)∧
   ob' bb=some (.box (flatN N'))∧N'.length=30∧(∀k,k<30→N'[k]? =if 6*p≤k∧k<6*p+6 then some (newV N0 p st x.s (k-6*p)) else N0[k]?)∧nx≤nx'∧∀id,id<base→ob' id=ob id:=by
 obtain ⟨M,hM⟩:=yna 256 256 (by decide)
 refine ⟨M,fun n hn i x N0 gx sx hN0 sN0 hst r=> ?_⟩
 induction r with
 | zero=>
  intro s hs ob fz nx N X K hK hbx hrow obb hN hinv
  obtain ⟨K,rfl⟩:∃k,K=k+1:=⟨K-1,by omega⟩
  have hs3:s=3:=by omega
  subst hs3
  have h1:(((3:Nat):Int)<3)=False:=by simp
  refine ⟨ob,nx,N,[(17,.one (.int .i64 ((3:Nat):Int))),(119,.one (.bool false))],y09 ?_,obb,hN,fun k hk=> ?_,Nat.le_refl _,fun _ _=>rfl⟩
  ·simp only [go_sem,Fn.y16,h1]
  ·rw [hinv k hk]
   by_cases h:6*p≤k∧k<6*p+6
   ·rw [if_pos ⟨h.1,h.2,Nat.mod_lt _ (by decide)⟩,if_pos h]
   ·rw [if_neg (fun q=>h ⟨q.1,q.2.1⟩),if_neg h]
 | succ r ih=>
  intro s hs ob fz nx N X K hK hbx hrow obb hN hinv
  obtain ⟨K,rfl⟩:∃k,K=k+1:=⟨K-1,by omega⟩
  have hs3:s<3:=by omega
  have i1:N[6*p+s]? =N0[6*p+s]? :=by
   rw [hinv _ (by omega),if_neg (fun q=>by have:=q.2.2;rw [show 6*p+s-6*p=s by omega,Nat.mod_eq_of_lt hs3] at this;omega)]
  have i2:N[6*p+3+s]? =N0[6*p+3+s]? :=by
   rw [hinv _ (by omega),if_neg (fun q=>by have:=q.2.2;rw [show 6*p+3+s-6*p=s+3 by omega,Nat.add_mod_right,Nat.mod_eq_of_lt hs3] at this;omega)]
  obtain ⟨o1,g1⟩:∃o,N0[6*p+s]? =some o:=⟨_,List.getElem?_eq_getElem (by omega)⟩
  obtain ⟨o2,g2⟩:∃o,N0[6*p+3+s]? =some o:=⟨_,List.getElem?_eq_getElem (by omega)⟩
  have rw1:∀o:Option Rat,RW (o.getD 0) (rawQ o):=fun o=>by
   cases o with
   | none=>exact RW.zero
   | some v=>exact RW.self v
  have sq:SmQ 256 (sqN x.s s):=by
   rcases s with _ | _ | _ | s
   ·exact sx.load
   ·exact sx.angle
   ·exact sx.speed
   ·omega
  have k1:=hM (sqN x.s s) (o1.getD 0) _ _ (RW.self _) (rw1 o1) sq (sN0 _ (List.mem_of_getElem? g1)) n hn
  have k2:=hM (sqN x.s s) (o2.getD 0) _ _ (RW.self _) (rw1 o2) sq (sN0 _ (List.mem_of_getElem? g2)) n hn
  obtain ⟨ob1,hr,b1,b2⟩:=ypw (X:=X) (fz:=fz) y7 y8 y9 l hl b vb hrow hb hbb hbx x gx hs3 hp N hN obb st o1 o2 (i1.trans g1) (i2.trans g2) (fun h=>by
   obtain ⟨v1,e1⟩:=hst h s (by omega)
   obtain ⟨v2,e2⟩:=hst h (3+s) (by omega)
   rw [g1] at e1
   rw [show 6*p+(3+s)=6*p+3+s by omega,g2] at e2
   cases e1
   cases e2
   exact ⟨⟨_,rfl⟩,_,rfl⟩) k1 k2
  rw [y08 hr]
  have n1:newV N0 p st x.s s=some (lowN st o1 (sqN x.s s)):=by
   unfold newV
   rw [if_pos hs3,g1];rfl
  have n2:newV N0 p st x.s (s+3)=some (highN st o2 (sqN x.s s)):=by
   unfold newV
   rw [if_neg (by omega),show 6*p+(s+3)=6*p+3+s by omega,g2,Nat.add_sub_cancel];rfl
  obtain ⟨ob2,nx2,N2,X2,q1,q2,q3,q4,q5,q6⟩:=ih (s+1) (by omega) ob1 fz (nx+9) _ [] K (by omega) (by omega) ((b2 b hb).trans hrow) b1 (by rw [List.length_set,List.length_set];exact hN) (fun k hk=>by
   by_cases e2:k=6*p+3+s
   ·subst e2
    rw [List.getElem?_set_self (by rw [List.length_set,hN];exact hk),if_pos ⟨by omega,by omega,by rw [show 6*p+3+s-6*p=s+3 by omega,Nat.add_mod_right,Nat.mod_eq_of_lt hs3];omega⟩,show 6*p+3+s-6*p=s+3 by omega,n2]
   ·rw [List.getElem?_set_ne (fun h=>e2 h.symm)]
    by_cases e1:k=6*p+s
    ·subst e1
     rw [List.getElem?_set_self (by rw [hN];exact hk),if_pos ⟨by omega,by omega,by rw [show 6*p+s-6*p=s by omega,Nat.mod_eq_of_lt hs3];omega⟩,show 6*p+s-6*p=s by omega,n1]
    ·rw [List.getElem?_set_ne (fun h=>e1 h.symm),hinv k hk]
     by_cases h:6*p≤k∧k<6*p+6∧(k-6*p)%3<s
     ·rw [if_pos h,if_pos ⟨h.1,h.2.1,by omega⟩]
     ·rw [if_neg h,if_neg (fun h'=>h ⟨h'.1,h'.2.1,by omega⟩)])
  exact ⟨ob2,nx2,N2,X2,q1,q2,q3,q4,by omega,fun id hid=>(q6 id hid).trans (b2 id hid)⟩
def stepP (p:Nat) (st:Option Bx) (x:Rcd):Option Bx:=if x.ph=p then some (match st with | none=>⟨x.s,x.s⟩ | some b=>joinB b x.s) else st
def numsB (b:Bx):List (Option Rat):=[some b.low.load,some b.low.angle,some b.low.speed,some b.high.load,some b.high.angle,some b.high.speed]
def numsP:Option Bx→List (Option Rat)
 | none=>List.replicate 6 none
 | some b=>numsB b
def PN (N:List (Option Rat)) (p:Nat) (st:Option Bx):Prop:=∀j,j<6→N[6*p+j]? =(numsP st)[j]?
theorem yff {N:List (Option Rat)} {p:Nat} {st:Option Bx} (h:PN N p st) (x:Rcd) (hx:x.ph=p):∀j,j<6→some (newV N p st.isSome x.s j)=(numsP (stepP p st x))[j]? :=by
 intro j hj
 unfold stepP
 rw [if_pos hx]
 unfold newV
 rw [h j hj]
 cases st with
 | none=>
  rcases j with _ | _ | _ | _ | _ | _ | j<;>first | rfl | omega
 | some b=>
  rcases j with _ | _ | _ | _ | _ | _ | j<;>first | rfl | omega
theorem ykr {st:Option Bx} (h:st.isSome=true):∀j,j<6→∃v,(numsP st)[j]? =some (some v):=by
 intro j hj
 cases st with
 | none=>simp at h
 | some b=>rcases j with _ | _ | _ | _ | _ | _ | j<;>first | exact ⟨_,rfl⟩ | omega
theorem yks (p:Nat) (st:Option Bx) (x:Rcd):(stepP p st x).isSome=(decide (x.ph=p) || st.isSome):=by
 unfold stepP
 by_cases h:x.ph=p
 ·rw [if_pos h,decide_eq_true h];rfl
 ·rw [if_neg h,decide_eq_false h];rfl
def SmO:Option Bx→Prop
 | none=>True
 | some b=>SmBx b
theorem yhb {p:Nat} {st:Option Bx} {x:Rcd} (h:SmO st) (hx:SmSamp x.s):SmO (stepP p st x):=by
 unfold stepP
 split
 ·cases st with
  | none=>exact ⟨hx,hx⟩
  | some b=>exact yho h hx
 ·exact h
theorem yq5 {st:Option Bx} (h:SmO st):∀o∈numsP st,SmQ 256 (o.getD 0):=by
 cases st with
 | none=>intro o ho;rw [List.eq_of_mem_replicate ho];exact sm0 255
 | some b=>
  intro o ho
  unfold numsP numsB at ho
  simp only [List.mem_cons,List.not_mem_nil,or_false] at ho
  rcases ho with rfl | rfl | rfl | rfl | rfl | rfl
  ·exact h.low.load
  ·exact h.low.angle
  ·exact h.low.speed
  ·exact h.high.load
  ·exact h.high.angle
  ·exact h.high.speed
end Go.Ev
