import Derived.Test.YthghhnhojdmcpaaGreatP5
import Derived.Test.YthghhnhojdmcpaaGreatP4
set_option linter.all false
namespace Go.Ev
open Go.Dig
set_option maxRecDepth 100000 in
theorem yqg {n bm S:Nat} {fz:Nat→Nat} {nx:Nat} (hb:bm<nx) (c:List Pt) (L:List (Option Rat)) (hLc:L.length=c.length) (hcl:c.length<2^20) (hsL:∀o∈L,SmQ 1100 (o.getD 0)) (hsc:∀p∈c,SmPt p)
  (hm:∀(a b:Rat) (ca cb:List AV),RW a ca→RW b cb→SmQ 1100 a→SmQ 256 b→∀(ob:Nat→Option AObj) (fz:Nat→Nat),callV (evF E n) Id.y0y [.agg ca,.agg cb] ob fz=some (.fzd fz (.agg (rC (a*b)))))
  (ha:∀(a b:Rat) (ca cb:List AV),RW a ca→RW b cb→SmQ S a→SmQ 1356 b→∀(ob:Nat→Option AObj) (fz:Nat→Nat),callV (evF E n) Id.y1r [.agg ca,.agg cb] ob fz=some (.fzd fz (.agg (rC (a+b))))) (x4:SV):∀(r i:Nat),i+r=c.length→∀(m:Rat) (mc:List AV) (T:Nat),RW m mc→SmQ T m→T+1357*r≤S→∀(ob:Nat→Option AObj) (X:List (Nat×SV)) (N:Nat),r<N→ob bm=some (.box mc)→
  ∃mc' X' ob',RW (dotZ (L.drop i) (c.drop i) m) mc'∧(mc=rC m∨1≤r→mc'=rC (dotZ (L.drop i) (c.drop i) m))∧(∀id,id≠bm→ob' id=ob id)∧ob' bm=some (.box mc')∧SmQ S (dotZ (L.drop i) (c.drop i) m)∧
   loopN (evC (evF E n) n Fn.y72) N ⟨env ((0,.one (.sl false (c.map Pt.r)))::(4,x4)::(5,.one (.box bm 0))::(6,.one (.sl false (L.map frzQ)))::(7,.one (.int .i64 (i:Int)))::X),ob,fz,nx⟩=
    some (.ext 0,⟨env ((0,.one (.sl false (c.map Pt.r)))::(4,x4)::(5,.one (.box bm 0))::X'),ob',fz,nx⟩)
 | 0,i,hi,m,mc,T,hr,hT,hTS,ob,X,N,hN,hob=>by
  obtain ⟨N,rfl⟩:∃k,N=k+1:=⟨N-1,by omega⟩
  have e1:L.drop i=[]:=List.drop_eq_nil_of_le (by omega)
  have h1:(((i:Nat):Int)<((c.length:Nat):Int))=False:=by simp;omega
  rw [e1]
  refine ⟨mc,[(6,.one (.sl false (L.map frzQ))),(7,.one (.int .i64 (i:Int))),(14,.one (.bool false))],ob,hr,fun h=>(h.resolve_right (by omega)),fun _ _=>rfl,hob,hT.mono (by omega),y06 ?_⟩
  simp only [go_sem,Fn.y72,List.length_map,h1]
 | r+1,i,hi,m,mc,T,hr,hT,hTS,ob,X,N,hN,hob=>by
  obtain ⟨N,rfl⟩:∃k,N=k+1:=⟨N-1,by omega⟩
  have hic:i<c.length:=by omega
  have hiL:i<L.length:=by omega
  have h1:(((i:Nat):Int)<((c.length:Nat):Int))=True:=by simp;omega
  have wk:IntKind.i64.wrap ((i+1:Nat):Int)=((i+1:Nat):Int):=wi64 (by omega)
  have sL:=hsL L[i] (by simp)
  have sc:=(hsc c[i] (by simp)).z
  have hmm:=hm (L[i].getD 0) c[i].z _ _ (yee L[i]).w (RW.self _) sL sc
  have sm:=sL.mul sc
  have haa:=ha m (L[i].getD 0*c[i].z) _ _ hr (RW.self _) (hT.mono (by omega)) sm
  obtain ⟨q0,q1,q2,q3,eq⟩:=frzQ4 L[i]
  obtain ⟨m0,m1,m2,m3,rfl⟩:=hr.cells4
  obtain ⟨p0,p1,p2,p3,p4,p5,p6,p7,-,ez,ep⟩:=y6d c[i]
  obtain ⟨u0,u1,u2,u3,eu⟩:=rC4 (L[i].getD 0*c[i].z)
  obtain ⟨v0,v1,v2,v3,ev⟩:=rC4 (m+L[i].getD 0*c[i].z)
  have gL:(L.map frzQ)[i]? =some [q0,q1,q2,q3]:=by rw [List.getElem?_map,List.getElem?_eq_getElem hiL,Option.map_some,eq]
  have gc:(c.map Pt.r)[i]? =some [p0,p1,p2,p3,p4,p5,p6,p7]:=by rw [List.getElem?_map,List.getElem?_eq_getElem hic,Option.map_some,ep]
  rw [eq,ez,eu] at hmm
  rw [eu,ev] at haa
  have okc:okSz 8 (c.map Pt.r)=true:=y1m ya8 c
  have okL:okSz 4 (L.map frzQ)=true:=y1m (f:=frzQ) (k:=4) (fun o=>by obtain ⟨a,b,x,d,e⟩:=frzQ4 o;rw [e];rfl) L
  have lb0:(bm<nx)=True:=by simp;omega
  have hst:evC (evF E n) n Fn.y72 ⟨env ((0,.one (.sl false (c.map Pt.r)))::(4,x4)::(5,.one (.box bm 0))::(6,.one (.sl false (L.map frzQ)))::(7,.one (.int .i64 (i:Int)))::X),ob,fz,nx⟩=
    some (.nrm,⟨env [(0,.one (.sl false (c.map Pt.r))),(4,x4),(5,.one (.box bm 0)),(6,.one (.sl false (L.map frzQ))),(7,.one (.int .i64 ((i+1:Nat):Int)))],upd ob bm (.box (rC (m+L[i].getD 0*c[i].z))),fz,nx⟩):=by
   rw [ev]
   simp only [go_sem,Fn.y72,List.length_map,h1,lb0,hob,gL,gc,okc,okL,hmm,haa,add1,wk]
  rw [y05 hst,List.drop_eq_getElem_cons hiL,List.drop_eq_getElem_cons hic]
  unfold dotZ
  obtain ⟨mc',X',ob',k1,k2,k3,k4,k5,k6⟩:=yqg hb c L hLc hcl hsL hsc hm ha x4 r (i+1) (by omega) (m+L[i].getD 0*c[i].z) (rC (m+L[i].getD 0*c[i].z)) (T+1356+1) (RW.self _) (hT.add sm) (by omega) (upd ob bm (.box (rC (m+L[i].getD 0*c[i].z)))) [] N (by omega) (upd_same _ _ _)
  exact ⟨mc',X',ob',k1,fun _=>k2 (.inl rfl),fun id hid=>(k3 id hid).trans (y00 hid),k4,k5,k6⟩
theorem yw3 (c:List Pt) (q:Rat) (h0:1≤c.length) (hl:c.length<2^20) (hi:incC c=true) (hp:∀p∈c,SmPt p) (hq:SmQ 256 q):Ends Id.y3y [.one (.sl false (c.map Pt.r)),.agg (rC q)] (.agg (rC (atQ c q))):=by
 obtain ⟨L,hL,N1,k1⟩:=ymj c q h0 hl hi hp hq
 obtain ⟨N2,k2⟩:=ycf 1100 256 (by decide)
 obtain ⟨N3,k3⟩:=ygu (1+1357*c.length) 1356 (by omega)
 refine .of (N1+N2+N3+c.length+1) fun {n} hn=> ?_
 have k1:=k1 n (by omega)
 obtain ⟨s0,s1,s2,s3,es⟩:=rC4 q
 obtain ⟨mc',X',ob',q1,q2,q3,q4,q5,hlo⟩:=yqg (n:=n) (bm:=2) (S:=1+1357*c.length) (fz:=fz0) (nx:=3) (by decide) c L hL.len hl hL.sm hp (fun a b ca cb ha hb sa sb=>k2 a b ca cb ha hb sa sb n (by omega)) (fun a b ca cb ha hb sa sb=>k3 a b ca cb ha hb sa sb n (by omega)) (.one (.box 1 0)) c.length 0 (by omega) 0 [.bool false,.nils,.bool false,.nils] 1 RW.zero (sm0 0) (by omega)
  (upd (upd (upd ob0 0 (.box [s0,s1,s2,s3])) 1 (.box [.bool false,.nils,.bool false,.nils])) 2 (.box [.bool false,.nils,.bool false,.nils])) [] n (by omega) (upd_same _ _ _)
 have q2:=q2 (.inr h0)
 rw [List.drop_zero,List.drop_zero,hL.eq] at q2
 subst q2
 rw [show ((0:Nat):Int)=0 from rfl] at hlo
 have q3:=q3 1 (by decide)
 rw [y00 (by decide),upd_same] at q3
 obtain ⟨v0,v1,v2,v3,ev,f0,f1,f2,f3⟩:=y6q (atQ c q)
 rw [ev] at q4 ⊢
 rw [es] at k1 ⊢
 unfold Fz at f0 f1 f2 f3
 rw [y02 yi5]
 simp only [go_sem,Fn.y3y,k1,hlo,q3,q4,f0,f1,f2,f3]
theorem yw4 (c:List Pt) (q:Rat) (h0:1≤c.length) (hl:c.length<2^20) (hi:incC c=true) (hp:∀p∈c,SmPt p) (hq:SmQ 256 q):Calling Id.y3y [.one (.sl false (c.map Pt.r)),.agg (rC q)] (.agg (rC (atQ c q))):=
 (yw3 c q h0 hl hi hp hq).call (can2 (.one _ (.sl _)) (y8y q))
end Go.Ev
namespace Go.Ev
open Go.Dig
theorem yo2 {ob ob':Nat→Option AObj} {id:Nat} (h:ob' id=ob id):shut ob ob' id=ob id:=by
 unfold shut
 rw [h]
 cases ob id with
 | none=>rfl
 | some o=>cases o<;>rfl
theorem ye3 {ob ob':Nat→Option AObj} {id sz ver:Nat} {es:List (List AV)} (h:ob' id=some (.row sz es ver)):shut ob ob' id=some (.row sz es ver):=by
 unfold shut
 rw [h]
set_option maxRecDepth 100000 in
theorem ye1 (d:Dev) (ph:Nat) (hl:d.guards.length<2^20) (n:Nat) (ob:Nat→Option AObj) (fz:Nat→Nat) (nx:Nat):
  ∃ob':Nat→Option AObj,evF E (n+1) (.fn Id.y2p) [.agg d.r,.one (.int .u8 (ph:Int))] ⟨ob,fz,nx⟩=some (.agg [.int .u8 (ph:Int),.rsl (nx+6) 0 1 0 d.guards.length false],⟨ob',fz,nx+9⟩)∧ob' (nx+6)=some (.row 1 (intE (List.replicate d.guards.length 0)) 0)∧∀id,id<nx→ob' id=ob id:=by
 obtain ⟨r1,r2,r3,r4,er⟩:=y5t d
 rw [y7e ye6,er]
 have mk1:(d.guards.length≤9223372036854775807)=True:=by simp;omega
 have mk2:(8*d.guards.length≤281474976710656)=True:=by simp;omega
 have e:=yc0 d.guards.length
 simp only [go_sem,Fn.y2p,List.length_map,mk1,mk2,e,y0n,y8g,y8e,Nat.add_left_cancel_iff]
 refine ⟨_,rfl, ?_,fun id hid=> ?_⟩
 ·refine ye3 ?_
  simp only [y0n,y8g,y8e,Nat.add_left_cancel_iff,Nat.reduceEqDiff,if_false,if_true]
 ·refine yo2 ?_
  rw [y00 (by omega),y00 (by omega),y00 (by omega),y00 (by omega)]
def cntR (ph:Nat) (s:Samp) (g:Guard) (c:Nat):Nat:=if g.from_=ph∧hasBx g.box s=true then c+1 else 0
def cntsR (ph:Nat) (s:Samp):List Guard→List Nat→List Nat
 | g::gs,c::cs=>cntR ph s g c::cntsR ph s gs cs
 | _,_=>[]
theorem ybf (ph:Nat) (s:Samp):∀(gs:List Guard) (cs:List Nat),gs.length=cs.length→(cntsR ph s gs cs).length=cs.length
 | [],[],h=>rfl
 | g::gs,c::cs,h=>by simp only [cntsR,List.length_cons];rw [ybf ph s gs cs (by simpa using h)]
 | [],c::cs,h=>by simp at h
 | g::gs,[],h=>by simp at h
theorem ydp (ph:Nat) (s:Samp):∀(gs:List Guard) (cs:List Nat) (i:Nat) (g:Guard) (c:Nat),gs[i]? =some g→cs[i]? =some c→(cntsR ph s gs cs)[i]? =some (cntR ph s g c)
 | [],cs,i,g,c,h,h'=>by simp at h
 | a::gs,[],i,g,c,h,h'=>by simp at h'
 | a::gs,b::cs,0,g,c,h,h'=>by
  simp only [List.getElem?_cons_zero,Option.some.injEq] at h h'
  subst h;subst h';rfl
 | a::gs,b::cs,i+1,g,c,h,h'=>by
  simp only [cntsR,List.getElem?_cons_succ] at h h' ⊢
  exact ydp ph s gs cs i g c h h'
structure NextOb (ob:Nat→Option AObj) (d:Dev) (ph:Nat) (cs:List Nat) (s:Samp) (o:List Nat):Prop where
 o0:ob 0=some (.box d.r)
 o1:ob 1=some (.box [.int .u8 (ph:Int),.sl false (intE cs)])
 o2:ob 2=some (.box s.r)
 o3:ob 3=some (.box [.int .u8 0,.nils])
 o8:ob 8=some (.box [.int .u8 (ph:Int),.rsl 16 0 1 0 d.guards.length false])
 o16:ob 16=some (.row 1 (intE o) 0)
theorem NextOb.step {ob:Nat→Option AObj} {d:Dev} {ph:Nat} {cs:List Nat} {s:Samp} {o:List Nat} (h:NextOb ob d ph cs s o) (o':List Nat):NextOb (upd ob 16 (.row 1 (intE o') 0)) d ph cs s o':=
 ⟨(y00 (by decide)).trans h.o0,(y00 (by decide)).trans h.o1,(y00 (by decide)).trans h.o2,(y00 (by decide)).trans h.o3,(y00 (by decide)).trans h.o8,upd_same _ _ _⟩
set_option maxRecDepth 100000 in
theorem yqj {n:Nat} {ob:Nat→Option AObj} (d:Dev) (ph:Nat) (cs:List Nat) (s:Samp) (o:List Nat) (H:NextOb ob d ph cs s o) (hl:d.guards.length<2^20) (hcl:cs.length=d.guards.length) (hol:o.length=d.guards.length) (i:Nat) (hi:i<d.guards.length) (g:Guard) (hg:d.guards[i]? =some g) (c:Nat) (hc:cs[i]? =some c) (hc40:c<2^40) (ho:o[i]? =some 0)
  (hin:∀(ob:Nat→Option AObj) (fz:Nat→Nat),callV (evF E n) Id.y39 [.agg g.box.r,.agg s.r] ob fz=some (.fzd fz (.one (.bool (hasBx g.box s))))) (X:List (Nat×SV)):
  ∃ob',evC (evF E n) n Fn.y52 ⟨env ((3,.one (.box 0 0))::(4,.one (.box 1 0))::(5,.one (.box 2 0))::(6,.one (.box 3 0))::(7,.one (.box 8 0))::(8,.one (.int .i64 (i:Int)))::X),ob,fz0,19⟩=
   some (.nrm,⟨env [(3,.one (.box 0 0)),(4,.one (.box 1 0)),(5,.one (.box 2 0)),(6,.one (.box 3 0)),(7,.one (.box 8 0)),(8,.one (.int .i64 ((i+1:Nat):Int)))],ob',fz0,19⟩)∧NextOb ob' d ph cs s (o.set i (cntR ph s g c)):=by
 have h1:(((i:Nat):Int)<((d.guards.length:Nat):Int))=True:=by simp;omega
 have wk:IntKind.i64.wrap ((i+1:Nat):Int)=((i+1:Nat):Int):=wi64 (by omega)
 have wc:IntKind.i64.wrap ((c+1:Nat):Int)=((c+1:Nat):Int):=wi64 (by omega)
 have okz:okSz 27 (d.guards.map Guard.r)=true:=y1m (f:=Guard.r) (k:=27) (fun _=>rfl) d.guards
 have okc:okSz 1 (intE cs)=true:=y1m (f:=fun (d:Nat)=>[AV.int .i64 d]) (k:=1) (fun _=>rfl) cs
 have ge:(d.guards.map Guard.r)[i]? =some g.r:=by rw [List.getElem?_map,hg];rfl
 obtain ⟨c0,c1,c2,c3,c4,c5,c6,c7,c8,c9,c10,c11,c12,c13,c14,c15,c16,c17,c18,c19,c20,c21,c22,c23,eb,ec⟩:=yac g
 obtain ⟨s0,s1,s2,s3,s4,s5,s6,s7,s8,s9,s10,s11,es,-,-,-,-,-,-,-,-,-,-,-,-⟩:=y7g s
 obtain ⟨r1,r2,r3,r4,er⟩:=y5t d
 rw [eb,es] at hin
 rw [ec] at ge
 have o0:=H.o0
 have o1:=H.o1
 have o2:=H.o2
 have o8:=H.o8
 have o16:=H.o16
 rw [er] at o0
 rw [es] at o2
 have gC:(intE cs)[i]? =some [AV.int .i64 (c:Int)]:=by rw [yaj,hc];rfl
 have gO:(intE o)[i]? =some [AV.int .i64 ((0:Nat):Int)]:=by rw [yaj,ho];rfl
 have hrow:rowAt ob 16 0=some (1,intE o):=y1l o16
 have f16:fz0 16=0:=rfl
 have lo:(i<d.guards.length)=True:=eq_true hi
 have hr:=H
 by_cases p:g.from_=ph
 ·have q:(((g.from_:Nat):Int)==(ph:Int))=true:=by rw [p];simp
  cases hb:hasBx g.box s with
  | true=>
   have e:cntR ph s g c=c+1:=by unfold cntR;rw [if_pos ⟨p,hb⟩]
   rw [hb] at hin
   refine ⟨_, ?_,H.step _⟩
   rw [e]
   simp only [go_sem,Fn.y52,List.length_map,h1,o0,o1,o2,o8,hrow,ge,okz,okc,gC,gO,q,hin,add1,wk,wc,f16,lo,yc8]
  | false=>
   have e:cntR ph s g c=0:=by unfold cntR;rw [if_neg (by rw [hb];simp)]
   rw [hb] at hin
   have eo:o.set i 0=o:=by
    apply List.ext_getElem?
    intro k
    by_cases hk:i=k
    ·subst hk;rw [List.getElem?_set_self (by omega),ho]
    ·rw [List.getElem?_set_ne hk]
   refine ⟨ob, ?_,by rw [e,eo];exact H⟩
   simp only [go_sem,Fn.y52,List.length_map,h1,o0,o1,o2,o8,hrow,ge,okz,okc,gC,gO,q,hin,add1,wk,wc,f16,lo,yc8]
 ·have q:(((g.from_:Nat):Int)==(ph:Int))=false:=by simp only [beq_eq_false_iff_ne,ne_eq];omega
  have e:cntR ph s g c=0:=by unfold cntR;rw [if_neg (fun h=>p h.1)]
  have eo:o.set i 0=o:=by
   apply List.ext_getElem?
   intro k
   by_cases hk:i=k
   ·subst hk;rw [List.getElem?_set_self (by omega),ho]
   ·rw [List.getElem?_set_ne hk]
  refine ⟨ob, ?_,by rw [e,eo];exact H⟩
  simp only [go_sem,Fn.y52,List.length_map,h1,o0,o1,o2,o8,hrow,ge,okz,okc,gC,gO,q,hin,add1,wk,wc,f16,lo,yc8]
theorem ykv {n:Nat} (d:Dev) (ph:Nat) (cs:List Nat) (s:Samp) (hl:d.guards.length<2^20) (hcl:cs.length=d.guards.length) (hc40:∀c∈cs,c<2^40)
  (hin:∀g∈d.guards,∀(ob:Nat→Option AObj) (fz:Nat→Nat),callV (evF E n) Id.y39 [.agg g.box.r,.agg s.r] ob fz=some (.fzd fz (.one (.bool (hasBx g.box s))))):∀(r i:Nat),i+r=d.guards.length→∀(o:List Nat) (ob:Nat→Option AObj) (X:List (Nat×SV)) (N:Nat),r<N→NextOb ob d ph cs s o→o.length=d.guards.length→(∀k,k<d.guards.length→o[k]? =if k<i then (cntsR ph s d.guards cs)[k]? else some 0)→
  ∃ob' X',loopN (evC (evF E n) n Fn.y52) N ⟨env ((3,.one (.box 0 0))::(4,.one (.box 1 0))::(5,.one (.box 2 0))::(6,.one (.box 3 0))::(7,.one (.box 8 0))::(8,.one (.int .i64 (i:Int)))::X),ob,fz0,19⟩=
   some (.ext 0,⟨env ((3,.one (.box 0 0))::(4,.one (.box 1 0))::(5,.one (.box 2 0))::(6,.one (.box 3 0))::(7,.one (.box 8 0))::X'),ob',fz0,19⟩)∧NextOb ob' d ph cs s (cntsR ph s d.guards cs)
 | 0,i,hi,o,ob,X,N,hN,H,hol,hok=>by
  obtain ⟨N,rfl⟩:∃k,N=k+1:=⟨N-1,by omega⟩
  have h1:(((i:Nat):Int)<((d.guards.length:Nat):Int))=False:=by simp;omega
  have e:o=cntsR ph s d.guards cs:=by
   apply List.ext_getElem?
   intro k
   by_cases hk:k<d.guards.length
   ·rw [hok k hk,if_pos (by omega)]
   ·rw [List.getElem?_eq_none (by omega),List.getElem?_eq_none (by rw [ybf ph s _ _ hcl.symm];omega)]
  obtain ⟨r1,r2,r3,r4,er⟩:=y5t d
  have o0:=H.o0
  rw [er] at o0
  refine ⟨ob,[(8,.one (.int .i64 (i:Int))),(18,.one (.bool false))],y06 ?_,e ▸ H⟩
  simp only [go_sem,Fn.y52,List.length_map,o0,h1]
 | r+1,i,hi,o,ob,X,N,hN,H,hol,hok=>by
  obtain ⟨N,rfl⟩:∃k,N=k+1:=⟨N-1,by omega⟩
  have hil:i<d.guards.length:=by omega
  have hic:i<cs.length:=by omega
  have hg:d.guards[i]? =some d.guards[i]:=by simp
  have hc:cs[i]? =some cs[i]:=by simp
  obtain ⟨ob1,hr,H1⟩:=yqj (n:=n) d ph cs s o H hl hcl hol i hil d.guards[i] hg cs[i] hc (hc40 _ (by simp)) (by rw [hok i hil,if_neg (by omega)]) (hin _ (by simp)) X
  rw [y05 hr]
  refine ykv d ph cs s hl hcl hc40 hin r (i+1) (by omega) _ ob1 [] N (by omega) H1 (by simpa using hol) (fun k hk=> ?_)
  by_cases e:k=i
  ·subst e
   rw [List.getElem?_set_self (by omega),if_pos (by omega),ydp ph s _ _ k _ _ hg hc]
  ·rw [List.getElem?_set_ne (by omega),hok k hk]
   by_cases h2:k<i
   ·rw [if_pos h2,if_pos (by omega)]
   ·rw [if_neg h2,if_neg (by omega)]
def fireR:List Guard→List Nat→Option Guard
 | g::gs,c::cs=>if g.hold≤((c:Nat):Int) then some g else fireR gs cs
 | _,_=>none
def cntC (ph:Nat) (cs:List Nat):List AV:=[.int .u8 (ph:Int),.sl false (intE cs)]
def nextR (gs:List Guard) (ph:Nat) (cs:List Nat) (s:Samp):Nat×List Nat:=match fireR gs (cntsR ph s gs cs) with
 | some g=>(g.to,List.replicate gs.length 0)
 | none=>(ph,cntsR ph s gs cs)
set_option maxRecDepth 100000 in
theorem ykx {n:Nat} (hn:1≤n) (d:Dev) (ph:Nat) (cs:List Nat) (s:Samp) (hl:d.guards.length<2^20) (o:List Nat) (hol:o.length=d.guards.length) {ob:Nat→Option AObj} (H:NextOb ob d ph cs s o):∀(r i:Nat),i+r=d.guards.length→∀(X:List (Nat×SV)) (N:Nat),r<N→
  (fireR (d.guards.drop i) (o.drop i)=none→∃X',loopN (evC (evF E n) n Fn.y56) N ⟨env ((3,.one (.box 0 0))::(6,.one (.box 3 0))::(7,.one (.box 8 0))::(9,.one (.int .i64 (i:Int)))::X),ob,fz0,19⟩=
   some (.ext 2,⟨env ((3,.one (.box 0 0))::(6,.one (.box 3 0))::(7,.one (.box 8 0))::X'),ob,fz0,19⟩))∧
  (∀g,fireR (d.guards.drop i) (o.drop i)=some g→∃ob',loopN (evC (evF E n) n Fn.y56) N ⟨env ((3,.one (.box 0 0))::(6,.one (.box 3 0))::(7,.one (.box 8 0))::(9,.one (.int .i64 (i:Int)))::X),ob,fz0,19⟩=
   some (.ret,⟨env [(6,.one (.box 3 0))],ob',fz0,28⟩)∧ob' 3=some (.box [.int .u8 (g.to:Int),.rsl 25 0 1 0 d.guards.length false])∧ob' 25=some (.row 1 (intE (List.replicate d.guards.length 0)) 0))
 | 0,i,hi,X,N,hN=>by
  obtain ⟨N,rfl⟩:∃k,N=k+1:=⟨N-1,by omega⟩
  have h1:(((i:Nat):Int)<((d.guards.length:Nat):Int))=False:=by simp;omega
  obtain ⟨r1,r2,r3,r4,er⟩:=y5t d
  have o0:=H.o0
  rw [er] at o0
  rw [List.drop_eq_nil_of_le (show d.guards.length≤i by omega)]
  refine ⟨fun _=>⟨[(9,.one (.int .i64 (i:Int))),(54,.one (.bool false))],y06 ?_⟩,fun g h=>by simp [fireR] at h⟩
  simp only [go_sem,Fn.y56,List.length_map,o0,h1]
 | r+1,i,hi,X,N,hN=>by
  obtain ⟨N,rfl⟩:∃k,N=k+1:=⟨N-1,by omega⟩
  have hil:i<d.guards.length:=by omega
  have hio:i<o.length:=by omega
  have h1:(((i:Nat):Int)<((d.guards.length:Nat):Int))=True:=by simp;omega
  have wk:IntKind.i64.wrap ((i+1:Nat):Int)=((i+1:Nat):Int):=wi64 (by omega)
  have okz:okSz 27 (d.guards.map Guard.r)=true:=y1m (f:=Guard.r) (k:=27) (fun _=>rfl) d.guards
  obtain ⟨g,hg⟩:∃g,g=d.guards[i]:=⟨_,rfl⟩
  obtain ⟨c,hc⟩:∃c,c=o[i]:=⟨_,rfl⟩
  have ge:(d.guards.map Guard.r)[i]? =some g.r:=by rw [List.getElem?_map,List.getElem?_eq_getElem hil,hg];rfl
  have gO:(intE o)[i]? =some [AV.int .i64 (c:Int)]:=by rw [yaj,List.getElem?_eq_getElem hio,hc];rfl
  obtain ⟨c0,c1,c2,c3,c4,c5,c6,c7,c8,c9,c10,c11,c12,c13,c14,c15,c16,c17,c18,c19,c20,c21,c22,c23,eb,ec⟩:=yac g
  obtain ⟨r1,r2,r3,r4,er⟩:=y5t d
  rw [ec] at ge
  have o0:=H.o0
  have o3:=H.o3
  have o8:=H.o8
  have o16:=H.o16
  rw [er] at o0
  have hrow:rowAt ob 16 0=some (1,intE o):=y1l o16
  have lo:(i<d.guards.length)=True:=eq_true hil
  rw [List.drop_eq_getElem_cons hil,List.drop_eq_getElem_cons hio,←hg,←hc]
  unfold fireR
  by_cases p:g.hold≤((c:Nat):Int)
  ·have p':(((c:Nat):Int)≥g.hold)=True:=eq_true p
   rw [if_pos p]
   refine ⟨fun h=>by simp at h,fun g' hg'=> ?_⟩
   cases hg'
   obtain ⟨m,rfl⟩:∃m,n=m+1:=⟨n-1,by omega⟩
   obtain ⟨ob',hb,hb1,hb2⟩:=ye1 d g.to hl m ob fz0 19
   rw [er] at hb
   have b3:ob' 3=some (.box [.int .u8 0,.nils]):=(hb2 3 (by decide)).trans o3
   refine ⟨upd ob' 3 (.box [.int .u8 (g.to:Int),.rsl 25 0 1 0 d.guards.length false]),y34 ?_,upd_same _ _ _,(y00 (by decide)).trans hb1⟩
   simp only [go_sem,Fn.y56,List.length_map,h1,o0,o3,o8,hrow,ge,okz,gO,p',lo,hb,b3]
  ·have p':(((c:Nat):Int)≥g.hold)=False:=eq_false p
   rw [if_neg p]
   have hst:evC (evF E n) n Fn.y56 ⟨env ((3,.one (.box 0 0))::(6,.one (.box 3 0))::(7,.one (.box 8 0))::(9,.one (.int .i64 (i:Int)))::X),ob,fz0,19⟩=some (.nrm,⟨env [(3,.one (.box 0 0)),(6,.one (.box 3 0)),(7,.one (.box 8 0)),(9,.one (.int .i64 ((i+1:Nat):Int)))],ob,fz0,19⟩):=by
    simp only [go_sem,Fn.y56,List.length_map,h1,o0,o3,o8,hrow,ge,okz,gO,p',lo,add1,wk]
   rw [y05 hst]
   exact ykx hn d ph cs s hl o hol H r (i+1) (by omega) [] N (by omega)
theorem ybm (l:List Nat):CanonEs (intE l):=y5h (f:=fun (d:Nat)=>[AV.int .i64 d]) (fun _=>.cons (.int _ _) .nil) l
set_option maxRecDepth 100000 in
theorem ysi (d:Dev) (s:Samp) (hd:SmDev d) (hs:SmSamp s):∃N,∀n,N≤n→∀(ph:Nat) (cs:List Nat),cs.length=d.guards.length→(∀c∈cs,c<2^40)→evV E n Id.y32 [.agg d.r,.agg (cntC ph cs),.agg s.r]=some (.agg (cntC (nextR d.guards ph cs s).1 (nextR d.guards ph cs s).2)):=by
 obtain ⟨N1,k1⟩:=y8h d.guards fun g hg=>yxl g.box s (hd.gs g hg).box hs
 have hl:=hd.gl
 refine ⟨N1+d.guards.length+3,fun n hn ph cs hcl hc40=> ?_⟩
 obtain ⟨n,rfl⟩:∃m,n=m+1:=⟨n-1,by omega⟩
 have k1:=k1 n (by omega)
 obtain ⟨m,rfl⟩:∃m,n=m+1:=⟨n-1,by omega⟩
 obtain ⟨ob0',hb,hb1,hb2⟩:=ye1 d ph hl m (upd (upd (upd (upd ob0 0 (.box d.r)) 1 (.box (cntC ph cs))) 2 (.box s.r)) 3 (.box [.int .u8 0,.nils])) fz0 10
 have h0:ob0' 0=some (.box d.r):=(hb2 0 (by decide)).trans (by rw [y00 (by decide),y00 (by decide),y00 (by decide)];exact upd_same _ _ _)
 have h1:ob0' 1=some (.box (cntC ph cs)):=(hb2 1 (by decide)).trans (by rw [y00 (by decide),y00 (by decide)];exact upd_same _ _ _)
 have h2:ob0' 2=some (.box s.r):=(hb2 2 (by decide)).trans (by rw [y00 (by decide)];exact upd_same _ _ _)
 have h3:ob0' 3=some (.box [.int .u8 0,.nils]):=(hb2 3 (by decide)).trans (upd_same _ _ _)
 have H:NextOb (upd (upd ob0' 8 (.box [.int .u8 0,.nils])) 8 (.box [.int .u8 (ph:Int),.rsl 16 0 1 0 d.guards.length false])) d ph cs s (List.replicate d.guards.length 0):=
  ⟨by rw [y00 (by decide),y00 (by decide)];exact h0,by rw [y00 (by decide),y00 (by decide)];exact h1,by rw [y00 (by decide),y00 (by decide)];exact h2,by rw [y00 (by decide),y00 (by decide)];exact h3,upd_same _ _ _,by rw [y00 (by decide),y00 (by decide)];exact hb1⟩
 obtain ⟨ob1,X1,hl0,H1⟩:=ykv (n:=m+1) d ph cs s hl hcl hc40 k1 d.guards.length 0 (by omega) _ _ [] (m+1) (by omega) H (by simp) (fun k hk=>by rw [if_neg (by omega),List.getElem?_replicate,if_pos hk])
 have hlen:(cntsR ph s d.guards cs).length=d.guards.length:=by rw [ybf ph s _ _ hcl.symm,hcl]
 obtain ⟨f1,f2⟩:=ykx (n:=m+1) (by omega) d ph cs s hl (cntsR ph s d.guards cs) hlen H1 d.guards.length 0 (by omega) [] (m+1) (by omega)
 rw [List.drop_zero,List.drop_zero] at f1 f2
 rw [show ((0:Nat):Int)=0 from rfl,y96] at hl0
 rw [show ((0:Nat):Int)=0 from rfl] at f1 f2
 rw [y02 yex]
 obtain ⟨r1,r2,r3,r4,er⟩:=y5t d
 obtain ⟨s0,s1,s2,s3,s4,s5,s6,s7,s8,s9,s10,s11,es,-,-,-,-,-,-,-,-,-,-,-,-⟩:=y7g s
 unfold cntC at hb ⊢
 rw [er,es] at hb
 rw [er,es]
 unfold nextR
 cases hf:fireR d.guards (cntsR ph s d.guards cs) with
 | none=>
  obtain ⟨X2,hl1⟩:=f1 hf
  have o8:=H1.o8
  have o3:=H1.o3
  have fr:∀fz,frz (upd ob1 3 (.box [.int .u8 (ph:Int),.rsl 16 0 1 0 d.guards.length false])) DEPTH fz (.rsl 16 0 1 0 d.guards.length false)=some (raise fz 16 (0+d.guards.length),.sl false (intE (cntsR ph s d.guards cs))):=fun fz=>by
   rw [show DEPTH=6+1+1 from rfl,y7l,y1l (show upd ob1 3 _ 16=some (.row 1 (intE (cntsR ph s d.guards cs)) 0) from (y00 (by decide)).trans H1.o16)]
   have hb:Nat.ble (0+d.guards.length) (intE (cntsR ph s d.guards cs)).length=true:=by rw [y6p,hlen];simp
   simp only [hb,cond_true]
   rw [((ybm _).sub 0 d.guards.length).frz _ 6,List.drop_zero,List.take_of_length_le (by rw [y6p,hlen];exact Nat.le_refl _)]
  simp only [go_sem,Fn.y32,hb,hl0,hl1,o8,o3,h0,h1,h2,h3,fr]
 | some g=>
  obtain ⟨ob2,hl1,g1,g2⟩:=f2 g hf
  have fr:∀fz,frz ob2 DEPTH fz (.rsl 25 0 1 0 d.guards.length false)=some (raise fz 25 (0+d.guards.length),.sl false (intE (List.replicate d.guards.length 0))):=fun fz=>by
   rw [show DEPTH=6+1+1 from rfl,y7l,y1l g2]
   have hb:Nat.ble (0+d.guards.length) (intE (List.replicate d.guards.length 0)).length=true:=by rw [y6p];simp
   simp only [hb,cond_true]
   rw [((ybm _).sub 0 d.guards.length).frz _ 6,List.drop_zero,List.take_of_length_le (by rw [y6p];simp)]
  simp only [go_sem,Fn.y32,hb,hl0,hl1,g1,h0,h1,h2,h3,fr]
end Go.Ev
namespace Go.Ev
open Go.Dig
end Go.Ev
namespace Go.Ev
open Go.Dig
theorem yk3 (ph:Nat) (s:Samp):∀(l:List Guard) (i:Nat) (c:Nat→Nat) (k:Nat),(seeL ph s l i c (some k)).2=some k
 | [],i,c,k=>rfl
 | g::r,i,c,k=>by
  unfold seeL
  have e:(seeS ph s g i c (some k)).2=some k:=by
   unfold seeS
   split
   ·split
    ·simp
    ·rfl
   ·rfl
  rw [e]
  exact yk3 ph s r _ _ k
end Go.Ev
namespace Go.Ev
def cP (ph:Nat) (s:Samp) (g:Guard) (x:Nat):Nat:=if g.from_=ph then (if hasBx g.box s=true then x+1 else 0) else x
theorem ylz (ph:Nat) (s:Samp) (g:Guard) (i:Nat) (c:Nat→Nat) (f:Option Nat) (k:Nat):(seeS ph s g i c f).1 k=if k=i then cP ph s g (c i) else c k:=by
 unfold seeS cP setN
 by_cases h1:g.from_=ph
 ·rw [if_pos h1]
  by_cases h2:hasBx g.box s=true
  ·rw [if_pos h2]
   by_cases hk:k=i
   ·simp [hk,h1,h2]
   ·simp [hk]
  ·rw [if_neg h2]
   by_cases hk:k=i
   ·simp [hk,h1,h2]
   ·simp [hk]
 ·rw [if_neg h1]
  by_cases hk:k=i
  ·simp [hk,h1]
  ·simp [hk]
theorem yfz (ph:Nat) (s:Samp):∀(l:List Guard) (i:Nat) (c:Nat→Nat) (f:Option Nat) (k:Nat),(seeL ph s l i c f).1 k=if i≤k then (match l[k-i]? with | some g=>cP ph s g (c k) | none=>c k) else c k
 | [],i,c,f,k=>by
  unfold seeL
  split<;>simp
 | g::r,i,c,f,k=>by
  unfold seeL
  rw [yfz ph s r (i+1),ylz]
  by_cases h:i≤k
  ·rw [if_pos h]
   by_cases hk:k=i
   ·subst hk
    rw [if_neg (by omega),if_pos rfl,Nat.sub_self]
    rfl
   ·rw [if_pos (by omega),if_neg hk,show k-i=(k-(i+1))+1 by omega,List.getElem?_cons_succ]
  ·rw [if_neg h,if_neg (by omega),if_neg (by omega)]
def fires (ph:Nat) (s:Samp) (g:Guard) (x:Nat):Prop:=g.from_=ph∧hasBx g.box s=true∧g.hold≤((x+1:Nat):Int)
instance (ph:Nat) (s:Samp) (g:Guard) (x:Nat):Decidable (fires ph s g x):=by unfold fires;exact inferInstance
def firstI (ph:Nat) (s:Samp) (c:Nat→Nat):List Guard→Nat→Option Nat
 | [],_=>none
 | g::r,i=>if fires ph s g (c i) then some i else firstI ph s c r (i+1)
theorem yda (ph:Nat) (s:Samp) {c c':Nat→Nat}:∀(l:List Guard) (i:Nat),(∀k,i≤k→c k=c' k)→firstI ph s c l i=firstI ph s c' l i
 | [],i,h=>rfl
 | g::r,i,h=>by
  unfold firstI
  rw [h i (Nat.le_refl _),yda ph s r (i+1) fun k hk=>h k (by omega)]
theorem yvp (ph:Nat) (s:Samp) (g:Guard) (i:Nat) (c:Nat→Nat):(seeS ph s g i c none).2=if fires ph s g (c i) then some i else none:=by
 unfold seeS fires
 by_cases h1:g.from_=ph
 ·by_cases h2:hasBx g.box s=true
  ·simp [h1,h2]
  ·simp [h1,h2]
 ·simp [h1]
theorem yo7 (ph:Nat) (s:Samp):∀(l:List Guard) (i:Nat) (c:Nat→Nat),(seeL ph s l i c none).2=firstI ph s c l i
 | [],i,c=>rfl
 | g::r,i,c=>by
  unfold seeL firstI
  rw [yvp]
  by_cases h:fires ph s g (c i)
  ·rw [if_pos h,if_pos h]
   exact yk3 ph s r (i+1) _ i
  ·rw [if_neg h,if_neg h,yo7 ph s r (i+1)]
   refine yda ph s r (i+1) fun k hk=> ?_
   rw [ylz,if_neg (by omega)]
structure CntOk (gs:List Guard) (ph:Nat) (cnt:Nat→Nat) (cs:List Nat):Prop where
 len:cs.length=gs.length
 eq:∀i,i<gs.length→cs[i]? =some (cnt i)
 zero:∀i g,gs[i]? =some g→g.from_≠ph→cnt i=0
theorem yq5 (ph:Nat) (s:Samp) (cnt:Nat→Nat):∀(gs:List Guard) (cs:List Nat) (i:Nat),cs.length=gs.length→(∀g∈gs,1≤g.hold)→(∀k,k<gs.length→cs[k]? =some (cnt (i+k)))→
  (fireR gs (cntsR ph s gs cs)=none∧firstI ph s cnt gs i=none)∨∃k g,fireR gs (cntsR ph s gs cs)=some g∧firstI ph s cnt gs i=some (i+k)∧gs[k]? =some g
 | [],cs,i,hl,hh,hc=>.inl ⟨rfl,rfl⟩
 | g::gs,[],i,hl,hh,hc=>by simp at hl
 | g::gs,c::cs,i,hl,hh,hc=>by
  have h0:=hc 0 (by simp)
  simp only [List.getElem?_cons_zero,Option.some.injEq,Nat.add_zero] at h0
  subst h0
  have hg:=hh g (by simp)
  unfold cntsR fireR firstI
  by_cases hf:fires ph s g (cnt i)
  ·right
   have e:cntR ph s g (cnt i)=cnt i+1:=by unfold cntR;rw [if_pos ⟨hf.1,hf.2.1⟩]
   refine ⟨0,g, ?_, ?_,rfl⟩
   ·rw [e,if_pos hf.2.2]
   ·rw [if_pos hf,Nat.add_zero]
  ·have e:¬g.hold≤((cntR ph s g (cnt i):Nat):Int):=by
    unfold cntR
    split
    ·rename_i h
     exact fun h3=>hf ⟨h.1,h.2,h3⟩
    ·simp;omega
   rw [if_neg e,if_neg hf]
   rcases yq5 ph s cnt gs cs (i+1) (by simpa using hl) (fun g h=>hh g (by simp [h])) (fun k hk=>by
    have:=hc (k+1) (by simpa using hk)
    rw [List.getElem?_cons_succ] at this
    rw [this]
    congr 2
    omega) with ⟨h1,h2⟩ | ⟨k,g',h1,h2,h3⟩
   ·exact .inl ⟨h1,h2⟩
   ·exact .inr ⟨k+1,g',h1,by rw [h2];congr 1;omega,by rw [List.getElem?_cons_succ];exact h3⟩
theorem yy4 {gs:List Guard} {ph:Nat} {cnt:Nat→Nat} {cs:List Nat} (s:Samp) (hh:∀g∈gs,1≤g.hold) (H:CntOk gs ph cnt cs):
  (nextR gs ph cs s).1=(seeW gs ph cnt s).1∧CntOk gs (seeW gs ph cnt s).1 (seeW gs ph cnt s).2 (nextR gs ph cs s).2:=by
 unfold nextR seeW
 rw [yo7]
 rcases yq5 ph s cnt gs cs 0 H.len hh (fun k hk=>by rw [Nat.zero_add];exact H.eq k hk) with ⟨h1,h2⟩ | ⟨k,g,h1,h2,h3⟩
 ·rw [h1,h2]
  refine ⟨rfl,by rw [ybf ph s _ _ H.len.symm];exact H.len,fun i hi=> ?_,fun i g hg hne=> ?_⟩
  ·have hg:gs[i]? =some gs[i]:=by simp
   show (cntsR ph s gs cs)[i]? =some ((seeL ph s gs 0 cnt none).1 i)
   rw [ydp ph s gs cs i _ _ hg (H.eq i hi),yfz,if_pos (Nat.zero_le _),Nat.sub_zero,hg]
   congr 1
   unfold cntR cP
   by_cases h1:gs[i].from_=ph
   ·by_cases h2:hasBx gs[i].box s=true
    ·simp [h1,h2]
    ·simp [h1,h2]
   ·simp only [h1,false_and,if_false]
    exact (H.zero i _ hg h1).symm
  ·show (seeL ph s gs 0 cnt none).1 i=0
   rw [yfz,if_pos (Nat.zero_le _),Nat.sub_zero,hg]
   show cP ph s g (cnt i)=0
   unfold cP
   rw [if_neg hne]
   exact H.zero i g hg hne
 ·rw [h1,h2,Nat.zero_add]
  refine ⟨by show g.to=((gs[k]?).map Guard.to).getD 0;rw [h3];rfl,by simp,fun i hi=> ?_,fun i g hg hne=>rfl⟩
  show (List.replicate gs.length 0)[i]? =some 0
  rw [List.getElem?_replicate,if_pos hi]
end Go.Ev
namespace Go.Ev
open Go.Dig
def OutF (sz base:Nat) (ob:Nat→Option AObj) (nx:Nat) (x:AV) (es:List (List AV)):Prop:=
 (es=[]∧x=.nils)∨∃id ver,x=.rsl id ver sz 0 es.length false∧ob id=some (.row sz es ver)∧base≤id∧id<nx
theorem OutF.out {sz base:Nat} {ob:Nat→Option AObj} {nx:Nat} {x:AV} {es:List (List AV)} (h:OutF sz base ob nx x es):OutE sz ob nx x es:=by
 rcases h with h | ⟨id,ver,h1,h2,-,h3⟩
 ·exact .inl h
 ·exact .inr ⟨id,ver,h1,h2,h3⟩
def rawR (a:Nat×Option Rat):List AV:=.int .u8 (a.1:Int)::rawQ a.2
def frzR' (a:Nat×Option Rat):List AV:=.int .u8 (a.1:Int)::frzQ a.2
set_option maxRecDepth 100000 in
set_option maxHeartbeats 4000000 in
theorem yrg {n:Nat} {ob:Nat→Option AObj} {fz fz1:Nat→Nat} {nx:Nat} (hnx:16≤nx) (d:Dev) (l:List Samp) (s:Samp) (i:Nat) (hs:l[i]? =some s) (hl:l.length<2^20) (b:AV) (ph0 ph:Nat) (cs:List Nat) (m0 m1 m2 m3:AV) (c:List Pt) (P:Pt) (gc:d.curves[ph]? =some c) (gP:d.limits[ph]? =some P) (at_ lo hi r1:Rat)
  (o0:ob 0=some (.box d.r)) (o4:ob 4=some (.box [.int .u8 (ph0:Int),b])) (o15:ob 15=some (.box [m0,m1,m2,m3]))
  (k1:callV (evF E n) Id.y32 [.agg d.r,.agg [.int .u8 (ph0:Int),b],.agg s.r] ob fz=some (.fzd fz1 (.agg (cntC ph cs))))
  (k2:∀(ob:Nat→Option AObj) (fz:Nat→Nat),callV (evF E n) Id.y3y [.one (.sl false (c.map Pt.r)),.agg (rC s.angle)] ob fz=some (.fzd fz (.agg (rC at_))))
  (k3:∀(ob:Nat→Option AObj) (fz:Nat→Nat),callV (evF E n) Id.y22 [.agg [m0,m1,m2,m3],.agg (rC P.z)] ob fz=some (.fzd fz (.agg (rC lo))))
  (k4:∀(ob:Nat→Option AObj) (fz:Nat→Nat),callV (evF E n) Id.y1r [.agg [m0,m1,m2,m3],.agg (rC P.z)] ob fz=some (.fzd fz (.agg (rC hi)))) {c1 c2 c3 c4 e1 e2 e3 e4:AV}
  (k5:∀(ob:Nat→Option AObj) (fz:Nat→Nat),callV (evF E n) Id.y2b [.agg (rC at_),.agg (rC lo),.agg (rC hi)] ob fz=some (.fzd fz (.agg [c1,c2,c3,c4])))
  (k6:∀(ob:Nat→Option AObj) (fz:Nat→Nat),callV (evF E n) Id.y36 [.agg (rC P.x)] ob fz=some (.fzd fz (.agg (rC (-P.x)))))
  (k7:∀(ob:Nat→Option AObj) (fz:Nat→Nat),callV (evF E n) Id.y2b [.agg [c1,c2,c3,c4],.agg (rC (-P.x)),.agg (rC P.x)] ob fz=some (.fzd fz (.agg [e1,e2,e3,e4])))
  (k8:∀(ob:Nat→Option AObj) (fz:Nat→Nat),callV (evF E n) Id.y0y [.agg [e1,e2,e3,e4],.agg (rC s.speed)] ob fz=some (.fzd fz (.agg (rC r1))))
  (k9:∀(ob:Nat→Option AObj) (fz:Nat→Nat),callV (evF E n) Id.y0u [.agg (rC r1)] ob fz=some (.fzd fz (.one (.int .i64 (signI r1.num)))))
  (x:AV) (es:List (List AV)) (hx:OutF 5 16 ob nx x es) (hes:es.length<2^20) (X:List (Nat×SV)):
  ∃ob' x',evC (evF E n) n Fn.y3o ⟨env ((1,.one (.sl false (l.map Samp.r)))::(2,.one (.box 0 0))::(5,.one (.box 4 0))::(6,.one (.box 15 0))::(7,.one x)::(8,.one (.int .i64 (i:Int)))::X),ob,fz,nx⟩=
   some (.nrm,⟨env [(1,.one (.sl false (l.map Samp.r))),(2,.one (.box 0 0)),(5,.one (.box 4 0)),(6,.one (.box 15 0)),(7,.one x'),(8,.one (.int .i64 ((i+1:Nat):Int)))],ob',fz1,nx+16⟩)∧
   ob' 0=some (.box d.r)∧ob' 4=some (.box (cntC ph cs))∧ob' 15=some (.box (if ph=4∧signI r1.num>0 then [.bool false,.nils,.bool false,.nils] else [e1,e2,e3,e4]))∧
   OutF 5 16 ob' (nx+16) x' (es++[.int .u8 (ph:Int)::(if ph=4∧signI r1.num>0 then [.bool false,.nils,.bool false,.nils] else [e1,e2,e3,e4])]):=by
 have hil:i<l.length:=(List.getElem?_eq_some_iff.1 hs).1
 have h1:(((i:Nat):Int)<((l.length:Nat):Int))=True:=by simp;omega
 have wk:IntKind.i64.wrap ((i+1:Nat):Int)=((i+1:Nat):Int):=wi64 (by omega)
 have okS:okSz 12 (l.map Samp.r)=true:=y1m (f:=Samp.r) (k:=12) (fun _=>rfl) l
 have gS:(l.map Samp.r)[i]? =some s.r:=by rw [List.getElem?_map,hs];rfl
 have okC:okSz 1 (d.curves.map fun s=>[AV.sl false (s.map Pt.r)])=true:=y1m (f:=fun s:List Pt=>[AV.sl false (s.map Pt.r)]) (k:=1) (fun _=>rfl) _
 have gC:(d.curves.map fun s=>[AV.sl false (s.map Pt.r)])[ph]? =some [.sl false (c.map Pt.r)]:=by rw [List.getElem?_map,gc];rfl
 have okL:okSz 8 (d.limits.map Pt.r)=true:=y1m ya8 _
 obtain ⟨p1,p2,p3,p4,p5,p6,p7,p8,ex,ez,ep⟩:=y6d P
 have gL:(d.limits.map Pt.r)[ph]? =some [p1,p2,p3,p4,p5,p6,p7,p8]:=by rw [List.getElem?_map,gP,Option.map_some,ep]
 obtain ⟨d1,d2,d3,d4,ed⟩:=y5t d
 obtain ⟨a1,a2,a3,a4,ea⟩:=rC4 s.load
 obtain ⟨a5,a6,a7,a8,eb⟩:=rC4 s.angle
 obtain ⟨a9,a10,a11,a12,ec⟩:=rC4 s.speed
 obtain ⟨t1,t2,t3,t4,et⟩:=rC4 at_
 obtain ⟨l1,l2,l3,l4,el⟩:=rC4 lo
 obtain ⟨i1,i2,i3,i4,ei⟩:=rC4 hi
 obtain ⟨n1,n2,n3,n4,en⟩:=rC4 (-P.x)
 obtain ⟨q1,q2,q3,q4,eq⟩:=rC4 r1
 have es':s.r=[a1,a2,a3,a4,a5,a6,a7,a8,a9,a10,a11,a12]:=by unfold Samp.r;rw [ea,eb,ec];rfl
 unfold cntC at k1 ⊢
 rw [ed] at o0 k1
 rw [es'] at gS k1
 rw [eb,et] at k2
 rw [ez,el] at k3
 rw [ez,ei] at k4
 rw [et,el,ei] at k5
 rw [ex,en] at k6
 rw [en,ex] at k7
 rw [ec,eq] at k8
 rw [eq] at k9
 rw [ed]
 have b0:∀k,(0<nx+k)=True:=fun k=>by simp only [eq_iff_iff,iff_true];omega
 have b4:∀k,(4<nx+k)=True:=fun k=>by simp only [eq_iff_iff,iff_true];omega
 have b15:∀k,(15<nx+k)=True:=fun k=>by simp only [eq_iff_iff,iff_true];omega
 have w0:(0<nx)=True:=by simp only [eq_iff_iff,iff_true];omega
 have w4:(4<nx)=True:=by simp only [eq_iff_iff,iff_true];omega
 have w15:(15<nx)=True:=by simp only [eq_iff_iff,iff_true];omega
 have y0:∀k,(0=nx+k)=False:=fun k=>by simp only [eq_iff_iff,iff_false];omega
 have y4:∀k,(4=nx+k)=False:=fun k=>by simp only [eq_iff_iff,iff_false];omega
 have y15:∀k,(15=nx+k)=False:=fun k=>by simp only [eq_iff_iff,iff_false];omega
 have y0':∀k,(nx+k=0)=False:=fun k=>by simp only [eq_iff_iff,iff_false];omega
 have y4':∀k,(nx+k=4)=False:=fun k=>by simp only [eq_iff_iff,iff_false];omega
 have y15':∀k,(nx+k=15)=False:=fun k=>by simp only [eq_iff_iff,iff_false];omega
 have nxa:∀a b:Nat,nx+a+b=nx+(a+b):=fun a b=>Nat.add_assoc nx a b
 have nph:Ev.natOf (ph:Int)=some ph:=ya1 _
 have u1:Ev.natOf 1=some 1:=rfl
 have u2:Ev.natOf 2=some 2:=rfl
 obtain ⟨r,hr0⟩:∃r,evC (evF E n) n Fn.y3o ⟨env ((1,.one (.sl false (l.map Samp.r)))::(2,.one (.box 0 0))::(5,.one (.box 4 0))::(6,.one (.box 15 0))::(7,.one x)::(8,.one (.int .i64 (i:Int)))::X),ob,fz,nx⟩=r:=⟨_,rfl⟩
 have hr:=hr0
 rcases hx with ⟨rfl,rfl⟩ | ⟨a,va,rfl,h4,h5,h6⟩
 ·by_cases g4:ph=4
  ·have g4':(((ph:Nat):Int)==4)=true:=by rw [g4];rfl
   by_cases g5:signI r1.num>0
   ·rw [if_pos ⟨g4,g5⟩]
    simp only [go_sem,Fn.y3o,List.length_map,h1,o0,o4,o15,k1,k2,k3,k4,k5,k6,k7,k8,k9,okS,gS,okC,gC,okL,gL,nph,u1,u2,b0,b4,b15,w0,w4,w15,y0,y4,y15,y0',y4',y15',nxa,add1,wk,okSz,ROOM,y0n,g4',g5] at hr
    rw [hr0,←hr]
    refine ⟨_,_,rfl, ?_, ?_, ?_,.inr ⟨nx+14,0,rfl,upd_same _ _ _,by omega,by omega⟩⟩
    ·simp only [y0n,y0,y4,y15,y0',y4',y15',Nat.reduceEqDiff,if_false,if_true,o0,Nat.add_left_cancel_iff]
    ·simp only [y0n,y0,y4,y15,y0',y4',y15',Nat.reduceEqDiff,if_false,if_true,o0,Nat.add_left_cancel_iff]
    ·simp only [y0n,y0,y4,y15,y0',y4',y15',Nat.reduceEqDiff,if_false,if_true,o0,Nat.add_left_cancel_iff]
   ·rw [if_neg (fun h=>g5 h.2)]
    simp only [go_sem,Fn.y3o,List.length_map,h1,o0,o4,o15,k1,k2,k3,k4,k5,k6,k7,k8,k9,okS,gS,okC,gC,okL,gL,nph,u1,u2,b0,b4,b15,w0,w4,w15,y0,y4,y15,y0',y4',y15',nxa,add1,wk,okSz,ROOM,y0n,g4',g5] at hr
    rw [hr0,←hr]
    refine ⟨_,_,rfl, ?_, ?_, ?_,.inr ⟨nx+14,0,rfl,upd_same _ _ _,by omega,by omega⟩⟩
    ·simp only [y0n,y0,y4,y15,y0',y4',y15',Nat.reduceEqDiff,if_false,if_true,o0,Nat.add_left_cancel_iff]
    ·simp only [y0n,y0,y4,y15,y0',y4',y15',Nat.reduceEqDiff,if_false,if_true,o0,Nat.add_left_cancel_iff]
    ·simp only [y0n,y0,y4,y15,y0',y4',y15',Nat.reduceEqDiff,if_false,if_true,o0,Nat.add_left_cancel_iff]
  ·have g4':(((ph:Nat):Int)==4)=false:=by simp only [beq_eq_false_iff_ne,ne_eq];omega
   rw [if_neg (fun h=>g4 h.1)]
   simp only [go_sem,Fn.y3o,List.length_map,h1,o0,o4,o15,k1,k2,k3,k4,k5,k6,k7,k8,k9,okS,gS,okC,gC,okL,gL,nph,u1,u2,b0,b4,b15,w0,w4,w15,y0,y4,y15,y0',y4',y15',nxa,add1,wk,okSz,ROOM,y0n,g4'] at hr
   rw [hr0,←hr]
   refine ⟨_,_,rfl, ?_, ?_, ?_,.inr ⟨nx+14,0,rfl,upd_same _ _ _,by omega,by omega⟩⟩
   ·simp only [y0n,y0,y4,y15,y0',y4',y15',Nat.reduceEqDiff,if_false,if_true,o0,Nat.add_left_cancel_iff]
   ·simp only [y0n,y0,y4,y15,y0',y4',y15',Nat.reduceEqDiff,if_false,if_true,o0,Nat.add_left_cancel_iff]
   ·simp only [y0n,y0,y4,y15,y0',y4',y15',Nat.reduceEqDiff,if_false,if_true,o0,Nat.add_left_cancel_iff]
 ·have w1:(es.length+1)*72≤140737488355328:=by omega
  have b1:(es.length==es.length)=true:=by simp
  have q1':∀k ob y ver,rowAt (upd ob (nx+k) y) a ver=rowAt ob a ver:=fun k ob y ver=>y19 (by omega)
  have q2':∀ob y ver,rowAt (upd ob nx y) a ver=rowAt ob a ver:=fun ob y ver=>y19 (by omega)
  have q3':∀ob y ver,rowAt (upd ob 4 y) a ver=rowAt ob a ver:=fun ob y ver=>y19 (by omega)
  have q4':∀ob y ver,rowAt (upd ob 15 y) a ver=rowAt ob a ver:=fun ob y ver=>y19 (by omega)
  have hra:rowAt ob a va=some (5,es):=y1l h4
  have a0:(0=a)=False:=by simp only [eq_iff_iff,iff_false];omega
  have a4:(4=a)=False:=by simp only [eq_iff_iff,iff_false];omega
  have a15:(15=a)=False:=by simp only [eq_iff_iff,iff_false];omega
  have a0':(a=0)=False:=by simp only [eq_iff_iff,iff_false];omega
  have a4':(a=4)=False:=by simp only [eq_iff_iff,iff_false];omega
  have a15':(a=15)=False:=by simp only [eq_iff_iff,iff_false];omega
  by_cases g4:ph=4
  ·have g4':(((ph:Nat):Int)==4)=true:=by rw [g4];rfl
   by_cases g5:signI r1.num>0
   ·rw [if_pos ⟨g4,g5⟩]
    simp only [go_sem,Fn.y3o,List.length_map,h1,o0,o4,o15,k1,k2,k3,k4,k5,k6,k7,k8,k9,okS,gS,okC,gC,okL,gL,nph,u1,u2,b0,b4,b15,w0,w4,w15,y0,y4,y15,y0',y4',y15',nxa,add1,wk,okSz,ROOM,y0n,g4',g5,q1',q2',q3',q4',hra,w1,b1,a4',a15',a0'] at hr
    rw [hr0,←hr]
    refine ⟨_,_,rfl, ?_, ?_, ?_,.inr ⟨a,va+1,by rw [List.length_append];rfl,upd_same _ _ _,h5,by omega⟩⟩
    ·simp only [y0n,y0,y4,y15,y0',y4',y15',a0,a4,a15,Nat.reduceEqDiff,if_false,if_true,o0,Nat.add_left_cancel_iff]
    ·simp only [y0n,y0,y4,y15,y0',y4',y15',a0,a4,a15,Nat.reduceEqDiff,if_false,if_true,o0,Nat.add_left_cancel_iff]
    ·simp only [y0n,y0,y4,y15,y0',y4',y15',a0,a4,a15,Nat.reduceEqDiff,if_false,if_true,o0,Nat.add_left_cancel_iff]
   ·rw [if_neg (fun h=>g5 h.2)]
    simp only [go_sem,Fn.y3o,List.length_map,h1,o0,o4,o15,k1,k2,k3,k4,k5,k6,k7,k8,k9,okS,gS,okC,gC,okL,gL,nph,u1,u2,b0,b4,b15,w0,w4,w15,y0,y4,y15,y0',y4',y15',nxa,add1,wk,okSz,ROOM,y0n,g4',g5,q1',q2',q3',q4',hra,w1,b1,a4',a15',a0'] at hr
    rw [hr0,←hr]
    refine ⟨_,_,rfl, ?_, ?_, ?_,.inr ⟨a,va+1,by rw [List.length_append];rfl,upd_same _ _ _,h5,by omega⟩⟩
    ·simp only [y0n,y0,y4,y15,y0',y4',y15',a0,a4,a15,Nat.reduceEqDiff,if_false,if_true,o0,Nat.add_left_cancel_iff]
    ·simp only [y0n,y0,y4,y15,y0',y4',y15',a0,a4,a15,Nat.reduceEqDiff,if_false,if_true,o0,Nat.add_left_cancel_iff]
    ·simp only [y0n,y0,y4,y15,y0',y4',y15',a0,a4,a15,Nat.reduceEqDiff,if_false,if_true,o0,Nat.add_left_cancel_iff]
  ·have g4':(((ph:Nat):Int)==4)=false:=by simp only [beq_eq_false_iff_ne,ne_eq];omega
   rw [if_neg (fun h=>g4 h.1)]
   simp only [go_sem,Fn.y3o,List.length_map,h1,o0,o4,o15,k1,k2,k3,k4,k5,k6,k7,k8,k9,okS,gS,okC,gC,okL,gL,nph,u1,u2,b0,b4,b15,w0,w4,w15,y0,y4,y15,y0',y4',y15',nxa,add1,wk,okSz,ROOM,y0n,g4',q1',q2',q3',q4',hra,w1,b1,a4',a15',a0'] at hr
   rw [hr0,←hr]
   refine ⟨_,_,rfl, ?_, ?_, ?_,.inr ⟨a,va+1,by rw [List.length_append];rfl,upd_same _ _ _,h5,by omega⟩⟩
   ·simp only [y0n,y0,y4,y15,y0',y4',y15',a0,a4,a15,Nat.reduceEqDiff,if_false,if_true,o0,Nat.add_left_cancel_iff]
   ·simp only [y0n,y0,y4,y15,y0',y4',y15',a0,a4,a15,Nat.reduceEqDiff,if_false,if_true,o0,Nat.add_left_cancel_iff]
   ·simp only [y0n,y0,y4,y15,y0',y4',y15',a0,a4,a15,Nat.reduceEqDiff,if_false,if_true,o0,Nat.add_left_cancel_iff]
end Go.Ev
namespace Go.Ev
open Go.Dig
def outR (d:Dev) (w:WSt) (s:Samp):Nat×Option Rat:=((stepW d w s).ph,if stopW d w s=true then none else some (momW d w s))
def outsR (d:Dev):WSt→List Samp→List (Nat×Option Rat)
 | _,[]=>[]
 | w,s::r=>outR d w s::outsR d (stepW d w s) r
theorem yni (d:Dev) (w:WSt) (s:Samp):(outR d w s).2.getD 0=(stepW d w s).m:=by
 unfold outR stepW
 cases stopW d w s<;>rfl
theorem yh5 (d:Dev):∀(l:List Samp) (w:WSt),(outsR d w l).map (fun a=>(a.1,a.2.getD 0))=acts d w l
 | [],w=>rfl
 | s::r,w=>by
  unfold outsR acts
  rw [List.map_cons,yh5 d r,yni]
  rfl
structure ActOb (ob:Nat→Option AObj) (nx:Nat) (d:Dev) (w:WSt) (cs:List Nat) (x:AV) (done:List (Nat×Option Rat)):Prop where
 nx16:16≤nx
 o0:ob 0=some (.box d.r)
 o4:∃(b:AV) (h:(Nat→Nat)→(Nat→Nat)),ob 4=some (.box [.int .u8 (w.ph:Int),b])∧∀fz,frz ob DEPTH fz b=some (h fz,.sl false (intE cs))
 o15:∃mc,ob 15=some (.box mc)∧RW w.m mc
 out:OutF 5 16 ob nx x (done.map rawR)
theorem y5m {n:Nat} {f:FuncId} {xs ys:List SV} {r:SV} {ob:Nat→Option AObj} {fz fz':Nat→Nat} (h:evV E n f ys=some r) (hx:mapFz (frzS ob) fz xs=some (fz',ys)):callV (evF E n) f xs ob fz=some (.fzd fz' r):=by
 rw [y6r,hx]
 simp only [h,Option.map_some]
theorem yxx {ob:Nat→Option AObj} {d:Dev} {s:Samp} {ph:Nat} {b:AV} {cs:List Nat} {h:(Nat→Nat)→(Nat→Nat)} (hb:∀fz,frz ob DEPTH fz b=some (h fz,.sl false (intE cs))) (fz:Nat→Nat):
  mapFz (frzS ob) fz [.agg d.r,.agg [.int .u8 (ph:Int),b],.agg s.r]=some (h fz,[.agg d.r,.agg (cntC ph cs),.agg s.r]):=by
 have h1:=(CanL.devr d).agg.fzs ob fz
 have h2:frzS ob fz (.agg [.int .u8 (ph:Int),b])=some (h fz,.agg (cntC ph cs)):=by
  rw [yd5]
  simp only [mapFz,yn1,hb,ydy]
  rfl
 have h3:=(CanL.sampr s).agg.fzs ob (h fz)
 simp only [mapFz,h1,h2,h3]
theorem yho {α:Type} {P:α→Nat→Prop}:∀l:List α,(∀x∈l,∃N,∀n,N≤n→P x n)→∃N,∀n,N≤n→∀x∈l,P x n
 | [],h=>⟨0,fun _ _ _ h=>by simp at h⟩
 | x::l,h=>by
  obtain ⟨N1,h1⟩:=h x (by simp)
  obtain ⟨N2,h2⟩:=yho l fun y hy=>h y (by simp [hy])
  refine ⟨N1+N2,fun n hn y hy=> ?_⟩
  rcases List.mem_cons.1 hy with rfl | e
  ·exact h1 n (by omega)
  ·exact h2 n (by omega) y e
theorem yly {ph:Nat} {s:Samp} {i:Nat}:∀{gs:List Guard} {cs:List Nat},(∀c∈cs,c≤i)→∀c∈cntsR ph s gs cs,c≤i+1
 | [],cs,h,c,hc=>by simp [cntsR] at hc
 | g::gs,[],h,c,hc=>by simp [cntsR] at hc
 | g::gs,a::cs,h,c,hc=>by
  simp only [cntsR,List.mem_cons] at hc
  rcases hc with rfl | hc
  ·unfold cntR
   have:=h a (by simp)
   split<;>omega
  ·exact yly (fun x hx=>h x (by simp [hx])) c hc
theorem yvc {gs:List Guard} {ph:Nat} {cs:List Nat} {s:Samp} {i:Nat} (h:∀c∈cs,c≤i):∀c∈(nextR gs ph cs s).2,c≤i+1:=by
 unfold nextR
 cases fireR gs (cntsR ph s gs cs) with
 | some g=>intro c hc;rw [List.eq_of_mem_replicate hc];omega
 | none=>exact yly h
theorem yff {α:Type} {l r:List α} {s:α} {i:Nat} (h:l.drop i=s::r):l[i]? =some s∧l.drop (i+1)=r∧s∈l:=by
 have h1:l[i]? =some s:=by
  have:=List.getElem?_drop (xs:=l) (i:=i) (j:=0)
  rw [h,Nat.add_zero] at this
  exact this.symm
 refine ⟨h1, ?_,List.mem_of_getElem? h1⟩
 have:=List.drop_drop (l:=l) (i:=1) (j:=i)
 rw [h] at this
 exact this.symm
set_option maxRecDepth 100000 in
theorem yuz (d:Dev) (hd:OkDev d) (hh:∀g∈d.guards,1≤g.hold) (l:List Samp) (hl:l.length<2^20) (hs:∀s∈l,SmSamp s):∃M,∀n,M≤n→∀(l2:List Samp) (i:Nat),i+l2.length=l.length→l.drop i=l2→∀(w:WSt) (cs:List Nat) (T:Nat),w.ph<5→SmQ T w.m→2571≤T→T+257*l2.length≤2^30→CntOk d.guards w.ph w.cnt cs→(∀c∈cs,c≤i)→
  ∀(ob:Nat→Option AObj) (nx:Nat) (fz:Nat→Nat) (x:AV) (done:List (Nat×Option Rat)) (X:List (Nat×SV)) (N:Nat),l2.length<N→done.length=i→ActOb ob nx d w cs x done→
  ∃ob' nx' fz' x' X',loopN (evC (evF E n) n Fn.y3o) N ⟨env ((1,.one (.sl false (l.map Samp.r)))::(2,.one (.box 0 0))::(5,.one (.box 4 0))::(6,.one (.box 15 0))::(7,.one x)::(8,.one (.int .i64 (i:Int)))::X),ob,fz,nx⟩=
   some (.ext 0,⟨env ((1,.one (.sl false (l.map Samp.r)))::(2,.one (.box 0 0))::(5,.one (.box 4 0))::(6,.one (.box 15 0))::(7,.one x')::X'),ob',fz',nx'⟩)∧OutF 5 16 ob' nx' x' ((done++outsR d w l2).map rawR):=by
 have e30:(2:Nat)^30=1073741824:=by decide
 have e34:(2:Nat)^34=17179869184:=by decide
 have e35:(2:Nat)^35=34359738368:=by decide
 have e36:(2:Nat)^36=68719476736:=by decide
 obtain ⟨N1,k1⟩:=yho l fun s h=>ysi d s hd.sm (hs s h)
 obtain ⟨N2,k2⟩:=yho d.curves fun c hc=>yho l fun s h=>yw4 c s.angle (hd.cr c hc).2 (hd.sm.cll c hc) (hd.cr c hc).1 (hd.sm.cs c hc) (hs s h).angle
 obtain ⟨N3,k3⟩:=ymi (2^30) 256 (by omega)
 obtain ⟨N4,k4⟩:=ygu (2^30) 256 (by omega)
 obtain ⟨N5,k5⟩:=ysx (2^31) (by omega)
 obtain ⟨N6,k6⟩:=ywe 256 (by omega)
 obtain ⟨N8,k8⟩:=ycf (2^31) 256 (by omega)
 obtain ⟨N9,k9⟩:=yta (2^32) (by omega)
 refine ⟨N1+N2+N3+N4+N5+N6+N8+N9,fun n hn l2=> ?_⟩
 have k1:=k1 n (by omega)
 have k2:=k2 n (by omega)
 induction l2 with
 | nil=>
  intro i hi hdr w cs T hph hT hT1 hT2 hc hcs ob nx fz x done X N hN hdone H
  obtain ⟨N,rfl⟩:∃k,N=k+1:=⟨N-1,by omega⟩
  have h1:(((i:Nat):Int)<((l.length:Nat):Int))=False:=by simp at hi ⊢;omega
  refine ⟨ob,nx,fz,x,[(8,.one (.int .i64 (i:Int))),(15,.one (.bool false))],y06 ?_,by unfold outsR;rw [List.append_nil];exact H.out⟩
  simp only [go_sem,Fn.y3o,List.length_map,h1]
 | cons s r ih=>
  intro i hi hdr w cs T hph hT hT1 hT2 hc hcs ob nx fz x done X N hN hdone H
  obtain ⟨N,rfl⟩:∃k,N=k+1:=⟨N-1,by omega⟩
  obtain ⟨hsi,hdr',hsm⟩:=yff hdr
  have hss:=hs s hsm
  simp only [List.length_cons] at hi hT2 hN
  obtain ⟨b,h,o4,hb⟩:=H.o4
  obtain ⟨mc,o15,hm⟩:=H.o15
  obtain ⟨m0,m1,m2,m3,rfl⟩:=hm.cells4
  obtain ⟨v1,v2⟩:=yy4 s hh hc
  have hph':=yci (s:=s) hd hph
  have eph:(stepW d w s).ph=(seeW d.guards w.ph w.cnt s).1:=rfl
  rw [eph] at hph'
  have hN1:=k1 s hsm w.ph cs hc.len (fun c h=>Nat.lt_of_le_of_lt (hcs c h) (by
   have:(2:Nat)^40=1099511627776:=by decide
   omega))
  have kN:=y5m hN1 (yxx (s:=s) (d:=d) (ph:=w.ph) hb fz)
  rw [v1] at kN
  have hcs':=yvc (gs:=d.guards) (ph:=w.ph) (s:=s) hcs
  obtain ⟨ph,hphe⟩:∃ph,ph=(seeW d.guards w.ph w.cnt s).1:=⟨_,rfl⟩
  obtain ⟨cnt',hcnte⟩:∃c,c=(seeW d.guards w.ph w.cnt s).2:=⟨_,rfl⟩
  rw [←hphe] at hph' kN v2
  rw [←hcnte] at v2
  generalize (nextR d.guards w.ph cs s).2=cs' at kN v2 hcs'
  have hpc:ph<d.curves.length:=by rw [hd.c5];exact hph'
  have hpl:ph<d.limits.length:=by rw [hd.l5];exact hph'
  obtain ⟨c,gc⟩:∃c,d.curves[ph]? =some c:=⟨_,List.getElem?_eq_getElem hpc⟩
  obtain ⟨P,gP⟩:∃P,d.limits[ph]? =some P:=⟨_,List.getElem?_eq_getElem hpl⟩
  have hcm:=List.mem_of_getElem? gc
  have hP:=hd.sm.ls P (List.mem_of_getElem? gP)
  have ecv:curveAt d ph=c:=by unfold curveAt;rw [gc];rfl
  have ept:ptAt d.limits ph=P:=by unfold ptAt;rw [gP];rfl
  have sAt:=(yeh c s.angle (hd.sm.cll c hcm) (hd.cr c hcm).2 (hd.cr c hcm).1 (hd.sm.cs c hcm) hss.angle).2
  have hmom:momW d w s=clampQ (clampQ (atQ c s.angle) (w.m-P.z) (w.m+P.z)) (-P.x) P.x:=by
   unfold momW
   rw [←hphe,ecv,ept]
  have hstop:stopW d w s=stopB ph (momW d w s) s.speed:=by
   unfold stopW
   rw [←hphe]
  have sLo:=hT.sub hP.z
  have sHi:=hT.add hP.z
  have sQ1:SmQ (T+257) (clampQ (atQ c s.angle) (w.m-P.z) (w.m+P.z)):=(sAt.mono (by omega)).clamp (sLo.mono (by omega)) (sHi.mono (by omega))
  have sNg:=hP.x.neg
  have sMom:SmQ (T+257) (momW d w s):=by
   rw [hmom];exact sQ1.clamp (sNg.mono (by omega)) (hP.x.mono (by omega))
  have k3:=k3 w.m P.z _ _ hm (RW.self _) (hT.mono (by omega)) hP.z n (by omega)
  have k4:=k4 w.m P.z _ _ hm (RW.self _) (hT.mono (by omega)) hP.z n (by omega)
  obtain ⟨cc1,-,e1,kb1⟩:=k5 (atQ c s.angle) (w.m-P.z) (w.m+P.z) _ _ _ (RQ.self _) (RQ.self _) (RQ.self _) (sAt.mono (by omega)) (sLo.mono (by omega)) (sHi.mono (by omega))
  have e1:=e1 rfl rfl rfl
  subst e1
  have kb1:=kb1 n (by omega)
  have k6:=k6 P.x _ (RW.self _) hP.x n (by omega)
  obtain ⟨cc2,-,e2,kb2⟩:=k5 (clampQ (atQ c s.angle) (w.m-P.z) (w.m+P.z)) (-P.x) P.x _ _ _ (RQ.self _) (RQ.self _) (RQ.self _) (sQ1.mono (by omega)) (sNg.mono (by omega)) (hP.x.mono (by omega))
  have e2:=e2 rfl rfl rfl
  rw [←hmom] at e2
  subst e2
  have kb2:=kb2 n (by omega)
  have k8:=k8 (momW d w s) s.speed _ _ (RW.self _) (RW.self _) (sMom.mono (by omega)) hss.speed n (by omega)
  have sPr:=sMom.mul hss.speed
  have k9:=k9 (momW d w s*s.speed) _ (RW.self _) (sPr.mono (by omega)) n (by omega)
  have k2:=k2 c hcm s hsm
  obtain ⟨c1,c2,c3,c4,ec⟩:=rC4 (clampQ (atQ c s.angle) (w.m-P.z) (w.m+P.z))
  obtain ⟨f1,f2,f3,f4,ef⟩:=rC4 (momW d w s)
  rw [ec] at kb1 kb2
  rw [ef] at kb2 k8
  obtain ⟨ob',x',hr,p0,p4,p15,pout⟩:=yrg (X:=X) H.nx16 d l s i hsi hl b w.ph ph cs' m0 m1 m2 m3 c P gc gP (atQ c s.angle) (w.m-P.z) (w.m+P.z) (momW d w s*s.speed) H.o0 o4 o15 kN k2 k3 k4 kb1 k6 kb2 k8 k9 x _ H.out (by rw [List.length_map];omega)
  have ew:stepW d w s=⟨ph,cnt',bif stopB ph (momW d w s) s.speed then 0 else momW d w s⟩:=by
   unfold stepW
   rw [hstop,←hphe,←hcnte]
  have eo:outR d w s=(ph,if stopB ph (momW d w s) s.speed=true then none else some (momW d w s)):=by
   unfold outR
   rw [hstop,ew]
  have est:(ph=4∧signI (momW d w s*s.speed).num>0)↔stopB ph (momW d w s) s.speed=true:=by
   unfold stopB
   rw [Bool.and_eq_true,decide_eq_true_eq,decide_eq_true_eq]
  have ecell:(if ph=4∧signI (momW d w s*s.speed).num>0 then [AV.bool false,.nils,.bool false,.nils] else [f1,f2,f3,f4])=rawQ (outR d w s).2:=by
   rw [eo]
   by_cases hst:stopB ph (momW d w s) s.speed=true
   ·rw [if_pos (est.2 hst)]
    show _=rawQ (if _ then _ else _)
    rw [if_pos hst];rfl
   ·rw [if_neg (fun h=>hst (est.1 h))]
    show _=rawQ (if _ then _ else _)
    rw [if_neg hst];exact ef.symm
  rw [ecell] at p15 pout
  have e1':(.int .u8 (ph:Int)::rawQ (outR d w s).2:List AV)=rawR (outR d w s):=by unfold rawR;rw [eo]
  rw [e1',show [rawR (outR d w s)]=[outR d w s].map rawR from rfl,←List.map_append] at pout
  have hph2:(stepW d w s).ph<5:=by rw [ew];exact hph'
  have sm2:SmQ (T+257) (stepW d w s).m:=by
   rw [ew]
   show SmQ (T+257) (bif _ then 0 else _)
   cases stopB ph (momW d w s) s.speed
   ·exact sMom
   ·exact SmQ.mono SmQ.zero (by omega)
  have H':ActOb ob' (nx+16) d (stepW d w s) cs' x' (done++[outR d w s]):=by
   refine ⟨by have:=H.nx16;omega,p0,⟨.sl false (intE cs'),fun fz=>fz, ?_,fun fz=>rfl⟩,⟨_,p15, ?_⟩,pout⟩
   ·rw [p4,ew];rfl
   ·rw [←yni]
    cases (outR d w s).2 with
    | none=>exact RW.zero
    | some q=>exact RW.self q
  have v2':CntOk d.guards (stepW d w s).ph (stepW d w s).cnt cs':=by rw [ew];exact v2
  rw [y05 hr]
  obtain ⟨ob2,nx2,fz2,x2,X2,q1,q2⟩:=ih (i+1) (by omega) hdr' (stepW d w s) cs' (T+257) hph2 sm2 (by omega) (by omega) v2' hcs' ob' (nx+16) (h fz) x' (done++[outR d w s]) [] N (by omega) (by rw [List.length_append,hdone];rfl) H'
  refine ⟨ob2,nx2,fz2,x2,X2,q1, ?_⟩
  unfold outsR
  rw [List.append_assoc] at q2
  exact q2
end Go.Ev
namespace Go.Ev
open Go.Dig
end Go.Ev
namespace Go.Ev
set_option maxRecDepth 100000 in
theorem ytw:evV E 200 Id.y28 []=some (.one (.bool true)):=by kernel_rfl
theorem awake_ends:Ends Id.y28 [] (.one (.bool true)):=⟨200,fun n hn=>yno hn ytw⟩
theorem yr8:Calling Id.y28 [] (.one (.bool true)):=awake_ends.call fun x h=>by cases h
end Go.Ev
namespace Go.Ev
open Go.Dig
theorem yhh (d:Dev):∀(l:List Samp) (w:WSt),acts d w l=(stepsW d w l).map fun q=>((stepW d q.1 q.2).ph,(stepW d q.1 q.2).m)
 | [],w=>rfl
 | s::r,w=>by unfold acts stepsW;rw [List.map_cons,yhh d r]
theorem yjq (d:Dev):∀(l:List Samp) (w:WSt),(stepsW d w l).map (·.2)=l
 | [],w=>rfl
 | s::r,w=>by unfold stepsW;rw [List.map_cons,yjq d r]
theorem ymk {d:Dev} (hd:OkDev d):∀(l:List Samp) (w:WSt),w.ph<5→∀q∈stepsW d w l,(stepW d q.1 q.2).ph<5
 | [],w,h,q,hq=>by cases hq
 | s::r,w,h,q,hq=>by
  unfold stepsW at hq
  rcases List.mem_cons.1 hq with rfl | hq
  ·exact yci hd h
  ·exact ymk hd r _ (yci hd h) q hq
end Go.Ev
namespace Go.Ev
open Go.Dig
end Go.Ev
namespace Go.Ev
open Go.Dig
theorem yx4 (a:Nat×Option Rat) (ob:Nat→Option AObj) (k:Nat) (fz:Nat→Nat):mapFz (Ev.frz ob (k+1)) fz (rawR a)=some (fz,frzR' a):=by
 unfold rawR frzR'
 have h:=ynz a.2 ob k fz
 have e:Ev.frz ob (k+1) fz (.int .u8 (a.1:Int))=some (fz,.int .u8 (a.1:Int)):=rfl
 simp only [mapFz,e,h]
theorem yk5 (ob:Nat→Option AObj) (k:Nat) (fz:Nat→Nat):∀l:List (Nat×Option Rat),mapFz (mapFz (Ev.frz ob (k+1))) fz (l.map rawR)=some (fz,l.map frzR')
 | []=>rfl
 | o::r=>by
  rw [List.map_cons,mapFz,yx4 o ob k fz]
  simp only
  rw [yk5 ob k fz r]
  rfl
theorem OutF.frzTo {sz base:Nat} {ob:Nat→Option AObj} {nx:Nat} {x:AV} {es es':List (List AV)} (h:OutF sz base ob nx x es) (hc:∀fz,mapFz (mapFz (Ev.frz ob (6+1))) fz es=some (fz,es')) (fz:Nat→Nat):∃fz',frzS ob fz (.one x)=some (fz',.one (.sl false es')):=by
 rcases h with ⟨rfl,rfl⟩ | ⟨id,ver,rfl,hid,_⟩
 ·have:=hc fz
  simp only [mapFz,Option.some.injEq,Prod.mk.injEq] at this
  rw [←this.2]
  exact ⟨fz,rfl⟩
 ·have hb:Nat.ble (0+es.length) es.length=true:=by simp
  refine ⟨raise fz id (0+es.length), ?_⟩
  have h1:Ev.frz ob DEPTH fz (.rsl id ver sz 0 es.length false)=some (raise fz id (0+es.length),.sl false es'):=by
   rw [show DEPTH=6+1+1 from rfl,y7l,y1l hid]
   simp only [hb,cond_true,List.drop_zero,List.take_length]
   rw [hc]
  simp only [frzS,h1]
theorem yp3 {d:Dev} (h:rightD d=true):∀g∈d.guards,1≤g.hold:=by
 intro g hg
 unfold rightD at h
 simp only [Bool.and_eq_true,Bool.not_eq_true',List.any_eq_false] at h
 have h1:=h.2.1 g hg
 unfold badG at h1
 simp only [Bool.or_eq_true,not_or,decide_eq_true_eq] at h1
 omega
set_option maxRecDepth 100000 in
theorem yl7 (d:Dev) (hd:OkDev d) (hh:∀g∈d.guards,1≤g.hold) (l:List Samp) (hl:l.length<2^20) (hs:∀s∈l,SmSamp s):Ends Id.y3g [.agg d.r,.one (.sl false (l.map Samp.r))] (.one (.sl false ((outsR d w0 l).map frzR'))):=by
 obtain ⟨M,hM⟩:=yuz d hd hh l hl hs
 refine .of (M+l.length+2) fun {n} hn=> ?_
 obtain ⟨m,rfl⟩:∃m,n=m+1:=⟨n-1,by omega⟩
 obtain ⟨ob',hb,hb1,hb2⟩:=ye1 d 0 hd.sm.gl m (upd ob0 0 (.box d.r)) fz0 6
 have e30:(2:Nat)^30=1073741824:=by decide
 have e20:(2:Nat)^20=1048576:=by decide
 have h0:ob' 0=some (.box d.r):=(hb2 0 (by decide)).trans (upd_same _ _ _)
 obtain ⟨ob1,hob1⟩:∃o,o=upd (upd (upd ob' 4 (.box [.int .u8 0,.nils])) 4 (.box [.int .u8 ((0:Nat):Int),.rsl 12 0 1 0 d.guards.length false])) 15 (.box [.bool false,.nils,.bool false,.nils]):=⟨_,rfl⟩
 have H:ActOb ob1 16 d w0 (List.replicate d.guards.length 0) .nils []:=by
  have h12:ob1 12=some (.row 1 (intE (List.replicate d.guards.length 0)) 0):=by rw [hob1,y00 (by decide),y00 (by decide),y00 (by decide)];exact hb1
  refine ⟨Nat.le_refl _,by rw [hob1,y00 (by decide),y00 (by decide),y00 (by decide)];exact h0,⟨.rsl 12 0 1 0 d.guards.length false,fun fz=>raise fz 12 (0+d.guards.length),by rw [hob1,y00 (by decide)];exact upd_same _ _ _,fun fz=> ?_⟩,⟨_,by rw [hob1];exact upd_same _ _ _,RW.zero⟩,.inl ⟨rfl,rfl⟩⟩
  rw [show DEPTH=6+1+1 from rfl,y7l,y1l h12]
  have hb:Nat.ble (0+d.guards.length) (intE (List.replicate d.guards.length 0)).length=true:=by rw [y6p];simp
  simp only [hb,cond_true]
  rw [((ybm _).sub 0 d.guards.length).frz _ 6,List.drop_zero,List.take_of_length_le (by rw [y6p];simp)]
 obtain ⟨ob2,nx2,fz2,x2,X2,hlo,hout⟩:=hM (m+1) (by omega) l 0 (by omega) (List.drop_zero) w0 (List.replicate d.guards.length 0) 2571 (by decide) (SmQ.mono SmQ.zero (by decide)) (Nat.le_refl _) (by omega)
  ⟨by simp,fun i hi=>by rw [List.getElem?_replicate,if_pos hi];rfl,fun _ _ _ _=>rfl⟩ (fun c hc=>by rw [List.eq_of_mem_replicate hc];exact Nat.le_refl _) ob1 16 fz0 .nils [] [] (m+1) (by omega) rfl H
 rw [List.nil_append] at hout
 obtain ⟨fz3,hfz⟩:=hout.frzTo (fun fz=>yk5 ob2 6 fz _) fz2
 rw [show ((0:Nat):Int)=0 from rfl] at hlo hb hob1
 rw [y02 ygf]
 obtain ⟨r1,r2,r3,r4,er⟩:=y5t d
 rw [er] at hb
 rw [er]
 rw [hob1,y96] at hlo
 simp only [go_sem,Fn.y3g,hb,hlo,hfz]
theorem ysr (d:Dev) (hd:OkDev d) (hh:∀g∈d.guards,1≤g.hold) (l:List Samp) (hl:l.length<2^20) (hs:∀s∈l,SmSamp s):Calling Id.y3g [.agg d.r,.one (.sl false (l.map Samp.r))] (.one (.sl false ((outsR d w0 l).map frzR'))):=
 (yl7 d hd hh l hl hs).call (can2 (CanL.devr d).agg (.one _ (.sl _)))
theorem yiu {n:Nat} {ob:Nat→Option AObj} {fz:Nat→Nat} {nx:Nat} (L:List (Option Rat)) (hl:L.length<2^20) (hc:∀o∈L,∀(ob:Nat→Option AObj) (fz:Nat→Nat),callV (evF E n) Id.y2e [.agg (qC (o.getD 0)),.agg (frzQ o)] ob fz=some (.fzd fz (.one (.bool true)))):∀(r i:Nat),i+r=L.length→∀(X:List (Nat×SV)) (N:Nat),r<N→
  ∃X',loopN (evC (evF E n) n Fn.y62) N ⟨env ((0,.one (.sl false (L.map fun o=>qC (o.getD 0))))::(1,.one (.sl false (L.map frzQ)))::(5,.one (.int .i64 (i:Int)))::X),ob,fz,nx⟩=some (.ext 0,⟨env X',ob,fz,nx⟩)
 | 0,i,hi,X,N,hN=>by
  obtain ⟨N,rfl⟩:∃k,N=k+1:=⟨N-1,by omega⟩
  have h1:(((i:Nat):Int)<((L.length:Nat):Int))=False:=by simp;omega
  refine ⟨[(0,.one (.sl false (L.map fun o=>qC (o.getD 0)))),(1,.one (.sl false (L.map frzQ))),(5,.one (.int .i64 (i:Int))),(14,.one (.bool false))],y06 ?_⟩
  simp only [go_sem,Fn.y62,List.length_map,h1]
 | r+1,i,hi,X,N,hN=>by
  obtain ⟨N,rfl⟩:∃k,N=k+1:=⟨N-1,by omega⟩
  have hil:i<L.length:=by omega
  have h1:(((i:Nat):Int)<((L.length:Nat):Int))=True:=by simp;omega
  have wk:IntKind.i64.wrap ((i+1:Nat):Int)=((i+1:Nat):Int):=wi64 (by omega)
  have ok1:okSz 3 (L.map fun o=>qC (o.getD 0))=true:=y1m (f:=fun o:Option Rat=>qC (o.getD 0)) (k:=3) (fun _=>rfl) L
  have ok2:okSz 4 (L.map frzQ)=true:=y1m (f:=frzQ) (k:=4) (fun o=>by obtain ⟨a,b,x,d,e⟩:=frzQ4 o;rw [e];rfl) L
  have hcc:=hc L[i] (by simp)
  obtain ⟨a1,a2,a3,ea,-,-,-⟩:=y08 (L[i].getD 0)
  obtain ⟨b1,b2,b3,b4,eb⟩:=frzQ4 L[i]
  rw [ea,eb] at hcc
  have g1:(L.map fun o=>qC (o.getD 0))[i]? =some [a1,a2,a3]:=by rw [List.getElem?_map,List.getElem?_eq_getElem hil,Option.map_some,ea]
  have g2:(L.map frzQ)[i]? =some [b1,b2,b3,b4]:=by rw [List.getElem?_map,List.getElem?_eq_getElem hil,Option.map_some,eb]
  have hst:evC (evF E n) n Fn.y62 ⟨env ((0,.one (.sl false (L.map fun o=>qC (o.getD 0))))::(1,.one (.sl false (L.map frzQ)))::(5,.one (.int .i64 (i:Int)))::X),ob,fz,nx⟩=some (.nrm,⟨env [(0,.one (.sl false (L.map fun o=>qC (o.getD 0)))),(1,.one (.sl false (L.map frzQ))),(5,.one (.int .i64 ((i+1:Nat):Int)))],ob,fz,nx⟩):=by
   simp only [go_sem,Fn.y62,List.length_map,h1,ok1,ok2,g1,g2,hcc,add1,wk]
  rw [y05 hst]
  exact yiu L hl hc r (i+1) (by omega) [] N (by omega)
theorem yky (S:Nat) (hS:S<2^34):∃N,∀n,N≤n→∀o:Option Rat,SmQ S (o.getD 0)→∀(ob:Nat→Option AObj) (fz:Nat→Nat),callV (evF E n) Id.y2e [.agg (qC (o.getD 0)),.agg (frzQ o)] ob fz=some (.fzd fz (.one (.bool true))):=
 ⟨4*S+111,fun n hn o h=>by
  obtain ⟨m,rfl⟩:∃m,n=m+1:=⟨n-1,by omega⟩
  exact y01 (yvd (o.getD 0) (yee o) h hS (n:=m) (by omega)) (can2 (y1b _) (yee o).can)⟩
theorem yrs (L:List (Option Rat)) (hl:L.length<2^20) {S:Nat} (hs:∀o∈L,SmQ S (o.getD 0)) (hS:S<2^34):Ends Id.y35 [.one (.sl false (L.map fun o=>qC (o.getD 0))),.one (.sl false (L.map frzQ))] (.one (.bool true)):=by
 obtain ⟨N,k⟩:=yky S hS
 refine .of (N+L.length+1) fun {n} hn=> ?_
 have hb:((((L.length:Nat):Int) !=((L.length:Nat):Int)))=false:=by simp
 obtain ⟨X',hX⟩:=yiu (n:=n) (ob:=ob0) (fz:=fz0) (nx:=0) L hl (fun o ho=>k n (by omega) o (hs o ho)) L.length 0 (by omega) [] n (by omega)
 rw [show ((0:Nat):Int)=0 from rfl] at hX
 rw [y02 yd2]
 simp only [go_sem,Fn.y35,List.length_map,hb,hX]
theorem yrp (L:List (Option Rat)) (hl:L.length<2^20) {S:Nat} (hs:∀o∈L,SmQ S (o.getD 0)) (hS:S<2^34):Calling Id.y35 [.one (.sl false (L.map fun o=>qC (o.getD 0))),.one (.sl false (L.map frzQ))] (.one (.bool true)):=
 (yrs L hl hs hS).call (can2 (.one _ (.sl _)) (.one _ (.sl _)))
end Go.Ev
namespace Go.Ev
open Go.Dig
set_option maxRecDepth 100000 in
theorem yoz {n:Nat} {ob:Nat→Option AObj} (d:Dev) (l:List Samp) (A:List (Nat×Option Rat)) (L:List (Option Rat)) (i:Nat) (s:Samp) (hs:l[i]? =some s) (a:Nat×Option Rat) (hA:A[i]? =some a) (hAl:A.length<2^20) (o:Option Rat) (hL:L[a.1]? =some o) (hL5:L.length=5) (mm pp res:Rat)
  (o0:ob 0=some (.box d.r)) (o2:ob 2=some (.row 4 (L.map rawQ) 0))
  (k1:∀(ob:Nat→Option AObj) (fz:Nat→Nat),callV (evF E n) Id.y0y [.agg (frzQ a.2),.agg (rC s.speed)] ob fz=some (.fzd fz (.agg (rC mm))))
  (k2:∀(ob:Nat→Option AObj) (fz:Nat→Nat),callV (evF E n) Id.y0y [.agg (rC d.step),.agg (rC mm)] ob fz=some (.fzd fz (.agg (rC pp))))
  (k3:∀(ob:Nat→Option AObj) (fz:Nat→Nat),callV (evF E n) Id.y1r [.agg (rawQ o),.agg (rC pp)] ob fz=some (.fzd fz (.agg (rC res)))) (X:List (Nat×SV)):
  evC (evF E n) n Fn.y6c ⟨env ((1,.one (.sl false (l.map Samp.r)))::(2,.one (.box 0 0))::(5,.one (.rsl 2 0 4 0 5 false))::(6,.one (.sl false (A.map frzR')))::(7,.one (.int .i64 (i:Int)))::X),ob,fz0,4⟩=
   some (.nrm,⟨env [(1,.one (.sl false (l.map Samp.r))),(2,.one (.box 0 0)),(5,.one (.rsl 2 0 4 0 5 false)),(6,.one (.sl false (A.map frzR'))),(7,.one (.int .i64 ((i+1:Nat):Int)))],upd ob 2 (.row 4 ((L.set a.1 (some res)).map rawQ) 0),fz0,4⟩):=by
 have hiA:i<A.length:=(List.getElem?_eq_some_iff.1 hA).1
 have h1:(((i:Nat):Int)<((A.length:Nat):Int))=True:=by simp;omega
 have wk:IntKind.i64.wrap ((i+1:Nat):Int)=((i+1:Nat):Int):=wi64 (by omega)
 have okS:okSz 12 (l.map Samp.r)=true:=y1m (f:=Samp.r) (k:=12) (fun _=>rfl) l
 have gS:(l.map Samp.r)[i]? =some s.r:=by rw [List.getElem?_map,hs];rfl
 have okA:okSz 5 (A.map frzR')=true:=y1m (f:=frzR') (k:=5) (fun o=>by obtain ⟨a,b,x,d,e⟩:=frzQ4 o.2;unfold frzR';rw [e];rfl) A
 obtain ⟨ph,oa⟩:=a
 obtain ⟨f1,f2,f3,f4,ef⟩:=frzQ4 oa
 have gA:(A.map frzR')[i]? =some [.int .u8 (ph:Int),f1,f2,f3,f4]:=by rw [List.getElem?_map,hA,Option.map_some];unfold frzR';rw [ef]
 obtain ⟨g1,g2,g3,g4,eg⟩:=rawQ4 o
 have gL:(L.map rawQ)[ph]? =some [g1,g2,g3,g4]:=by rw [List.getElem?_map,hL,Option.map_some,eg]
 have hphl:ph<L.length:=(List.getElem?_eq_some_iff.1 hL).1
 have lo:(ph<5)=True:=by simp;omega
 have hrow:rowAt ob 2 0=some (4,L.map rawQ):=y1l o2
 obtain ⟨d1,d2,d3,ed',ed⟩:=y5t d
 obtain ⟨a1,a2,a3,a4,ea⟩:=rC4 s.load
 obtain ⟨a5,a6,a7,a8,eb⟩:=rC4 s.angle
 obtain ⟨a9,a10,a11,a12,ec⟩:=rC4 s.speed
 have es':s.r=[a1,a2,a3,a4,a5,a6,a7,a8,a9,a10,a11,a12]:=by unfold Samp.r;rw [ea,eb,ec];rfl
 have est:rC d.step=[d1,d2,d3,ed']:=by
  have:=ed
  unfold Dev.r at this
  simp only [List.cons_append,List.nil_append,List.cons.injEq,true_and] at this
  exact this
 obtain ⟨m1,m2,m3,m4,em⟩:=rC4 mm
 obtain ⟨p1,p2,p3,p4,ep⟩:=rC4 pp
 obtain ⟨r1,r2,r3,r4,er⟩:=rC4 res
 rw [es'] at gS
 rw [ed] at o0
 rw [ef,ec,em] at k1
 rw [est,em,ep] at k2
 rw [eg,ep,er] at k3
 rw [←yae,er]
 have nph:Ev.natOf (ph:Int)=some ph:=ya1 _
 have u2:Ev.natOf 2=some 2:=rfl
 have f2':fz0 2=0:=rfl
 simp only [go_sem,Fn.y6c,List.length_map,h1,o0,hrow,okS,gS,okA,gA,gL,lo,nph,u2,k1,k2,k3,add1,wk,f2']
structure WkR (d:Dev) (pre:List (WSt×Samp)) (L:List (Option Rat)):Prop where
 len:L.length=5
 val:∀p,p<5→∃o,L[p]? =some o∧o.getD 0=wsum d p 0 pre
 sm:∀p,SmQ ((pre.length+1)*WKB) (wsum d p 0 pre)
theorem yfl (d:Dev):∀(l:List Samp) (w:WSt),outsR d w l=(stepsW d w l).map fun q=>outR d q.1 q.2
 | [],w=>rfl
 | s::r,w=>by unfold outsR stepsW;rw [List.map_cons,yfl d r]
theorem yrf (d:Dev) (hst:SmQ 256 d.step) (Q:List (WSt×Samp)) (hQ:Q.length≤1024) (hq:∀q∈Q,SmQ (2^19) (stepW d q.1 q.2).m∧SmSamp q.2∧(stepW d q.1 q.2).ph<5):
  ∃M,∀n,M≤n→∀(r:List (WSt×Samp)) (i:Nat),i+r.length=Q.length→Q.drop i=r→∀(L:List (Option Rat)),WkR d (Q.take i) L→∀(ob:Nat→Option AObj) (X:List (Nat×SV)) (N:Nat),r.length<N→ob 0=some (.box d.r)→ob 2=some (.row 4 (L.map rawQ) 0)→
  ∃L' ob' X',loopN (evC (evF E n) n Fn.y6c) N ⟨env ((1,.one (.sl false ((Q.map (·.2)).map Samp.r)))::(2,.one (.box 0 0))::(5,.one (.rsl 2 0 4 0 5 false))::(6,.one (.sl false ((Q.map fun q=>outR d q.1 q.2).map frzR')))::(7,.one (.int .i64 (i:Int)))::X),ob,fz0,4⟩=
   some (.ext 0,⟨env ((1,.one (.sl false ((Q.map (·.2)).map Samp.r)))::(2,.one (.box 0 0))::(5,.one (.rsl 2 0 4 0 5 false))::X'),ob',fz0,4⟩)∧WkR d Q L'∧ob' 2=some (.row 4 (L'.map rawQ) 0):=by
 have hWK:WKB=2^19+514:=by unfold WKB;rfl
 have e19:(2:Nat)^19=524288:=by decide
 have e30:(2:Nat)^30=1073741824:=by decide
 have e35:(2:Nat)^35=34359738368:=by decide
 have e36:(2:Nat)^36=68719476736:=by decide
 obtain ⟨N1,k1⟩:=ycf (2^19) 256 (by omega)
 obtain ⟨N2,k2⟩:=ycf 256 (2^19+256) (by omega)
 obtain ⟨N3,k3⟩:=ygu (2^30) (256+(2^19+256)) (by omega)
 refine ⟨N1+N2+N3,fun n hn r=> ?_⟩
 induction r with
 | nil=>
  intro i hi hdr L H ob X N hN o0 o2
  obtain ⟨N,rfl⟩:∃k,N=k+1:=⟨N-1,by omega⟩
  have h1:(((i:Nat):Int)<((Q.length:Nat):Int))=False:=by simp at hi ⊢;omega
  rw [List.take_of_length_le (by simp at hi;omega)] at H
  refine ⟨L,ob,[(6,.one (.sl false ((Q.map fun q=>outR d q.1 q.2).map frzR'))),(7,.one (.int .i64 (i:Int))),(15,.one (.bool false))],y06 ?_,H,o2⟩
  simp only [go_sem,Fn.y6c,List.length_map,h1]
 | cons q r ih=>
  intro i hi hdr L H ob X N hN o0 o2
  obtain ⟨N,rfl⟩:∃k,N=k+1:=⟨N-1,by omega⟩
  simp only [List.length_cons] at hi hN
  obtain ⟨hqi,hdr',hqm⟩:=yff hdr
  obtain ⟨sm,ss,hph⟩:=hq q hqm
  obtain ⟨o,hLo,ho⟩:=H.val _ hph
  have hSi:=H.sm (stepW d q.1 q.2).ph
  have htl:(Q.take i).length=i:=by rw [List.length_take];omega
  rw [htl] at hSi
  have hm:=yni d q.1 q.2
  have sp:=sm.mul ss.speed
  have spp:=hst.mul sp
  have hb1:(i+1)*WKB≤1024*WKB:=Nat.mul_le_mul_right _ (by omega)
  have k1:=k1 ((outR d q.1 q.2).2.getD 0) q.2.speed _ _ (yee _).w (RW.self _) (by rw [hm];exact sm) ss.speed n (by omega)
  rw [hm] at k1
  have k2:=k2 d.step ((stepW d q.1 q.2).m*q.2.speed) _ _ (RW.self _) (RW.self _) hst sp n (by omega)
  have rwo:RW (o.getD 0) (rawQ o):=by
   cases o with
   | none=>exact RW.zero
   | some x=>exact RW.self x
  have k3:=k3 (o.getD 0) (d.step*((stepW d q.1 q.2).m*q.2.speed)) _ _ rwo (RW.self _) (by rw [ho];exact hSi.mono (by rw [hWK] at hb1 ⊢;omega)) spp n (by omega)
  have ga:(Q.map fun q=>outR d q.1 q.2)[i]? =some (outR d q.1 q.2):=by rw [List.getElem?_map,hqi];rfl
  have gs:(Q.map (·.2))[i]? =some q.2:=by rw [List.getElem?_map,hqi];rfl
  have eph:(outR d q.1 q.2).1=(stepW d q.1 q.2).ph:=rfl
  have hr:=yoz (X:=X) d (Q.map (·.2)) (Q.map fun q=>outR d q.1 q.2) L i q.2 gs (outR d q.1 q.2) ga (by rw [List.length_map];exact Nat.lt_of_le_of_lt hQ (by decide)) o hLo H.len _ _ _ o0 o2 k1 k2 k3
  rw [eph] at hr
  rw [y05 hr]
  have htk:Q.take (i+1)=Q.take i++[q]:=by rw [List.take_add_one,hqi];rfl
  have hres:o.getD 0+d.step*((stepW d q.1 q.2).m*q.2.speed)=wsum d (stepW d q.1 q.2).ph 0 (Q.take (i+1)):=by
   rw [htk,yad,if_pos rfl,ho]
   unfold powW
   rw [Rat.mul_comm d.step]
  refine ih (i+1) (by omega) hdr' _ ⟨by rw [List.length_set];exact H.len,fun p hp=> ?_,fun p=> ?_⟩ _ [] N (by omega) ((y00 (by decide)).trans o0) (upd_same _ _ _)
  ·by_cases e:p=(stepW d q.1 q.2).ph
   ·subst e
    refine ⟨_,List.getElem?_set_self (by rw [H.len];exact hp), ?_⟩
    rw [Option.getD_some]
    exact hres
   ·obtain ⟨o',g1,g2⟩:=H.val p hp
    refine ⟨o',by rw [List.getElem?_set_ne (fun h=>e h.symm)];exact g1, ?_⟩
    rw [htk,yad,if_neg (fun h=>e h.symm)]
    exact g2
  ·rw [htk,yad,List.length_append,htl]
   have h1:=H.sm p
   rw [htl] at h1
   show SmQ ((i+1+1)*WKB) _
   split
   ·refine SmQ.mono (h1.add ((sm.mul ss.speed).mul hst)) ?_
    rw [Nat.succ_mul (i+1),hWK];omega
   ·exact h1.mono (Nat.mul_le_mul_right _ (by omega))
theorem yr5 (d:Dev) (hd:OkDev d) (hh:∀g∈d.guards,1≤g.hold) (l:List Samp) (hl:l.length≤1024) (hs:∀s∈l,SmSamp s):∃L:List (Option Rat),(L.map fun o=>o.getD 0)=works d l∧(∀o∈L,SmQ (2^30) (o.getD 0))∧L.length=5∧Ends Id.y3f [.agg d.r,.one (.sl false (l.map Samp.r))] (.one (.sl false (L.map frzQ))):=by
 have e20:(2:Nat)^20=1048576:=by decide
 have e19:(2:Nat)^19=524288:=by decide
 have e30:(2:Nat)^30=1073741824:=by decide
 have hWK:WKB=2^19+514:=by unfold WKB;rfl
 obtain ⟨N1,k1⟩:=ysr d hd hh l (by omega) hs
 rw [yfl] at k1
 have hsn:=yjq d l w0
 have hlen:=ykl d l w0
 have hsm:=yny hd l hs
 rw [yhh] at hsm
 have hph:=ymk hd l w0 (by decide)
 have hwk:works d l=[wsum d 0 0 (stepsW d w0 l),wsum d 1 0 (stepsW d w0 l),wsum d 2 0 (stepsW d w0 l),wsum d 3 0 (stepsW d w0 l),wsum d 4 0 (stepsW d w0 l)]:=rfl
 rw [hwk]
 have hb:2571+257*l.length≤2^19:=by omega
 generalize stepsW d w0 l=Q at*
 have hq:∀q∈Q,SmQ (2^19) (stepW d q.1 q.2).m∧SmSamp q.2∧(stepW d q.1 q.2).ph<5:=fun q hqm=>⟨SmQ.mono (hsm _ (List.mem_map.2 ⟨q,hqm,rfl⟩)).1 hb,hs _ (by rw [←hsn];exact List.mem_map.2 ⟨q,hqm,rfl⟩),hph q hqm⟩
 obtain ⟨M,hM⟩:=yrf d hd.sm.st Q (by rw [hlen];exact hl) hq
 have H0:WkR d (Q.take 0) (List.replicate 5 none):=⟨by simp,fun p hp=>⟨none,by rw [List.getElem?_replicate,if_pos hp],rfl⟩,fun p=>SmQ.mono SmQ.zero (by rw [hWK];simp)⟩
 have key:∀n,M+N1+l.length+1≤n→∃L,WkR d Q L∧evV E (n+1) Id.y3f [.agg d.r,.one (.sl false (l.map Samp.r))]=some (.one (.sl false (L.map frzQ))):=fun n hn=>by
  have k1:=k1 n (by omega)
  obtain ⟨L',ob',X',hlo,HL,o2⟩:=hM n (by omega) Q 0 (by omega) List.drop_zero (List.replicate 5 none) H0 (upd (upd ob0 0 (.box d.r)) 2 (.row 4 ((List.replicate 5 (none:Option Rat)).map rawQ) 0)) [] n (by rw [hlen];omega) (by rw [y00 (by decide)];exact upd_same _ _ _) (upd_same _ _ _)
  refine ⟨L',HL, ?_⟩
  have hfz:=yc7 (full:=false) (sz:=4) L' fz0 (y1l o2) HL.len.symm
  rw [hsn,show ((0:Nat):Int)=0 from rfl] at hlo
  rw [y02 yf8]
  obtain ⟨r1,r2,r3,r4,er⟩:=y5t d
  rw [er] at hlo k1
  rw [er]
  have e5:(List.replicate 5 (none:Option Rat)).map rawQ=[[.bool false,.nils,.bool false,.nils],[.bool false,.nils,.bool false,.nils],[.bool false,.nils,.bool false,.nils],[.bool false,.nils,.bool false,.nils],[.bool false,.nils,.bool false,.nils]]:=rfl
  rw [e5] at hlo
  have n5:Ev.natOf 5=some 5:=rfl
  simp only [go_sem,Fn.y3f,k1,n5,hlo,hfz]
 obtain ⟨L,HL,hL⟩:=key (M+N1+l.length+1) (Nat.le_refl _)
 have hg:∀p,p<5→∃o,L[p]? =some o∧o.getD 0=wsum d p 0 Q:=HL.val
 have hsz:∀o∈L,SmQ (2^30) (o.getD 0):=fun o ho=>by
  obtain ⟨p,hp,rfl⟩:=List.getElem_of_mem ho
  rw [HL.len] at hp
  obtain ⟨o',g1,g2⟩:=HL.val p hp
  rw [List.getElem?_eq_getElem (by rw [HL.len];exact hp)] at g1
  cases g1
  rw [g2]
  refine (HL.sm p).mono ?_
  have:(Q.length+1)*WKB≤1025*WKB:=Nat.mul_le_mul_right _ (by rw [hlen];omega)
  rw [hWK] at this ⊢
  omega
 refine ⟨L, ?_,hsz,HL.len,M+N1+l.length+2,fun n hn=> ?_⟩
 ·obtain ⟨o0,g0,v0⟩:=hg 0 (by decide)
  obtain ⟨o1,g1,v1⟩:=hg 1 (by decide)
  obtain ⟨o2,g2,v2⟩:=hg 2 (by decide)
  obtain ⟨o3,g3,v3⟩:=hg 3 (by decide)
  obtain ⟨o4,g4,v4⟩:=hg 4 (by decide)
  have e:L=[o0,o1,o2,o3,o4]:=by
   apply List.ext_getElem?
   intro k
   rcases Nat.lt_or_ge k 5 with hk | hk
   ·rcases k with _ | _ | _ | _ | _ | k
    ·exact g0
    ·exact g1
    ·exact g2
    ·exact g3
    ·exact g4
    ·omega
   ·rw [List.getElem?_eq_none (by rw [HL.len];exact hk),List.getElem?_eq_none (by simpa using hk)]
  rw [e]
  simp only [List.map_cons,List.map_nil,v0,v1,v2,v3,v4]
 ·have:=yno (show M+N1+l.length+1+1≤n by omega) hL
  exact this
end Go.Ev
namespace Go.Ev
open Go.Dig
def OutS (sz base:Nat) (ob:Nat→Option AObj) (nx:Nat) (x:AV) (es:List (List AV)):Prop:=
 (es=[]∧x=.nils)∨∃id ver,x=.rsl id ver sz 0 es.length false∧ob id=some (.row sz es ver)∧id<nx∧base≤id
theorem OutS.frame {sz base nx nx':Nat} {ob ob':Nat→Option AObj} {x:AV} {es:List (List AV)} (h:OutS sz base ob nx x es) (hnx:nx≤nx') (hf:∀id,base≤id→id<nx→ob' id=ob id):OutS sz base ob' nx' x es:=by
 rcases h with h | ⟨id,ver,h1,h2,h3,h4⟩
 ·exact .inl h
 ·exact .inr ⟨id,ver,h1,by rw [hf id h4 h3];exact h2,by omega,h4⟩
theorem OutS.shut {sz base nx:Nat} {ob0 ob:Nat→Option AObj} {x:AV} {es:List (List AV)} (h:OutS sz base ob nx x es):OutS sz base (Ev.shut ob0 ob) nx x es:=by
 rcases h with h | ⟨id,ver,h1,h2,h3,h4⟩
 ·exact .inl h
 ·exact .inr ⟨id,ver,h1,y9m h2,h3,h4⟩
theorem OutS.frzR {sz base nx:Nat} {ob:Nat→Option AObj} {x:AV} {es fs:List (List AV)} (h:OutS sz base ob nx x es) (hf:∀fz,mapFz (mapFz (Ev.frz ob 7)) fz es=some (fz,fs)) (hl:es=[]→fs=[]):∃g:(Nat→Nat)→(Nat→Nat),∀fz,frzS ob fz (.one x)=some (g fz,.one (.sl false fs)):=by
 rcases h with ⟨h1,rfl⟩ | ⟨id,ver,rfl,hid,_⟩
 ·exact ⟨fun fz=>fz,fun fz=>by rw [hl h1];rfl⟩
 ·refine ⟨fun fz=>raise fz id (0+es.length),fun fz=> ?_⟩
  have hb:Nat.ble (0+es.length) es.length=true:=by simp
  have h1:Ev.frz ob DEPTH fz (.rsl id ver sz 0 es.length false)=some (raise fz id (0+es.length),.sl false fs):=by
   rw [show DEPTH=7+1 from rfl,y7l,y1l hid]
   simp only [hb,cond_true,List.drop_zero,List.take_length,hf]
  simp only [frzS,h1]
def phLoop (L:List (Nat×SV)):ALoop:=⟨env L,[19,20],actAsg,Fn.y5o,.ready,none⟩
theorem yvn {n lid bo base nx:Nat} {ob:Nat→Option AObj} {fz:Nat→Nat} {x:AV} {es:List (List AV)} {L:List (Nat×SV)} {c0 m1 m2 m3:AV} (v19:SV) (hL:env L 7=.one (.box bo 0)) (ho:ob lid=some (.loop (phLoop L))) (hb:ob bo=some (.box [x])) (hx:OutS 1 base ob nx x es) (h1:lid<base) (h2:bo<base) (h3:base≤nx) (hne:lid≠bo) (hes:es.length<2^20):
  ∃(ob':Nat→Option AObj) (nx':Nat) (x':AV),evF E (n+1) (.rnd lid) [v19,.agg [c0,m1,m2,m3]] ⟨ob,fz,nx⟩=some (.one (.bool true),⟨ob',fz,nx'⟩)∧nx≤nx'∧ob' lid=some (.loop (phLoop L))∧ob' bo=some (.box [x'])∧OutS 1 base ob' nx' x' (es++[[c0]])∧∀id,id<base→id≠lid→id≠bo→ob' id=ob id:=by
 have n1:∀k,(lid=nx+k)=False:=fun k=>by simp only [eq_iff_iff,iff_false];omega
 have n2:∀k,(bo=nx+k)=False:=fun k=>by simp only [eq_iff_iff,iff_false];omega
 have n3:(bo=lid)=False:=by simp [Ne.symm hne]
 have n1n:(lid=nx)=False:=by simp only [eq_iff_iff,iff_false];omega
 have n2n:(bo=nx)=False:=by simp only [eq_iff_iff,iff_false];omega
 have n1':∀k,(nx+k=lid)=False:=fun k=>by simp only [eq_iff_iff,iff_false];omega
 have n2':∀k,(nx+k=bo)=False:=fun k=>by simp only [eq_iff_iff,iff_false];omega
 have n1n':(nx=lid)=False:=by simp only [eq_iff_iff,iff_false];omega
 have n2n':(nx=bo)=False:=by simp only [eq_iff_iff,iff_false];omega
 have nxa:∀a b:Nat,nx+a+b=nx+(a+b):=fun a b=>Nat.add_assoc nx a b
 have hL':∀(a b:SV),env ((20,a)::(19,b)::L) 7=.one (.box bo 0):=fun a b=>by rw [←hL];rfl
 have a1:evC (evF E n) n actAsg ⟨env ((20,.agg [c0,m1,m2,m3])::(19,v19)::L),ob,fz,nx⟩=some (.nrm,⟨env [(7,.one (.box bo 0)),(9,.one (.box nx 0))],upd ob nx (.box [c0,m1,m2,m3]),fz,nx+2⟩):=by
  unfold actAsg
  simp only [go_sem,hL]
 have o1:upd ob nx (.box [c0,m1,m2,m3]) lid=some (.loop (phLoop L)):=by rw [y00 (by omega)];exact ho
 have body:∃(ob2:Nat→Option AObj) (x':AV),evC (evF E n) n Fn.y5o ⟨env [(7,.one (.box bo 0)),(9,.one (.box nx 0))],upd (upd ob nx (.box [c0,m1,m2,m3])) lid (.loop { phLoop L with st:=.busy }),fz,nx+2⟩=some (.nrm,⟨env [],ob2,fz,nx+8⟩)∧ob2 lid=some (.loop { phLoop L with st:=.busy })∧ob2 bo=some (.box [x'])∧OutS 1 base ob2 (nx+8) x' (es++[[c0]])∧∀id,id<base→id≠lid→id≠bo→ob2 id=ob id:=by
  generalize { phLoop L with st:=.busy }=lp
  obtain ⟨r,hr0⟩:∃r,evC (evF E n) n Fn.y5o ⟨env [(7,.one (.box bo 0)),(9,.one (.box nx 0))],upd (upd ob nx (.box [c0,m1,m2,m3])) lid (.loop lp),fz,nx+2⟩=r:=⟨_,rfl⟩
  have hr:=hr0
  rcases hx with ⟨rfl,rfl⟩ | ⟨a,va,rfl,h4,h5,h6⟩
  ·simp only [go_sem,Fn.y5o,n1,n2,n3,n1',n2',n1n,n2n,n1n',n2n',nxa,hb,okSz,ROOM] at hr
   rw [hr0,←hr]
   refine ⟨_,_,rfl, ?_,upd_same _ _ _,.inr ⟨nx+6,0,rfl, ?_,by omega,by omega⟩,fun id q1 q2 q3=> ?_⟩
   ·rw [y00 hne,y00 (by omega),y00 (by omega)];exact upd_same _ _ _
   ·rw [y00 (by omega)];exact upd_same _ _ _
   ·rw [y00 q3,y00 (by omega),y00 (by omega),y00 q2,y00 (by omega)]
  ·have w1:(es.length+1)*1≤140737488355328:=by omega
   have b1:(es.length==es.length)=true:=by simp
   have k1:∀k ob y ver,rowAt (upd ob (nx+k) y) a ver=rowAt ob a ver:=fun k ob y ver=>y19 (by omega)
   have k2:∀ob y ver,rowAt (upd ob nx y) a ver=rowAt ob a ver:=fun ob y ver=>y19 (by omega)
   have k3:∀ob y ver,rowAt (upd ob lid y) a ver=rowAt ob a ver:=fun ob y ver=>y19 (by omega)
   have hra:rowAt ob a va=some (1,es):=y1l h4
   have k4:(bo=a)=False:=by simp only [eq_iff_iff,iff_false];omega
   simp only [go_sem,Fn.y5o,n1,n2,n3,n1',n2',n1n,n2n,n1n',n2n',nxa,hb,okSz,ROOM,w1,b1,k1,k2,k3,k4,hra] at hr
   rw [hr0,←hr]
   refine ⟨_,_,rfl, ?_,upd_same _ _ _,.inr ⟨a,va+1, ?_, ?_,by omega,h6⟩,fun id q1 q2 q3=> ?_⟩
   ·rw [y00 hne,y00 (by omega),y00 (by omega)];exact upd_same _ _ _
   ·rw [List.length_append];rfl
   ·rw [y00 (by omega)];exact upd_same _ _ _
   ·rw [y00 q3,y00 (by omega),y00 (by omega),y00 q2,y00 (by omega)]
 obtain ⟨ob2,x',b1,b2,b3,b4,b5⟩:=body
 refine ⟨upd ob2 lid (.loop (phLoop L)),nx+8,x', ?_,by omega,upd_same _ _ _,by rw [y00 (Ne.symm hne)];exact b3,b4.frame (Nat.le_refl _) (fun id q1 q2=>y00 (by omega)),fun id q1 q2 q3=>by rw [y00 q2];exact b5 id q1 q2 q3⟩
 exact yj3 (r:=phLoop L) (r1:=phLoop L) (r2:={ phLoop L with st:=.busy }) ho rfl ((congrArg (fun sl=>evC (evF E n) n actAsg ⟨sl,ob,fz,nx⟩) (setPs2 19 20 v19 (.agg [c0,m1,m2,m3]) L)).trans a1) o1 rfl b1 b2
def PhAcc (d:Dev) (L:List (Nat×SV)) (lid bo base:Nat) (ob:Nat→Option AObj) (nx:Nat) (out:List (WSt×Samp)):Prop:=
 ob lid=some (.loop (phLoop L))∧∃x,ob bo=some (.box [x])∧OutS 1 base ob nx x (out.map fun p=>[AV.int .u8 ((stepW d p.1 p.2).ph:Int)])
theorem yw5 (d:Dev) {L:List (Nat×SV)} (lid bo base:Nat) (fz:Nat→Nat) (hL:env L 7=.one (.box bo 0)) (h1:lid<base) (h2:bo<base) (hne:lid≠bo):Taker d 0 base lid (2^29) (2^20) fz (fun id=>id=lid∨id=bo) (PhAcc d L lid bo base):=by
 refine ⟨fun ob ob' nx nx' out h hn hf=> ?_,fun n _ w s ob nx out h hb ho hs hph hm=> ?_⟩
 ·obtain ⟨a,x,b,c⟩:=h
  exact ⟨(hf lid (.inl (.inl rfl))).trans a,x,(hf bo (.inl (.inr rfl))).trans b,c.frame hn fun id q1 q2=>hf id (.inr ⟨q1,q2⟩)⟩
 ·obtain ⟨a,x,b,c⟩:=h
  obtain ⟨r1,r2,r3,hrm⟩:=(ya4 d w s).cells
  obtain ⟨ob',nx',x',g1,g2,g3,g4,g5,g6⟩:=yvn (n:=n) (lid:=lid) (bo:=bo) (base:=base) (nx:=nx) (ob:=ob) (fz:=fz) (x:=x) (es:=out.map fun p=>[AV.int .u8 ((stepW d p.1 p.2).ph:Int)]) (L:=L) (c0:=.int .u8 ((stepW d w s).ph:Int)) (m1:=r1) (m2:=r2) (m3:=r3) (.agg s.c) hL a b c h1 h2 hb hne (by rw [List.length_map];exact ho)
  have e:rawA d w s=[.int .u8 ((stepW d w s).ph:Int),r1,r2,r3]:=by unfold rawA;rw [hrm]
  refine ⟨ob',nx',by rw [e];exact g1,g2,⟨g3,x',g4, ?_⟩,fun id q1 q2=>g6 id q1 (fun e=>q2 (.inl e)) (fun e=>q2 (.inr e))⟩
  rw [List.map_append,List.map_cons,List.map_nil]
  exact g5
theorem ykd (d:Dev):∀(l:List Samp) (w:WSt),((stepsW d w l).map fun p=>[AV.int .u8 ((stepW d p.1 p.2).ph:Int)])=(acts d w l).map fun a=>[AV.int .u8 (a.1:Int)]
 | [],w=>rfl
 | s::r,w=>by unfold stepsW acts;rw [List.map_cons,List.map_cons,ykd d r]
def phC (a:Nat×Rat):List AV:=[.int .u8 (a.1:Int)]
theorem yxw (a:Nat×Rat):CanL (phC a):=.cons (.int _ _) .nil
set_option maxRecDepth 100000 in
theorem yfm (d:Dev) (h:SmDev d) (l:List Samp) (hl:l.length<2^20) (hs:∀s∈l,SmSamp s):Ends Id.y4s [.agg d.c,.one (.sl false (l.map Samp.c))] (.tup [.one (.sl false (if mayI d l=0 then (acts d w0 l).map phC else [])),.one (.int .i64 (mayI d l))]):=by
 obtain ⟨N1,k1⟩:=yg3 d h l
 by_cases he:mayI d l=0
 ·have hd:=yb4 h (yjm he)
  obtain ⟨N2,k2⟩:=ydv d hd l hl hs 8 4 5 9 (fun _=>0) (yw5 d (L:=[(7,.one (.box 3 0)),(18,.one (.fn Id.y09 [] [.box 4 0,.box 5 0]))]) 8 3 15 (fun _=>0) rfl (by decide) (by decide) (by decide)) (wbound hl) (Nat.le_refl _) (by omega) (fun id h=>by rcases h with rfl | rfl<;>decide) (by decide) (by decide) (by decide)
  refine .of (N1+N2+3) fun {n} hn=> ?_
  have k1:=k1 n (by omega)
  rw [if_pos he]
  rw [he] at k1 ⊢
  obtain ⟨m,rfl⟩:∃m,n=m+1:=⟨n-1,by omega⟩
  have k2:=k2 m (by omega)
  have k3:=yg9 (n:=m) d l
  rw [y02 ycs]
  obtain ⟨obA,hobA⟩:∃o,o=Ev.shut (upd (upd ob0 0 (.box d.c)) 3 (.box [.nils])) (upd (upd (upd (upd ob0 0 (.box d.c)) 3 (.box [.nils])) 4 (.box d.c)) 5 (.box [.sl false (l.map Samp.c)])):=⟨_,rfl⟩
  obtain ⟨obL,hobL⟩:∃o,o=upd (upd obA 7 .dfr) 8 (.loop (phLoop [(7,.one (.box 3 0)),(18,.one (.fn Id.y09 [] [.box 4 0,.box 5 0]))])):=⟨_,rfl⟩
  have a4:obA 4=some (.box d.c):=by rw [hobA];exact y5e (by rw [y00 (by decide)];exact upd_same _ _ _)
  have a5:obA 5=some (.box [.sl false (l.map Samp.c)]):=by rw [hobA];exact y5e (upd_same _ _ _)
  have a3:obA 3=some (.box [.nils]):=by rw [hobA];exact y5e (by rw [y00 (by decide),y00 (by decide)];exact upd_same _ _ _)
  obtain ⟨ob1',nx',q1,q2,q3',x',q4',q5'⟩:=k2 obL (by rw [hobL,y00 (by decide),y00 (by decide)];exact a4) (by rw [hobL,y00 (by decide),y00 (by decide)];exact a5) ⟨by rw [hobL];exact upd_same _ _ _,.nils,by rw [hobL,y00 (by decide),y00 (by decide)];exact a3,.inl ⟨rfl,rfl⟩⟩
  rw [ykd] at q5'
  obtain ⟨ob',hob'⟩:∃o,o=Ev.shut obL ob1':=⟨_,rfl⟩
  have q3:=ycc (ob0:=obL) q3'
  rw [←hob'] at q3
  have q4:ob' 3=some (.box [x']):=by rw [hob'];exact y5e q4'
  have q5:OutS 1 15 ob' nx' x' ((acts d w0 l).map phC):=by rw [hob'];exact q5'.shut
  rw [←hob'] at q1
  obtain ⟨lp,hlp⟩:∃lp:ALoop,lp={ phLoop [(7,.one (.box 3 0)),(18,.one (.fn Id.y09 [] [.box 4 0,.box 5 0]))] with st:=.exhausted }:=⟨_,rfl⟩
  have hR:evC (evF E (m+1)) (m+1) (.rangeF (.t 18) [19,20] actAsg Fn.y5o) ⟨env [(7,.one (.box 3 0)),(18,.one (.fn Id.y09 [] [.box 4 0,.box 5 0]))],obA,fz0,7⟩=some (.nrm,⟨env [(7,.one (.box 3 0)),(18,.one (.fn Id.y09 [] [.box 4 0,.box 5 0]))],upd ob' 8 (.loop lp),fz0,nx'⟩):=by
   rw [hlp]
   exact yby (F:=evF E (m+1)) (fuel:=m+1) (g:=.t 18) (ps:=[19,20]) (asg:=actAsg) (body:=Fn.y5o) (st:=⟨env [(7,.one (.box 3 0)),(18,.one (.fn Id.y09 [] [.box 4 0,.box 5 0]))],obA,fz0,7⟩) (first:=[]) (caps:=[.box 4 0,.box 5 0]) rfl (by
    show evF E (m+1) _ _ ⟨upd (upd obA 7 .dfr) 8 _,fz0,9⟩=_
    have e:=q1
    rw [hobL] at e
    exact e) q3 rfl
  have k3:=k3 (upd (upd ob0 0 (.box d.c)) 3 (.box [.nils])) fz0 4
  rw [←hobA] at k3
  have hq5:OutS 1 15 (upd ob' 8 (.loop lp)) nx' x' ((acts d w0 l).map phC):=q5.frame (Nat.le_refl _) fun id h1 h2=>y00 (by omega)
  obtain ⟨g,hg⟩:=hq5.frzR (fun fz=>(y5h yxw (acts d w0 l)).frz _ 6 fz) (fun h=>h)
  unfold actAsg at hR
  have e8:upd ob' 8 (.loop lp) 3=some (.box [x']):=by rw [y00 (by decide)];exact q4
  generalize upd ob' 8 (.loop lp)=obE at hR hg e8
  obtain ⟨t1,t2,t3,-,hdc⟩:=y6g d
  have hz:IntKind.i64.wrap 0=0:=rfl
  rw [hdc] at k1 k3 ⊢
  simp only [go_sem,Fn.y4s,k1,k3,bne_self_eq_false,hR,e8,hg]
 ·refine .of (N1+1) fun {n} hn=> ?_
  have k1:=k1 n (by omega)
  rw [if_neg he,y02 ycs]
  obtain ⟨t1,t2,t3,-,hdc⟩:=y6g d
  rw [hdc] at k1 ⊢
  generalize mayI d l=e at*
  have e1:(e !=0)=true:=by simp [he]
  simp only [go_sem,Fn.y4s,k1,e1]
end Go.Ev
namespace Go.Ev
open Go.Dig
section
variable {fz:Nat→Nat}
theorem ynd {base n:Nat} {ob:Nat→Option AObj} {nx i:Nat} {x y:AV} {es fs:List (List AV)} (hbase:base≤nx) (l:List (List AV)) (s:Beat) (gl:l[i]? =some s.c) (o6:okSz 9 l=true) (hl:l.length<2^20) (hi:i<l.length) (hc:∀ob fz,callV (evF E n) Id.y0v [.agg s.c] ob fz=some (.fzd fz (.tup [.agg s.s.c,.agg s.s.r]))) (h:TwoB base ob nx 9 12 i x y es fs) (X:List (Nat×SV)):
  ∃(ob':Nat→Option AObj) (nx':Nat) (x' y':AV),evC (evF E n) n Fn.y4z ⟨env ((0,.one (.sl false l))::(4,.one x)::(5,.one y)::(6,.one (.int .i64 (i:Int)))::X),ob,fz,nx⟩=
   some (.nrm,⟨env [(0,.one (.sl false l)),(4,.one x'),(5,.one y'),(6,.one (.int .i64 ((i+1:Nat):Int)))],ob',fz,nx'⟩)∧TwoB base ob' nx' 9 12 (i+1) x' y' (es++[s.s.c]) (fs++[s.s.r])∧base≤nx'∧∀id,id<base→ob' id=ob id:=by
 have h1:(((i:Nat):Int)<((l.length:Nat):Int))=True:=by simp;omega
 have wk:IntKind.i64.wrap ((i+1:Nat):Int)=((i+1:Nat):Int):=wi64 (by omega)
 obtain ⟨ca0,ca1,ca2,ca3,ca4,ca5,ca6,ca7,ca8,e5,-,-,-,-,-,-,-,-,-⟩:=y5x s.s
 obtain ⟨cp0,cp1,cp2,cp3,cp4,cp5,cp6,cp7,cp8,cp9,cp10,cp11,e6,-,-,-,-,-,-,-,-,-,-,-,-⟩:=y7g s.s
 obtain ⟨ci0,ci1,ci2,ci3,ci4,ci5,ci6,ci7,ci8,e7,-,-,-,-,-,-,-,-,-⟩:=y8z s
 rw [e5,e6] at hc ⊢
 rw [e7] at hc gl
 obtain ⟨l1,l2,h⟩:=h
 have nxa:∀a b:Nat,nx+a+b=nx+(a+b):=fun a b=>Nat.add_assoc nx a b
 obtain ⟨r,hr0⟩:∃r,evC (evF E n) n Fn.y4z ⟨env ((0,.one (.sl false l))::(4,.one x)::(5,.one y)::(6,.one (.int .i64 (i:Int)))::X),ob,fz,nx⟩=r:=⟨_,rfl⟩
 have hr:=hr0
 rcases h with ⟨rfl,rfl,rfl,rfl⟩ | ⟨a,va,b,vb,rfl,rfl,h3,h4,h5,h6,h7,h8,h9⟩
 ·simp only [go_sem,Fn.y4z,h1,gl,hc,o6,okSz,ROOM,add1,wk,nxa] at hr
  rw [hr0,←hr]
  refine ⟨_,_,_,_,rfl,⟨by simp [←l1],by simp [←l1],.inr ⟨nx+15,0,nx+19,0, ?_, ?_, ?_,upd_same _ _ _,by omega,by omega,by omega,by omega,by omega⟩⟩,by omega,fun id hid=> ?_⟩
  ·rw [←l1];rfl
  ·rw [←l1];rfl
  ·rw [y00 (by omega),y00 (by omega)];exact upd_same _ _ _
  ·simp (discharger:=omega) only [y00]
 ·have k1:∀k ob y ver,rowAt (upd ob (nx+k) y) a ver=rowAt ob a ver:=fun k ob y ver=>y19 (by omega)
  have k2:∀k ob y ver,rowAt (upd ob (nx+k) y) b ver=rowAt ob b ver:=fun k ob y ver=>y19 (by omega)
  have k3:∀k j ob y ver,rowAt (upd ob (nx+k+j) y) a ver=rowAt ob a ver:=fun k j ob y ver=>y19 (by omega)
  have k4:∀k j ob y ver,rowAt (upd ob (nx+k+j) y) b ver=rowAt ob b ver:=fun k j ob y ver=>y19 (by omega)
  have k5:∀ob y ver,rowAt (upd ob a y) b ver=rowAt ob b ver:=fun ob y ver=>y19 h7.symm
  have m1:∀k ob y,upd ob a y (nx+k)=ob (nx+k):=fun k ob y=>y00 (by omega)
  have b1:(i==i)=true:=by simp
  have w1:(i+1)*168≤140737488355328:=by omega
  have w2:(i+1)*192≤140737488355328:=by omega
  have hra:rowAt ob a va=some (9,es):=y1l h3
  have hrb:rowAt ob b vb=some (12,fs):=y1l h4
  simp only [go_sem,Fn.y4z,h1,gl,hc,o6,okSz,ROOM,add1,wk,nxa,k1,k2,k3,k4,k5,hra,hrb,l1,l2,m1,b1,w1,w2] at hr
  rw [hr0,←hr]
  refine ⟨_,_,_,_,rfl,⟨by simp [l1],by simp [l2],.inr ⟨a,va+1,b,vb+1,rfl,rfl, ?_,upd_same _ _ _,by omega,by omega,h7,h8,h9⟩⟩,by omega,fun id hid=> ?_⟩
  ·rw [y00 h7,y00 (by omega)];exact upd_same _ _ _
  ·simp (discharger:=omega) only [y00]
theorem yfs {base n:Nat} (l:List Beat) (hl:l.length<2^20) (hc:∀s∈l,∀ob fz,callV (evF E n) Id.y0v [.agg s.c] ob fz=some (.fzd fz (.tup [.agg s.s.c,.agg s.s.r]))):∀(m i:Nat),i+m=l.length→∀(ob:Nat→Option AObj) (nx:Nat) (x y:AV) (X:List (Nat×SV)),base≤nx→TwoB base ob nx 9 12 i x y ((l.take i).map fun s=>s.s.c) ((l.take i).map fun s=>s.s.r)→∀N,m<N→
  ∃(ob':Nat→Option AObj) (nx':Nat) (x' y':AV) (X':List (Nat×SV)),loopN (evC (evF E n) n Fn.y4z) N ⟨env ((0,.one (.sl false (l.map Beat.c)))::(4,.one x)::(5,.one y)::(6,.one (.int .i64 (i:Int)))::X),ob,fz,nx⟩=
   some (.ext 0,⟨env ((0,.one (.sl false (l.map Beat.c)))::(4,.one x')::(5,.one y')::X'),ob',fz,nx'⟩)∧TwoB base ob' nx' 9 12 l.length x' y' (l.map fun s=>s.s.c) (l.map fun s=>s.s.r)∧base≤nx'∧∀id,id<base→ob' id=ob id
 | 0,i,hi,ob,nx,x,y,X,hb,h,N+1,hN=>by
  have hi':i=l.length:=by omega
  subst hi'
  rw [List.take_length] at h
  refine ⟨ob,nx,x,y,[(6,.one (.int .i64 (l.length:Int))),(12,.one (.bool false))],y06 ?_,h,hb,fun _ _=>rfl⟩
  have h1:(((l.length:Nat):Int)<((l.length:Nat):Int))=False:=by simp
  simp only [go_sem,Fn.y4z,List.length_map,h1]
 | m+1,i,hi,ob,nx,x,y,X,hb,h,N+1,hN=>by
  have hil:i<l.length:=by omega
  have gd:l[i]? =some l[i]:=by simp
  obtain ⟨ob',nx',x',y',hst,h',hb',hf⟩:=ynd (fz:=fz) (n:=n) hb (l.map Beat.c) l[i] (by rw [List.getElem?_map,gd];rfl) (y1m (f:=Beat.c) (k:=9) (fun _=>rfl) l) (by simpa using hl) (by simpa using hil) (hc _ (by simp)) h X
  rw [y05 hst]
  have td:l.take (i+1)=l.take i++[l[i]]:=by rw [List.take_add_one,gd];rfl
  obtain ⟨ob2,nx2,x2,y2,X2,q1,q2,q3,q4⟩:=yfs l hl hc m (i+1) (by omega) ob' nx' x' y' [] hb' (by rw [td,List.map_append,List.map_append];exact h') N (by omega)
  exact ⟨ob2,nx2,x2,y2,X2,q1,q2,q3,fun id hid=>(q4 id hid).trans (hf id hid)⟩
theorem yui (l:List Beat) (hl:l.length<2^20):∃N,∀n,N≤n→∀(ob:Nat→Option AObj) (nx:Nat),∃(ob':Nat→Option AObj) (nx':Nat) (x y:AV),evF E n (.fn Id.y3m) [.one (.sl false (l.map Beat.c))] ⟨ob,fz,nx⟩=some (.tup [.one x,.one y],⟨ob',fz,nx'⟩)∧TwoB nx ob' nx' 9 12 l.length x y (l.map fun s=>s.s.c) (l.map fun s=>s.s.r)∧nx≤nx'∧∀id,id<nx→ob' id=ob id:=by
 obtain ⟨N,hN⟩:=y82 ye2 l
 refine ⟨N+l.length+2,fun n hn ob nx=> ?_⟩
 obtain ⟨n,rfl⟩:∃k,n=k+1:=⟨n-1,by omega⟩
 rw [y7e ydj]
 obtain ⟨ob',nx',x',y',X',hlo,h2,h3,h4⟩:=yfs (base:=nx) (fz:=fz) (n:=n) l hl (hN n (by omega)) l.length 0 (by omega) ob nx .nils .nils [] (Nat.le_refl _) ⟨rfl,rfl,.inl ⟨rfl,rfl,rfl,rfl⟩⟩ n (by omega)
 rw [show ((0:Nat):Int)=0 from rfl] at hlo
 refine ⟨shut ob ob',nx',x',y', ?_, ?_,h3,fun id hid=>yo2 (h4 id hid)⟩
 ·simp only [go_sem,Fn.y3m,hlo]
 ·obtain ⟨q1,q2,q | ⟨a,va,b,vb,q3,q4,q5,q6,q7⟩⟩:=h2
  ·exact ⟨q1,q2,.inl q⟩
  ·exact ⟨q1,q2,.inr ⟨a,va,b,vb,q3,q4,ye3 q5,ye3 q6,q7⟩⟩
end
def rawS:Option Samp→List AV
 | some s=>s.c
 | none=>[.bool false,.nils,.nils,.bool false,.nils,.nils,.bool false,.nils,.nils]
def samp0:Samp:=⟨0,0,0⟩
theorem yzb:samp0.c=[.bool false,.sl false [],.sl false [],.bool false,.sl false [],.sl false [],.bool false,.sl false [],.sl false []]:=by
 unfold Samp.c samp0
 rw [ybx];rfl
theorem yvk (o:Option Samp) (ob:Nat→Option AObj) (k:Nat) (fz:Nat→Nat):mapFz (Ev.frz ob (k+1)) fz (rawS o)=some (fz,(o.getD samp0).c):=by
 cases o with
 | none=>rw [Option.getD_none,yzb];rfl
 | some s=>exact y7f _ fun x hx=>(CanL.samp s x hx).frz ob k fz
theorem yb8 (ob:Nat→Option AObj) (k:Nat) (fz:Nat→Nat):∀l:List (Option Samp),mapFz (mapFz (Ev.frz ob (k+1))) fz (l.map rawS)=some (fz,(l.map fun o=>o.getD samp0).map Samp.c)
 | []=>rfl
 | o::r=>by
  rw [List.map_cons,mapFz,yvk o ob k fz]
  simp only
  rw [yb8 ob k fz r]
  rfl
theorem OutF.frzG {sz base:Nat} {ob:Nat→Option AObj} {nx:Nat} {x:AV} {es es':List (List AV)} (h:OutF sz base ob nx x es) (hc:∀fz,mapFz (mapFz (Ev.frz ob (6+1))) fz es=some (fz,es')):∃g:(Nat→Nat)→(Nat→Nat),∀fz,frzS ob fz (.one x)=some (g fz,.one (.sl false es')):=
 ⟨fun fz=>Classical.choose (h.frzTo hc fz),fun fz=>Classical.choose_spec (h.frzTo hc fz)⟩
theorem yke {n base:Nat} {fz:Nat→Nat} (v7 v8 v10:SV) (M:Nat) (hM:M<2^20):∀(r:Nat) (l:List (Option Samp)),l.length+r=M→∀(ob:Nat→Option AObj) (nx:Nat) (x:AV) (X:List (Nat×SV)),base≤nx→OutF 9 base ob nx x (l.map rawS)→∀N,r<N→
  ∃ob' nx' x' X',loopN (evC (evF E n) n Fn.y3q) N ⟨env ((2,.one (.int .i64 (M:Int)))::(7,v7)::(8,v8)::(9,.one x)::(10,v10)::X),ob,fz,nx⟩=
   some (.ext 0,⟨env ((2,.one (.int .i64 (M:Int)))::(7,v7)::(8,v8)::(9,.one x')::(10,v10)::X'),ob',fz,nx'⟩)∧OutF 9 base ob' nx' x' ((l++List.replicate r none).map rawS)∧base≤nx'∧∀id,id<base→ob' id=ob id
 | 0,l,hl,ob,nx,x,X,hb,h,N,hN=>by
  obtain ⟨N,rfl⟩:∃k,N=k+1:=⟨N-1,by omega⟩
  refine ⟨ob,nx,x,[(47,.one (.bool false))],y06 ?_,by rw [List.replicate_zero,List.append_nil];exact h,hb,fun _ _=>rfl⟩
  rcases h with ⟨he,rfl⟩ | ⟨a,va,rfl,h4,h5,h6⟩
  ·have hl0:l.length=0:=by have:=congrArg List.length he;simpa using this
   have h1:(((0:Nat):Int)<((M:Nat):Int))=False:=by simp;omega
   simp only [go_sem,Fn.y3q,h1]
  ·have h1:(((l.length:Nat):Int)<((M:Nat):Int))=False:=by simp;omega
   simp only [go_sem,Fn.y3q,List.length_map,h1]
 | r+1,l,hl,ob,nx,x,X,hb,h,N,hN=>by
  obtain ⟨N,rfl⟩:∃k,N=k+1:=⟨N-1,by omega⟩
  have step:∃ob1 x1,evC (evF E n) n Fn.y3q ⟨env ((2,.one (.int .i64 (M:Int)))::(7,v7)::(8,v8)::(9,.one x)::(10,v10)::X),ob,fz,nx⟩=
    some (.nrm,⟨env [(2,.one (.int .i64 (M:Int))),(7,v7),(8,v8),(9,.one x1),(10,v10)],ob1,fz,nx+5⟩)∧OutF 9 base ob1 (nx+5) x1 ((l++[none]).map rawS)∧∀id,id<base→ob1 id=ob id:=by
   obtain ⟨res,hr0⟩:∃res,evC (evF E n) n Fn.y3q ⟨env ((2,.one (.int .i64 (M:Int)))::(7,v7)::(8,v8)::(9,.one x)::(10,v10)::X),ob,fz,nx⟩=res:=⟨_,rfl⟩
   have hr:=hr0
   rcases h with ⟨he,rfl⟩ | ⟨a,va,rfl,h4,h5,h6⟩
   ·have hl0:l=[]:=by simpa using he
    subst hl0
    have h1:(((0:Nat):Int)<((M:Nat):Int))=True:=by simp at hl ⊢;omega
    simp only [go_sem,Fn.y3q,h1,okSz,ROOM] at hr
    rw [hr0,←hr]
    refine ⟨_,_,rfl,.inr ⟨nx+3,0,rfl,upd_same _ _ _,by omega,by omega⟩,fun id hid=> ?_⟩
    simp (discharger:=omega) only [y00]
   ·have h1:(((l.length:Nat):Int)<((M:Nat):Int))=True:=by simp;omega
    have w1:(l.length+1)*168≤140737488355328:=by omega
    have b1:(l.length==l.length)=true:=by simp
    have k1:∀k ob y ver,rowAt (upd ob (nx+k) y) a ver=rowAt ob a ver:=fun k ob y ver=>y19 (by omega)
    have hra:rowAt ob a va=some (9,l.map rawS):=y1l h4
    simp only [go_sem,Fn.y3q,List.length_map,h1,okSz,ROOM,w1,b1,k1,hra] at hr
    rw [hr0,←hr]
    refine ⟨_,_,rfl,.inr ⟨a,va+1, ?_, ?_,h5,by omega⟩,fun id hid=> ?_⟩
    ·rw [List.length_map,List.length_append];rfl
    ·rw [upd_same,List.map_append];rfl
    ·simp (discharger:=omega) only [y00]
  obtain ⟨ob1,x1,hst,h1,hf⟩:=step
  rw [y05 hst]
  obtain ⟨ob2,nx2,x2,X2,q1,q2,q3,q4⟩:=yke v7 v8 v10 M hM r (l++[none]) (by rw [List.length_append];simp;omega) ob1 (nx+5) x1 [] (by omega) h1 N (by omega)
  refine ⟨ob2,nx2,x2,X2,q1, ?_,q3,fun id hid=>(q4 id hid).trans (hf id hid)⟩
  rw [List.append_assoc] at q2
  exact q2
end Go.Ev
namespace Go.Ev
open Go.Dig
theorem yhv {n:Nat} {ob:Nat→Option AObj} {fz:Nat→Nat} {nx:Nat} (O:List (Nat×Option Rat)) (hl:O.length<2^20) (hc:∀a∈O,∀(ob:Nat→Option AObj) (fz:Nat→Nat),callV (evF E n) Id.y2e [.agg (qC (a.2.getD 0)),.agg (frzQ a.2)] ob fz=some (.fzd fz (.one (.bool true)))):∀(r i:Nat),i+r=O.length→∀(X:List (Nat×SV)) (N:Nat),r<N→
  ∃X',loopN (evC (evF E n) n Fn.y5g) N ⟨env ((11,.one (.sl false (O.map fun a=>phC (a.1,a.2.getD 0))))::(13,.one (.sl false (O.map fun a=>actC (a.1,a.2.getD 0))))::(18,.one (.sl false (O.map frzR')))::(19,.one (.int .i64 (i:Int)))::X),ob,fz,nx⟩=some (.ext 2,⟨env X',ob,fz,nx⟩)
 | 0,i,hi,X,N,hN=>by
  obtain ⟨N,rfl⟩:∃k,N=k+1:=⟨N-1,by omega⟩
  have h1:(((i:Nat):Int)<((O.length:Nat):Int))=False:=by simp;omega
  refine ⟨[(11,.one (.sl false (O.map fun a=>phC (a.1,a.2.getD 0)))),(13,.one (.sl false (O.map fun a=>actC (a.1,a.2.getD 0)))),(18,.one (.sl false (O.map frzR'))),(19,.one (.int .i64 (i:Int))),(143,.one (.bool false))],y06 ?_⟩
  simp only [go_sem,Fn.y5g,List.length_map,h1]
 | r+1,i,hi,X,N,hN=>by
  obtain ⟨N,rfl⟩:∃k,N=k+1:=⟨N-1,by omega⟩
  have hil:i<O.length:=by omega
  have h1:(((i:Nat):Int)<((O.length:Nat):Int))=True:=by simp;omega
  have wk:IntKind.i64.wrap ((i+1:Nat):Int)=((i+1:Nat):Int):=wi64 (by omega)
  have ok1:okSz 1 (O.map fun a=>phC (a.1,a.2.getD 0))=true:=y1m (f:=fun a:Nat×Option Rat=>phC (a.1,a.2.getD 0)) (k:=1) (fun _=>rfl) O
  have ok2:okSz 4 (O.map fun a=>actC (a.1,a.2.getD 0))=true:=y1m (f:=fun a:Nat×Option Rat=>actC (a.1,a.2.getD 0)) (k:=4) (fun _=>rfl) O
  have ok3:okSz 5 (O.map frzR')=true:=y1m (f:=frzR') (k:=5) (fun o=>by obtain ⟨a,b,x,d,e⟩:=frzQ4 o.2;unfold frzR';rw [e];rfl) O
  have hcc:=hc O[i] (by simp)
  obtain ⟨a1,a2,a3,ea,-,-,-⟩:=y08 (O[i].2.getD 0)
  obtain ⟨b1,b2,b3,b4,eb⟩:=frzQ4 O[i].2
  rw [ea,eb] at hcc
  have g1:(O.map fun a=>phC (a.1,a.2.getD 0))[i]? =some [.int .u8 (O[i].1:Int)]:=by rw [List.getElem?_map,List.getElem?_eq_getElem hil];rfl
  have g2:(O.map fun a=>actC (a.1,a.2.getD 0))[i]? =some [.int .u8 (O[i].1:Int),a1,a2,a3]:=by rw [List.getElem?_map,List.getElem?_eq_getElem hil,Option.map_some];unfold actC;rw [ea]
  have g3:(O.map frzR')[i]? =some [.int .u8 (O[i].1:Int),b1,b2,b3,b4]:=by rw [List.getElem?_map,List.getElem?_eq_getElem hil,Option.map_some];unfold frzR';rw [eb]
  have hst:evC (evF E n) n Fn.y5g ⟨env ((11,.one (.sl false (O.map fun a=>phC (a.1,a.2.getD 0))))::(13,.one (.sl false (O.map fun a=>actC (a.1,a.2.getD 0))))::(18,.one (.sl false (O.map frzR')))::(19,.one (.int .i64 (i:Int)))::X),ob,fz,nx⟩=some (.nrm,⟨env [(11,.one (.sl false (O.map fun a=>phC (a.1,a.2.getD 0)))),(13,.one (.sl false (O.map fun a=>actC (a.1,a.2.getD 0)))),(18,.one (.sl false (O.map frzR'))),(19,.one (.int .i64 ((i+1:Nat):Int)))],ob,fz,nx⟩):=by
   simp only [go_sem,Fn.y5g,List.length_map,h1,ok1,ok2,ok3,g1,g2,g3,hcc,add1,wk,bne_self_eq_false]
  rw [y05 hst]
  exact yhv O hl hc r (i+1) (by omega) [] N (by omega)
theorem tmod10 (z:Int) (h:1024<z) (h2:z<9223372036854775808):z.tmod 10=((z.toNat%10:Nat):Int):=by
 obtain ⟨k,rfl⟩:∃k:Nat,z=(k:Int):=⟨z.toNat,by omega⟩
 rw [Int.toNat_natCast]
 rfl
theorem y5v {ob:Nat→Option AObj} {g:(Nat→Nat)→(Nat→Nat)} {x:AV} {es:List (List AV)} {cs:List AV} (hc:CanL cs) (h:∀fz,frzS ob fz (.one x)=some (g fz,.one (.sl false es))) (fz:Nat→Nat):mapFz (frzS ob) fz [.agg cs,.one x]=some (g fz,[.agg cs,.one (.sl false es)]):=by
 have h1:=hc.agg.fzs ob fz
 simp only [mapFz,h1,h]
theorem yy7 {d:Dev} {l:List Samp} (h:1024<l.length):mayI d l=if rightD d=true then 5 else 2:=by
 unfold mayI errD
 cases rightD d with
 | true=>rw [if_pos rfl,if_pos rfl,if_neg (by omega),if_pos rfl]
 | false=>rfl
theorem yx2 {d:Dev} {l:List Samp} (h:rightD d=false):mayI d l=2:=by
 unfold mayI errD
 rw [h];rfl
set_option maxRecDepth 100000 in
set_option maxHeartbeats 4000000 in
theorem ysn (g:Leg) (h1:g.gates.length<2^20) (h2:g.curves.length<2^20) (h2':∀c∈g.curves,c.length<2^20) (h3:g.limits.length<2^20) (hg:∀x∈g.gates,x.from_<256∧x.to<256) (l:List Beat) (hl:l.length<2^20) (many:Int) (hm1:-9223372036854775808≤many) (hm2:many<9223372036854775808):
  Ends Id.y0x [.agg g.c,.one (.sl false (l.map Beat.c)),.one (.int .i64 many)] (.one (.bool true)):=by
 have hd:=Leg.sm g h1 h2 h2' h3 hg
 obtain ⟨N1,k1⟩:=yy2 g h1 h2 h2' h3
 obtain ⟨N2,k2⟩:=yrn g h2
 obtain ⟨N4,k4⟩:=yr8
 obtain ⟨N5,k5⟩:=yui (fz:=fz0) l hl
 obtain ⟨N8,k8⟩:=yoh g.d hd
 have hs:∀s∈l.map Beat.s,SmSamp s:=fun s hs=>by obtain ⟨b,_,rfl⟩:=List.mem_map.1 hs;exact Beat.sm b
 obtain ⟨a1,a2,a3,-,eg⟩:=ys9 g
 obtain ⟨d1,d2,d3,-,ed⟩:=y6g g.d
 obtain ⟨r1,r2,r3,r4,er⟩:=y5t g.d
 rw [eg] at k1 k2 ⊢
 rw [ed] at k1
 rw [er] at k1 k8
 by_cases p1:smallB g=true
 case neg=>
  rw [Bool.not_eq_true] at p1
  rw [p1] at k2
  refine .of (N1+N2+N4) fun {n} hn=> ?_
  have k1:=k1 n (by omega)
  have k2:=k2 n (by omega)
  have k4:=k4 n (by omega)
  rw [y02 y5s]
  simp only [go_sem,Fn.y0x,k1,k2,k4]
 rw [p1] at k2
 have q60:(((l.length:Nat):Int)>60)=(60<l.length):=by rw [eq_iff_iff];omega
 by_cases p2:60<l.length
 ·refine .of (N1+N2+N4) fun {n} hn=> ?_
  have k1:=k1 n (by omega)
  have k2:=k2 n (by omega)
  have k4:=k4 n (by omega)
  rw [y02 y5s]
  simp only [go_sem,Fn.y0x,k1,k2,k4,List.length_map,q60,p2]
 obtain ⟨obA,hobA⟩:∃o,o=upd (upd (upd (upd (upd ob0 0 (.box [.sl false (g.gates.map Gate.c),.sl false (g.curves.map fun s=>[.sl false (s.map Spot.c)]),.sl false (g.limits.map Spot.c),a1,a2,a3])) 7 (.box [.nils,.nils,.nils,.bool false,.nils,.nils])) 8 (.box [.nils,.nils,.nils,.bool false,.nils,.bool false,.nils])) 7 (.box [.sl false (g.d.guards.map Guard.c),.sl false (g.d.curves.map fun s=>[.sl false (s.map Pt.c)]),.sl false (g.d.limits.map Pt.c),d1,d2,d3])) 8 (.box [.sl false (g.d.guards.map Guard.r),.sl false (g.d.curves.map fun s=>[.sl false (s.map Pt.r)]),.sl false (g.d.limits.map Pt.r),r1,r2,r3,r4]):=⟨_,rfl⟩
 have A7:obA 7=some (.box [.sl false (g.d.guards.map Guard.c),.sl false (g.d.curves.map fun s=>[.sl false (s.map Pt.c)]),.sl false (g.d.limits.map Pt.c),d1,d2,d3]):=by rw [hobA,y00 (by decide)];exact upd_same _ _ _
 have A8:obA 8=some (.box [.sl false (g.d.guards.map Guard.r),.sl false (g.d.curves.map fun s=>[.sl false (s.map Pt.r)]),.sl false (g.d.limits.map Pt.r),r1,r2,r3,r4]):=by rw [hobA];exact upd_same _ _ _
 have cD:CanL [.sl false (g.d.guards.map Guard.c),.sl false (g.d.curves.map fun s=>[.sl false (s.map Pt.c)]),.sl false (g.d.limits.map Pt.c),d1,d2,d3]:=by rw [←ed];exact .dev _
 have cR:CanL [.sl false (g.d.guards.map Guard.r),.sl false (g.d.curves.map fun s=>[.sl false (s.map Pt.r)]),.sl false (g.d.limits.map Pt.r),r1,r2,r3,r4]:=by rw [←er];exact .devr _
 have e00:((0:Int) !=0)=false:=rfl
 have e20:((2:Int) !=0)=true:=rfl
 have e50:((5:Int) !=0)=true:=rfl
 have t22:((2:Int)==2)=true:=rfl
 have t55:((5:Int)==5)=true:=rfl
 have t00:((0:Int)==0)=true:=rfl
 have w00:IntKind.i64.wrap (0+0)=0:=rfl
 have c0:((0:Nat):Int)=0:=rfl
 have eS:(l.map fun s=>s.s.c)=((l.map fun s=>some s.s).map rawS):=by rw [List.map_map];rfl
 have g20:(2:Nat)^20=1048576:=by decide
 have outT:∀{ob1:Nat→Option AObj} {nx1:Nat} {x y:AV},TwoB 11 ob1 nx1 9 12 l.length x y (l.map fun s=>s.s.c) (l.map fun s=>s.s.r)→OutF 9 11 ob1 nx1 x ((l.map fun s=>some s.s).map rawS)∧OutF 12 11 ob1 nx1 y ((l.map Beat.s).map Samp.r)∧((x=.nils∧l.length=0)∨∃a va,x=.rsl a va 9 0 l.length false):=fun {ob1 nx1 x y} T=>by
  rw [←eS]
  have eR:(l.map Beat.s).map Samp.r=l.map fun s=>s.s.r:=by rw [List.map_map];rfl
  rw [eR]
  obtain ⟨t1,t2,⟨t3,t4,rfl,rfl⟩ | ⟨a,va,b,vb,rfl,rfl,t5,t6,t7,t8,t9,t10,t11⟩⟩:=T
  ·exact ⟨.inl ⟨t3,rfl⟩,.inl ⟨t4,rfl⟩,.inl ⟨rfl,by have:=congrArg List.length t3;simpa using this⟩⟩
  ·exact ⟨.inr ⟨a,va,by rw [t1],t5,t10,t7⟩,.inr ⟨b,vb,by rw [t2],t6,t11,t8⟩,.inr ⟨a,va,rfl⟩⟩
 have eG:(l.map fun s=>some s.s).map (fun o=>o.getD samp0)=l.map Beat.s:=by rw [List.map_map];rfl
 by_cases hbig:many>1024
 ·--more samples than the limit
  obtain ⟨M,hM⟩:∃M:Nat,M=1025+many.toNat%10:=⟨_,rfl⟩
  have ht:=tmod10 many hbig hm2
  have hw:IntKind.i64.wrap (1025+((many.toNat%10:Nat):Int))=(M:Int):=by rw [wrap_i64 (by omega)];omega
  have hz:((10:Int)=0)=False:=by simp
  have hbig':(many>1024)=True:=eq_true hbig
  obtain ⟨L',hL'⟩:∃L',L'=(l.map fun s=>some s.s)++List.replicate (M-l.length) none:=⟨_,rfl⟩
  have lenL:L'.length=M:=by rw [hL'];simp;omega
  have hs':∀s∈L'.map (fun o=>o.getD samp0),SmSamp s:=fun s hs=>by
   obtain ⟨o,ho,rfl⟩:=List.mem_map.1 hs
   rw [hL'] at ho
   rcases List.mem_append.1 ho with h | h
   ·obtain ⟨b,_,rfl⟩:=List.mem_map.1 h;exact Beat.sm b
   ·rw [List.eq_of_mem_replicate h];exact ⟨sm0 255,sm0 255,sm0 255⟩
  have hsl:(L'.map fun o=>o.getD samp0).length<2^20:=by rw [List.length_map];omega
  obtain ⟨N6,k6⟩:=yfm g.d hd _ hsl hs'
  obtain ⟨N7,k7⟩:=ymm g.d hd _ hsl hs'
  obtain ⟨N9,k9⟩:=ykp g.d hd _ hsl hs'
  have e6:=yy7 (d:=g.d) (l:=L'.map fun o=>o.getD samp0) (by rw [List.length_map];omega)
  rw [ed] at k6 k7 k9
  refine .of (N1+N2+N4+N5+N6+N7+N8+N9+M+1) fun {n} hn=> ?_
  have k1:=k1 n (by omega)
  have k2:=k2 n (by omega)
  have k4:=k4 n (by omega)
  have k8:=k8 n (by omega)
  have k6:=k6 n (by omega)
  have k7:=k7 n (by omega)
  have k9:=k9 n (by omega)
  obtain ⟨ob1,nx1,x,y,kb,T,hnx,hf⟩:=k5 n (by omega) obA 11
  obtain ⟨hx0,-,-⟩:=outT T
  obtain ⟨ob2,nx2,x2,X2,klo,hx2,hnx2,hf2⟩:=yke (n:=n) (base:=11) (fz:=fz0) (.one (.box 7 0)) (.one (.box 8 0)) (.one y) M (by omega) (M-l.length) (l.map fun s=>some s.s) (by simp;omega) ob1 nx1 x [] hnx hx0 n (by omega)
  rw [←hL'] at hx2
  obtain ⟨gx,hgx⟩:=hx2.frzG (fun fz=>yb8 ob2 6 fz L')
  have B7:=(hf2 7 (by decide)).trans ((hf 7 (by decide)).trans A7)
  have B8:=(hf2 8 (by decide)).trans ((hf 8 (by decide)).trans A8)
  obtain ⟨a,va,rfl⟩:∃a va,x2=.rsl a va 9 0 M false:=by
   rcases hx2 with ⟨he,-⟩ | ⟨a,va,rfl,-⟩
   ·have h0:L'=[]:=by simpa using he
    rw [h0] at lenL;simp at lenL;omega
   ·exact ⟨a,va,by rw [List.length_map,lenL]⟩
  have q1:(((M:Nat):Int)>1024)=True:=by simp;omega
  rw [hobA] at kb
  rw [y02 y5s]
  cases hr:rightD g.d with
  | true=>
   rw [hr] at k8
   rw [hr,if_pos rfl] at e6
   rw [e6,if_neg (by decide)] at k6 k7 k9
   have kP:=fun fz=>y5m k6 (y5v cD hgx fz)
   have kA:=fun fz=>y5m k7 (y5v cD hgx fz)
   have kW:=fun fz=>y5m k9 (y5v cD hgx fz)
   simp only [go_sem,Fn.y0x,k1,k2,k4,k8,kb,List.length_map,q60,p2,hbig',ht,hw,hz,klo,B7,B8,kP,kA,kW,q1,e50,t55,t00,w00,c0]
  | false=>
   rw [hr] at k8
   rw [hr,if_neg (by simp)] at e6
   rw [e6,if_neg (by decide)] at k6 k7 k9
   have kP:=fun fz=>y5m k6 (y5v cD hgx fz)
   have kA:=fun fz=>y5m k7 (y5v cD hgx fz)
   have kW:=fun fz=>y5m k9 (y5v cD hgx fz)
   simp only [go_sem,Fn.y0x,k1,k2,k4,k8,kb,List.length_map,q60,p2,hbig',ht,hw,hz,klo,B7,B8,kP,kA,kW,q1,e20,t22,t00,w00,c0]
 ·have hbig':(many>1024)=False:=eq_false hbig
  have hsl:(l.map Beat.s).length<2^20:=by rw [List.length_map];exact hl
  obtain ⟨N6,k6⟩:=yfm g.d hd _ hsl hs
  obtain ⟨N7,k7⟩:=ymm g.d hd _ hsl hs
  obtain ⟨N9,k9⟩:=ykp g.d hd _ hsl hs
  rw [ed] at k6 k7 k9
  cases hr:rightD g.d with
  | false=>
   rw [hr] at k8
   rw [yx2 hr,if_neg (by decide)] at k6 k7 k9
   refine .of (N1+N2+N4+N5+N6+N7+N8+N9) fun {n} hn=> ?_
   have k1:=k1 n (by omega)
   have k2:=k2 n (by omega)
   have k4:=k4 n (by omega)
   have k8:=k8 n (by omega)
   obtain ⟨ob1,nx1,x,y,kb,T,hnx,hf⟩:=k5 n (by omega) obA 11
   obtain ⟨hx0,-,-⟩:=outT T
   obtain ⟨gx,hgx⟩:=hx0.frzG (fun fz=>yb8 ob1 6 fz _)
   rw [eG] at hgx
   have B7:=(hf 7 (by decide)).trans A7
   have B8:=(hf 8 (by decide)).trans A8
   have kP:=fun fz=>y5m (k6 n (by omega)) (y5v cD hgx fz)
   have kA:=fun fz=>y5m (k7 n (by omega)) (y5v cD hgx fz)
   have kW:=fun fz=>y5m (k9 n (by omega)) (y5v cD hgx fz)
   rw [hobA] at kb
   rw [y02 y5s]
   simp only [go_sem,Fn.y0x,k1,k2,k4,k8,kb,List.length_map,q60,p2,hbig',B7,B8,kP,kA,kW,e20,t22,t00,w00,c0]
  | true=>
   rw [hr] at k8
   have hm0:mayI g.d (l.map Beat.s)=0:=yz5 (by unfold errD;rw [hr];rfl) (by rw [List.length_map];omega)
   rw [hm0,if_pos rfl] at k6 k7 k9
   have hok:=yb4 hd hr
   have hh:=yp3 hr
   obtain ⟨N10,k10⟩:=yl7 g.d hok hh (l.map Beat.s) hsl hs
   obtain ⟨Lw,hLw,hLs,hL5,N11,k11⟩:=yr5 g.d hok hh (l.map Beat.s) (by rw [List.length_map];omega) hs
   have hsm:=yny hok (l.map Beat.s) hs
   have hacts:=yh5 g.d (l.map Beat.s) w0
   have hOl:(outsR g.d w0 (l.map Beat.s)).length=l.length:=by
    have:=congrArg List.length hacts
    rw [ym1,List.length_map,List.length_map] at this
    exact this
   rw [←hacts] at k6 k7 hsm
   rw [←hLw] at k9
   generalize outsR g.d w0 (l.map Beat.s)=O at*
   have hOs:∀a∈O,SmQ (2^30) (a.2.getD 0):=fun a ha=>by
    refine (hsm (a.1,a.2.getD 0) (List.mem_map.2 ⟨a,ha,rfl⟩)).1.mono ?_
    rw [List.length_map]
    have:(2:Nat)^30=1073741824:=by decide
    omega
   obtain ⟨N12,k12⟩:=yrp Lw (by omega) hLs (by decide)
   obtain ⟨N13,k13⟩:=yky (2^30) (by decide)
   have m1:(O.map fun a=>(a.1,a.2.getD 0)).map phC=O.map fun a=>phC (a.1,a.2.getD 0):=by rw [List.map_map];rfl
   have m2:(O.map fun a=>(a.1,a.2.getD 0)).map actC=O.map fun a=>actC (a.1,a.2.getD 0):=by rw [List.map_map];rfl
   have m3:(Lw.map fun o=>o.getD 0).map qC=Lw.map fun o=>qC (o.getD 0):=by rw [List.map_map];rfl
   rw [m1] at k6
   rw [m2] at k7
   rw [m3] at k9
   rw [er] at k10 k11
   refine .of (N1+N2+N4+N5+N6+N7+N8+N9+N10+N11+N12+N13+l.length+1) fun {n} hn=> ?_
   have k1:=k1 n (by omega)
   have k2:=k2 n (by omega)
   have k4:=k4 n (by omega)
   have k8:=k8 n (by omega)
   have k12:=k12 n (by omega)
   obtain ⟨ob1,nx1,x,y,kb,T,hnx,hf⟩:=k5 n (by omega) obA 11
   obtain ⟨hx0,hy0,hlx⟩:=outT T
   obtain ⟨gx,hgx⟩:=hx0.frzG (fun fz=>yb8 ob1 6 fz _)
   rw [eG] at hgx
   obtain ⟨gy,hgy⟩:=hy0.frzG (fun fz=>(y5h (fun s:Samp=>CanL.sampr s) (l.map Beat.s)).frz ob1 6 fz)
   have B7:=(hf 7 (by decide)).trans A7
   have B8:=(hf 8 (by decide)).trans A8
   have kP:=fun fz=>y5m (k6 n (by omega)) (y5v cD hgx fz)
   have kA:=fun fz=>y5m (k7 n (by omega)) (y5v cD hgx fz)
   have kW:=fun fz=>y5m (k9 n (by omega)) (y5v cD hgx fz)
   have kR:=fun fz=>y5m (k10 n (by omega)) (y5v cR hgy fz)
   have kS:=fun fz=>y5m (k11 n (by omega)) (y5v cR hgy fz)
   have q1:(((l.length:Nat):Int)>1024)=False:=by simp;omega
   have qq:(((O.length:Nat):Int) !=((O.length:Nat):Int))=false:=by simp
   have hlo:=fun (fz:Nat→Nat)=>yhv (n:=n) (ob:=ob1) (fz:=fz) (nx:=nx1) O (by omega) (fun a ha=>k13 n (by omega) a.2 (hOs a ha)) O.length 0 (by omega) [] n (by omega)
   rw [show ((0:Nat):Int)=0 from rfl] at hlo
   rw [hobA] at kb
   rw [y02 y5s]
   obtain ⟨X',hX⟩:=hlo (gy (gy (gx (gx (gx fz0)))))
   rcases hlx with ⟨rfl,hl0⟩ | ⟨a,va,rfl⟩
   ·have q0:((0:Int)>1024)=False:=by simp
    simp only [go_sem,Fn.y0x,k1,k2,k4,k8,kb,List.length_map,q60,p2,hbig',B7,B8,kP,kA,kW,kR,kS,k12,q0,qq,e00,hX,c0]
   ·simp only [go_sem,Fn.y0x,k1,k2,k4,k8,kb,List.length_map,q60,p2,hbig',B7,B8,kP,kA,kW,kR,kS,k12,q1,qq,e00,hX]
end Go.Ev
