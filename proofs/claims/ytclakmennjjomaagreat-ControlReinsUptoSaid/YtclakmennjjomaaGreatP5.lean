import Derived.Test.YtclakmennjjomaaGreatP4
import Derived.Test.YtclakmennjjomaaGreatP1
import Derived.Test.YtclakmennjjomaaGreatP3
import Derived.Laws.Strings
set_option linter.all false
namespace Go.Ev
theorem LQ.frz {q:Rat} {c:List AV} (h:LQ q c) (ob:Nat→Option AObj) (fz:Nat→Nat):frzS ob fz (.agg c)=some (fz,.agg (qC q)):=by
 rcases h with rfl | ⟨rfl,rfl⟩
 ·exact ycn q ob fz
 ·rw [yct];rfl
theorem ytc {F:Caller} {f:FuncId} {q:Rat} {c:List AV} (h:LQ q c) (ob:Nat→Option AObj) (fz:Nat→Nat):callV F f [.agg c] ob fz=callV F f [.agg (qC q)] ob fz:=by
 unfold callV mapFz
 rw [h.frz,ycn]
theorem yai {F:Caller} {f:FuncId} {a b:Rat} {c e:List AV} (h:LQ a c) (k:LQ b e) (ob:Nat→Option AObj) (fz:Nat→Nat):callV F f [.agg c,.agg e] ob fz=callV F f [.agg (qC a),.agg (qC b)] ob fz:=by
 simp only [callV,mapFz]
 rw [h.frz,ycn]
 simp only
 rw [k.frz,ycn]
def natQ (n:Nat):Rat:=Rat.ofInt (n:Int)
theorem y8e (n:Nat):natQ n=(n:Rat):=rfl
theorem ysx (a:Nat):floorQ (natQ a / Rat.ofInt 2)=((a / 2:Nat):Int):=by
 rw [y9d,y8e,show Rat.ofInt 2=2 from rfl]
 have h1:((a / 2:Nat):Int)≤((a:Rat) / 2).floor:=by
  rw [Rat.le_floor_iff]
  have h:((a / 2*2:Nat):Rat)≤(a:Rat):=Rat.natCast_le_natCast.2 (by omega)
  rw [Rat.natCast_mul] at h
  have e:(a:Rat) / 2*2=a:=Rat.div_mul_cancel (by decide)
  show ((a / 2:Nat):Rat)≤_
  have:((2:Nat):Rat)=2:=rfl
  grind
 have h2:((a:Rat) / 2).floor<((a / 2+1:Nat):Int):=by
  rw [Rat.floor_lt_iff]
  have h:(a:Rat)<(((a / 2+1)*2:Nat):Rat):=Rat.natCast_lt_natCast.2 (by omega)
  rw [Rat.natCast_mul] at h
  have e:(a:Rat) / 2*2=a:=Rat.div_mul_cancel (by decide)
  show _<((a / 2+1:Nat):Rat)
  have:((2:Nat):Rat)=2:=rfl
  grind
 omega
theorem y7q {n S:Nat} (h:n<2^(S+1)):SmQ (S+1) (natQ n):=yaz (by simpa using h)
theorem yi0 (a b:Nat):natQ a+natQ b=natQ (a+b):=(Rat.natCast_add a b).symm
theorem yn7 {a b:Nat} (h:a≤b):natQ b-natQ a=natQ (b-a):=by
 have:natQ b=natQ (b-a)+natQ a:=by rw [yi0,Nat.sub_add_cancel h]
 rw [this];grind
def fastS (L:List (Nat×SV)):List (Nat×SV):=(3,.one (.box 0 0))::(6,.one (.box 2 0))::(7,.one (.box 10 0))::(8,.one (.box 15 0))::(9,.one (.box 16 0))::(10,.one (.fn Id.y1e [] [.box 0 0,.box 15 0,.box 16 0]))::(11,.one (.box 21 0))::(12,.one (.box 22 0))::L
structure FastB (ob:Nat→Option AObj) (l h m s d room:Rat) (lo hi:Nat) (lc:List AV):Prop where
 o0:ob 0=some (.box (qC l++(qC h++(qC m++qC s))))
 o2:ob 2=some (.box [.bool false,.nils,.nils])
 o10:ob 10=some (.box (qC room))
 o15:ob 15=some (.box (qC (Rat.ofInt 1)))
 o16:ob 16=some (.box (qC d))
 o21:ob 21=some (.box lc)
 o22:ob 22=some (.box (qC (natQ hi)))
 lq:LQ (natQ lo) lc
section
variable (l h m s d room:Rat) {S T:Nat} (hm:SmQ S m) (hs:SmQ S s) (hd:SmQ S d) (hr:SmQ (4*S) room) (hS:S<2^20) (hT:T+1<2^24)
include hm hs hd hr hS hT
theorem y96 {n:Nat} (hn:n<2^(T+1)):SmQ (T+1) (natQ n)∧SmQ (4*S+5*T+40) (wayQ m s d (natQ n)):=by
 have hx:SmQ (T+1) (natQ n):=y7q hn
 exact ⟨hx,((hs.mul hm).mul ((hx.mul (smQ_one.add hd)).add ((y76 hx).sub hx))).mono (by omega)⟩
theorem ytl {lo hi:Nat} {lc:List AV} (hhi:hi<2^(T+1)) (hlt:room<wayQ m s d (natQ hi)):
  ∃N,∀n,N≤n→∀(ob:Nat→Option AObj) (nx:Nat) (X:List (Nat×SV)),25≤nx→FastB ob l h m s d room lo hi lc→
   ∃ob' nx' X',evC (evF E n) n Fn.y48 ⟨env (fastS X),ob,fz0,nx⟩=some (.ext 0,⟨env (fastS X'),ob',fz0,nx'⟩)∧nx≤nx'∧FastB ob' l h m s d room lo hi lc:=by
 obtain ⟨hx,hway⟩:=y96 m s d room hm hs hd hr hS hT hhi
 obtain ⟨N1,h1⟩:=yjy l h m s d (natQ hi) hm hs hd hx hS hT
 obtain ⟨N2,h2⟩:=cCmp (wayQ m s d (natQ hi)) room hway hr (by omega)
 refine ⟨N1+N2,fun n hn ob nx X hnx B=> ?_⟩
 obtain ⟨ob',nx',e1,e2,e3⟩:=h1 n (by omega) ob fz0 nx hnx B.o0 B.o15 B.o16
 have h2:=h2 n (by omega)
 have e10:=e3 10 (by omega)
 have hc:(cmpQ (wayQ m s d (natQ hi)) room≤0)=False:=by rw [y72,eq_iff_iff,iff_false];exact Rat.not_le.2 hlt
 obtain ⟨o0,o2,o10,o15,o16,o21,o22,lq⟩:=B
 refine ⟨ob',nx',[(36,.one (.bool false))], ?_,e2,⟨(e3 0 (by omega)).trans o0,(e3 2 (by omega)).trans o2,e10.trans o10,(e3 15 (by omega)).trans o15,(e3 16 (by omega)).trans o16,(e3 21 (by omega)).trans o21,(e3 22 (by omega)).trans o22,lq⟩⟩
 have u10:(10<nx)=True:=by simp;omega
 have u22:(22<nx)=True:=by simp;omega
 unfold fastS
 simp only [go_sem,Fn.y48,o10,o22,u10,u22,e10,e1,h2,hc]
theorem yvu {lo hi:Nat} {lc:List AV} (hhi:hi<2^T) (hlt:wayQ m s d (natQ hi)≤room):
  ∃N,∀n,N≤n→∀(ob:Nat→Option AObj) (nx:Nat) (X:List (Nat×SV)),25≤nx→FastB ob l h m s d room lo hi lc→
   ∃ob' nx',evC (evF E n) n Fn.y48 ⟨env (fastS X),ob,fz0,nx⟩=some (.nrm,⟨env (fastS []),ob',fz0,nx'⟩)∧nx≤nx'∧FastB ob' l h m s d room hi (hi+hi) (qC (natQ hi)):=by
 have h2T:2^(T+1)=2^T+2^T:=by rw [Nat.pow_succ];omega
 obtain ⟨hx,hway⟩:=y96 m s d room hm hs hd hr hS hT (n:=hi) (by omega)
 obtain ⟨N1,h1⟩:=yjy l h m s d (natQ hi) hm hs hd hx hS hT
 obtain ⟨N2,h2⟩:=cCmp (wayQ m s d (natQ hi)) room hway hr (by omega)
 obtain ⟨N3,h3⟩:=cAdd (natQ hi) (natQ hi) hx hx (by omega)
 rw [yi0] at h3
 refine ⟨N1+N2+N3,fun n hn ob nx X hnx B=> ?_⟩
 obtain ⟨ob',nx',e1,e2,e3⟩:=h1 n (by omega) ob fz0 nx hnx B.o0 B.o15 B.o16
 have h2:=h2 n (by omega)
 have h3:=h3 n (by omega)
 have e10:=e3 10 (by omega)
 have hc:(cmpQ (wayQ m s d (natQ hi)) room≤0)=True:=by rw [y72,eq_iff_iff,iff_true];exact hlt
 obtain ⟨o0,o2,o10,o15,o16,o21,o22,lq⟩:=B
 have q21:=(e3 21 (by omega)).trans o21
 have q22:=(e3 22 (by omega)).trans o22
 refine ⟨upd (upd ob' 21 (.box (qC (natQ hi)))) 22 (.box (qC (natQ (hi+hi)))),nx', ?_,e2,⟨?_, ?_, ?_, ?_, ?_, ?_, ?_,.of _⟩⟩
 ·have u10:(10<nx)=True:=by simp;omega
  have u22:(22<nx)=True:=by simp;omega
  have v22:(22<nx')=True:=by simp;omega
  have v21:(21<nx')=True:=by simp;omega
  have p21:=lq.put (natQ hi)
  unfold fastS
  simp only [go_sem,Fn.y48,o10,o22,u10,u22,e10,e1,h2,hc,q21,q22,v21,v22,h3,↓p21]
 ·rw [y00 (by decide),y00 (by decide)];exact (e3 0 (by omega)).trans o0
 ·rw [y00 (by decide),y00 (by decide)];exact (e3 2 (by omega)).trans o2
 ·rw [y00 (by decide),y00 (by decide)];exact e10.trans o10
 ·rw [y00 (by decide),y00 (by decide)];exact (e3 15 (by omega)).trans o15
 ·rw [y00 (by decide),y00 (by decide)];exact (e3 16 (by omega)).trans o16
 ·rw [y00 (by decide),upd_same]
 ·rw [upd_same]
theorem yre {K:Nat} (hK:∀n,K≤n→room<wayQ m s d (natQ n)) (hKT:2*K<2^(T+1)):∀(j lo hi:Nat) (lc:List AV),K≤hi*2^j→0<hi→hi<2*K∨hi=1→lo<hi→wayQ m s d (natQ lo)≤room→
  ∃lo' hi',lo'<hi'∧hi'<2^(T+1)∧wayQ m s d (natQ lo')≤room∧room<wayQ m s d (natQ hi')∧∃N,∀n,N≤n→∀(ob:Nat→Option AObj) (nx:Nat) (X:List (Nat×SV)),25≤nx→FastB ob l h m s d room lo hi lc→∀M,j<M→
   ∃ob' nx' X' lc',loopN (evC (evF E n) n Fn.y48) M ⟨env (fastS X),ob,fz0,nx⟩=some (.ext 0,⟨env (fastS X'),ob',fz0,nx'⟩)∧nx≤nx'∧FastB ob' l h m s d room lo' hi' lc'
 | j,lo,hi,lc,hj,h0,hi2,hlo,hw=>by
  have k1:1<2^(T+1):=Nat.one_lt_two_pow (by omega)
  have h2T:2^(T+1)=2^T+2^T:=by rw [Nat.pow_succ];omega
  by_cases hlt:room<wayQ m s d (natQ hi)
  ·obtain ⟨N,hN⟩:=ytl l h m s d room hm hs hd hr hS hT (lo:=lo) (hi:=hi) (lc:=lc) (by omega) hlt
   refine ⟨lo,hi,hlo,by omega,hw,hlt,N,fun n hn ob nx X hnx B M hM=> ?_⟩
   obtain ⟨M,rfl⟩:∃k,M=k+1:=⟨M-1,by omega⟩
   obtain ⟨ob',nx',X',e1,e2,e3⟩:=hN n hn ob nx X hnx B
   exact ⟨ob',nx',X',lc,y06 e1,e2,e3⟩
  ·have hhK:hi<K:=Nat.lt_of_not_le fun hle=>hlt (hK hi hle)
   obtain ⟨j,rfl⟩:∃k,j=k+1:=⟨j-1,by
    rcases Nat.eq_zero_or_pos j with e | e
    ·subst e;simp at hj;omega
    ·omega⟩
   obtain ⟨N,hN⟩:=yvu l h m s d room hm hs hd hr hS hT (lo:=lo) (hi:=hi) (lc:=lc) (by omega) (Rat.not_lt.1 hlt)
   obtain ⟨lo2,hi2,f1,f2,f3,f4,N2,hN2⟩:=yre hK hKT j hi (hi+hi) (qC (natQ hi)) (by rw [Nat.pow_succ] at hj;rw [Nat.add_mul];rw [Nat.mul_comm (2^j) 2,←Nat.mul_assoc,Nat.mul_comm hi 2,Nat.mul_assoc] at hj;omega) (by omega) (by omega) (by omega) (Rat.not_lt.1 hlt)
   refine ⟨lo2,hi2,f1,f2,f3,f4,N+N2,fun n hn ob nx X hnx B M hM=> ?_⟩
   obtain ⟨M,rfl⟩:∃k,M=k+1:=⟨M-1,by omega⟩
   obtain ⟨ob',nx',e1,e2,e3⟩:=hN n (by omega) ob nx X hnx B
   obtain ⟨ob2,nx2,X2,lc2,g1,g2,g3⟩:=hN2 n (by omega) ob' nx' [] (by omega) e3 M (by omega)
   exact ⟨ob2,nx2,X2,lc2,by rw [y07 e1];exact g1,by omega,g3⟩
theorem yl3 {lo hi:Nat} {lc:List AV} (hhi:hi<2^(T+1)) (hgap:1<hi-lo):
  ∃N,∀n,N≤n→∀(ob:Nat→Option AObj) (nx:Nat) (X:List (Nat×SV)),25≤nx→FastB ob l h m s d room lo hi lc→
   ∃ob' nx',evC (evF E n) n Fn.y33 ⟨env (fastS X),ob,fz0,nx⟩=some (.nrm,⟨env (fastS []),ob',fz0,nx'⟩)∧nx≤nx'∧
    (if wayQ m s d (natQ ((lo+hi) / 2))≤room then FastB ob' l h m s d room ((lo+hi) / 2) hi (qC (natQ ((lo+hi) / 2))) else FastB ob' l h m s d room lo ((lo+hi) / 2) lc):=by
 obtain ⟨hx,-⟩:=y96 m s d room hm hs hd hr hS hT (n:=hi) hhi
 obtain ⟨hl,-⟩:=y96 m s d room hm hs hd hr hS hT (n:=lo) (by omega)
 obtain ⟨hm2,hway⟩:=y96 m s d room hm hs hd hr hS hT (n:=(lo+hi) / 2) (by omega)
 have h2T2:2^(T+1+1)=2^(T+1)+2^(T+1):=by rw [Nat.pow_succ];omega
 have hsum:SmQ (T+1+1) (natQ (lo+hi)):=y7q (by omega)
 have hdiff:SmQ (T+1) (natQ (hi-lo)):=y7q (by omega)
 obtain ⟨N1,h1⟩:=yjy l h m s d (natQ ((lo+hi) / 2)) hm hs hd hm2 hS hT
 obtain ⟨N2,h2⟩:=cCmp (wayQ m s d (natQ ((lo+hi) / 2))) room hway hr (by omega)
 obtain ⟨N3,h3⟩:=cSub (natQ hi) (natQ lo) hx hl (by omega)
 rw [yn7 (by omega)] at h3
 obtain ⟨N4,h4⟩:=cCmp (natQ (hi-lo)) (Rat.ofInt 1) hdiff smQ_one (by omega)
 obtain ⟨N5,h5⟩:=cAdd (natQ lo) (natQ hi) hl hx (by omega)
 rw [yi0] at h5
 obtain ⟨N6,h6⟩:=cInt 2 (by decide) (by decide)
 obtain ⟨N7,h7⟩:=cQuo (natQ (lo+hi)) (Rat.ofInt 2) (by decide) hsum yfl (by omega)
 obtain ⟨N8,h8⟩:=cFloor (natQ (lo+hi) / Rat.ofInt 2) (hsum.div (by decide) yfl) (by omega)
 rw [ysx] at h8
 have h8:∀n,N8≤n→∀(ob:Nat→Option AObj) (fz:Nat→Nat),callV (evF E n) Id.y3p [.agg (qC (natQ (lo+hi) / Rat.ofInt 2))] ob fz=some (.fzd fz (.agg (qC (natQ ((lo+hi) / 2))))):=h8
 refine ⟨N1+N2+N3+N4+N5+N6+N7+N8,fun n hn ob nx X hnx B=> ?_⟩
 obtain ⟨o0,o2,o10,o15,o16,o21,o22,lq⟩:=B
 have h2:=h2 n (by omega)
 have h3:∀ob fz,callV (evF E n) Id.y1f [.agg (qC (natQ hi)),.agg lc] ob fz=some (.fzd fz (.agg (qC (natQ (hi-lo))))):=fun ob fz=>by rw [yai (.of _) lq];exact h3 n (by omega) ob fz
 have h4:=h4 n (by omega)
 have h5:∀ob fz,callV (evF E n) Id.y0h [.agg lc,.agg (qC (natQ hi))] ob fz=some (.fzd fz (.agg (qC (natQ (lo+hi))))):=fun ob fz=>by rw [yai lq (.of _)];exact h5 n (by omega) ob fz
 have h6:=h6 n (by omega)
 have h7:=h7 n (by omega)
 have h8:=h8 n (by omega)
 have hg:(cmpQ (natQ (hi-lo)) (Rat.ofInt 1)>0)=True:=by
  rw [yfn,eq_iff_iff,iff_true]
  exact Rat.natCast_lt_natCast.2 hgap
 have u10:(10<nx)=True:=by simp;omega
 have u15:(15<nx)=True:=by simp;omega
 have u21:(21<nx)=True:=by simp;omega
 have u22:(22<nx)=True:=by simp;omega
 have nb:∀k id:Nat,id<25→((id=nx+k)=False):=fun k id h=>by simp;omega
 have nb':∀k id:Nat,id<25→((nx+k=id)=False):=fun k id h=>by simp;omega
 obtain ⟨ob',nx',e1,e2,e3⟩:=h1 n (by omega) (upd ob (nx+6) (.box (qC (natQ ((lo+hi) / 2))))) fz0 (nx+8) (by omega) (by rw [y00 (by omega)];exact o0) (by rw [y00 (by omega)];exact o15) (by rw [y00 (by omega)];exact o16)
 have g:∀id,id<25→ob' id=ob id:=fun id hid=>by rw [e3 id (by omega),y00 (by omega)]
 have g13:ob' (nx+6)=some (.box (qC (natQ ((lo+hi) / 2)))):=by rw [e3 _ (by omega),upd_same]
 have q10:=(g 10 (by decide)).trans o10
 have q21:=(g 21 (by decide)).trans o21
 have q22:=(g 22 (by decide)).trans o22
 have x10:(nx+6=10)=False:=by simp;omega
 have x10':(10=nx+6)=False:=by simp;omega
 have x21':(21=nx+6)=False:=by simp;omega
 have x22':(22=nx+6)=False:=by simp;omega
 have u8:(nx+6<nx+8)=True:=by simp
 have u10':(10<nx+8)=True:=by simp;omega
 have lsub:=lq.sub
 have lput:=lq.put (natQ ((lo+hi) / 2))
 have vx:(nx+6<nx')=True:=by simp;omega
 have ug:upd ob (nx+6) (.box (qC (natQ ((lo+hi) / 2)))) 10=ob 10:=y00 (by omega)
 have keep:∀(id:Nat) (x:AObj),FastB ob' l h m s d room lo hi lc:=fun _ _=>⟨(g 0 (by decide)).trans o0,(g 2 (by decide)).trans o2,q10,(g 15 (by decide)).trans o15,(g 16 (by decide)).trans o16,q21,q22,lq⟩
 by_cases hw:wayQ m s d (natQ ((lo+hi) / 2))≤room
 ·have hc:(cmpQ (wayQ m s d (natQ ((lo+hi) / 2))) room≤0)=True:=by rw [y72,eq_iff_iff,iff_true];exact hw
  refine ⟨upd ob' 21 (.box (qC (natQ ((lo+hi) / 2)))),nx', ?_,by omega, ?_⟩
  ·unfold fastS
   simp only [go_sem,Fn.y33,o10,o15,o21,o22,u10,u15,u21,u22,↓lsub,h3,h4,h5,h6,h7,h8,hg,x10,x10',x21',x22',u8,u10',ug,e1,q10,h2,hc,g13,q21,↓lput,vx]
  ·rw [if_pos hw]
   refine ⟨?_, ?_, ?_, ?_, ?_, ?_, ?_,.of _⟩
   ·rw [y00 (by decide)];exact (g 0 (by decide)).trans o0
   ·rw [y00 (by decide)];exact (g 2 (by decide)).trans o2
   ·rw [y00 (by decide)];exact q10
   ·rw [y00 (by decide)];exact (g 15 (by decide)).trans o15
   ·rw [y00 (by decide)];exact (g 16 (by decide)).trans o16
   ·rw [upd_same]
   ·rw [y00 (by decide)];exact q22
 ·have hc:(cmpQ (wayQ m s d (natQ ((lo+hi) / 2))) room≤0)=False:=by rw [y72,eq_iff_iff,iff_false];exact hw
  refine ⟨upd ob' 22 (.box (qC (natQ ((lo+hi) / 2)))),nx', ?_,by omega, ?_⟩
  ·unfold fastS
   simp only [go_sem,Fn.y33,o10,o15,o21,o22,u10,u15,u21,u22,↓lsub,h3,h4,h5,h6,h7,h8,hg,x10,x10',x21',x22',u8,u10',ug,e1,q10,h2,hc,g13,q22,vx]
  ·rw [if_neg hw]
   refine ⟨?_, ?_, ?_, ?_, ?_, ?_, ?_,lq⟩
   ·rw [y00 (by decide)];exact (g 0 (by decide)).trans o0
   ·rw [y00 (by decide)];exact (g 2 (by decide)).trans o2
   ·rw [y00 (by decide)];exact q10
   ·rw [y00 (by decide)];exact (g 15 (by decide)).trans o15
   ·rw [y00 (by decide)];exact (g 16 (by decide)).trans o16
   ·rw [y00 (by decide)];exact q21
   ·rw [upd_same]
theorem yue {lo hi:Nat} {lc:List AV} (hhi:hi<2^(T+1)) (hgap:hi-lo=1):
  ∃N,∀n,N≤n→∀(ob:Nat→Option AObj) (nx:Nat) (X:List (Nat×SV)),25≤nx→FastB ob l h m s d room lo hi lc→
   ∃X',evC (evF E n) n Fn.y33 ⟨env (fastS X),ob,fz0,nx⟩=some (.ext 2,⟨env (fastS X'),ob,fz0,nx⟩):=by
 obtain ⟨hx,-⟩:=y96 m s d room hm hs hd hr hS hT (n:=hi) hhi
 obtain ⟨hl,-⟩:=y96 m s d room hm hs hd hr hS hT (n:=lo) (by omega)
 have hdiff:SmQ (T+1) (natQ (hi-lo)):=y7q (by omega)
 obtain ⟨N3,h3⟩:=cSub (natQ hi) (natQ lo) hx hl (by omega)
 rw [yn7 (by omega)] at h3
 obtain ⟨N4,h4⟩:=cCmp (natQ (hi-lo)) (Rat.ofInt 1) hdiff smQ_one (by omega)
 refine ⟨N3+N4,fun n hn ob nx X hnx B=> ?_⟩
 obtain ⟨o0,o2,o10,o15,o16,o21,o22,lq⟩:=B
 have h3:∀ob fz,callV (evF E n) Id.y1f [.agg (qC (natQ hi)),.agg lc] ob fz=some (.fzd fz (.agg (qC (natQ (hi-lo))))):=fun ob fz=>by rw [yai (.of _) lq];exact h3 n (by omega) ob fz
 have h4:=h4 n (by omega)
 have hg:(cmpQ (natQ (hi-lo)) (Rat.ofInt 1)>0)=False:=by
  rw [yfn,hgap,eq_iff_iff,iff_false]
  exact Rat.lt_irrefl
 have u15:(15<nx)=True:=by simp;omega
 have u21:(21<nx)=True:=by simp;omega
 have u22:(22<nx)=True:=by simp;omega
 have lsub:=lq.sub
 refine ⟨[(46,.one (.bool false))], ?_⟩
 unfold fastS
 simp only [go_sem,Fn.y33,o15,o21,o22,u15,u21,u22,↓lsub,h3,h4,hg]
theorem yjx:∀(j lo hi:Nat),hi-lo≤j→lo<hi→hi<2^(T+1)→wayQ m s d (natQ lo)≤room→room<wayQ m s d (natQ hi)→
  ∃lo',lo'<2^(T+1)∧wayQ m s d (natQ lo')≤room∧room<wayQ m s d (natQ (lo'+1))∧∀(lc:List AV),∃N,∀n,N≤n→∀(ob:Nat→Option AObj) (nx:Nat) (X:List (Nat×SV)),25≤nx→FastB ob l h m s d room lo hi lc→∀M,j<M→
   ∃ob' nx' X' lc',loopN (evC (evF E n) n Fn.y33) M ⟨env (fastS X),ob,fz0,nx⟩=some (.ext 2,⟨env (fastS X'),ob',fz0,nx'⟩)∧nx≤nx'∧FastB ob' l h m s d room lo' (lo'+1) lc'
 | 0,lo,hi,hj,hlo,hhi,w1,w2=>by omega
 | j+1,lo,hi,hj,hlo,hhi,w1,w2=>by
  by_cases hg:1<hi-lo
  ·by_cases hw:wayQ m s d (natQ ((lo+hi) / 2))≤room
   ·obtain ⟨lo',f1,f2,f3,hN2⟩:=yjx j ((lo+hi) / 2) hi (by omega) (by omega) hhi hw w2
    refine ⟨lo',f1,f2,f3,fun lc=> ?_⟩
    obtain ⟨N,hN⟩:=yl3 l h m s d room hm hs hd hr hS hT (lo:=lo) (hi:=hi) (lc:=lc) hhi hg
    obtain ⟨N2,hN2⟩:=hN2 (qC (natQ ((lo+hi) / 2)))
    refine ⟨N+N2,fun n hn ob nx X hnx B M hM=> ?_⟩
    obtain ⟨M,rfl⟩:∃k,M=k+1:=⟨M-1,by omega⟩
    obtain ⟨ob',nx',e1,e2,e3⟩:=hN n (by omega) ob nx X hnx B
    rw [if_pos hw] at e3
    obtain ⟨ob2,nx2,X2,lc2,g1,g2,g3⟩:=hN2 n (by omega) ob' nx' [] (by omega) e3 M (by omega)
    exact ⟨ob2,nx2,X2,lc2,by rw [y07 e1];exact g1,by omega,g3⟩
   ·obtain ⟨lo',f1,f2,f3,hN2⟩:=yjx j lo ((lo+hi) / 2) (by omega) (by omega) (by omega) w1 (Rat.not_le.1 hw)
    refine ⟨lo',f1,f2,f3,fun lc=> ?_⟩
    obtain ⟨N,hN⟩:=yl3 l h m s d room hm hs hd hr hS hT (lo:=lo) (hi:=hi) (lc:=lc) hhi hg
    obtain ⟨N2,hN2⟩:=hN2 lc
    refine ⟨N+N2,fun n hn ob nx X hnx B M hM=> ?_⟩
    obtain ⟨M,rfl⟩:∃k,M=k+1:=⟨M-1,by omega⟩
    obtain ⟨ob',nx',e1,e2,e3⟩:=hN n (by omega) ob nx X hnx B
    rw [if_neg hw] at e3
    obtain ⟨ob2,nx2,X2,lc2,g1,g2,g3⟩:=hN2 n (by omega) ob' nx' [] (by omega) e3 M (by omega)
    exact ⟨ob2,nx2,X2,lc2,by rw [y07 e1];exact g1,by omega,g3⟩
  ·have e:hi=lo+1:=by omega
   subst e
   refine ⟨lo,by omega,w1,w2,fun lc=> ?_⟩
   obtain ⟨N,hN⟩:=yue l h m s d room hm hs hd hr hS hT (lo:=lo) (hi:=lo+1) (lc:=lc) hhi (by omega)
   refine ⟨N,fun n hn ob nx X hnx B M hM=> ?_⟩
   obtain ⟨M,rfl⟩:∃k,M=k+1:=⟨M-1,by omega⟩
   obtain ⟨X',e1⟩:=hN n hn ob nx X hnx B
   exact ⟨ob,nx,X',lc,y06 e1,Nat.le_refl _,B⟩
end
end Go.Ev
namespace Go.Ev
open Go.Dig
theorem ynw (n:Rat):triQ (n+1)=triQ n+(n+1):=by
 have h0:=y74 n
 have h1:=y74 (n+1)
 grind
def wayS (b v:Rat) (i:Nat):Rat:=(i:Rat)*v-b*triQ (i:Rat)
def leftS (b v:Rat) (i:Nat):Rat:=v-((i:Rat)+1)*b
theorem yku (b v:Rat):wayS b v 0=0:=by
 unfold wayS
 have z:triQ ((0:Nat):Rat)=0:=y9w
 have z0:((0:Nat):Rat)=0:=rfl
 rw [z,z0];grind
theorem ysp (b v:Rat):leftS b v 0=v-b:=by
 unfold leftS
 have z0:((0:Nat):Rat)=0:=rfl
 rw [z0];grind
theorem yu2 (b v:Rat) (i:Nat):wayS b v i+leftS b v i=wayS b v (i+1):=by
 unfold wayS leftS
 have e:(((i+1:Nat)):Rat)=(i:Rat)+1:=Rat.natCast_add i 1
 rw [e,ynw];grind
theorem yrs (b v:Rat) (i:Nat):leftS b v i-b=leftS b v (i+1):=by
 unfold leftS
 have e:(((i+1:Nat)):Rat)=(i:Rat)+1:=Rat.natCast_add i 1
 rw [e];grind
theorem natS {i:Nat} (h:i<2^10):SmQ 10 ((i:Nat):Rat):=y7q (S:=9) h
theorem ykv {b v:Rat} {i S:Nat} (hb:SmQ (S+S) b) (hv:SmQ S v) (hi:i<2^10):SmQ (3*S+60) (wayS b v i):=by
 unfold wayS
 exact (((natS hi).mul hv).sub (hb.mul (y76 (natS hi)))).mono (by omega)
theorem y9n {b v:Rat} {i S:Nat} (hb:SmQ (S+S) b) (hv:SmQ S v) (hi:i+1<2^10):SmQ (3*S+60) (leftS b v i):=by
 unfold leftS
 have e:(i:Rat)+1=(((i+1:Nat)):Rat):=(Rat.natCast_add i 1).symm
 rw [e]
 exact (hv.sub ((natS hi).mul hb)).mono (by omega)
structure StpR (ob:Nat→Option AObj) (l h m s:Rat) (b w way:Rat) (p:Nat) (wc:List AV):Prop where
 o0:ob 0=some (.box (rC l++(rC h++(rC m++rC s))))
 o2:ob 2=some (.box [.bool false,.nils,.bool false,.nils])
 o3:ob 3=some (.box wc)
 o9:ob 9=some (.box (rC b))
 op:ob p=some (.box (rC w))
 rw:RW way wc
def stpRS (p:Nat) (X:List (Nat×SV)):List (Nat×SV):=(2,.one (.box 0 0))::(4,.one (.box 2 0))::(5,.one (.box 3 0))::(6,.one (.box 9 0))::(7,.one (.box p 0))::X
theorem RW.put4 {q:Rat} {c:List AV} (h:RW q c) (x:Rat):Ev.put c 0 (rC x)=some (rC x):=by
 obtain ⟨a,b,d,e,rfl⟩:=h.cells4
 exact yo2 a b d e x
theorem RW.sub4 {q:Rat} {c:List AV} (h:RW q c):Ev.sub c 0 4=some c:=by
 obtain ⟨a,b,d,e,rfl⟩:=h.cells4
 rfl
set_option maxRecDepth 100000 in
theorem ysf (l h m s b v:Rat) {S:Nat} (hb:SmQ (S+S) b) (hv:SmQ S v) (hS:S<2^20) (b0:0<b):∀(j i:Nat),v≤((i+j+1:Nat):Rat)*b→i+j<1000→(i:Rat)*b≤v→∃k:Nat,((k:Nat):Rat)*b≤v∧v≤(((k:Nat):Rat)+1)*b∧k<1001∧∀wc,RW (wayS b v i) wc→∃N,∀n,N≤n→∀(ob:Nat→Option AObj) (fz:Nat→Nat) (nx p:Nat) (X:List (Nat×SV)),10≤p→p<nx→StpR ob l h m s b (leftS b v i) (wayS b v i) p wc→∀M,j+1<M→
   ∃ob' nx' p' X' wc',loopN (evC (evF E n) n Fn.y51) M ⟨env (stpRS p X),ob,fz,nx⟩=some (.ext 0,⟨env (stpRS p' X'),ob',fz,nx'⟩)∧StpR ob' l h m s b (leftS b v k) (wayS b v k) p' wc':=by
 intro j
 induction j with
 | zero=>
  intro i hj hij hi
  have e:(((i+0+1:Nat)):Rat)=(i:Rat)+1:=Rat.natCast_add i 1
  rw [e] at hj
  refine ⟨i,hi,hj,by omega,fun wc hw=> ?_⟩
  obtain ⟨N1,k1⟩:=y6y (RW.self (leftS b v i)) (y9n hb hv (by omega)) (by omega)
  refine ⟨N1,fun n hn ob fz nx p X hp hpn B M hM=> ?_⟩
  obtain ⟨M,rfl⟩:∃q,M=q+1:=⟨M-1,by omega⟩
  have k1:=k1 n (by omega)
  have c1:(signI (leftS b v i).num>0)=False:=by
   rw [yd2,eq_iff_iff,iff_false]
   unfold leftS;grind
  have B':=B
  obtain ⟨o0,o2,o3,o9,op,rw⟩:=B
  refine ⟨ob,nx,p,[(18,.one (.bool false))],wc,y06 ?_,B'⟩
  unfold stpRS
  simp only [go_sem,Fn.y51,op,k1,c1]
 | succ j ih=>
  intro i hj hij hi
  by_cases c:0<leftS b v i
  ·have hi':(((i+1:Nat)):Rat)*b≤v:=by
    have e:(((i+1:Nat)):Rat)=(i:Rat)+1:=Rat.natCast_add i 1
    rw [e]
    unfold leftS at c;grind
   obtain ⟨k,h1,h2,h3,h4⟩:=ih (i+1) (by rw [show i+1+j+1=i+(j+1)+1 by omega];exact hj) (by omega) hi'
   refine ⟨k,h1,h2,h3,fun wc hw=> ?_⟩
   obtain ⟨N1,k1⟩:=y6y (RW.self (leftS b v i)) (y9n hb hv (by omega)) (by omega)
   obtain ⟨N2,k2⟩:=y7v hw (RW.self (leftS b v i)) (ykv hb hv (by omega)) (y9n hb hv (by omega)) (by omega)
   rw [yu2] at k2
   obtain ⟨N3,k3⟩:=y8m (RW.self (leftS b v i)) (RW.self b) (y9n hb hv (by omega)) hb (by omega)
   rw [yrs] at k3
   obtain ⟨N4,k4⟩:=h4 (rC (wayS b v (i+1))) (.self _)
   refine ⟨N1+N2+N3+N4,fun n hn ob fz nx p X hp hpn B M hM=> ?_⟩
   obtain ⟨M,rfl⟩:∃q,M=q+1:=⟨M-1,by omega⟩
   have k1:=k1 n (by omega)
   have k2:=k2 n (by omega)
   have k3:=k3 n (by omega)
   have c1:(signI (leftS b v i).num>0)=True:=by rw [yd2,eq_iff_iff,iff_true];exact c
   obtain ⟨o0,o2,o3,o9,op,rw⟩:=B
   have ls:=rw.sub4
   have lp:=rw.put4 (wayS b v (i+1))
   have p3:(p=3)=False:=by simp only [eq_iff_iff,iff_false];omega
   have p3':(3=p)=False:=by simp only [eq_iff_iff,iff_false];omega
   have n9:(9=nx)=False:=by simp only [eq_iff_iff,iff_false];omega
   have n3:(3=nx)=False:=by simp only [eq_iff_iff,iff_false];omega
   have n9':(nx=9)=False:=by simp only [eq_iff_iff,iff_false];omega
   have n3':(nx=3)=False:=by simp only [eq_iff_iff,iff_false];omega
   obtain ⟨r,hr0⟩:∃r,evC (evF E n) n Fn.y51 ⟨env (stpRS p X),ob,fz,nx⟩=r:=⟨_,rfl⟩
   have hr:=hr0
   unfold stpRS at hr
   simp only [go_sem,Fn.y51,o3,o9,op,k1,k2,k3,c1,↓ls,↓lp,p3,p3',n9,n3,n9',n3'] at hr
   have hst:=hr0.trans hr.symm
   have hB:∀ob2:Nat→Option AObj,ob2 0=ob 0→ob2 2=ob 2→ob2 3=some (.box (rC (wayS b v (i+1))))→ob2 9=ob 9→ob2 nx=some (.box (rC (leftS b v (i+1))))→StpR ob2 l h m s b (leftS b v (i+1)) (wayS b v (i+1)) nx (rC (wayS b v (i+1))):=fun ob2 q0 q2 q3 q9 qn=>⟨q0.trans o0,q2.trans o2,q3,q9.trans o9,qn,.self _⟩
   rw [y07 hst]
   refine k4 n (by omega) _ fz _ nx [] (by omega) (by omega) (hB _ ?_ ?_ ?_ ?_ ?_) M (by omega)
   ·repeat rw [y00 (by omega)]
   ·repeat rw [y00 (by omega)]
   ·repeat first | rw [upd_same] | rw [y00 (by omega)]
   ·repeat rw [y00 (by omega)]
   ·repeat first | rw [upd_same] | rw [y00 (by omega)]
  ·refine ⟨i,hi,by unfold leftS at c;grind,by omega,fun wc hw=> ?_⟩
   obtain ⟨N1,k1⟩:=y6y (RW.self (leftS b v i)) (y9n hb hv (by omega)) (by omega)
   refine ⟨N1,fun n hn ob fz nx p X hp hpn B M hM=> ?_⟩
   obtain ⟨M,rfl⟩:∃q,M=q+1:=⟨M-1,by omega⟩
   have k1:=k1 n (by omega)
   have c1:(signI (leftS b v i).num>0)=False:=by rw [yd2,eq_iff_iff,iff_false];exact c
   have B':=B
   obtain ⟨o0,o2,o3,o9,op,rw⟩:=B
   refine ⟨ob,nx,p,[(18,.one (.bool false))],wc,y06 ?_,B'⟩
   unfold stpRS
   simp only [go_sem,Fn.y51,op,k1,c1]
theorem y7x (l h m s:Rat):CanS (.agg (rC l++(rC h++(rC m++rC s)))):=yqu l h m s
theorem yi7 (l h m s v:Rat) {S:Nat} (hm:SmQ S m) (hs:SmQ S s) (hv:SmQ S v) (hS:S<2^20) (s0:0<s) (m0:0<m) (v0:0≤v) (vb:v≤((900:Nat):Rat)*(s*m)) {cv:List AV} (hq:RQ v cv):
  Ends Id.y1h [.agg (rC l++(rC h++(rC m++rC s))),.agg cv] (.agg (rC (stopQ m s v))):=by
 have b0:0<s*m:=Rat.mul_pos s0 m0
 have hb:=hs.mul hm
 obtain ⟨k,q1,q2,q3,q4⟩:=ysf l h m s (s*m) v hb hv hS b0 899 0 (by rw [show 0+899+1=900 from rfl];exact vb) (by omega) (by rw [show ((0:Nat):Rat)=0 from rfl,Rat.zero_mul];exact v0)
 obtain ⟨N1,k1⟩:=y5t (RW.self s) (RW.self m) hs hm (by omega)
 obtain ⟨N2,k2⟩:=y8m hq.w (RW.self (s*m)) hv hb (by omega)
 rw [←ysp] at k2
 obtain ⟨N3,k3⟩:=q4 [.bool false,.nils,.bool false,.nils] (by rw [yku];exact .zero)
 have e:stopQ m s v=s*wayS (s*m) v k:=by
  unfold wayS
  rw [yov s0 m0 (k:Int) q1 q2];rfl
 obtain ⟨N4,k4⟩:∃N,∀wc,RW (wayS (s*m) v k) wc→∀n,N≤n→∀(ob:Nat→Option AObj) (fz:Nat→Nat),callV (evF E n) Id.y09 [.agg (rC s),.agg wc] ob fz=some (.fzd fz (.agg (rC (s*wayS (s*m) v k)))):=by
  obtain ⟨N,hN⟩:=ynn S (3*S+60) (by omega)
  exact ⟨N,fun wc hw=>hN s _ (rC s) wc (.self _) hw hs (ykv hb hv (by omega))⟩
 rw [e]
 refine .of (N1+N2+N3+N4+1000) fun {n} hn=> ?_
 have k1:=k1 n (by omega)
 have k2:=k2 n (by omega)
 have key:∀(ob:Nat→Option AObj),StpR ob l h m s (s*m) (leftS (s*m) v 0) (wayS (s*m) v 0) 14 [.bool false,.nils,.bool false,.nils]→finV [.cell 4 true 4] (thenC (evF E n) n (tailAt 4 Fn.y1h.code) (blkC 0 (loopN (evC (evF E n) n Fn.y51) n ⟨env (stpRS 14 []),ob,fz0,16⟩)))=some (.agg (rC (s*wayS (s*m) v k))):=by
  intro ob B
  obtain ⟨ob',nx',p',X',wc',f1,f2⟩:=k3 n (by omega) ob fz0 16 14 [] (by decide) (by decide) B n (by omega)
  obtain ⟨o0,o2,o3,o9,op,rw⟩:=f2
  have k4:=k4 wc' rw n (by omega)
  have ls:=rw.sub4
  rw [f1,y7c,if_pos rfl,y4u]
  unfold stpRS
  simp only [go_sem,tailAt,Fn.y1h,o0,o2,o3,↓ls,k4]
 rw [y03 yg4,show Fn.y1h.code=cutAt 4 Fn.y1h.code (tailAt 4 Fn.y1h.code) from rfl]
 generalize tailAt 4 Fn.y1h.code=T' at key ⊢
 unfold stpRS at key
 have lc:=hq.w.sub4
 simp only [go_sem,cutAt,Fn.y1h,k1,k2,↓lc]
 refine key _ ⟨rfl,rfl,rfl,rfl,rfl,by rw [yku];exact .zero⟩
end Go.Ev
namespace Go.Ev
open Go.Dig
theorem triN (n:Nat):natQ (n*(n+1) / 2)=triQ (n:Rat):=by
 have h0:=y74 (n:Rat)
 have hm:n*(n+1)%2=0:=by
  rcases Nat.mod_two_eq_zero_or_one n with h | h
  ·rw [Nat.mul_mod,h,Nat.zero_mul]
  ·rw [Nat.mul_mod,Nat.add_mod,h]
 have h1:n*(n+1) / 2*2=n*(n+1):=by
  generalize n*(n+1)=t at*
  omega
 have h2:((n*(n+1) / 2*2:Nat):Rat)=((n*(n+1):Nat):Rat):=by rw [h1]
 rw [Rat.natCast_mul,Rat.natCast_mul,Rat.natCast_add] at h2
 rw [y8e]
 have e2:((2:Nat):Rat)=2:=rfl
 have e1:((1:Nat):Rat)=1:=rfl
 rw [e2,e1] at h2
 generalize ((n*(n+1) / 2:Nat):Rat)=x at*
 grind
def fstQ (room B:Rat) (d n:Nat):Rat:=(room+B*triQ (n:Rat)) / natQ (1+d+n)
theorem natD (d n:Nat):natQ (1+d+n)=1+((d:Nat):Int)+(n:Rat):=by
 rw [y8e,Rat.natCast_add,Rat.natCast_add];rfl
theorem yoj (d n:Nat):0<natQ (1+d+n):=Rat.natCast_pos.2 (by omega)
theorem yp7 (room B:Rat) (d n:Nat):fstQ room B d n*(1+((d:Nat):Int)+(n:Rat))=room+B*triQ (n:Rat):=by
 unfold fstQ
 rw [←natD]
 exact Rat.div_mul_cancel (by have:=yoj d n;grind)
theorem yv1 {m s h p:Rat} {d n:Nat} (hs:0<s) (hm:0<m) (c:¬fstQ ((h-p) / s) (s*m) d n≤s*m*natQ (n+1)):wayQ m s (((d:Nat):Int):Rat) ((n+1:Nat):Rat)≤(h-p) / s:=by
 have hB:0<s*m:=Rat.mul_pos hs hm
 have e:=yp7 ((h-p) / s) (s*m) d n
 have en:(((n+1:Nat)):Rat)=(n:Rat)+1:=Rat.natCast_add n 1
 rw [y8e,en] at c
 have wt:=yqy (B:=s*m) (D:=(((d:Nat):Int):Rat)) (y74 (n:Rat))
 have o1:Rat.ofInt 1=1:=rfl
 have w0:wayQ m s (((d:Nat):Int):Rat) ((n:Rat)+1)=s*m*(((n:Rat)+1)*(((d:Nat):Int):Rat)+(triQ (n:Rat)+(n:Rat)+1)):=by
  unfold wayQ;rw [o1,ynw];grind
 rw [en,w0,wt]
 have hn0:(0:Rat)≤(n:Rat):=Rat.natCast_nonneg
 have hd0:(0:Rat)≤(((d:Nat):Int):Rat):=Rat.intCast_nonneg.2 (by omega)
 have h3:=Rat.mul_lt_mul_of_pos_right (Rat.not_le.1 c) (c:=1+(((d:Nat):Int):Rat)+(n:Rat)) (by grind)
 rw [e] at h3
 grind
structure FstB (ob:Nat→Option AObj) (room B:Rat):Prop where
 o2:ob 2=some (.box [.bool false,.nils,.bool false,.nils])
 o10:ob 10=some (.box (rC room))
 o17:ob 17=some (.box (rC B))
def fstS (d n:Nat) (X:List (Nat×SV)):List (Nat×SV):=(2,.one (.int .i64 (d:Int)))::(6,.one (.box 2 0))::(7,.one (.box 10 0))::(8,.one (.box 17 0))::(9,.one (.int .i64 (n:Int)))::X
set_option maxRecDepth 100000 in
theorem yyq (m s h p:Rat) (d:Nat) (hd:d≤16) {S:Nat} (sr:SmQ (3*S+1) ((h-p) / s)) (sB:SmQ (S+S) (s*m)) (hS:S<2^20) (hs:0<s) (hm:0<m) (r0:0≤(h-p) / s) (rb:(h-p) / s≤((400:Nat):Rat)*(s*m)):∀(j n:Nat),n+j=40→(n=0∨wayQ m s (((d:Nat):Int):Rat) (n:Rat)≤(h-p) / s)→
  ∃N,∀q,N≤q→∀(ob:Nat→Option AObj) (fz:Nat→Nat) (nx:Nat) (X:List (Nat×SV)),19≤nx→FstB ob ((h-p) / s) (s*m)→∀M,j<M→
   ∃L' ob' nx',loopN (evC (evF E q) q Fn.y42) M ⟨env (fstS d n X),ob,fz,nx⟩=some (.ret,⟨env L',ob',fz,nx'⟩)∧env L' 6=.one (.box 2 0)∧ob' 2=some (.box (rC (fastQ h m s p (d:Int)))):=by
 intro j
 induction j with
 | zero=>
  intro n hn hw
  exfalso
  have hB:0<s*m:=Rat.mul_pos hs hm
  have e40:n=40:=by omega
  subst e40
  rcases hw with hw | hw
  ·omega
  ·unfold wayQ at hw
   have o1:Rat.ofInt 1=1:=rfl
   have t40:triQ ((40:Nat):Rat)=820:=by rw [←triN];rfl
   rw [o1,t40] at hw
   have hd0:(0:Rat)≤(((d:Nat):Int):Rat):=Rat.intCast_nonneg.2 (by omega)
   have e4:(((40:Nat)):Rat)=40:=rfl
   have e400:(((400:Nat)):Rat)=400:=rfl
   rw [e4] at hw
   rw [e400] at rb
   have p1:0≤s*m*(((d:Nat):Int):Rat):=Rat.mul_nonneg (Rat.le_of_lt hB) hd0
   grind
 | succ j ih=>
  intro n hn hw
  have sn:SmQ 10 (natQ n):=y7q (S:=9) (by omega)
  have sn1:SmQ 10 (natQ (n+1)):=y7q (S:=9) (by omega)
  have sd:SmQ 10 (natQ (1+d+n)):=y7q (S:=9) (by omega)
  have st:SmQ 25 (triQ (n:Rat)):=(y76 (n:=(n:Rat)) sn).mono (by omega)
  have hle:n*(n+1)≤40*41:=Nat.mul_le_mul (by omega) (by omega)
  obtain ⟨N1,k1⟩:=ya8 ((n*(n+1) / 2:Nat):Int) (by omega) (by omega)
  have e1:Rat.ofInt ((n*(n+1) / 2:Nat):Int)=triQ (n:Rat):=triN n
  rw [e1] at k1
  obtain ⟨N2,k2⟩:=y5t (RW.self (s*m)) (RW.self (triQ (n:Rat))) sB st (by omega)
  obtain ⟨N3,k3⟩:=y7v (RW.self ((h-p) / s)) (RW.self (s*m*triQ (n:Rat))) sr (sB.mul st) (by omega)
  obtain ⟨N4,k4⟩:=ya8 ((1+d+n:Nat):Int) (by omega) (by omega)
  have e4:Rat.ofInt ((1+d+n:Nat):Int)=natQ (1+d+n):=rfl
  rw [e4] at k4
  have hne:(natQ (1+d+n)).num≠0:=by rw [Ne,y9q];have:=yoj d n;grind
  obtain ⟨N5,k5⟩:=ybw hne (RW.self ((h-p) / s+s*m*triQ (n:Rat))) (RW.self (natQ (1+d+n))) (sr.add (sB.mul st)) sd (by omega)
  have sw:=SmQ.div hne (sr.add (sB.mul st)) sd
  obtain ⟨N6,k6⟩:=ya8 ((n+1:Nat):Int) (by omega) (by omega)
  have e6:Rat.ofInt ((n+1:Nat):Int)=natQ (n+1):=rfl
  rw [e6] at k6
  obtain ⟨N7,k7⟩:=y5t (RW.self (s*m)) (RW.self (natQ (n+1))) sB sn1 (by omega)
  obtain ⟨N8,k8⟩:=y6f (RW.self (((h-p) / s+s*m*triQ (n:Rat)) / natQ (1+d+n))) (RW.self (s*m*natQ (n+1))) sw (sB.mul sn1) (by omega)
  have ef:((h-p) / s+s*m*triQ (n:Rat)) / natQ (1+d+n)=fstQ ((h-p) / s) (s*m) d n:=rfl
  rw [ef] at k5 k8
  have w2:IntKind.i64.wrap (((n:Nat):Int)*((n+1:Nat):Int))=((n*(n+1):Nat):Int):=by
   rw [←Int.natCast_mul];exact wi64 (by omega)
  have w3:IntKind.i64.wrap (((n*(n+1):Nat):Int).tdiv 2)=((n*(n+1) / 2:Nat):Int):=by
   rw [show ((2:Int))=((2:Nat):Int) from rfl,←Int.ofNat_tdiv];exact wi64 (by omega)
  have h20:((2:Int)=0)=False:=by simp
  have w4:IntKind.i64.wrap (1+((d:Nat):Int))=((1+d:Nat):Int):=by rw [wrap_i64 (by omega)];omega
  have w5:IntKind.i64.wrap (((1+d:Nat):Int)+((n:Nat):Int))=((1+d+n:Nat):Int):=by rw [wrap_i64 (by omega)];omega
  have wk:IntKind.i64.wrap ((n+1:Nat):Int)=((n+1:Nat):Int):=wi64 (by omega)
  have run:∀(t:Bool),t=decide (fstQ ((h-p) / s) (s*m) d n≤s*m*natQ (n+1))→∀q,N1+N2+N3+N4+N5+N6+N7+N8≤q→∀(ob:Nat→Option AObj) (fz:Nat→Nat) (nx:Nat) (X:List (Nat×SV)),19≤nx→FstB ob ((h-p) / s) (s*m)→
    (t=true→∃L' ob',evC (evF E q) q Fn.y42 ⟨env (fstS d n X),ob,fz,nx⟩=some (.ret,⟨env L',ob',fz,nx+18⟩)∧env L' 6=.one (.box 2 0)∧ob' 2=some (.box (rC (fstQ ((h-p) / s) (s*m) d n))))∧
    (t=false→∃ob',evC (evF E q) q Fn.y42 ⟨env (fstS d n X),ob,fz,nx⟩=some (.nrm,⟨env (fstS d (n+1) []),ob',fz,nx+18⟩)∧FstB ob' ((h-p) / s) (s*m)):=by
   intro t ht q hq ob fz nx X hnx B
   have k1:=k1 q (by omega)
   have k2:=k2 q (by omega)
   have k3:=k3 q (by omega)
   have k4:=k4 q (by omega)
   have k5:=k5 q (by omega)
   have k6:=k6 q (by omega)
   have k7:=k7 q (by omega)
   have k8:=k8 q (by omega)
   obtain ⟨o2,o10,o17⟩:=B
   have g2:∀c:Nat,(2=nx+c)=False:=fun c=>by simp only [eq_iff_iff,iff_false];omega
   have g10:∀c:Nat,(10=nx+c)=False:=fun c=>by simp only [eq_iff_iff,iff_false];omega
   have g17:∀c:Nat,(17=nx+c)=False:=fun c=>by simp only [eq_iff_iff,iff_false];omega
   have l10:(10<nx)=True:=by simp only [eq_iff_iff,iff_true];omega
   have l17:(17<nx)=True:=by simp only [eq_iff_iff,iff_true];omega
   have l10':(10<nx+18)=True:=by simp only [eq_iff_iff,iff_true];omega
   have l17':(17<nx+18)=True:=by simp only [eq_iff_iff,iff_true];omega
   have l16:(nx+16<nx+18)=True:=by simp only [eq_iff_iff,iff_true];omega
   have n2:(nx+16=2)=False:=by simp only [eq_iff_iff,iff_false];omega
   obtain ⟨r,hr0⟩:∃r,evC (evF E q) q Fn.y42 ⟨env (fstS d n X),ob,fz,nx⟩=r:=⟨_,rfl⟩
   have hr:=hr0
   unfold fstS at hr
   constructor
   ·intro e
    rw [e] at ht
    have c1:(cmpQ (fstQ ((h-p) / s) (s*m) d n) (s*m*natQ (n+1))≤0)=True:=by rw [y72,eq_iff_iff,iff_true];exact of_decide_eq_true ht.symm
    simp only [go_sem,Fn.y42,o2,o10,o17,k1,k2,k3,k4,k5,k6,k7,k8,w2,w3,h20,w4,w5,wk,add1,c1,g2,g10,g17,l10,l17,l10',l17',l16,n2] at hr
    exact ⟨_,_,hr0.trans hr.symm,rfl,by first | exact upd_same _ _ _⟩
   ·intro e
    rw [e] at ht
    have c1:(cmpQ (fstQ ((h-p) / s) (s*m) d n) (s*m*natQ (n+1))≤0)=False:=by rw [y72,eq_iff_iff,iff_false];exact of_decide_eq_false ht.symm
    simp only [go_sem,Fn.y42,o2,o10,o17,k1,k2,k3,k4,k5,k6,k7,k8,w2,w3,h20,w4,w5,wk,add1,c1,g2,g10,g17,l10,l17,l10',l17',l16,n2] at hr
    refine ⟨_,hr0.trans hr.symm,⟨?_, ?_, ?_⟩⟩
    ·rw [y00 (by omega)];exact o2
    ·rw [y00 (by omega)];exact o10
    ·rw [y00 (by omega)];exact o17
  by_cases c:fstQ ((h-p) / s) (s*m) d n≤s*m*natQ (n+1)
  ·have en:(((n+1:Nat)):Rat)=(n:Rat)+1:=Rat.natCast_add n 1
   have ok:=y10n (h:=h) (m:=m) (s:=s) (p:=p) (d:=(d:Int)) hs hm (by omega) n r0 (yp7 _ _ d n) (by rw [y8e,en] at c;exact c) hw
   refine ⟨N1+N2+N3+N4+N5+N6+N7+N8,fun q hq ob fz nx X hnx B M hM=> ?_⟩
   obtain ⟨M,rfl⟩:∃z,M=z+1:=⟨M-1,by omega⟩
   obtain ⟨L',ob',f1,f2,f3⟩:=(run true (decide_eq_true c).symm q hq ob fz nx X hnx B).1 rfl
   exact ⟨L',ob',_,y8h f1,f2,by rw [←ok];exact f3⟩
  ·obtain ⟨N9,k9⟩:=ih (n+1) (by omega) (.inr (yv1 hs hm c))
   refine ⟨N1+N2+N3+N4+N5+N6+N7+N8+N9,fun q hq ob fz nx X hnx B M hM=> ?_⟩
   obtain ⟨M,rfl⟩:∃z,M=z+1:=⟨M-1,by omega⟩
   obtain ⟨ob',f1,f2⟩:=(run false (decide_eq_false c).symm q (by omega) ob fz nx X hnx B).2 rfl
   rw [y07 f1]
   exact k9 q (by omega) ob' fz (nx+18) [] (by omega) f2 M (by omega)
set_option maxRecDepth 100000 in
theorem ys7 (l h m s p:Rat) (d:Nat) (hd:d≤16) {S:Nat} (sh:SmQ S h) (sm:SmQ S m) (ss:SmQ S s) (sp:SmQ S p) (hS:S<2^20) (hs:0<s) (hm:0<m) (rb:(h-p) / s≤((400:Nat):Rat)*(s*m)):
  Ends Id.y1p [.agg (rC l++(rC h++(rC m++rC s))),.agg (rC p),.one (.int .i64 (d:Int))] (.agg (rC (fastQ h m s p (d:Int)))):=by
 have s0:s.num≠0:=by rw [Ne,y9q];grind
 obtain ⟨N1,k1⟩:=y8m (RW.self h) (RW.self p) sh sp (by omega)
 obtain ⟨N2,k2⟩:=ybw s0 (RW.self (h-p)) (RW.self s) (sh.sub sp) ss (by omega)
 have sr:SmQ (3*S+1) ((h-p) / s):=(SmQ.div s0 (sh.sub sp) ss).mono (by omega)
 obtain ⟨N3,k3⟩:=y6y (RW.self ((h-p) / s)) sr (by omega)
 obtain ⟨N4,k4⟩:=y5t (RW.self s) (RW.self m) ss sm (by omega)
 by_cases c:(h-p) / s<0
 ·have e:fastQ h m s p (d:Int)=(h-p) / s:=by unfold fastQ;rw [if_pos c]
  rw [e]
  refine .of (N1+N2+N3+N4) fun {n} hn=> ?_
  have k1:=k1 n (by omega)
  have k2:=k2 n (by omega)
  have k3:=k3 n (by omega)
  have c1:(signI ((h-p) / s).num<0)=True:=by rw [ydg,eq_iff_iff,iff_true];exact c
  rw [y03 y9i]
  simp only [go_sem,Fn.y1p,k1,k2,k3,c1]
 ·obtain ⟨N5,k5⟩:=yyq m s h p d hd sr (ss.mul sm) hS hs hm (Rat.not_lt.1 c) rb 40 0 (by omega) (.inl rfl)
  refine .of (N1+N2+N3+N4+N5+50) fun {n} hn=> ?_
  have k1:=k1 n (by omega)
  have k2:=k2 n (by omega)
  have k3:=k3 n (by omega)
  have k4:=k4 n (by omega)
  have c1:(signI ((h-p) / s).num<0)=False:=by rw [ydg,eq_iff_iff,iff_false];exact c
  have key:∀(ob:Nat→Option AObj),FstB ob ((h-p) / s) (s*m)→finV [.cell 6 true 4] (blkC 0 (loopN (evC (evF E n) n Fn.y42) n ⟨env (fstS d 0 []),ob,fz0,19⟩))=some (.agg (rC (fastQ h m s p (d:Int)))):=by
   intro ob B
   obtain ⟨L',ob',nx',f1,f2,f3⟩:=k5 n (by omega) ob fz0 19 [] (by decide) B n (by omega)
   rw [f1,ypj,ypa]
   simp only [go_sem,f2,f3]
  rw [y03 y9i]
  unfold fstS at key
  rw [show (((0:Nat)):Int)=0 from rfl] at key
  simp only [go_sem,Fn.y1p,k1,k2,k3,k4,c1]
  exact key _ ⟨rfl,rfl,rfl⟩
theorem cRFast (l h m s p:Rat) (d:Nat) (hd:d≤16) {S:Nat} (sh:SmQ S h) (sm:SmQ S m) (ss:SmQ S s) (sp:SmQ S p) (hS:S<2^20) (hs:0<s) (hm:0<m) (rb:(h-p) / s≤((400:Nat):Rat)*(s*m)):
  Calling Id.y1p [.agg (rC l++(rC h++(rC m++rC s))),.agg (rC p),.one (.int .i64 (d:Int))] (.agg (rC (fastQ h m s p (d:Int)))):=
 (ys7 l h m s p d hd sh sm ss sp hS hs hm rb).call fun x hx=>by
  simp only [List.mem_cons,List.not_mem_nil,or_false] at hx
  rcases hx with rfl | rfl | rfl
  ·exact y7x l h m s
  ·exact y7l _
  ·exact y26 _ _
end Go.Ev
namespace Go.Ev
def fastT:ACode:=match Fn.y0g.code with | .seq _ (.seq _ (.seq _ (.seq _ (.seq _ (.seq _ (.seq _ t))))))=>t | _=>.skip
theorem y108 {m s room:Rat} {d:Int} (hs:0<s) (hm:0<m) (hd:0≤d) (hr:0≤room) (n:Nat) (hn:(floorQ (room / (s*m))).toNat+1≤n):room<wayQ m s (Rat.ofInt d) (natQ n):=by
 have hB:0<s*m:=Rat.mul_pos hs hm
 have hD:(0:Rat)≤(d:Rat):=Rat.intCast_nonneg.2 hd
 have n0:=y9j (v:=room) hB hr
 have h2:=Rat.lt_floor_add_one (room / (s*m))
 rw [←y9d] at h2
 have h4:=Rat.mul_lt_mul_of_pos_right h2 hB
 rw [Rat.div_mul_cancel (by grind)] at h4
 have hle:((floorQ (room / (s*m))+1:Int):Rat)≤(n:Rat):=by
  have:(floorQ (room / (s*m))+1)≤((n:Nat):Int):=by omega
  have:=Rat.intCast_le_intCast.2 this
  exact this
 have h5:room<(n:Rat)*(s*m):=by
  have:=Rat.mul_le_mul_of_nonneg_right hle (Rat.le_of_lt hB)
  grind
 have h1:(1:Rat)≤(n:Rat):=by
  have:((1:Nat):Rat)≤(n:Rat):=Rat.natCast_le_natCast.2 (by omega)
  exact this
 unfold wayQ triQ
 rw [y8e,y5x,y5x,show ((1:Int):Rat)=1 from rfl]
 generalize (n:Rat)=x at*
 generalize (d:Rat)=D at*
 generalize s*m=B at*
 have p1:0≤B*(x*D):=Rat.mul_nonneg (by grind) (Rat.mul_nonneg (by grind) hD)
 have p2:0≤B*(x*(x-1)):=Rat.mul_nonneg (by grind) (Rat.mul_nonneg (by grind) (by grind))
 grind
set_option maxRecDepth 100000 in
theorem y7r (l h m s p:Rat) (d:Int) {S:Nat} (h1S:1≤S) (hl:SmQ S l) (hh:SmQ S h) (hm:SmQ S m) (hs:SmQ S s) (hp:SmQ S p) (s0:0<s) (m0:0<m) (d0:0≤d) (d1:d≤16) (hS:S<2^19):
  Ends Id.y0g [.agg (qC l++(qC h++(qC m++qC s))),.agg (qC p),.one (.int .i64 d)] (.agg (qC (fastQ h m s p d)))∧SmQ (25*S+150) (fastQ h m s p d):=by
 have hB:0<s*m:=Rat.mul_pos s0 m0
 have hsn:s.num≠0:=fun e=>by have:=Rat.num_eq_zero.1 e;grind
 have hdS:SmQ (S+5) (Rat.ofInt d):=yaz (S:=S+4) (by have:2^5≤2^(S+4+1):=Nat.pow_le_pow_right (by decide) (by omega);omega)
 have hroom:SmQ (4*(S+5)) ((h-p) / s):=((hh.sub hp).div hsn hs).mono (by omega)
 have hmS:SmQ (S+5) m:=hm.mono (by omega)
 have hsS:SmQ (S+5) s:=hs.mono (by omega)
 have hF:=y97 (h:=h) (p:=p) s0 m0 d0
 obtain ⟨N1,k1⟩:=cSub h p hh hp (by omega)
 obtain ⟨N2,k2⟩:=cQuo (h-p) s hsn (hh.sub hp) hs (by omega)
 obtain ⟨N3,k3⟩:=cSign ((h-p) / s)
 obtain ⟨N4,k4⟩:=cInt 1 (by decide) (by decide)
 obtain ⟨N5,k5⟩:=cInt d (by omega) (by omega)
 by_cases hr:(h-p) / s<0
 ·have e:=hF.neg hr
  rw [e]
  refine ⟨.of (N1+N2+N3) fun {n} hn=> ?_,hroom.mono (by omega)⟩
  rw [y03 y8v]
  have k1:=k1 n (by omega)
  have k2:=k2 n (by omega)
  have k3:=k3 n (by omega)
  have hc:(signI ((h-p) / s).num<0)=True:=by rw [ydg,eq_iff_iff,iff_true];exact hr
  simp only [go_sem,Fn.y0g,k1,k2,k3,hc]
 ·have hr0:=Rat.not_lt.1 hr
  obtain ⟨T,hT⟩:∃T,T=6*(S+5)+2:=⟨_,rfl⟩
  obtain ⟨K,hK⟩:∃K,K=(floorQ ((h-p) / s / (s*m))).toNat+1:=⟨_,rfl⟩
  have hnum:(s*m).num≠0:=fun e=>by have:=Rat.num_eq_zero.1 e;grind
  have hKT:2*K<2^(T+1):=by
   have h1:=(yc7 (hroom.div hnum (hsS.mul hmS))).num
   have h2:(Rat.ofInt (floorQ ((h-p) / s / (s*m)))).num=floorQ ((h-p) / s / (s*m)):=rfl
   rw [h2] at h1
   have h3:2^(T+1)=2*(2*2^(4*(S+5)+(S+5+(S+5))+1)):=by
    rw [show T+1=4*(S+5)+(S+5+(S+5))+1+1+1 by omega,Nat.pow_succ _ (_+1+1),Nat.pow_succ _ (_+1)]
    omega
   omega
  have hbig:∀n,K≤n→(h-p) / s<wayQ m s (Rat.ofInt d) (natQ n):=fun n hn=>y108 s0 m0 d0 hr0 n (by omega)
  have hw0:wayQ m s (Rat.ofInt d) (natQ 0)≤(h-p) / s:=by
   have:wayQ m s (Rat.ofInt d) (natQ 0)=0:=by
    unfold wayQ triQ
    rw [y8e,show ((0:Nat):Rat)=0 from rfl]
    grind
   rw [this];exact hr0
  obtain ⟨lo1,hi1,f1,f2,f3,f4,N6,k6⟩:=yre l h m s (Rat.ofInt d) ((h-p) / s) hmS hsS hdS hroom (T:=T) (by omega) (by omega) hbig hKT K 0 1 [.bool false,.nils,.nils] (by rw [Nat.one_mul];exact Nat.le_of_lt Nat.lt_two_pow_self) (by omega) (.inr rfl) (by omega) hw0
  obtain ⟨lo2,g1,g2,g3,k7⟩:=yjx l h m s (Rat.ofInt d) ((h-p) / s) hmS hsS hdS hroom (T:=T) (by omega) (by omega) (hi1-lo1) lo1 hi1 (Nat.le_refl _) f1 f2 f3 f4
  obtain ⟨N7,k7a⟩:=k7 (qC (natQ lo1))
  obtain ⟨N8,k7b⟩:=k7 [.bool false,.nils,.nils]
  have fin:∀lo':Nat,lo'<2^(T+1)→wayQ m s (Rat.ofInt d) (natQ lo')≤(h-p) / s→(h-p) / s<wayQ m s (Rat.ofInt d) (natQ (lo'+1))→fastQ h m s p d=((h-p) / s+s*m*triQ (natQ lo')) / (Rat.ofInt 1+Rat.ofInt d+natQ lo')∧SmQ (25*S+150) (fastQ h m s p d)∧
    ∃N,∀n,N≤n→∀(ob:Nat→Option AObj) (nx:Nat) (X:List (Nat×SV)) (lc:List AV),25≤nx→FastB ob l h m s (Rat.ofInt d) ((h-p) / s) lo' (lo'+1) lc→
     finV Fn.y0g.res (evC (evF E n) n (match fastT with | .seq _ t=>t | _=>.skip) ⟨env (fastS X),ob,fz0,nx⟩)=some (.agg (qC (((h-p) / s+s*m*triQ (natQ lo')) / (Rat.ofInt 1+Rat.ofInt d+natQ lo')))):=by
   intro lo' hlo w1 w2
   have hD:(0:Rat)≤(d:Rat):=Rat.intCast_nonneg.2 d0
   have hk:(0:Rat)≤natQ lo':=Rat.natCast_nonneg
   have hden:(Rat.ofInt 1+Rat.ofInt d+natQ lo').num≠0:=fun e=>by
    have:=Rat.num_eq_zero.1 e
    rw [y5x,y5x,show ((1:Int):Rat)=1 from rfl] at this
    grind
   have hden':Rat.ofInt 1+Rat.ofInt d+natQ lo'≠0:=fun e=>hden (by rw [e];rfl)
   have e:fastQ h m s p d=((h-p) / s+s*m*triQ (natQ lo')) / (Rat.ofInt 1+Rat.ofInt d+natQ lo'):=by
    refine yn6 s0 m0 d0 hF ⟨fun hc=>absurd hc hr,fun _=>⟨(lo':Int),by omega,w1, ?_, ?_⟩⟩
    ·have e1:natQ (lo'+1)=((lo':Int):Rat)+1:=Rat.natCast_add lo' 1
     rw [←e1];exact w2
    ·exact Rat.div_mul_cancel hden'
   have hx:SmQ (T+1) (natQ lo'):=y7q hlo
   have q1:SmQ (4*(S+5)+(S+5+(S+5)+(2*(T+1)+5))+1) ((h-p) / s+s*m*triQ (natQ lo')):=hroom.add ((hsS.mul hmS).mul (y76 hx))
   have q2:SmQ (2+(S+5)+1+(T+1)+1) (Rat.ofInt 1+Rat.ofInt d+natQ lo'):=(smQ_one.add hdS).add hx
   refine ⟨e,by rw [e];exact (q1.div hden q2).mono (by omega), ?_⟩
   obtain ⟨M1,j1⟩:=cBrake l h m s hm hs (by omega)
   obtain ⟨M2,j2⟩:=cTri (natQ lo') hx (by omega)
   obtain ⟨M3,j3⟩:=cMul (s*m) (triQ (natQ lo')) (hs.mul hm) (y76 hx) (by omega)
   obtain ⟨M4,j4⟩:=cAdd ((h-p) / s) (s*m*triQ (natQ lo')) hroom ((hsS.mul hmS).mul (y76 hx)) (by omega)
   obtain ⟨M5,j5⟩:=cAdd (Rat.ofInt 1) (Rat.ofInt d) smQ_one hdS (by omega)
   obtain ⟨M6,j6⟩:=cAdd (Rat.ofInt 1+Rat.ofInt d) (natQ lo') (smQ_one.add hdS) hx (by omega)
   obtain ⟨M7,j7⟩:=cQuo ((h-p) / s+s*m*triQ (natQ lo')) (Rat.ofInt 1+Rat.ofInt d+natQ lo') hden q1 q2 (by omega)
   refine ⟨M1+M2+M3+M4+M5+M6+M7,fun n hn ob nx X lc hnx B=> ?_⟩
   obtain ⟨o0,o2,o10,o15,o16,o21,o22,lq⟩:=B
   have j1:=j1 n (by omega)
   have j2:∀ob fz,callV (evF E n) Id.y44 [.agg lc] ob fz=some (.fzd fz (.agg (qC (triQ (natQ lo'))))):=fun ob fz=>by rw [ytc lq];exact j2 n (by omega) ob fz
   have j3:=j3 n (by omega)
   have j4:=j4 n (by omega)
   have j5:=j5 n (by omega)
   have j6:∀ob fz,callV (evF E n) Id.y0h [.agg (qC (Rat.ofInt 1+Rat.ofInt d)),.agg lc] ob fz=some (.fzd fz (.agg (qC (Rat.ofInt 1+Rat.ofInt d+natQ lo')))):=fun ob fz=>by rw [yai (.of _) lq];exact j6 n (by omega) ob fz
   have j7:=j7 n (by omega)
   have lsub:=lq.sub
   have u0:(0<nx)=True:=by simp;omega
   have u10:(10<nx)=True:=by simp;omega
   have u15:(15<nx)=True:=by simp;omega
   have u16:(16<nx)=True:=by simp;omega
   have u21:(21<nx)=True:=by simp;omega
   unfold fastS fastT Fn.y0g
   simp only [go_sem,o0,o2,o10,o15,o16,o21,u0,u10,u15,u16,u21,↓lsub,j1,j2,j3,j4,j5,j6,j7]
  obtain ⟨e,hsz,N9,k9⟩:=fin lo2 g1 g2 g3
  refine ⟨?_,hsz⟩
  rw [e]
  refine .of (N1+N2+N3+N4+N5+N6+N7+N8+N9+K+(hi1-lo1)+1) fun {n} hn=> ?_
  rw [y03 y8v]
  have k1:=k1 n (by omega)
  have k2:=k2 n (by omega)
  have k3:=k3 n (by omega)
  have k4:=k4 n (by omega)
  have k5:=k5 n (by omega)
  have hc:(signI ((h-p) / s).num<0)=False:=by rw [ydg,eq_iff_iff,iff_false];exact hr
  have key:∀(ob:Nat→Option AObj),FastB ob l h m s (Rat.ofInt d) ((h-p) / s) 0 1 [.bool false,.nils,.nils]→
    finV Fn.y0g.res (thenC (evF E n) n fastT (blkC 0 (loopN (evC (evF E n) n Fn.y48) n ⟨env (fastS []),ob,fz0,25⟩)))=some (.agg (qC (((h-p) / s+s*m*triQ (natQ lo2)) / (Rat.ofInt 1+Rat.ofInt d+natQ lo2)))):=by
   intro ob B
   obtain ⟨ob1,nx1,X1,lc1,e1,e2,e3⟩:=k6 n (by omega) ob 25 [] (by omega) B n (by omega)
   rw [e1,show fastT=.seq (.block 2 (.loop Fn.y33)) (match fastT with | .seq _ t=>t | _=>.skip) from rfl]
   have k7':∃ob' nx' X' lc',loopN (evC (evF E n) n Fn.y33) n ⟨env (fastS X1),ob1,fz0,nx1⟩=some (.ext 2,⟨env (fastS X'),ob',fz0,nx'⟩)∧nx1≤nx'∧FastB ob' l h m s (Rat.ofInt d) ((h-p) / s) lo2 (lo2+1) lc':=by
    rcases e3.lq with hq | ⟨-,hq⟩
    ·subst hq;exact k7a n (by omega) ob1 nx1 X1 (by omega) e3 n (by omega)
    ·subst hq;exact k7b n (by omega) ob1 nx1 X1 (by omega) e3 n (by omega)
   obtain ⟨ob2,nx2,X2,lc2,i1,i2,i3⟩:=k7'
   rw [y7c,if_pos rfl,y4u,x_seq,yfi,ynm,i1,y7c,if_pos rfl,y4u]
   exact k9 n (by omega) ob2 nx2 X2 lc2 (by omega) i3
  unfold Fn.y0g
  simp only [go_sem,k1,k2,k3,k4,k5,hc,List.mapM_cons,List.mapM_nil,SV.av,Option.bind_eq_bind,Option.bind_some,Option.pure_def]
  refine key _ ?_
  exact ⟨rfl,rfl,rfl,rfl,rfl,rfl,rfl,.inr ⟨rfl,rfl⟩⟩
end Go.Ev
namespace Go.Ev
theorem y8q {q:Rat} (h:0<q.num):0<q:=by rwa [yqg] at h
def heldQ (l h m s p v w:Rat) (d:Int):Rat:=holdQ m s v w (fastQ h m s p d) (fastQ (-l) m s (-p) d)
theorem yak (l h m s p v w:Rat) (d:Int) {S:Nat} (h1S:1≤S) (hl:SmQ S l) (hh:SmQ S h) (hm:SmQ S m) (hs:SmQ S s) (hp:SmQ S p) (hv:SmQ S v) (hw:SmQ S w) (s0:0<s) (m0:0<m) (d0:0≤d) (d1:d≤16) (hS:S<2^19):
  Ends Id.y21 [.agg (qC l++(qC h++(qC m++qC s))),.agg (qC p),.agg (qC v),.agg (qC w),.one (.int .i64 d)] (.agg (qC (heldQ l h m s p v w d)))∧SmQ (31*S+200) (heldQ l h m s p v w d):=by
 obtain ⟨f1,f2⟩:=y7r l h m s p d h1S hl hh hm hs hp s0 m0 d0 d1 hS
 obtain ⟨g1,g2⟩:=y7r (-h) (-l) m s (-p) d h1S hh.neg hl.neg hm hs hp.neg s0 m0 d0 d1 hS
 have hsn:s.num≠0:=fun e=>by have:=Rat.num_eq_zero.1 e;grind
 refine ⟨yuq l h m s p v w d _ _ hm hs hv hw f2 g2 hsn (by omega) (by omega) f1 g1, ?_⟩
 unfold heldQ holdQ nextQ
 have hb:=hs.mul hm
 have t1:SmQ (25*S+4*S+150) (v+s*m):=(hv.add hb).mono (by omega)
 have t2:SmQ (25*S+4*S+150) (v-s*m):=(hv.sub hb).mono (by omega)
 have t3:SmQ (25*S+4*S+150) (v+s*w):=(hv.add (hs.mul hw)).mono (by omega)
 have tf:SmQ (25*S+4*S+150) (fastQ h m s p d):=f2.mono (by omega)
 have tg:SmQ (25*S+4*S+150) (-(fastQ (-l) m s (-p) d)):=g2.neg.mono (by omega)
 exact ((((tg.max t2).max ((tf.min t1).min t3)).sub hv).div hsn hs).mono (by omega)
def HoldE (l h m s p v:Rat) (d:Int):Int:=if errR l h m s d=0 then (if safeQ l h m s p v d=true then 0 else 13) else errR l h m s d
def HoldV (l h m s p v w:Rat) (d:Int):Rat:=if HoldE l h m s p v d=0 then heldQ l h m s p v w d else 0
theorem yti (l h m s p v w:Rat) (d:Int) {S:Nat} (h1S:1≤S) (hl:SmQ S l) (hh:SmQ S h) (hm:SmQ S m) (hs:SmQ S s) (hp:SmQ S p) (hv:SmQ S v) (hw:SmQ S w) (hS:S<2^19):
  Ends Id.y2k [.agg (qC l++(qC h++(qC m++qC s))),.agg (qC p),.agg (qC v),.agg (qC w),.one (.int .i64 d)] (.tup [.agg (qC (HoldV l h m s p v w d)),.one (.int .i64 (HoldE l h m s p v d))]):=by
 unfold HoldV
 by_cases e:errR l h m s d=0
 ·by_cases hsafe:safeQ l h m s p v d=true
  ·have eE:HoldE l h m s p v d=0:=by unfold HoldE;rw [if_pos e,if_pos hsafe]
   rw [eE,if_pos rfl]
   obtain ⟨_,e1,e2,e3,e4⟩:=y9a e
   exact y11f l h m s p v w d hl hh hm hs hp hv (by omega) e hsafe (yak l h m s p v w d h1S hl hh hm hs hp hv hw (y8q e2) (y8q e1) e3 e4 hS).1
  ·have eE:HoldE l h m s p v d=13:=by unfold HoldE;rw [if_pos e,if_neg hsafe]
   rw [eE,if_neg (by decide)]
   exact ysh l h m s p v w d hl hh hm hs hp hv (by omega) e (by simpa using hsafe)
 ·have eE:HoldE l h m s p v d=errR l h m s d:=by unfold HoldE;rw [if_neg e]
  rw [eE,if_neg e]
  exact yzf l h m s p v w d hl hh (by omega) e
end Go.Ev
namespace Go.Ev
open Go.Dig
def orZ (v:Rat):List AV:=if cmpQ 0 v>0 then [.bool false,.sl false [],.bool false,.sl false []] else rC v
theorem y8x (v:Rat):RQ (maxQ v 0) (orZ v):=by
 unfold orZ maxQ
 by_cases c:cmpQ 0 v>0
 ·rw [if_pos c,if_pos c];exact .inr ⟨rfl,rfl⟩
 ·rw [if_neg c,if_neg c];exact .self v
theorem ygo (v:Rat):0≤maxQ v 0:=by rw [y89];grind
theorem yzx (v:Rat):maxQ v 0≤absQ v:=by rw [y89,yk0];grind
theorem yq1 (v:Rat):maxQ (-v) 0≤absQ v:=by rw [y89,yk0];grind
theorem zS {S:Nat} (h:1≤S):SmQ S 0:=⟨Nat.pow_pos (by decide),Nat.one_lt_two_pow (by omega)⟩
theorem ym1 {S:Nat} (h:1≤S) {v:Rat} (hv:SmQ S v):SmQ S (maxQ v 0):=hv.max (zS h)
theorem yqz {v:Rat} {S:Nat} (hv:SmQ S v) (hS:S<2^35):∃N,∀n,N≤n→∀(ob:Nat→Option AObj) (fz:Nat→Nat) (id:Nat),
  callV (evF E n) Id.y0k [.one (.rsl id 0 4 0 2 false)] (upd ob id (.row 4 [rC v,[.bool false,.nils,.bool false,.nils]] 0)) fz=some (.fzd (raise fz id 2) (.agg (orZ v))):=
 yac (yey (RQ.self v) (.inr ⟨rfl,rfl⟩:RQ 0 [.bool false,.sl false [],.bool false,.sl false []]) hv (zS (S:=1) (by decide)) (by omega)) (ybj v) fun ob fz=>rfl
theorem yrk (a b:Rat) {S T:Nat} (sa:SmQ S a) (sb:SmQ T b) (hS:T+S<2^36):∃N,∀n,N≤n→∀(ob:Nat→Option AObj) (fz:Nat→Nat) (id:Nat),
  callV (evF E n) Id.y0k [.one (.rsl id 0 4 0 2 false)] (upd ob id (.row 4 [rC a,rC b] 0)) fz=some (.fzd (raise fz id 2) (.agg (rC (maxQ a b)))):=
 yac (y13y a b sa sb hS) (ybj a) (ybj b)
theorem yrl (a b:Rat) {S T:Nat} (sa:SmQ S a) (sb:SmQ T b) (hS:T+S<2^36):∃N,∀n,N≤n→∀(ob:Nat→Option AObj) (fz:Nat→Nat) (id:Nat),
  callV (evF E n) Id.y0x [.one (.rsl id 0 4 0 2 false)] (upd ob id (.row 4 [rC a,rC b] 0)) fz=some (.fzd (raise fz id 2) (.agg (rC (minQ a b)))):=
 yac (y13t a b sa sb hS) (ybj a) (ybj b)
def minC (m w:Rat) (cw:List AV):List AV:=if cmpQ w m<0 then cw else rC m
theorem y10d {m w:Rat} {cw:List AV} (h:RQ w cw):RQ (minQ m w) (minC m w cw):=by
 unfold minC minQ
 by_cases c:cmpQ w m<0
 ·rw [if_pos c,if_pos c];exact h
 ·rw [if_neg c,if_neg c];exact .self m
def maxC (a b:Rat) (cb:List AV):List AV:=if cmpQ b a>0 then cb else rC a
theorem y110 {a b:Rat} {cb:List AV} (h:RQ b cb):RQ (maxQ a b) (maxC a b cb):=by
 unfold maxC maxQ
 by_cases c:cmpQ b a>0
 ·rw [if_pos c,if_pos c];exact h
 ·rw [if_neg c,if_neg c];exact .self a
theorem yv7 {q:Rat} {c:List AV} (h:RQ q c) (ob:Nat→Option AObj) (fz:Nat→Nat):mapFz (Ev.frz ob (6+1)) fz c=some (fz,c):=by
 have hc:=h.can
 cases hc with
 | agg _ hc=>exact y5s _ fun x hx=>(hc x hx).frz ob 6 fz
theorem ywr (m w:Rat) {cw:List AV} (h:RQ w cw) {S T:Nat} (sa:SmQ S m) (sb:SmQ T w) (hS:T+S<2^36):∃N,∀n,N≤n→∀(ob:Nat→Option AObj) (fz:Nat→Nat) (id:Nat),
  callV (evF E n) Id.y0x [.one (.rsl id 0 4 0 2 false)] (upd ob id (.row 4 [rC m,cw] 0)) fz=some (.fzd (raise fz id 2) (.agg (minC m w cw))):=
 yac (yky (RQ.self m) h sa sb hS) (ybj m) (yv7 h)
theorem yxc (a b:Rat) {cb:List AV} (h:RQ b cb) {S T:Nat} (sa:SmQ S a) (sb:SmQ T b) (hS:T+S<2^36):∃N,∀n,N≤n→∀(ob:Nat→Option AObj) (fz:Nat→Nat) (id:Nat),
  callV (evF E n) Id.y0k [.one (.rsl id 0 4 0 2 false)] (upd ob id (.row 4 [rC a,cb] 0)) fz=some (.fzd (raise fz id 2) (.agg (maxC a b cb))):=
 yac (yey (RQ.self a) h sa sb hS) (ybj a) (yv7 h)
def upQ (m s p v:Rat) (d:Int):Rat:=p+(s*(d:Rat)*maxQ v 0+stopQ m s (maxQ v 0))
def dnQ (m s p v:Rat) (d:Int):Rat:=p-(s*(d:Rat)*maxQ (-v) 0+stopQ m s (maxQ (-v) 0))
theorem ypq (l h m s p v:Rat) (d:Int):safeR l h m s p v d=(decide (l≤p)&&(decide (p≤h)&&(decide (upQ m s p v d≤h)&&decide (l≤dnQ m s p v d)))):=rfl
set_option maxRecDepth 100000 in
set_option maxHeartbeats 4000000 in
theorem yrt (l h m s p v:Rat) (d:Nat) (hd:d≤16) {S:Nat} (h1S:10≤S) (sl:SmQ S l) (sh:SmQ S h) (sm:SmQ S m) (ss:SmQ S s) (sp:SmQ S p) (sv:SmQ S v) (hS:S<2^20) (hs:0<s) (hm:0<m) (hb:absQ v≤((900:Nat):Rat)*(s*m)):
  Ends Id.y19 [.agg (rC l++(rC h++(rC m++rC s))),.agg (rC p),.agg (rC v),.one (.int .i64 (d:Int))] (.one (.bool (safeQ l h m s p v (d:Int)))):=by
 have h0:(s*m).num≠0:=by rw [Ne,y9q];have:=Rat.mul_pos hs hm;grind
 have sd:SmQ S (((d:Nat):Int):Rat):=(y7q (S:=9) (n:=d) (by omega)).mono h1S
 have sx:=ym1 (by omega:1≤S) sv
 have sy:=ym1 (by omega:1≤S) sv.neg
 have tx:=ydu sm ss sx h0
 have ty:=ydu sm ss sy h0
 obtain ⟨N1,k1⟩:=ya8 ((d:Nat):Int) (by omega) (by omega)
 have e1:Rat.ofInt ((d:Nat):Int)=(((d:Nat):Int):Rat):=rfl
 rw [e1] at k1
 obtain ⟨N2,k2⟩:=y5t (RW.self s) (RW.self (((d:Nat):Int):Rat)) ss sd (by omega)
 obtain ⟨N3,k3⟩:=yqz sv (by omega)
 obtain ⟨N4,k4⟩:=y7w (RW.self v) sv (by omega)
 obtain ⟨N5,k5⟩:=yqz sv.neg (by omega)
 obtain ⟨N6,k6⟩:=y5t (RW.self (s*(((d:Nat):Int):Rat))) (y8x v).w (ss.mul sd) sx (by omega)
 obtain ⟨N7,k7⟩:=(yi7 l h m s (maxQ v 0) sm ss sx hS hs hm (ygo v) (Rat.le_trans (yzx v) hb) (y8x v)).call (can2 (y7x l h m s) (y8x v).can)
 obtain ⟨N8,k8⟩:=y7v (RW.self (s*(((d:Nat):Int):Rat)*maxQ v 0)) (RW.self (stopQ m s (maxQ v 0))) ((ss.mul sd).mul sx) tx (by omega)
 obtain ⟨N9,k9⟩:=y7v (RW.self p) (RW.self (s*(((d:Nat):Int):Rat)*maxQ v 0+stopQ m s (maxQ v 0))) sp (((ss.mul sd).mul sx).add tx) (by omega)
 have su:=sp.add (((ss.mul sd).mul sx).add tx)
 obtain ⟨N10,k10⟩:=y5t (RW.self (s*(((d:Nat):Int):Rat))) (y8x (-v)).w (ss.mul sd) sy (by omega)
 obtain ⟨N11,k11⟩:=(yi7 l h m s (maxQ (-v) 0) sm ss sy hS hs hm (ygo (-v)) (Rat.le_trans (yq1 v) hb) (y8x (-v))).call (can2 (y7x l h m s) (y8x (-v)).can)
 obtain ⟨N12,k12⟩:=y7v (RW.self (s*(((d:Nat):Int):Rat)*maxQ (-v) 0)) (RW.self (stopQ m s (maxQ (-v) 0))) ((ss.mul sd).mul sy) ty (by omega)
 obtain ⟨N13,k13⟩:=y8m (RW.self p) (RW.self (s*(((d:Nat):Int):Rat)*maxQ (-v) 0+stopQ m s (maxQ (-v) 0))) sp (((ss.mul sd).mul sy).add ty) (by omega)
 have sn:=sp.sub (((ss.mul sd).mul sy).add ty)
 obtain ⟨N14,k14⟩:=y6f (RW.self l) (RW.self p) sl sp (by omega)
 obtain ⟨N15,k15⟩:=y6f (RW.self p) (RW.self h) sp sh (by omega)
 obtain ⟨N16,k16⟩:=y6f (RW.self (upQ m s p v (d:Int))) (RW.self h) su sh (by omega)
 obtain ⟨N17,k17⟩:=y6f (RW.self (dnQ m s p v (d:Int))) (RW.self l) sn sl (by omega)
 have eu:p+(s*(((d:Nat):Int):Rat)*maxQ v 0+stopQ m s (maxQ v 0))=upQ m s p v (d:Int):=rfl
 have en:p-(s*(((d:Nat):Int):Rat)*maxQ (-v) 0+stopQ m s (maxQ (-v) 0))=dnQ m s p v (d:Int):=rfl
 rw [eu] at k9
 rw [en] at k13
 rw [←ywu hs hm (by omega),ypq]
 generalize upQ m s p v (d:Int)=up at*
 generalize dnQ m s p v (d:Int)=dn at*
 refine .of (N1+N2+N3+N4+N5+N6+N7+N8+N9+N10+N11+N12+N13+N14+N15+N16+N17) fun {n} hn=> ?_
 have k1:=k1 n (by omega)
 have k2:=k2 n (by omega)
 have k3:=k3 n (by omega)
 have k4:=k4 n (by omega)
 have k5:=k5 n (by omega)
 have k6:=k6 n (by omega)
 have k7:=k7 n (by omega)
 have k8:=k8 n (by omega)
 have k9:=k9 n (by omega)
 have k10:=k10 n (by omega)
 have k11:=k11 n (by omega)
 have k12:=k12 n (by omega)
 have k13:=k13 n (by omega)
 have k14:=k14 n (by omega)
 have k15:=k15 n (by omega)
 have k16:=k16 n (by omega)
 have k17:=k17 n (by omega)
 have lx:=(y8x v).len4
 have ly:=(y8x (-v)).len4
 have ux:=(y8x v).w.sub4
 have uy:=(y8x (-v)).w.sub4
 have px:∀z0 z1 z2 z3:AV,put [z0,z1,z2,z3] 0 (orZ v)=some (orZ v):=fun _ _ _ _=>y73 (by rw [lx];rfl)
 have py:∀z0 z1 z2 z3:AV,put [z0,z1,z2,z3] 0 (orZ (-v))=some (orZ (-v)):=fun _ _ _ _=>y73 (by rw [ly];rfl)
 generalize orZ v=cx at*
 generalize orZ (-v)=cy at*
 rw [y03 yg1]
 have g1:(cmpQ l p≤0)=(l≤p):=y72 l p
 have g2:(cmpQ p h≤0)=(p≤h):=y72 p h
 have g3:(cmpQ up h≤0)=(up≤h):=y72 up h
 have g4:(cmpQ dn l≥0)=(l≤dn):=y105 dn l
 by_cases c1:l≤p
 ·have f1:(cmpQ l p≤0)=True:=by rw [g1,eq_iff_iff,iff_true];exact c1
  rw [decide_eq_true c1,Bool.true_and]
  by_cases c2:p≤h
  ·have f2:(cmpQ p h≤0)=True:=by rw [g2,eq_iff_iff,iff_true];exact c2
   rw [decide_eq_true c2,Bool.true_and]
   by_cases c3:up≤h
   ·have f3:(cmpQ up h≤0)=True:=by rw [g3,eq_iff_iff,iff_true];exact c3
    rw [decide_eq_true c3,Bool.true_and]
    by_cases c4:l≤dn
    ·have f4:(cmpQ dn l≥0)=True:=by rw [g4,eq_iff_iff,iff_true];exact c4
     rw [decide_eq_true c4]
     simp only [go_sem,Fn.y19,k1,k2,k3,k4,k5,k6,k7,k8,k9,k10,k11,k12,k13,k14,k15,k16,k17,lx,ly,↓ux,↓uy,↓px,↓py,f1,f2,f3,f4]
    ·have f4:(cmpQ dn l≥0)=False:=by rw [g4,eq_iff_iff,iff_false];exact c4
     rw [decide_eq_false c4]
     simp only [go_sem,Fn.y19,k1,k2,k3,k4,k5,k6,k7,k8,k9,k10,k11,k12,k13,k14,k15,k16,k17,lx,ly,↓ux,↓uy,↓px,↓py,f1,f2,f3,f4]
   ·have f3:(cmpQ up h≤0)=False:=by rw [g3,eq_iff_iff,iff_false];exact c3
    rw [decide_eq_false c3,Bool.false_and]
    simp only [go_sem,Fn.y19,k1,k2,k3,k4,k5,k6,k7,k8,k9,k10,k11,k12,k13,k14,k15,k16,lx,ly,↓ux,↓uy,↓px,↓py,f1,f2,f3]
  ·have f2:(cmpQ p h≤0)=False:=by rw [g2,eq_iff_iff,iff_false];exact c2
   rw [decide_eq_false c2,Bool.false_and]
   simp only [go_sem,Fn.y19,k1,k2,k3,k4,k5,k6,k7,k8,k9,k10,k11,k12,k13,k14,k15,lx,ly,↓ux,↓uy,↓px,↓py,f1,f2]
 ·have f1:(cmpQ l p≤0)=False:=by rw [g1,eq_iff_iff,iff_false];exact c1
  rw [decide_eq_false c1,Bool.false_and]
  simp only [go_sem,Fn.y19,k1,k2,k3,k4,k5,k6,k7,k8,k9,k10,k11,k12,k13,k14,lx,ly,↓ux,↓uy,↓px,↓py,f1]
theorem cRSafe (l h m s p v:Rat) (d:Nat) (hd:d≤16) {S:Nat} (h1S:10≤S) (sl:SmQ S l) (sh:SmQ S h) (sm:SmQ S m) (ss:SmQ S s) (sp:SmQ S p) (sv:SmQ S v) (hS:S<2^20) (hs:0<s) (hm:0<m) (hb:absQ v≤((900:Nat):Rat)*(s*m)):
  Calling Id.y19 [.agg (rC l++(rC h++(rC m++rC s))),.agg (rC p),.agg (rC v),.one (.int .i64 (d:Int))] (.one (.bool (safeQ l h m s p v (d:Int)))):=
 (yrt l h m s p v d hd h1S sl sh sm ss sp sv hS hs hm hb).call fun x hx=>by
  simp only [List.mem_cons,List.not_mem_nil,or_false] at hx
  rcases hx with rfl | rfl | rfl | rfl
  ·exact y7x l h m s
  ·exact y7l _
  ·exact y7l _
  ·exact y26 _ _
theorem ymf (l h m s v:Rat) {S:Nat} (sm:SmQ S m) (ss:SmQ S s) (sv:SmQ S v) (hS:S<2^20) (hs:0<s):
  Ends Id.y1q [.agg (rC l++(rC h++(rC m++rC s))),.agg (rC v)] (.agg (rC (brakingQ m s v))):=by
 have s0:s.num≠0:=by rw [Ne,y9q];grind
 obtain ⟨N1,k1⟩:=y7w (RW.self m) sm (by omega)
 obtain ⟨N2,k2⟩:=ybw s0 (RW.self v) (RW.self s) sv ss (by omega)
 have sq:=SmQ.div s0 sv ss
 obtain ⟨N3,k3⟩:=y7w (RW.self (v / s)) sq (by omega)
 obtain ⟨N4,k4⟩:=yrl m (-(v / s)) sm sq.neg (by omega)
 have smn:SmQ (S+S) (minQ m (-(v / s))):=(sm.mono (by omega)).min sq.neg
 obtain ⟨N5,k5⟩:=yrk (-m) (minQ m (-(v / s))) sm.neg smn (by omega)
 rw [←yq5 m s v hs]
 refine .of (N1+N2+N3+N4+N5) fun {n} hn=> ?_
 have k1:=k1 n (by omega)
 have k2:=k2 n (by omega)
 have k3:=k3 n (by omega)
 have k4:=k4 n (by omega)
 have k5:=k5 n (by omega)
 rw [y03 yd1]
 simp only [go_sem,Fn.y1q,k1,k2,k3,k4,k5]
theorem cRBraking (l h m s v:Rat) {S:Nat} (sm:SmQ S m) (ss:SmQ S s) (sv:SmQ S v) (hS:S<2^20) (hs:0<s):
  Calling Id.y1q [.agg (rC l++(rC h++(rC m++rC s))),.agg (rC v)] (.agg (rC (brakingQ m s v))):=
 (ymf l h m s v sm ss sv hS hs).call (can2 (y7x l h m s) (y7l _))
set_option maxRecDepth 100000 in
set_option maxHeartbeats 4000000 in
theorem ysw (l h m s p v w:Rat) (d:Nat) (hd:d≤16) {S T:Nat} (sl:SmQ S l) (sh:SmQ S h) (sm:SmQ S m) (ss:SmQ S s) (sp:SmQ S p) (sv:SmQ S v) (sw:SmQ S w) (hS:S<2^20) (hs:0<s) (hm:0<m) (rb:(h-p) / s≤((400:Nat):Rat)*(s*m)) (rb2:(-l- -p) / s≤((400:Nat):Rat)*(s*m))
  (tf:SmQ T (fastQ h m s p (d:Int))) (tg:SmQ T (fastQ (-l) m s (-p) (d:Int))) (hT:T<2^30) (hsafe:safeQ l h m s p v (d:Int)=true) {cw:List AV} (hw:RQ w cw):
  Ends Id.y1i [.agg (rC l++(rC h++(rC m++rC s))),.agg (rC p),.agg (rC v),.agg cw,.one (.int .i64 (d:Int))] (.agg (rC (heldQ l h m s p v w (d:Int)))):=by
 have s0:s.num≠0:=by rw [Ne,y9q];grind
 have room:=ylr hs hm (by omega:(0:Int)≤(d:Int)) (y97 (h:=h) (p:=p) hs hm (by omega)) (y97 (h:=-l) (p:=-p) hs hm (by omega)) hsafe
 have nref:=yy8 (w:=w) hs hm room
 have e:heldQ l h m s p v w (d:Int)=(maxQ (-(fastQ (-l) m s (-p) (d:Int))) (minQ (fastQ h m s p (d:Int)) (v+s*maxQ (-m) (minQ m w)))-v) / s:=by
  unfold heldQ holdQ;rw [nref]
 rw [e]
 obtain ⟨N1,k1⟩:=cRFast l h m s p d hd sh sm ss sp hS hs hm rb
 obtain ⟨N2,k2⟩:=cRFast (-h) (-l) m s (-p) d hd sl.neg sm ss sp.neg hS hs hm rb2
 generalize fastQ h m s p (d:Int)=f at*
 generalize fastQ (-l) m s (-p) (d:Int)=g at*
 obtain ⟨N3,k3⟩:=y7w (RW.self h) sh (by omega)
 obtain ⟨N4,k4⟩:=y7w (RW.self l) sl (by omega)
 obtain ⟨N5,k5⟩:=y7w (RW.self p) sp (by omega)
 obtain ⟨N6,k6⟩:=y7w (RW.self g) tg (by omega)
 obtain ⟨N7,k7⟩:=y7w (RW.self m) sm (by omega)
 obtain ⟨N8,k8⟩:=ywr m w hw sm sw (by omega)
 have hmn:=y10d (m:=m) hw
 obtain ⟨N9,k9⟩:=yxc (-m) (minQ m w) hmn sm.neg (sm.min sw) (by omega)
 have hmx:=y110 (a:=-m) hmn
 have s9:=sm.neg.max (sm.min sw)
 obtain ⟨N10,k10⟩:=y5t (RW.self s) hmx.w ss s9 (by omega)
 obtain ⟨N11,k11⟩:=y7v (RW.self v) (RW.self (s*maxQ (-m) (minQ m w))) sv (ss.mul s9) (by omega)
 have s11:=sv.add (ss.mul s9)
 generalize v+s*maxQ (-m) (minQ m w)=x at*
 obtain ⟨N12,k12⟩:=yrl f x tf s11 (by omega)
 have s12:SmQ (T+(S+(S+S)+1)) (minQ f x):=(tf.mono (by omega)).min (s11.mono (by omega))
 obtain ⟨N13,k13⟩:=yrk (-g) (minQ f x) tg.neg s12 (by omega)
 have s13:SmQ (T+(S+(S+S)+1)) (maxQ (-g) (minQ f x)):=(tg.neg.mono (by omega)).max s12
 obtain ⟨N14,k14⟩:=y8m (RW.self (maxQ (-g) (minQ f x))) (RW.self v) s13 sv (by omega)
 obtain ⟨N15,k15⟩:=ybw s0 (RW.self (maxQ (-g) (minQ f x)-v)) (RW.self s) (s13.sub sv) ss (by omega)
 refine .of (N1+N2+N3+N4+N5+N6+N7+N8+N9+N10+N11+N12+N13+N14+N15) fun {n} hn=> ?_
 have k1:=k1 n (by omega)
 have k2:=k2 n (by omega)
 have k3:=k3 n (by omega)
 have k4:=k4 n (by omega)
 have k5:=k5 n (by omega)
 have k6:=k6 n (by omega)
 have k7:=k7 n (by omega)
 have k8:=k8 n (by omega)
 have k9:=k9 n (by omega)
 have k10:=k10 n (by omega)
 have k11:=k11 n (by omega)
 have k12:=k12 n (by omega)
 have k13:=k13 n (by omega)
 have k14:=k14 n (by omega)
 have k15:=k15 n (by omega)
 rw [y03 ygb]
 have lw:=hw.len4
 have lmn:=hmn.len4
 have lmx:=hmx.len4
 have uw:=hw.w.sub4
 generalize maxC (-m) (minQ m w) (minC m w cw)=cx at*
 generalize minC m w cw=cn at*
 simp only [go_sem,Fn.y1i,k1,k2,k3,k4,k5,k6,k7,k8,k9,k10,k11,k12,k13,k14,k15,lw,lmn,lmx,↓uw]
theorem cRHold (l h m s p v w:Rat) (d:Nat) (hd:d≤16) {S T:Nat} (sl:SmQ S l) (sh:SmQ S h) (sm:SmQ S m) (ss:SmQ S s) (sp:SmQ S p) (sv:SmQ S v) (sw:SmQ S w) (hS:S<2^20) (hs:0<s) (hm:0<m) (rb:(h-p) / s≤((400:Nat):Rat)*(s*m)) (rb2:(-l- -p) / s≤((400:Nat):Rat)*(s*m))
  (tf:SmQ T (fastQ h m s p (d:Int))) (tg:SmQ T (fastQ (-l) m s (-p) (d:Int))) (hT:T<2^30) (hsafe:safeQ l h m s p v (d:Int)=true) {cw:List AV} (hw:RW w cw):
  Calling Id.y1i [.agg (rC l++(rC h++(rC m++rC s))),.agg (rC p),.agg (rC v),.agg cw,.one (.int .i64 (d:Int))] (.agg (rC (heldQ l h m s p v w (d:Int)))):=by
 obtain ⟨cw',hw',hf⟩:=hw.fz
 refine (ysw l h m s p v w d hd sl sh sm ss sp sv sw hS hs hm rb rb2 tf tg hT hsafe hw').callF fun ob fz=> ?_
 have h1:=(y7x l h m s).frz ob fz
 have h5:=(y26 .i64 (d:Int)).frz ob fz
 simp only [mapFz,h1,h5,yrj,hf ob fz]
end Go.Ev
namespace Go.Ev
end Go.Ev
namespace Go.Ev
open Go.Dig
end Go.Ev
namespace Go.Ev
def gC (b:Int) (T H C M s:Rat) (d k:Int):List AV:=.int .i64 b::(qC T++(qC H++(qC C++(qC M++(qC s++[.int .i64 d,.int .i64 k])))))
section
variable (b:Int) (T H C M s:Rat) (d k:Int)
theorem y12o:(gC b T H C M s d k).length=18:=rfl
theorem y140:sub (gC b T H C M s d k) 0 18=some (gC b T H C M s d k):=rfl
theorem y12e:sub (gC b T H C M s d k) 1 3=some (qC T):=rfl
theorem y13v:sub (gC b T H C M s d k) 4 3=some (qC H):=rfl
theorem y12m:sub (gC b T H C M s d k) 7 3=some (qC C):=rfl
theorem y11d:sub (gC b T H C M s d k) 10 3=some (qC M):=rfl
theorem y114:sub (gC b T H C M s d k) 13 3=some (qC s):=rfl
theorem y10j:sub (gC b T H C M s d k) 16 1=some [.int .i64 d]:=rfl
theorem y10q:sub (gC b T H C M s d k) 17 1=some [.int .i64 k]:=rfl
end
attribute [go_sem ↓] y12o y140 y12e y13v y12m y11d y114 y10j y10q
end Go.Ev
namespace Go.Ev
section
variable (T H C M:Rat)
theorem m_len (x:AV):(x::(qC T++(qC H++(qC C++qC M)))).length=13:=rfl
theorem y13s (x:AV):sub (x::(qC T++(qC H++(qC C++qC M)))) 0 13=some (x::(qC T++(qC H++(qC C++qC M)))):=rfl
end
attribute [go_sem ↓] m_len y13s
end Go.Ev
namespace Go.Ev
open Go.Dig
theorem yzt (n:Nat) (ob:Nat→Option AObj) (fz:Nat→Nat):frz ob DEPTH fz (zD n)=some (fz,zD n):=rfl
attribute [go_sem] yzt
section
variable (T H C M:Rat)
end
end Go.Ev
namespace Go.Ev
end Go.Ev
namespace Go.Ev
theorem InD.cast {D E Z Y:Nat} {q:Rat} (h:InD D Z q) (e:D=E) (k:Z≤Y):InD E Y q:=by subst e;exact h.mono k
def Cand (D Z c:Nat) (u:Rat):Prop:=∃F,0<F∧F<2^c∧InD (D*F) (Z+c) u
theorem Cand.mono {D Z c e:Nat} {u:Rat} (h:Cand D Z c u) (k:c≤e):Cand D Z e u:=by
 obtain ⟨F,f1,f2,f3⟩:=h
 exact ⟨F,f1,Nat.lt_of_lt_of_le f2 (Nat.pow_le_pow_right (by decide) k),f3.mono (by omega)⟩
theorem Cand.neg {D Z c:Nat} {u:Rat} (h:Cand D Z c u):Cand D Z c (-u):=by
 obtain ⟨F,f1,f2,f3⟩:=h
 exact ⟨F,f1,f2,f3.neg⟩
theorem Cand.same {D Z:Nat} {u:Rat} (h:InD D Z u):Cand D Z 1 u:=⟨1,by decide,by decide,by rw [Nat.mul_one];exact h.mono (by omega)⟩
theorem Cand.plus {D Z S:Nat} {v a:Rat} {F:Nat} (hv:InD D Z v) (hF:0<F) (hF2:F<2^S) (ha:InD F S a) (hD:D<2^Z):Cand D Z (S+1) (v+a):=by
 refine ⟨F,hF,Nat.lt_of_lt_of_le hF2 (Nat.pow_le_pow_right (by decide) (by omega)), ?_⟩
 have h1:=hv.more hF2
 have h2:InD (D*F) (Z+S) a:=by
  have:=ha.more' hD
  exact this
 exact (h1.add h2).mono (by omega)
theorem InD.prod {S T:Nat} {a b:Rat} (ha:SmQ S a) (hb:SmQ T b):InD (a.den*b.den) (S+T) (a*b)∧0<a.den*b.den∧a.den*b.den<2^(S+T):=
 ⟨(InD.of ha).mul (InD.of hb),Nat.mul_pos a.den_pos b.den_pos,y2j ha.den hb.den⟩
theorem ylz {h m s p l:Rat} {d:Int} {D Z S:Nat} (hp:InD D Z p) (hD0:0<D) (hD:D<2^Z) (sh:SmQ S h) (sl:SmQ S l) (sm:SmQ S m) (ss:SmQ S s) (s0:0<s) (m0:0<m) (d0:0≤d) (d1:d≤16) (hlp:l≤p):Cand D Z (16*S+20) (fastQ h m s p d):=by
 have hsn:s.num≠0:=fun e=>by have:=Rat.num_eq_zero.1 e;grind
 have hB:0<s*m:=Rat.mul_pos s0 m0
 have hF:=y97 (h:=h) (p:=p) s0 m0 d0
 have hroom:InD (D*h.den*s.num.natAbs) (Z+S+1+S) ((h-p) / s):=by
  have h1:InD (D*h.den) (Z+S) p:=hp.more sh.den
  have h2:InD (D*h.den) (Z+S) h:=by have:=(InD.of sh).more' hD;exact this
  have h3:=h2.sub h1
  rw [Rat.div_def]
  exact h3.mul (InD.inv ss hsn)
 have hsa:0<s.num.natAbs:=Int.natAbs_pos.2 hsn
 have hmono:∀a b:Nat,a≤b→2^a≤2^b:=fun a b h=>Nat.pow_le_pow_right (by decide) h
 by_cases hr:(h-p) / s<0
 ·rw [hF.neg hr]
  refine ⟨h.den*s.num.natAbs,Nat.mul_pos h.den_pos hsa,Nat.lt_of_lt_of_le (y2j sh.den ss.num) (hmono _ _ (by omega)), ?_⟩
  exact hroom.cast (by rw [Nat.mul_assoc]) (by omega)
 ·obtain ⟨k,k0,k1,k2,k3⟩:=hF.pos (Rat.not_lt.1 hr)
  obtain ⟨n,rfl⟩:∃n:Nat,k=(n:Int):=⟨k.toNat,by omega⟩
  have hks:n<2^(5*S+2):=by
   have q1:SmQ (S+S+1+S+(S+S)) ((h-l) / s / (s*m)):=((sh.sub sl).div hsn ss).div (fun e=>by have:=Rat.num_eq_zero.1 e;grind) (ss.mul sm)
   have q2:=(yc7 q1).num
   have q3:(Rat.ofInt (floorQ ((h-l) / s / (s*m)))).num=floorQ ((h-l) / s / (s*m)):=rfl
   rw [q3] at q2
   have q4:((n:Int):Rat)≤(h-l) / s / (s*m):=by
    have e1:(h-p) / s≤(h-l) / s:=by
     rw [Rat.div_def,Rat.div_def]
     exact Rat.mul_le_mul_of_nonneg_right (by grind) (Rat.le_of_lt (Rat.inv_pos.2 s0))
    have e2:((n:Int):Rat)*(s*m)≤(h-p) / s:=by
     unfold wayQ triQ at k1
     rw [y5x,y5x,show ((1:Int):Rat)=1 from rfl] at k1
     have hD':(0:Rat)≤(d:Rat):=Rat.intCast_nonneg.2 d0
     have hn:(0:Rat)≤((n:Int):Rat):=Rat.intCast_nonneg.2 k0
     have p1:0≤(s*m)*(((n:Int):Rat)*(d:Rat)):=Rat.mul_nonneg (by grind) (Rat.mul_nonneg hn hD')
     have p2:0≤(s*m)*(((n:Int):Rat)*(((n:Int):Rat)-1)):=by
      rcases Nat.eq_zero_or_pos n with e | e
      ·subst e
       rw [show (((0:Nat):Int):Rat)=0 from rfl];grind
      ·have:(1:Rat)≤((n:Int):Rat):=by
        have:((1:Int):Rat)≤((n:Int):Rat):=Rat.intCast_le_intCast.2 (by omega)
        exact this
       exact Rat.mul_nonneg (by grind) (Rat.mul_nonneg hn (by grind))
     generalize ((n:Int):Rat)=x at*
     generalize s*m=B at*
     generalize (d:Rat)=y at*
     grind
    have e3:(h-l) / s / (s*m)*(s*m)=(h-l) / s:=Rat.div_mul_cancel (by grind)
    rw [←ybg hB,e3]
    exact Rat.le_trans e2 e1
   have q5:(n:Int)≤floorQ ((h-l) / s / (s*m)):=by rw [y9d,Rat.le_floor_iff];exact q4
   have q6:2^(S+S+1+S+(S+S)+1)=2^(5*S+2):=by congr 1;omega
   omega
  obtain ⟨e,he⟩:∃e:Nat,(1+d+(n:Int))=(e:Int):=⟨(1+d+(n:Int)).toNat,by omega⟩
  have he0:0<e:=by omega
  have hes:e<2^(5*S+8):=by
   have h2:2^(5*S+8)=64*2^(5*S+2):=by rw [show 5*S+8=5*S+2+6 by omega,Nat.pow_add,Nat.mul_comm]
   have h3:1≤2^(5*S+2):=Nat.one_le_two_pow
   omega
  have het:(1:Rat)+Rat.ofInt d+((n:Int):Rat)=((e:Nat):Rat):=by
   have:((1+d+(n:Int):Int):Rat)=((e:Int):Rat):=by rw [he]
   rw [Rat.intCast_add,Rat.intCast_add] at this
   exact this
  have hne:((e:Nat):Rat)≠0:=fun hz=>by have:=Rat.natCast_pos.2 he0;grind
  rw [het] at k3
  have ef:fastQ h m s p d=((h-p) / s+s*m*triQ ((n:Int):Rat))*((e:Nat):Rat)⁻¹:=by
   rw [←k3,Rat.mul_assoc,Rat.mul_inv_cancel _ hne,Rat.mul_one]
  rw [ef]
  have htri:InD 1 (10*S+5) (triQ ((n:Int):Rat)):=by
   obtain ⟨t,ht⟩:∃t:Nat,n*(n+1)=2*t:=by
    rcases Nat.mod_two_eq_zero_or_one n with h | h
    ·exact ⟨n / 2*(n+1),by rw [←Nat.mul_assoc];congr 1;omega⟩
    ·exact ⟨n*((n+1) / 2),by rw [Nat.mul_left_comm];congr 1;omega⟩
   have e1:triQ ((n:Int):Rat)=((t:Int):Rat):=by
    have h3:((n*(n+1):Nat):Rat)=((2*t:Nat):Rat):=by rw [ht]
    rw [Rat.natCast_mul,Rat.natCast_mul,Rat.natCast_add] at h3
    have a1:((1:Nat):Rat)=1:=rfl
    have a2:((2:Nat):Rat)=2:=rfl
    rw [a1,a2] at h3
    have h2:2*triQ ((n:Nat):Rat)=((n:Nat):Rat)*(((n:Nat):Rat)+1):=y74 ((n:Int):Rat)
    show triQ ((n:Nat):Rat)=((t:Nat):Rat)
    rw [h3] at h2
    grind
   rw [e1]
   refine InD.int ?_
   have h5:n*(n+1)<2^(5*S+2)*2^(5*S+3):=Nat.mul_lt_mul'' hks (by rw [Nat.pow_succ 2 (5*S+2)];omega)
   rw [←Nat.pow_add,show 5*S+2+(5*S+3)=10*S+5 by omega] at h5
   omega
  have hbr:InD (s.den*m.den) (S+S+(10*S+5)) (s*m*triQ ((n:Int):Rat)):=by
   have:=((InD.of ss).mul (InD.of sm)).mul htri
   rw [Nat.mul_one] at this
   exact this
  obtain ⟨F,hFe⟩:∃F,F=h.den*s.num.natAbs*(s.den*m.den):=⟨_,rfl⟩
  have hF0:0<F:=by rw [hFe];exact Nat.mul_pos (Nat.mul_pos h.den_pos hsa) (Nat.mul_pos s.den_pos m.den_pos)
  have hF2:F<2^(S+S+(S+S)):=by rw [hFe];exact y2j (y2j sh.den ss.num) (y2j ss.den sm.den)
  have a1:InD (D*F) (Z+14*S+5) ((h-p) / s):=(hroom.more (y2j ss.den sm.den)).cast (by rw [hFe];simp only [Nat.mul_assoc]) (by omega)
  have a2:InD (D*F) (Z+14*S+5) (s*m*triQ ((n:Int):Rat)):=by
   have x1:D*(h.den*s.num.natAbs)<2^(Z+(S+S)):=y2j hD (y2j sh.den ss.num)
   exact (hbr.more' x1).cast (by rw [hFe];simp only [Nat.mul_assoc]) (by omega)
  have a3:=a1.add a2
  have a4:InD e 1 ((e:Nat):Rat)⁻¹:=⟨1,by show ((e:Nat):Rat)⁻¹*((e:Nat):Rat)=1;rw [Rat.mul_comm];exact Rat.mul_inv_cancel _ hne,by decide⟩
  refine ⟨F*e,Nat.mul_pos hF0 he0,Nat.lt_of_lt_of_le (y2j hF2 hes) (hmono _ _ (by omega)),(a3.mul a4).cast (by rw [Nat.mul_assoc]) (by omega)⟩
theorem yiq {C:Rat→Prop} {a b:Rat} (ha:C a) (hb:C b):C (minQ a b):=by unfold minQ;split<;>assumption
theorem yjc {C:Rat→Prop} {a b:Rat} (ha:C a) (hb:C b):C (maxQ a b):=by unfold maxQ;split<;>assumption
def PvS (Z:Nat) (p v:Rat):Prop:=∃D,0<D∧D<2^Z∧InD D Z p∧InD D Z v
theorem PvS.sm {Z:Nat} {p v:Rat} (h:PvS Z p v):SmQ Z p∧SmQ Z v:=by
 obtain ⟨D,d0,d1,hp,hv⟩:=h
 exact ⟨hp.sm d0 d1 (Nat.le_refl _),hv.sm d0 d1 (Nat.le_refl _)⟩
theorem PvS.start {p v:Rat} {S:Nat} (hp:SmQ S p) (hv:SmQ S v):PvS (S+S) p v:=by
 refine ⟨p.den*v.den,Nat.mul_pos p.den_pos v.den_pos,y2j hp.den hv.den,(InD.of hp).more hv.den, ?_⟩
 exact (InD.of hv).more' hp.den
theorem PvS.step {l h m s p v w:Rat} {d at_ lng i:Int} {Z S:Nat} (h1S:1≤S) (hs:PvS Z p v) (sl:SmQ S l) (sh:SmQ S h) (sm:SmQ S m) (ss:SmQ S s) (sw:SmQ S w) (s0:0<s) (m0:0<m) (d0:0≤d) (d1:d≤16) (hlp:l≤p) (hph:p≤h):
  PvS (Z+(17*S+22)) (moQ l h m s d at_ lng i p v w).p (moQ l h m s d at_ lng i p v w).v:=by
 obtain ⟨D,D0,D1,hp,hv⟩:=hs
 obtain ⟨b1,b2,b3⟩:=InD.prod ss sm
 obtain ⟨w1,w2,w3⟩:=InD.prod ss sw
 have cv:Cand D Z (16*S+20) v:=(Cand.same hv).mono (by omega)
 have cp:Cand D Z (16*S+20) (v+s*m):=(Cand.plus hv b2 b3 b1 D1).mono (by omega)
 have cm:Cand D Z (16*S+20) (v-s*m):=by
  have:=(Cand.plus hv b2 b3 b1.neg D1).mono (show S+S+1≤16*S+20 by omega)
  rwa [←Rat.sub_eq_add_neg] at this
 have cw:Cand D Z (16*S+20) (v+s*w):=(Cand.plus hv w2 w3 w1 D1).mono (by omega)
 have cf:Cand D Z (16*S+20) (fastQ h m s p d):=ylz hp D0 D1 sh sl sm ss s0 m0 d0 d1 hlp
 have cg:Cand D Z (16*S+20) (fastQ (-l) m s (-p) d):=ylz (l:=-h) hp.neg D0 D1 sl.neg sh.neg sm ss s0 m0 d0 d1 (by grind)
 have c0:Cand D Z (16*S+20) 0:=⟨1,by decide,Nat.one_lt_two_pow (by omega),0,by rw [Rat.zero_mul];rfl,by rw [show (0:Int).natAbs=0 from rfl];exact Nat.pow_pos (by decide)⟩
 have hu:Cand D Z (16*S+20) (v+s*accQ l h m s d at_ lng i p v w):=by
  unfold accQ
  split
  ·rw [yja s0]
   exact yjc (yjc cg.neg cm) (yiq (yiq cf cp) cw)
  ·split
   ·rw [(ye0 s0 m0).1]
    unfold brkQ
    split
    ·exact cp
    ·split
     ·exact c0
     ·exact cm
   ·rw [Rat.mul_zero,Rat.add_zero];exact cv
 show PvS (Z+(17*S+22)) (p+s*(v+s*accQ l h m s d at_ lng i p v w)) (v+s*accQ l h m s d at_ lng i p v w)
 generalize v+s*accQ l h m s d at_ lng i p v w=u at hu ⊢
 obtain ⟨F,f1,f2,f3⟩:=hu
 have hsd:=ss.den
 have k1:F*s.den<2^(16*S+20+S):=y2j f2 hsd
 refine ⟨D*(F*s.den),Nat.mul_pos D0 (Nat.mul_pos f1 s.den_pos),Nat.lt_of_lt_of_le (y2j D1 k1) (Nat.pow_le_pow_right (by decide) (by omega)), ?_, ?_⟩
 ·have a1:InD (D*(F*s.den)) (Z+(16*S+20+S)) p:=hp.more k1
  have a2:InD (D*(F*s.den)) (Z+(16*S+20)+S) (s*u):=by
   have:=f3.mul (InD.of ss)
   rw [Rat.mul_comm] at this
   exact this.cast (by rw [Nat.mul_assoc]) (Nat.le_refl _)
  exact (a1.add (a2.mono (by omega))).mono (by omega)
 ·exact (f3.more hsd).cast (by rw [Nat.mul_assoc]) (by omega)
end Go.Ev
namespace Go.Ev
end Go.Ev
namespace Go.Ev
end Go.Ev
namespace Go.Ev
open Go.Dig
@[irreducible] def TB:Nat:=321
end Go.Ev
namespace Go.Ev
open Go.Dig
def nthC:Nat→ACode→ACode
 | 0,.seq a _=>a
 | n+1,.seq _ b=>nthC n b
 | _,c=>c
section
variable {n:Nat} {ob:Nat→Option AObj} {fz:Nat→Nat} {nx:Nat} {L:List (Nat×SV)} {d k kind a i:Nat} {ws:List (List AV)} {h o:AV}
theorem yrg (hs:List Rat):okSz 4 (hs.map rC)=true:=y9r y5j hs
end
end Go.Ev
namespace Go.Ev
section
variable (b:Int) (d k kind:Nat) (at_:Int)
end
theorem y7m {α:Type} {g:(Nat→Nat)→α→Option ((Nat→Nat)×α)} {x y:α} {r r':List α} (h:∀fz,g fz x=some (fz,y)) (k:∀fz,mapFz g fz r=some (fz,r')):∀fz,mapFz g fz (x::r)=some (fz,y::r'):=fun fz=>by
 simp only [mapFz,h,k]
end Go.Ev
namespace Go.Ev
def CLe (F F':Caller):Prop:=∀c args s r,F c args s=some r→F' c args s=some r
theorem yiy {F F':Caller} (h:CLe F F') {f:FuncId} {args:List SV} {ob:Nat→Option AObj} {fz:Nat→Nat} {e:Eff} (he:callV F f args ob fz=some e):callV F' f args ob fz=some e:=by
 unfold callV at he ⊢
 cases h1:mapFz (frzS ob) fz args with
 | none=>rw [h1] at he;cases he
 | some p=>
  obtain ⟨fz',args'⟩:=p
  rw [h1] at he
  simp only at he ⊢
  cases h2:F (.fn f) args' Sto.empty with
  | none=>rw [h2] at he;cases he
  | some q=>
   rw [h _ _ _ _ h2]
   rw [h2] at he
   exact he
theorem yum {F F':Caller} (h:CLe F F') {d:Bool} {rb id:Nat} {st:St} {o:AOp} {e:Eff} (he:evOp F d rb id st o=some e):evOp F' d rb id st o=some e:=by
 cases o with
 | call byref f args=>
  simp only [evOp] at he ⊢
  cases byref with
  | true=>
   simp only [cond_true] at he ⊢
   cases h2:F (.fn f) (args.map (·.ev st.sl)) ⟨st.ob,st.fz,st.nx⟩ with
   | none=>rw [h2] at he;cases he
   | some q=>rw [h _ _ _ _ h2];rw [h2] at he;exact he
  | false=>exact yiy h he
 | callv x args=>
  simp only [evOp] at he ⊢
  split at he
  ·exact yiy h he
  ·rename_i f first caps hne hx
   cases h2:F (.fn f) (first.map .one++args.map (·.ev st.sl)++caps.map .one) ⟨st.ob,st.fz,st.nx⟩ with
   | none=>rw [h2] at he;cases he
   | some q=>rw [h _ _ _ _ h2];rw [h2] at he;exact he
  ·rename_i l hx
   cases h2:F (.rnd l) (args.map (·.ev st.sl)) ⟨st.ob,st.fz,st.nx⟩ with
   | none=>rw [h2] at he;cases he
   | some q=>rw [h _ _ _ _ h2];rw [h2] at he;exact he
  ·cases he
 | _=>exact he
theorem ydt {F F':Caller} (h:CLe F F') {d:Bool} {rb i:Nat} {st st':St} {o:AOper} (he:evO F d rb i o st=some st'):evO F' d rb i o st=some st':=by
 unfold evO at he ⊢
 split at he
 ·cases hl:limOk st.sl o.op o.lim with
  | false=>rw [hl] at he;cases he
  | true=>
   rw [hl] at he
   simp only [cond_true] at he ⊢
   cases h2:evOp F d rb (rb+i) st o.op with
   | none=>rw [h2] at he;cases he
   | some q=>rw [yum h h2];rw [h2] at he;exact he
 ·exact he
 ·cases he
theorem ydk {F F':Caller} (h:CLe F F') {d:Bool} {rb:Nat}:∀{ops:List AOper} {i:Nat} {st st':St},evOps F d rb i ops st=some st'→evOps F' d rb i ops st=some st'
 | [],i,st,st',he=>he
 | o::r,i,st,st',he=>by
  unfold evOps at he ⊢
  cases h2:evO F d rb i o st with
  | none=>rw [h2] at he;cases he
  | some q=>rw [ydt h h2];rw [h2] at he;exact ydk h he
theorem yh3 {F F':Caller} (h:CLe F F') {rb:Nat} {aos:List AOper}:∀{pm:List (Nat×List (Nat×Opd))} {st st':St},evP F rb aos pm st=some st'→evP F' rb aos pm st=some st'
 | [],st,st',he=>he
 |(j,ks)::r,st,st',he=>by
  unfold evP at he ⊢
  cases hj:aos[j]? with
  | none=>rw [hj] at he;cases he
  | some o=>
   rw [hj] at he
   simp only at he ⊢
   cases h2:evO F true rb j o st with
   | none=>rw [h2] at he;cases he
   | some q=>
    rw [ydt h h2]
    rw [h2] at he
    simp only at he ⊢
    cases hk:keepOk st q ks with
    | false=>rw [hk] at he;cases he
    | true=>rw [hk] at he;exact yh3 h he
theorem ydz {b b':St→Option (Ex×St)} (h:∀st r,b st=some r→b' st=some r):∀{k k':Nat} {st:St} {r:Ex×St},k≤k'→loopN b k st=some r→loopN b' k' st=some r
 | 0,k',st,r,hk,he=>by cases he
 | k+1,0,st,r,hk,he=>by omega
 | k+1,k'+1,st,r,hk,he=>by
  unfold loopN at he ⊢
  cases h2:b st with
  | none=>rw [h2] at he;cases he
  | some q=>
   rw [h _ _ h2]
   rw [h2] at he
   obtain ⟨e,st'⟩:=q
   cases e with
   | nrm=>exact ydz h (by omega) he
   | ext id=>exact he
   | ret=>exact he
theorem y69 {F F':Caller} (h:CLe F F') {fuel fuel':Nat} (hf:fuel≤fuel'):∀(a:ACode) {st:St} {r:Ex×St},evC F fuel a st=some r→evC F' fuel' a st=some r
 | .skip,st,r,he=>he
 | .reg d ops na ks,st,r,he=>by
  unfold evC at he ⊢
  cases h2:evOps F d st.nx 0 ops { st with nx:=st.nx+na } with
  | none=>rw [h2] at he;cases he
  | some q=>rw [ydk h h2];rw [h2] at he;exact he
 | .regp ops pm na ks,st,r,he=>by
  unfold evC at he ⊢
  cases h2:evP F st.nx ops pm { st with nx:=st.nx+na } with
  | none=>rw [h2] at he;cases he
  | some q=>rw [yh3 h h2];rw [h2] at he;exact he
 | .seq a b,st,r,he=>by
  unfold evC at he ⊢
  cases h2:evC F fuel a st with
  | none=>rw [h2] at he;cases he
  | some q=>
   rw [y69 h hf a h2]
   rw [h2] at he
   obtain ⟨e,st'⟩:=q
   cases e with
   | nrm=>exact y69 h hf b he
   | ext id=>exact he
   | ret=>exact he
 | .cond c a b,st,r,he=>by
  unfold evC at he ⊢
  cases h2:isBool (c.ev st.sl) with
  | none=>rw [h2] at he;cases he
  | some t=>
   rw [h2] at he
   cases t with
   | true=>exact y69 h hf a he
   | false=>exact y69 h hf b he
 | .block id a,st,r,he=>by
  unfold evC at he ⊢
  cases h2:evC F fuel a st with
  | none=>rw [h2] at he;cases he
  | some q=>rw [y69 h hf a h2];rw [h2] at he;exact he
 | .loop a,st,r,he=>by
  unfold evC at he ⊢
  exact ydz (fun st r hr=>y69 h hf a hr) hf he
 | .exit id,st,r,he=>he
 | .ret,st,r,he=>he
 | .rangeF g ps asg body,st,r,he=>by
  unfold evC at he ⊢
  split at he
  ·rename_i f first caps hg
   cases h2:F (.fn f) (first.map .one++[.one (.yld (st.nx+1))]++caps.map .one) ⟨upd (upd st.ob st.nx .dfr) (st.nx+1) (.loop ⟨st.sl,ps,asg,body,.ready,none⟩),st.fz,st.nx+2⟩ with
   | none=>rw [h2] at he;cases he
   | some q=>rw [h _ _ _ _ h2];rw [h2] at he;exact he
  ·cases he
theorem yo6 (E:Env):∀n,CLe (evF E n) (evF E (n+1))
 | 0=>fun c args s r h=>by cases c<;>cases h
 | n+1=>fun c args s r h=>by
  have ih:=yo6 E n
  have hC:∀(a:ACode) (st:St) (r:Ex×St),evC (evF E n) n a st=some r→evC (evF E (n+1)) (n+1) a st=some r:=fun a st r hr=>y69 ih (Nat.le_succ n) a hr
  cases c with
  | fn f=>
   rw [evF] at h ⊢
   cases hE:E f with
   | none=>rw [hE] at h;cases h
   | some fn=>
    rw [hE] at h
    simp only at h ⊢
    cases h2:evC (evF E n) n fn.code { sl:=env (ofArgs 0 args),ob:=s.ob,fz:=s.fz,nx:=s.nx } with
    | none=>rw [h2] at h;cases h
    | some q=>rw [hC _ _ _ h2];rw [h2] at h;exact h
  | rnd l=>
   rw [evF] at h ⊢
   split at h
   ·rename_i lr hl
    cases hb:(Nat.beq args.length lr.ps.length&&naOk lr.asg&&naOk lr.body) with
    | false=>rw [hb] at h;cases h
    | true=>
     rw [hb] at h
     simp only [cond_true] at h ⊢
     cases h2:evC (evF E n) n lr.asg { sl:=setPs lr.ps args lr.sl,ob:=s.ob,fz:=s.fz,nx:=s.nx } with
     | none=>rw [h2] at h;cases h
     | some q=>
      rw [hC _ _ _ h2]
      rw [h2] at h
      obtain ⟨e,st⟩:=q
      cases e with
      | ext id=>cases h
      | ret=>cases h
      | nrm=>
       simp only at h ⊢
       split at h
       ·rename_i r1 hr1
        split at h
        ·rename_i hst
         cases h3:evC (evF E n) n lr.body { st with ob:=upd st.ob l (.loop { r1 with st:=.busy }) } with
         | none=>rw [h3] at h;cases h
         | some q=>rw [hC _ _ _ h3];rw [h3] at h;exact h
        ·cases h
       ·cases h
   ·cases h
theorem y7g (E:Env) {n m:Nat} (h:n≤m):CLe (evF E n) (evF E m):=by
 induction h with
 | refl=>exact fun c args s r h=>h
 | step _ ih=>exact fun c args s r h=>yo6 E _ c args s r (ih c args s r h)
theorem yp3 {E:Env} {n m:Nat} (h:n≤m) {f:FuncId} {args:List SV} {r:SV} (he:evV E n f args=some r):evV E m f args=some r:=by
 unfold evV at he ⊢
 cases h2:evF E n (.fn f) args Sto.empty with
 | none=>rw [h2] at he;cases he
 | some q=>rw [y7g E h _ _ _ _ h2];rw [h2] at he;exact he
end Go.Ev
namespace Go.Ev
abbrev Orc:=FuncId→List SV→Option SV
def callO (O:Orc) (F:Caller) (f:FuncId) (args:List SV) (ob:Nat→Option AObj) (fz:Nat→Nat):Option Eff:=
 match mapFz (frzS ob) fz args with
 | some (fz',args')=>match O f args' with
  | some r=>some (.fzd fz' r)
  | none=>match F (.fn f) args' Sto.empty with
   | some (r,s)=>match frzR s.ob s.fz r with
    | some (_,r')=>some (.fzd fz' r')
    | none=>none
   | none=>none
 | none=>none
def orOp (O:Orc) (F:Caller) (draw:Bool) (rb id:Nat) (st:St) (op:AOp):Option Eff:=match op with
 | .call false f args=>callO O F f (args.map (·.ev st.sl)) st.ob st.fz
 | .callv x args=>match x.ev st.sl with
  | .one (.fn f [] [])=>callO O F f (args.map (·.ev st.sl)) st.ob st.fz
  | _=>evOp F draw rb id st (.callv x args)
 | op=>evOp F draw rb id st op
def orO (O:Orc) (F:Caller) (draw:Bool) (rb i:Nat) (o:AOper) (st:St):Option St:=
 match wants st.sl o.guard with
 | some true=>bif limOk st.sl o.op o.lim then
   (match orOp O F draw rb (rb+i) st o.op with
    | some e=>some (e.apply st (rb+i) o.dst)
    | none=>none)
  else none
 | some false=>some { st with sl:=putS st.sl o.dst SV.undef }
 | none=>none
def orOps (O:Orc) (F:Caller) (draw:Bool) (rb:Nat):Nat→List AOper→St→Option St
 | _,[],st=>some st
 | i,o::r,st=>match orO O F draw rb i o st with
  | some st'=>orOps O F draw rb (i+1) r st'
  | none=>none
def orP (O:Orc) (F:Caller) (rb:Nat) (aos:List AOper):List (Nat×List (Nat×Opd))→St→Option St
 | [],st=>some st
 |(j,ks)::r,st=>match aos[j]? with
  | some o=>match orO O F true rb j o st with
   | some st'=>bif keepOk st st' ks then orP O F rb aos r st' else none
   | none=>none
  | none=>none
def orC (O:Orc) (F:Caller) (fuel:Nat):ACode→St→Option (Ex×St)
 | .skip,st=>some (.nrm,st)
 | .reg draw ops na ks,st=>match orOps O F draw st.nx 0 ops { st with nx:=st.nx+na } with
  | some st'=>some (.nrm,{ st' with sl:=keep ks st'.sl })
  | none=>none
 | .regp ops pm na ks,st=>match orP O F st.nx ops pm { st with nx:=st.nx+na } with
  | some st'=>some (.nrm,{ st' with sl:=keep ks st'.sl })
  | none=>none
 | .seq a b,st=>match orC O F fuel a st with
  | some (.nrm,st')=>orC O F fuel b st'
  | some (e,st')=>some (e,st')
  | none=>none
 | .cond c a b,st=>match isBool (c.ev st.sl) with
  | some t=>bif t then orC O F fuel a st else orC O F fuel b st
  | none=>none
 | .block id a,st=>match orC O F fuel a st with
  | some (.ext id',st')=>bif Nat.beq id' id then some (.nrm,st') else some (.ext id',st')
  | r=>r
 | .loop a,st=>loopN (orC O F fuel a) fuel st
 | .exit id,st=>some (.ext id,st)
 | .ret,st=>some (.ret,st)
 | .rangeF g ps asg body,st=>none
def orF (E:Env) (O:Orc):(n:Nat)→Caller
 | 0,_,_,_=>none
 | n+1,.fn f,args,s=>match E f with
  | some fn=>match orC O (orF E O n) n fn.code { sl:=env (ofArgs 0 args),ob:=s.ob,fz:=s.fz,nx:=s.nx } with
   | some (.nrm,st) | some (.ret,st)=>match resAll st fn.res with
    | some v=>some (v,⟨shut s.ob st.ob,st.fz,st.nx⟩)
    | none=>none
   | _=>none
  | none=>none
 | n+1,.rnd l,args,s=>none
def orV (E:Env) (O:Orc) (n:Nat) (f:FuncId) (args:List SV):Option SV:=
 match orF E O n (.fn f) args Sto.empty with
 | some (r,s)=>match frzR s.ob s.fz r with
  | some (_,r')=>some r'
  | none=>none
 | none=>none
def OrcOk (E:Env) (O:Orc):Prop:=∀f args r,O f args=some r→∃n,evV E n f args=some r
def Sim (E:Env) (F:Caller):Prop:=∀c args s r,F c args s=some r→∃m,evF E m c args s=some r
section
variable {E:Env} {O:Orc} {F:Caller}
theorem yek (hO:OrcOk E O) (hF:Sim E F) {f:FuncId} {args:List SV} {ob:Nat→Option AObj} {fz:Nat→Nat} {e:Eff} (h:callO O F f args ob fz=some e):∃m,callV (evF E m) f args ob fz=some e:=by
 unfold callO at h
 unfold callV
 cases h1:mapFz (frzS ob) fz args with
 | none=>rw [h1] at h;cases h
 | some p=>
  obtain ⟨fz',args'⟩:=p
  rw [h1] at h
  simp only at h ⊢
  cases h2:O f args' with
  | some r=>
   rw [h2] at h
   obtain ⟨n,hn⟩:=hO f args' r h2
   refine ⟨n, ?_⟩
   unfold evV at hn
   cases h3:evF E n (.fn f) args' Sto.empty with
   | none=>rw [h3] at hn;cases hn
   | some q=>
    rw [h3] at hn
    simp only at hn ⊢
    cases h4:frzR q.2.ob q.2.fz q.1 with
    | none=>rw [h4] at hn;cases hn
    | some z=>
     rw [h4] at hn
     cases hn
     exact h
  | none=>
   rw [h2] at h
   simp only at h
   cases h3:F (.fn f) args' Sto.empty with
   | none=>rw [h3] at h;cases h
   | some q=>
    obtain ⟨m,hm⟩:=hF _ _ _ _ h3
    rw [h3] at h
    exact ⟨m,by rw [hm];exact h⟩
theorem yn1 (hF:Sim E F) {d:Bool} {rb id:Nat} {st:St} {o:AOp} {e:Eff} (he:evOp F d rb id st o=some e):∃m,evOp (evF E m) d rb id st o=some e:=by
 cases o with
 | call byref f args=>
  simp only [evOp] at he ⊢
  cases byref with
  | true=>
   simp only [cond_true] at he ⊢
   cases h2:F (.fn f) (args.map (·.ev st.sl)) ⟨st.ob,st.fz,st.nx⟩ with
   | none=>rw [h2] at he;cases he
   | some q=>
    obtain ⟨m,hm⟩:=hF _ _ _ _ h2
    exact ⟨m,by rw [hm];rw [h2] at he;exact he⟩
  | false=>
   simp only [cond_false] at he ⊢
   exact callV_sim he
 | callv x args=>
  simp only [evOp] at he ⊢
  split at he
  ·exact callV_sim he
  ·rename_i f first caps hne hx
   cases h2:F (.fn f) (first.map .one++args.map (·.ev st.sl)++caps.map .one) ⟨st.ob,st.fz,st.nx⟩ with
   | none=>rw [h2] at he;cases he
   | some q=>
    obtain ⟨m,hm⟩:=hF _ _ _ _ h2
    refine ⟨m, ?_⟩
    rw [hm];rw [h2] at he;exact he
  ·rename_i l hx
   cases h2:F (.rnd l) (args.map (·.ev st.sl)) ⟨st.ob,st.fz,st.nx⟩ with
   | none=>rw [h2] at he;cases he
   | some q=>
    obtain ⟨m,hm⟩:=hF _ _ _ _ h2
    exact ⟨m,by rw [hm];rw [h2] at he;exact he⟩
  ·cases he
 | _=>exact ⟨0,he⟩
where
 callV_sim {f:FuncId} {args:List SV} {ob:Nat→Option AObj} {fz:Nat→Nat} {e:Eff} (h:callV F f args ob fz=some e):∃m,callV (evF E m) f args ob fz=some e:=by
  have h':callO (fun _ _=>none) F f args ob fz=some e:=h
  exact yek (O:=fun _ _=>none) (fun _ _ _ h=>by cases h) hF h'
theorem yz0 (hO:OrcOk E O) (hF:Sim E F) {d:Bool} {rb id:Nat} {st:St} {o:AOp} {e:Eff} (he:orOp O F d rb id st o=some e):∃m,evOp (evF E m) d rb id st o=some e:=by
 unfold orOp at he
 split at he
 ·obtain ⟨m,hm⟩:=yek hO hF he
  exact ⟨m,hm⟩
 ·rename_i x args
  split at he
  ·rename_i f hx
   obtain ⟨m,hm⟩:=yek hO hF he
   exact ⟨m,by simp only [evOp,hx];exact hm⟩
  ·exact yn1 hF he
 ·exact yn1 hF he
theorem yqr (hO:OrcOk E O) (hF:Sim E F) {d:Bool} {rb i:Nat} {o:AOper} {st st':St} (he:orO O F d rb i o st=some st'):∃m,evO (evF E m) d rb i o st=some st':=by
 unfold orO at he
 unfold evO
 cases hw:wants st.sl o.guard with
 | none=>rw [hw] at he;cases he
 | some b=>
 rw [hw] at he
 cases b with
 | true=>
  simp only at he ⊢
  cases hl:limOk st.sl o.op o.lim with
  | false=>rw [hl] at he;cases he
  | true=>
   rw [hl] at he
   simp only [cond_true] at he ⊢
   cases h2:orOp O F d rb (rb+i) st o.op with
   | none=>rw [h2] at he;cases he
   | some q=>
    obtain ⟨m,hm⟩:=yz0 hO hF h2
    exact ⟨m,by rw [hm];rw [h2] at he;exact he⟩
 | false=>exact ⟨0,he⟩
theorem ym4 (hO:OrcOk E O) (hF:Sim E F) {d:Bool} {rb:Nat}:∀{ops:List AOper} {i:Nat} {st st':St},orOps O F d rb i ops st=some st'→∃m,evOps (evF E m) d rb i ops st=some st'
 | [],i,st,st',he=>⟨0,he⟩
 | o::r,i,st,st',he=>by
  unfold orOps at he
  cases h2:orO O F d rb i o st with
  | none=>rw [h2] at he;cases he
  | some q=>
   rw [h2] at he
   obtain ⟨m1,h1⟩:=yqr hO hF h2
   obtain ⟨m2,h2⟩:=ym4 hO hF he
   refine ⟨max m1 m2, ?_⟩
   unfold evOps
   rw [ydt (y7g E (Nat.le_max_left m1 m2)) h1]
   exact ydk (y7g E (Nat.le_max_right m1 m2)) h2
theorem yrf (hO:OrcOk E O) (hF:Sim E F) {rb:Nat} {aos:List AOper}:∀{pm:List (Nat×List (Nat×Opd))} {st st':St},orP O F rb aos pm st=some st'→∃m,evP (evF E m) rb aos pm st=some st'
 | [],st,st',he=>⟨0,he⟩
 |(j,ks)::r,st,st',he=>by
  unfold orP at he
  cases hj:aos[j]? with
  | none=>rw [hj] at he;cases he
  | some o=>
   rw [hj] at he
   simp only at he
   cases h2:orO O F true rb j o st with
   | none=>rw [h2] at he;cases he
   | some q=>
    rw [h2] at he
    simp only at he
    cases hk:keepOk st q ks with
    | false=>rw [hk] at he;cases he
    | true=>
     rw [hk] at he
     obtain ⟨m1,h1⟩:=yqr hO hF h2
     obtain ⟨m2,h2⟩:=yrf hO hF he
     refine ⟨max m1 m2, ?_⟩
     unfold evP
     simp only [hj,ydt (y7g E (Nat.le_max_left m1 m2)) h1,hk,cond_true]
     exact yh3 (y7g E (Nat.le_max_right m1 m2)) h2
theorem yo9 {b:St→Option (Ex×St)} {a:ACode} (h:∀st r,b st=some r→∃m,evC (evF E m) m a st=some r):∀{k:Nat} {st:St} {r:Ex×St},loopN b k st=some r→∃m,loopN (evC (evF E m) m a) m st=some r
 | 0,st,r,he=>by cases he
 | k+1,st,r,he=>by
  unfold loopN at he
  cases h2:b st with
  | none=>rw [h2] at he;cases he
  | some q=>
   rw [h2] at he
   obtain ⟨m1,h1⟩:=h _ _ h2
   obtain ⟨e,st'⟩:=q
   cases e with
   | nrm=>
    obtain ⟨m2,h3⟩:=yo9 h he
    have l1:m1≤max m1 m2+1:=by omega
    have l2:m2≤max m1 m2+1:=by omega
    refine ⟨max m1 m2+1, ?_⟩
    rw [loopN,y69 (y7g E l1) l1 a h1]
    exact ydz (fun st r hr=>y69 (y7g E l2) l2 a hr) (by omega) h3
   | ext id=>exact ⟨m1+1,by rw [loopN,y69 (y7g E (Nat.le_succ m1)) (Nat.le_succ m1) a h1];exact he⟩
   | ret=>exact ⟨m1+1,by rw [loopN,y69 (y7g E (Nat.le_succ m1)) (Nat.le_succ m1) a h1];exact he⟩
theorem y9u (hO:OrcOk E O) (hF:Sim E F) {fuel:Nat}:∀(a:ACode) {st:St} {r:Ex×St},orC O F fuel a st=some r→∃m,evC (evF E m) m a st=some r
 | .skip,st,r,he=>⟨0,he⟩
 | .reg d ops na ks,st,r,he=>by
  unfold orC at he
  cases h2:orOps O F d st.nx 0 ops { st with nx:=st.nx+na } with
  | none=>rw [h2] at he;cases he
  | some q=>
   rw [h2] at he
   obtain ⟨m,hm⟩:=ym4 hO hF h2
   exact ⟨m,by unfold evC;rw [hm];exact he⟩
 | .regp ops pm na ks,st,r,he=>by
  unfold orC at he
  cases h2:orP O F st.nx ops pm { st with nx:=st.nx+na } with
  | none=>rw [h2] at he;cases he
  | some q=>
   rw [h2] at he
   obtain ⟨m,hm⟩:=yrf hO hF h2
   exact ⟨m,by unfold evC;rw [hm];exact he⟩
 | .seq a b,st,r,he=>by
  unfold orC at he
  cases h2:orC O F fuel a st with
  | none=>rw [h2] at he;cases he
  | some q=>
   rw [h2] at he
   obtain ⟨m1,h1⟩:=y9u hO hF a h2
   obtain ⟨e,st'⟩:=q
   cases e with
   | nrm=>
    obtain ⟨m2,h3⟩:=y9u hO hF b he
    refine ⟨max m1 m2, ?_⟩
    unfold evC
    rw [y69 (y7g E (Nat.le_max_left m1 m2)) (Nat.le_max_left m1 m2) a h1]
    exact y69 (y7g E (Nat.le_max_right m1 m2)) (Nat.le_max_right m1 m2) b h3
   | ext id=>exact ⟨m1,by unfold evC;rw [h1];exact he⟩
   | ret=>exact ⟨m1,by unfold evC;rw [h1];exact he⟩
 | .cond c a b,st,r,he=>by
  unfold orC at he
  cases h2:isBool (c.ev st.sl) with
  | none=>rw [h2] at he;cases he
  | some t=>
   rw [h2] at he
   cases t with
   | true=>
    obtain ⟨m,hm⟩:=y9u hO hF a he
    exact ⟨m,by unfold evC;rw [h2];exact hm⟩
   | false=>
    obtain ⟨m,hm⟩:=y9u hO hF b he
    exact ⟨m,by unfold evC;rw [h2];exact hm⟩
 | .block id a,st,r,he=>by
  unfold orC at he
  cases h2:orC O F fuel a st with
  | none=>rw [h2] at he;cases he
  | some q=>
   rw [h2] at he
   obtain ⟨m,hm⟩:=y9u hO hF a h2
   exact ⟨m,by unfold evC;rw [hm];exact he⟩
 | .loop a,st,r,he=>by
  unfold orC at he
  obtain ⟨m,hm⟩:=yo9 (fun st r hr=>y9u hO hF a hr) he
  exact ⟨m,by unfold evC;exact hm⟩
 | .exit id,st,r,he=>⟨0,he⟩
 | .ret,st,r,he=>⟨0,he⟩
 | .rangeF g ps asg body,st,r,he=>by cases he
end
theorem yr0 {E:Env} {O:Orc} (hO:OrcOk E O):∀n,Sim E (orF E O n)
 | 0=>fun c args s r h=>by cases c<;>cases h
 | n+1=>fun c args s r h=>by
  have ih:=yr0 hO n
  cases c with
  | fn f=>
   rw [orF] at h
   cases hE:E f with
   | none=>rw [hE] at h;cases h
   | some fn=>
    rw [hE] at h
    simp only at h
    cases h2:orC O (orF E O n) n fn.code { sl:=env (ofArgs 0 args),ob:=s.ob,fz:=s.fz,nx:=s.nx } with
    | none=>rw [h2] at h;cases h
    | some q=>
     rw [h2] at h
     obtain ⟨m,hm⟩:=y9u hO ih fn.code h2
     refine ⟨m+1, ?_⟩
     rw [evF,hE]
     simp only
     rw [hm]
     exact h
  | rnd l=>cases h
theorem yv8 {E:Env} {O:Orc} (hO:OrcOk E O) {n:Nat} {f:FuncId} {args:List SV} {r:SV} (h:orV E O n f args=some r):∃m,evV E m f args=some r:=by
 unfold orV at h
 cases h2:orF E O n (.fn f) args Sto.empty with
 | none=>rw [h2] at h;cases h
 | some q=>
  obtain ⟨m,hm⟩:=yr0 hO n _ _ _ _ h2
  exact ⟨m,by unfold evV;rw [hm];rw [h2] at h;exact h⟩
end Go.Ev
namespace Go.Ev
open Go.Dig
def digO:Nat→Nat→Option (List Nat)
 | 0,_=>none
 | k+1,n=>bif Nat.beq n 0 then some [] else match digO k (n / 4294967296) with
  | some l=>some (n%4294967296::l)
  | none=>none
theorem yk7:∀(k n:Nat) (l:List Nat),digO k n=some l→l=digs B32 n
 | 0,n,l,h=>by cases h
 | k+1,n,l,h=>by
  unfold digO at h
  cases hn:Nat.beq n 0 with
  | true=>
   rw [hn] at h
   cases h
   rw [Nat.eq_of_beq_eq_true hn,digs_zero]
  | false=>
   rw [hn] at h
   simp only [cond_false] at h
   cases h2:digO k (n / 4294967296) with
   | none=>rw [h2] at h;cases h
   | some l'=>
    rw [h2] at h
    cases h
    have h0:n≠0:=fun e=>by rw [e] at hn;cases hn
    rw [y6n (by decide) h0,yk7 k _ _ h2]
def valE:List (List AV)→Option Nat
 | []=>some 0
 | [.int .u32 (.ofNat n)]::r=>match valE r with
  | some v=>some (n+4294967296*v)
  | none=>none
 | _=>none
def eqE:List (List AV)→List Nat→Bool
 | [],[]=>true
 | [.int .u32 (.ofNat n)]::r,d::s=>Nat.beq n d&&eqE r s
 | _,_=>false
theorem y121:∀(es:List (List AV)) (l:List Nat),eqE es l=true→es=natE l:=by
 intro es l
 induction es generalizing l with
 | nil=>
  intro h
  cases l with
  | nil=>rfl
  | cons=>cases h
 | cons e r ih=>
  intro h
  unfold eqE at h
  split at h
  ·rename_i h1;cases h1
  ·rename_i n r' d s h1
   cases h1
   simp only [Bool.and_eq_true,Nat.beq_eq] at h
   rw [ih s h.2,h.1]
   rfl
  ·cases h
def rdN (v:AV):Option Nat:=match v with
 | .sl false es=>match valE es with
  | some n=>match digO 300 n with
   | some l=>bif eqE es l then some n else none
   | none=>none
  | none=>none
 | _=>none
theorem ytv {v:AV} {n:Nat} (h:rdN v=some n):v=natV n:=by
 unfold rdN at h
 split at h
 ·split at h
  ·split at h
   ·rename_i es n' _ l hl
    rw [Bool.cond_eq_ite] at h
    split at h
    ·rename_i he
     cases h
     rw [y121 _ _ he,yk7 _ _ _ hl]
     rfl
    ·cases h
   ·cases h
  ·cases h
 ·cases h
def BIG:Nat:=2^1000
theorem y13x:BIG=2^1000:=by unfold BIG;rfl
theorem yr8 {a b:Nat} (h:Nat.blt a b=true):a<b:=Nat.le_of_ble_eq_true h
def rdQ (x:SV):Option (Int×Nat):=match x with
 | .agg [.bool neg,a,b]=>match rdN a,rdN b with
  | some n,some d=>bif Nat.beq (Nat.gcd n (d+1)) 1&&(!neg || !Nat.beq n 0)&&Nat.blt n BIG&&Nat.blt (d+1) BIG then some (bif neg then-(n:Int) else (n:Int),d+1) else none
  | _,_=>none
 | _=>none
theorem yno {x:SV} {z:Int} {d:Nat} (h:rdQ x=some (z,d)):∃q:Rat,x=qV q∧q.num=z∧q.den=d∧SmQ 1000 q:=by
 unfold rdQ at h
 split at h
 ·rename_i neg a b
  split at h
  ·rename_i n d' ha hb
   rw [Bool.cond_eq_ite] at h
   split at h
   ·rename_i hc
    simp only [Bool.and_eq_true,Bool.or_eq_true,Nat.beq_eq] at hc
    obtain ⟨⟨⟨h1,h2⟩,h3⟩,h4⟩:=hc
    have h3:=yr8 h3
    have h4:=yr8 h4
    rw [y13x] at h3 h4
    cases h
    have hab:(bif neg then-(n:Int) else (n:Int)).natAbs=n:=by cases neg<;>simp
    refine ⟨⟨bif neg then-(n:Int) else (n:Int),d'+1,by omega,by rw [hab];exact h1⟩, ?_,rfl,rfl,⟨?_,h4⟩⟩
    ·rw [ytv ha,ytv hb]
     unfold qV qC
     simp only [hab,Nat.add_sub_cancel]
     have:neg=decide ((bif neg then-(n:Int) else (n:Int))<0):=by
      cases neg with
      | false=>simp
      | true=>
       simp only [Bool.not_true,Bool.false_eq_true,Bool.not_eq_true',false_or] at h2
       have:n≠0:=fun e=>by rw [e] at h2;cases h2
       simp only [cond_true]
       exact (decide_eq_true (by omega)).symm
     rw [←this]
    ·show (bif neg then-(n:Int) else (n:Int)).natAbs<_
     rw [hab];exact h3
   ·cases h
  ·cases h
 ·cases h
def wrN (n:Nat):Option AV:=match digO 300 n with
 | some l=>some (.sl false (natE l))
 | none=>none
theorem yv9 {n:Nat} {v:AV} (h:wrN n=some v):v=natV n:=by
 unfold wrN at h
 split at h
 ·rename_i l hl
  cases h
  rw [yk7 _ _ _ hl]
  rfl
 ·cases h
def wrQ (z:Int) (d:Nat):Option SV:=match wrN z.natAbs,wrN (d-1) with
 | some a,some b=>some (.agg [.bool (decide (z<0)),a,b])
 | _,_=>none
theorem yjj {q:Rat} {z:Int} {d:Nat} {v:SV} (hz:q.num=z) (hd:q.den=d) (h:wrQ z d=some v):v=qV q:=by
 subst hz hd
 unfold wrQ at h
 split at h
 ·rename_i a b ha hb
  cases h
  rw [yv9 ha,yv9 hb]
  rfl
 ·cases h
def wrF (z:Int) (d:Nat):Option SV:=bif Nat.beq d 0 then none else wrQ (sgn (decide (z<0)) (z.natAbs / Nat.gcd z.natAbs d)) (d / Nat.gcd z.natAbs d)
theorem yjs {z:Int} {d:Nat} {v:SV} (hd:d≠0) (h:wrF z d=some v):v=qV (Rat.normalize z d hd):=by
 unfold wrF at h
 cases hb:Nat.beq d 0 with
 | true=>rw [hb] at h;cases h
 | false=>
  rw [hb] at h
  obtain ⟨h1,h2⟩:=ydj z d hd
  exact yjj h1 h2 h
def one2 (args:List SV) (f:Int→Nat→Int→Nat→Option SV):Option SV:=match args with
 | [x,y]=>match rdQ x,rdQ y with
  | some (a,c),some (b,d)=>f a c b d
  | _,_=>none
 | _=>none
def one1 (args:List SV) (f:Int→Nat→Option SV):Option SV:=match args with
 | [x]=>match rdQ x with
  | some (a,c)=>f a c
  | none=>none
 | _=>none
theorem ycl {args:List SV} {f:Int→Nat→Int→Nat→Option SV} {r:SV} (h:one2 args f=some r):∃p q:Rat,args=[qV p,qV q]∧SmQ 1000 p∧SmQ 1000 q∧f p.num p.den q.num q.den=some r:=by
 unfold one2 at h
 split at h
 ·split at h
  ·rename_i hx hy
   obtain ⟨p,rfl,p1,p2,p3⟩:=yno hx
   obtain ⟨q,rfl,q1,q2,q3⟩:=yno hy
   exact ⟨p,q,rfl,p3,q3,by rw [p1,p2,q1,q2];exact h⟩
  ·cases h
 ·cases h
theorem yk8 {args:List SV} {f:Int→Nat→Option SV} {r:SV} (h:one1 args f=some r):∃p:Rat,args=[qV p]∧SmQ 1000 p∧f p.num p.den=some r:=by
 unfold one1 at h
 split at h
 ·split at h
  ·rename_i hx
   obtain ⟨p,rfl,p1,p2,p3⟩:=yno hx
   exact ⟨p,rfl,p3,by rw [p1,p2];exact h⟩
  ·cases h
 ·cases h
def oInt (args:List SV):Option SV:=match args with
 | [.one (.int .i64 z)]=>bif decide (-9223372036854775808≤z)&&decide (z<9223372036854775808) then wrQ z 1 else none
 | _=>none
theorem yzm {args:List SV} {r:SV} (h:oInt args=some r):∃z:Int,args=[.one (.int .i64 z)]∧-9223372036854775808≤z∧z<9223372036854775808∧wrQ z 1=some r:=by
 unfold oInt at h
 split at h
 ·rename_i z
  by_cases h1:-9223372036854775808≤z
  ·by_cases h2:z<9223372036854775808
   ·rw [decide_eq_true h1,decide_eq_true h2] at h
    exact ⟨z,rfl,h1,h2,h⟩
   ·rw [decide_eq_false h2,Bool.and_false] at h
    cases h
  ·rw [decide_eq_false h1,Bool.false_and] at h
   cases h
 ·cases h
def orcQ:Orc:=fun f args=>
 bif Nat.beq f Id.y08 then one2 args fun a c b d=>wrF (a*b) (c*d) else
 bif Nat.beq f Id.y0h then one2 args fun a c b d=>wrF (a*d+b*c) (c*d) else
 bif Nat.beq f Id.y1f then one2 args fun a c b d=>wrF (a*d-b*c) (c*d) else
 bif Nat.beq f Id.y0c then one1 args fun a c=>some (.one (.int .i64 (signI a))) else
 bif Nat.beq f Id.y0z then one1 args fun a c=>wrQ (-a) c else
 bif Nat.beq f Id.y1z then one2 args fun a c b d=>some (.one (.int .i64 (cmpZ (a*d) (b*c)))) else
 bif Nat.beq f Id.y0s then oInt args else
 bif Nat.beq f Id.y45 then one2 args fun a c b d=>bif decide (b=0) then none else match wrF (sgn (decide (a<0) !=decide (b<0)) (a.natAbs*d)) (c*b.natAbs) with
  | some v=>some (.tup [v,.one (.int .i64 0)])
  | none=>none else
 bif Nat.beq f Id.y5c then one1 args fun a c=>wrQ (a.natAbs:Int) c else none
theorem yic (a b:Rat):a.den*b.den≠0:=Nat.mul_ne_zero a.den_nz b.den_nz
theorem y10c (p:Rat):(absQ p).num=(p.num.natAbs:Int):=by
 unfold absQ
 split
 ·rw [Rat.neg_num];omega
 ·omega
theorem y102 (p:Rat):(absQ p).den=p.den:=by
 unfold absQ
 split
 ·exact Rat.neg_den p
 ·rfl
theorem yzk:OrcOk E orcQ:=by
 intro f args r h
 unfold orcQ at h
 have cs:∀{i:FuncId} {x y:Option SV},(bif Nat.beq f i then x else y)=some r→(f=i∧x=some r)∨y=some r:=by
  intro i x y h
  cases hb:Nat.beq f i with
  | true=>rw [hb] at h;exact .inl ⟨Nat.eq_of_beq_eq_true hb,h⟩
  | false=>rw [hb] at h;exact .inr h
 rcases cs h with ⟨rfl,h⟩ | h
 ·obtain ⟨p,q,rfl,hp,hq,h⟩:=ycl h
  rw [yjs (yic p q) h,←Rat.mul_def]
  exact ⟨_,ykg p q hp hq (by decide) (Nat.le_refl _)⟩
 rcases cs h with ⟨rfl,h⟩ | h
 ·obtain ⟨p,q,rfl,hp,hq,h⟩:=ycl h
  rw [yjs (yic p q) h,←Rat.add_def]
  exact ⟨_,ykl p q hp hq (by decide) (Nat.le_refl _)⟩
 rcases cs h with ⟨rfl,h⟩ | h
 ·obtain ⟨p,q,rfl,hp,hq,h⟩:=ycl h
  rw [yjs (yic p q) h]
  have e:Rat.normalize (p.num*(q.den:Int)-q.num*(p.den:Int)) (p.den*q.den) (yic p q)=p-q:=by
   rw [Rat.sub_eq_add_neg,Rat.add_def]
   simp only [Rat.neg_num,Rat.neg_den,Int.neg_mul,Int.sub_eq_add_neg]
  rw [e]
  exact ⟨_,yqs p q hp hq (by decide) (Nat.le_refl _)⟩
 rcases cs h with ⟨rfl,h⟩ | h
 ·obtain ⟨p,rfl,hp,h⟩:=yk8 h
  cases h
  exact ⟨_,yhr p 0⟩
 rcases cs h with ⟨rfl,h⟩ | h
 ·obtain ⟨p,rfl,hp,h⟩:=yk8 h
  rw [yjj (q:=-p) (Rat.neg_num p) (Rat.neg_den p) h]
  exact ⟨_,yk5 p 0⟩
 rcases cs h with ⟨rfl,h⟩ | h
 ·obtain ⟨p,q,rfl,hp,hq,h⟩:=ycl h
  cases h
  exact ⟨_,yfh p q hp hq (by decide) (Nat.le_refl _)⟩
 rcases cs h with ⟨rfl,h⟩ | h
 ·obtain ⟨z,rfl,h1,h2,h⟩:=yzm h
  rw [yjj (q:=Rat.ofInt z) rfl rfl h]
  exact ⟨_,yrb z h1 h2 (Nat.le_refl _)⟩
 rcases cs h with ⟨rfl,h⟩ | h
 ·obtain ⟨p,q,rfl,hp,hq,h⟩:=ycl h
  cases hb:decide (q.num=0) with
  | true=>rw [hb] at h;cases h
  | false=>
   rw [hb] at h
   have h0:q.num≠0:=of_decide_eq_false hb
   simp only [cond_false] at h
   split at h
   ·rename_i v hv
    cases h
    have hd:p.den*q.num.natAbs≠0:=Nat.mul_ne_zero p.den_nz (by omega)
    rw [yjs hd hv,yho p q h0 hd]
    exact ⟨_,yrq p q h0 hp hq (by decide) (Nat.le_refl _)⟩
   ·cases h
 rcases cs h with ⟨rfl,h⟩ | h
 ·obtain ⟨p,rfl,hp,h⟩:=yk8 h
  rw [yjj (y10c p) (y102 p) h]
  exact ⟨_,yzn p 0⟩
 cases h
end Go.Ev
namespace Go.Ev
set_option maxRecDepth 100000 in
theorem yt9:orV E orcQ 200 Id.y0m []=some (.one (.bool true)):=by kernel_rfl
theorem awake_ends:Ends Id.y0m [] (.one (.bool true)):=by
 obtain ⟨m,hm⟩:=yv8 yzk yt9
 exact ⟨m,fun n hn=>yp3 hn hm⟩
theorem yip:Calling Id.y0m [] (.one (.bool true)):=awake_ends.call fun x h=>by cases h
end Go.Ev
namespace Go.Ev
end Go.Ev
namespace Go.Ev
open Go.Dig
section
variable {n:Nat} {ob:Nat→Option AObj} {fz:Nat→Nat} {nx:Nat} {L:List (Nat×SV)} {d k kind a i:Nat} {ws:List (List AV)} {h o:AV}
end
theorem yjr {q:Rat} {f:FuncId} {A:List AV→List SV} {r:SV} (h:∀c,RW q c→Calling f (A c) r):∃N,∀c,RW q c→∀n,N≤n→∀(ob:Nat→Option AObj) (fz:Nat→Nat),callV (evF E n) f (A c) ob fz=some (.fzd fz r):=by
 obtain ⟨N1,h1⟩:=h _ (.self q)
 by_cases c:q=0
 ·obtain ⟨N2,h2⟩:=h [.bool false,.sl false [],.bool false,.sl false []] (.inl (.inr ⟨c,rfl⟩))
  obtain ⟨N3,h3⟩:=h [.bool false,.nils,.bool false,.nils] (.inr ⟨c,rfl⟩)
  refine ⟨N1+N2+N3,fun x hx n hn=> ?_⟩
  rcases hx with (rfl | ⟨_,rfl⟩) | ⟨_,rfl⟩
  ·exact h1 n (by omega)
  ·exact h2 n (by omega)
  ·exact h3 n (by omega)
 ·refine ⟨N1,fun x hx n hn=> ?_⟩
  rcases hx with (rfl | ⟨e,_⟩) | ⟨e,_⟩
  ·exact h1 n hn
  ·exact absurd e c
  ·exact absurd e c
end Go.Ev
namespace Go.Ev
theorem yoy (l h m s v:Rat) {S:Nat} (hm:SmQ S m) (hs:SmQ S s) (hv:SmQ S v) (h0:s.num≠0) (hS:S<2^20):
  Ends Id.y1w [.agg (qC l++(qC h++(qC m++qC s))),.agg (qC v)] (.agg (qC (brakingQ m s v))):=by
 have t1:SmQ (2*S) m:=hm.mono (by omega)
 have t2:SmQ (2*S) (-v / s):=(hv.neg.div h0 hs).mono (by omega)
 obtain ⟨N1,h1⟩:=cNeg m
 obtain ⟨N2,h2⟩:=cNeg v
 obtain ⟨N3,h3⟩:=cQuo (-v) s h0 hv.neg hs (by omega)
 obtain ⟨N4,h4⟩:=ya2 (yhx m (-v / s) t1 t2 (by omega))
 obtain ⟨N5,h5⟩:=ya2 (yhw (-m) (minQ m (-v / s)) t1.neg (t1.min t2) (by omega))
 refine .of (N1+N2+N3+N4+N5) fun {n} hn=> ?_
 rw [y03 ycf]
 have h1:=h1 n (by omega)
 have h2:=h2 n (by omega)
 have h3:=h3 n (by omega)
 have h4:=h4 n (by omega)
 have h5:=h5 n (by omega)
 unfold brakingQ
 simp only [go_sem,Fn.y1w,h1,h2,h3,h4,h5]
theorem cBraking (l h m s v:Rat) {S:Nat} (hm:SmQ S m) (hs:SmQ S s) (hv:SmQ S v) (h0:s.num≠0) (hS:S<2^20):
  Calling Id.y1w [.agg (qC l++(qC h++(qC m++qC s))),.agg (qC v)] (.agg (qC (brakingQ m s v))):=
 (yoy l h m s v hm hs hv h0 hS).call (yod _ _ _ _ _)
theorem yyh {S:Nat} (h:1≤S):SmQ S 0:=⟨Nat.pow_pos (by decide),Nat.one_lt_two_pow (by omega)⟩
def drvSW:ACode:=match Fn.y2a with | .seq _ (.seq _ (.seq (.block _ (.seq _ (.seq _ (.seq s _)))) _))=>s | _=>.skip
def drvPut (c t:ACode):ACode:=match c with | .seq a (.seq b (.seq (.block k (.seq r1 (.seq r2 (.seq _ q)))) z))=>.seq a (.seq b (.seq (.block k (.seq r1 (.seq r2 (.seq t q)))) z)) | c=>c
theorem y10i:Fn.y2a=drvPut Fn.y2a drvSW:=rfl
structure DrvB (ob:Nat→Option AObj) (l h m s p v:Rat) (at_ lng:Int):Prop where
 o0:ob 0=some (.box (qC l++(qC h++(qC m++qC s))))
 o1:ob 1=some (.box (qC p))
 o2:ob 2=some (.box (qC v))
 o3:ob 3=some (.box [.int .i64 at_,.int .i64 lng])
section
variable (l h m s p v w:Rat) (d at_ lng:Int) {S:Nat}
theorem yzi (h1S:1≤S) (hl:SmQ S l) (hh:SmQ S h) (hm:SmQ S m) (hs:SmQ S s) (hp:SmQ S p) (hv:SmQ S v) (hw:SmQ S w) (s0:0<s) (m0:0<m) (d0:0≤d) (d1:d≤16) (hS:S<2^19) (i:Nat) (hi:i<2^20) (ha:0≤at_) (ha':at_<9223372036854775808):
  ∃N,∀n,N≤n→∀(ob:Nat→Option AObj) (nx iw ia:Nat) (y15 y53 y54 y55:SV),3<iw→iw<ia→DrvB ob l h m s p v at_ lng→ob iw=some (.box (qC w))→ob ia=some (.box [.bool false,.nils,.nils])→
   ∃ob' ac X',evC (evF E n) n drvSW ⟨env [(4,.one (.int .i64 d)),(6,.one (.box 0 0)),(7,.one (.box 1 0)),(8,.one (.box 2 0)),(11,.one (.box 3 0)),(15,y15),(16,.one (.int .i64 (i:Int))),(17,.one (.box iw 0)),(18,.one (.box ia 0)),(53,y53),(54,y54),(55,y55)],ob,fz0,nx⟩=
    some (.nrm,⟨env ((4,.one (.int .i64 d))::(6,.one (.box 0 0))::(7,.one (.box 1 0))::(8,.one (.box 2 0))::(11,.one (.box 3 0))::(15,y15)::(18,.one (.box ia 0))::(53,y53)::(54,y54)::(55,y55)::X'),ob',fz0,nx⟩)∧
    LQ (accQ l h m s d at_ lng (i:Int) p v w) ac∧ob' ia=some (.box ac)∧∀id,id≠ia→ob' id=ob id:=by
 have hsn:s.num≠0:=fun e=>by have:=Rat.num_eq_zero.1 e;grind
 obtain ⟨N1,h1⟩:=(yak l h m s p v w d h1S hl hh hm hs hp hv hw s0 m0 d0 d1 hS).1.call (ylb _ _ _ _ _ _ _ _)
 obtain ⟨N2,h2⟩:=cBraking l h m s v hm hs hv hsn (by omega)
 refine ⟨N1+N2,fun n hn ob nx iw ia y15 y53 y54 y55 hiw hia B ow oa=> ?_⟩
 have h1:=h1 n (by omega)
 have h2:=h2 n (by omega)
 obtain ⟨o0,o1,o2,o3⟩:=B
 have w1:IntKind.i64.wrap ((i:Int)-at_)=(i:Int)-at_:=wrap_i64 (by omega)
 unfold accQ
 unfold heldQ at h1
 by_cases c1:lng=0
 ·have e1:(lng==0)=true:=by simp [c1]
  rw [if_pos (.inl c1)]
  refine ⟨upd ob ia (.box (qC (holdQ m s v w (fastQ h m s p d) (fastQ (-l) m s (-p) d)))),_,[], ?_,.of _,upd_same _ _ _,fun id hid=>y00 hid⟩
  unfold drvSW Fn.y2a
  simp only [go_sem,o0,o1,o2,o3,ow,oa,w1,e1,h1]
 ·have e1:(lng==0)=false:=by simp [c1]
  by_cases c2:(i:Int)-at_<0
  ·rw [if_pos (.inr c2)]
   have e2:((i:Int)-at_<0)=True:=by simp only [eq_iff_iff,iff_true];exact c2
   refine ⟨upd ob ia (.box (qC (holdQ m s v w (fastQ h m s p d) (fastQ (-l) m s (-p) d)))),_,[], ?_,.of _,upd_same _ _ _,fun id hid=>y00 hid⟩
   unfold drvSW Fn.y2a
   simp only [go_sem,o0,o1,o2,o3,ow,oa,w1,e1,e2,h1]
  ·rw [if_neg (by simp only [not_or];exact ⟨c1,c2⟩)]
   have e2:((i:Int)-at_<0)=False:=by simp only [eq_iff_iff,iff_false];exact c2
   by_cases c3:(i:Int)-at_≥lng
   ·rw [if_pos c3]
    have e3:((i:Int)-at_≥lng)=True:=by simp only [eq_iff_iff,iff_true];exact c3
    refine ⟨upd ob ia (.box (qC (brakingQ m s v))),_,[], ?_,.of _,upd_same _ _ _,fun id hid=>y00 hid⟩
    unfold drvSW Fn.y2a
    simp only [go_sem,o0,o1,o2,o3,oa,w1,e1,e2,e3,h2]
   ·rw [if_neg c3]
    have e3:((i:Int)-at_≥lng)=False:=by simp only [eq_iff_iff,iff_false];exact c3
    refine ⟨ob,_,[(78,.one (.bool false))], ?_,.inr ⟨rfl,rfl⟩,oa,fun id hid=>rfl⟩
    unfold drvSW Fn.y2a
    simp only [go_sem,o3,w1,e1,e2,e3]
end
def Mo.c (o:Mo):List AV:=qC o.a++(qC o.v++qC o.p)
def MoL (o:Mo) (e:List AV):Prop:=∃ac,LQ o.a ac∧e=ac++(qC o.v++qC o.p)
def MoLs:List Mo→List (List AV)→Prop
 | [],[]=>True
 | o::r,e::s=>MoL o e∧MoLs r s
 | _,_=>False
theorem MoLs.len:∀{ms:List Mo} {es:List (List AV)},MoLs ms es→es.length=ms.length
 | [],[],_=>rfl
 | _::r,_::s,h=>by rw [List.length_cons,List.length_cons,MoLs.len h.2]
theorem MoLs.snoc:∀{ms:List Mo} {es:List (List AV)} {o:Mo} {e:List AV},MoLs ms es→MoL o e→MoLs (ms++[o]) (es++[e])
 | [],[],_,_,_,h=>⟨h,trivial⟩
 | _::r,_::s,_,_,h,k=>⟨h.1,MoLs.snoc h.2 k⟩
theorem yaq {α:Type} {g:(Nat→Nat)→α→Option ((Nat→Nat)×α)} {x y:α} {r r':List α} (h:∀fz,g fz x=some (fz,y)) (k:∀fz,mapFz g fz r=some (fz,r')):∀fz,mapFz g fz (x::r)=some (fz,y::r'):=fun fz=>by
 simp only [mapFz,h,k]
theorem y10u (o:Mo):CanL o.c:=.app (.q _) (.app (.q _) (.q _))
theorem MoL.frz {o:Mo} {e:List AV} (h:MoL o e) (ob:Nat→Option AObj) (k:Nat):∀fz,mapFz (Ev.frz ob (k+1)) fz e=some (fz,o.c):=by
 obtain ⟨ac,hq,rfl⟩:=h
 rcases hq with rfl | ⟨h0,rfl⟩
 ·exact fun fz=>y5s _ fun x hx=>(y10u o x hx).frz ob k fz
 ·have e:o.c=.bool false::.sl false []::.sl false []::(qC o.v++qC o.p):=by unfold Mo.c;rw [h0,yct];rfl
  rw [e]
  have hc:CanL (qC o.v++qC o.p):=.app (.q _) (.q _)
  exact yaq (fun fz=>rfl) (yaq (fun fz=>rfl) (yaq (fun fz=>rfl) fun fz=>y5s _ fun x hx=>(hc x hx).frz ob k fz))
theorem MoLs.frz (ob:Nat→Option AObj) (k:Nat):∀{ms:List Mo} {es:List (List AV)},MoLs ms es→∀fz,mapFz (mapFz (Ev.frz ob (k+1))) fz es=some (fz,ms.map Mo.c)
 | [],[],_=>fun fz=>rfl
 | _::r,_::s,h=>yaq (h.1.frz ob k) (MoLs.frz ob k h.2)
def OutM (ob:Nat→Option AObj) (nx:Nat) (x:AV) (ms:List Mo):Prop:=
 (ms=[]∧x=.nils)∨∃id ver es,x=.rsl id ver 9 0 es.length false∧ob id=some (.row 9 es ver)∧id<nx∧MoLs ms es
theorem OutM.frz {ob:Nat→Option AObj} {nx:Nat} {x:AV} {ms:List Mo} (h:OutM ob nx x ms):∃g:(Nat→Nat)→(Nat→Nat),∀fz,frzS ob fz (.one x)=some (g fz,.one (.sl false (ms.map Mo.c))):=by
 rcases h with ⟨rfl,rfl⟩ | ⟨id,ver,es,rfl,hid,_,hm⟩
 ·exact ⟨fun fz=>fz,fun fz=>rfl⟩
 ·refine ⟨fun fz=>raise fz id (0+es.length),fun fz=> ?_⟩
  have hb:Nat.ble (0+es.length) es.length=true:=by simp
  have h1:Ev.frz ob DEPTH fz (.rsl id ver 9 0 es.length false)=some (raise fz id (0+es.length),.sl false (ms.map Mo.c)):=by
   rw [show DEPTH=6+1+1 from rfl,y9c,y4d hid]
   simp only [hb,cond_true,List.drop_zero,List.take_length]
   rw [hm.frz ob 6]
  simp only [frzS,h1]
section
variable (l h m s p v w:Rat) (d at_ lng:Int) {S:Nat}
def drvS (d:Int) (x:AV) (ws:List (List AV)) (i:Nat) (X:List (Nat×SV)):List (Nat×SV):=
 (4,.one (.int .i64 d))::(6,.one (.box 0 0))::(7,.one (.box 1 0))::(8,.one (.box 2 0))::(11,.one (.box 3 0))::(15,.one x)::(53,.one (.sl false ws))::(54,.one (.int .i64 (ws.length:Int)))::(55,.one (.int .i64 (i:Int)))::X
theorem ywg (h1S:1≤S) (hl:SmQ S l) (hh:SmQ S h) (hm:SmQ S m) (hs:SmQ S s) (hp:SmQ S p) (hv:SmQ S v) (hw:SmQ S w) (s0:0<s) (m0:0<m) (d0:0≤d) (d1:d≤16) (hS:S<2^19) (ha:0≤at_) (ha':at_<9223372036854775808)
  (ws:List (List AV)) (i:Nat) (gw:ws[i]? =some (qC w)) (o3w:okSz 3 ws=true) (hi:i<ws.length) (hlen:ws.length<2^20) (hacc:SmQ (31*S+200) (accQ l h m s d at_ lng (i:Int) p v w)):
  ∃N,∀n,N≤n→∀(ob:Nat→Option AObj) (nx:Nat) (x:AV) (ms:List Mo) (X:List (Nat×SV)),4≤nx→DrvB ob l h m s p v at_ lng→OutM ob nx x ms→ms.length=i→
   ∃ob' nx' x',evC (evF E n) n Fn.y2a ⟨env (drvS d x ws i X),ob,fz0,nx⟩=some (.nrm,⟨env (drvS d x' ws (i+1) []),ob',fz0,nx'⟩)∧nx≤nx'∧
    DrvB ob' l h m s (moQ l h m s d at_ lng (i:Int) p v w).p (moQ l h m s d at_ lng (i:Int) p v w).v at_ lng∧OutM ob' nx' x' (ms++[moQ l h m s d at_ lng (i:Int) p v w]):=by
 obtain ⟨N1,k1⟩:=yzi l h m s p v w d at_ lng h1S hl hh hm hs hp hv hw s0 m0 d0 d1 hS i (by omega) ha ha'
 unfold moQ
 generalize accQ l h m s d at_ lng (i:Int) p v w=a at k1 hacc ⊢
 obtain ⟨N2,k2⟩:=cMul s a hs hacc (by omega)
 obtain ⟨N3,k3⟩:=cAdd v (s*a) hv (hs.mul hacc) (by omega)
 have hv':SmQ (34*S+210) (v+s*a):=(hv.add (hs.mul hacc)).mono (by omega)
 obtain ⟨N4,k4⟩:=cMul s (v+s*a) hs hv' (by omega)
 obtain ⟨N5,k5⟩:=cAdd p (s*(v+s*a)) hp (hs.mul hv') (by omega)
 refine ⟨N1+N2+N3+N4+N5,fun n hn ob nx x ms X hnx B hO hms=> ?_⟩
 have k3:=k3 n (by omega)
 have k4:=k4 n (by omega)
 have k5:=k5 n (by omega)
 have h1:(((i:Nat):Int)<((ws.length:Nat):Int))=True:=by simp;omega
 have wk:IntKind.i64.wrap ((i+1:Nat):Int)=((i+1:Nat):Int):=wi64 (by omega)
 obtain ⟨q0,q1,q2,q3⟩:=id B
 have nxa:∀a b:Nat,nx+a+b=nx+(a+b):=fun a b=>Nat.add_assoc nx a b
 have neN:∀i k:Nat,i<4→i≠nx+k:=fun i k hi=>by omega
 obtain ⟨ob',ac,X',e1,lq,e3,e4⟩:=k1 n (by omega) (upd (upd (upd ob (nx+3) (.box [.bool false,.nils,.nils])) (nx+3) (.box (qC w))) (nx+6+0) (.box [.bool false,.nils,.nils])) (nx+7) (nx+3) (nx+6) (.one x) (.one (.sl false ws)) (.one (.int .i64 (ws.length:Int))) (.one (.int .i64 (i:Int))) (by omega) (by omega)
  ⟨by rw [y00 (by omega),y00 (by omega),y00 (by omega)];exact q0,by rw [y00 (by omega),y00 (by omega),y00 (by omega)];exact q1,by rw [y00 (by omega),y00 (by omega),y00 (by omega)];exact q2,by rw [y00 (by omega),y00 (by omega),y00 (by omega)];exact q3⟩
  (by rw [y00 (by omega),upd_same]) (by rw [Nat.add_zero,upd_same])
 have old:∀id,id<nx→ob' id=ob id:=fun id hid=>by rw [e4 id (by omega),y00 (by omega),y00 (by omega),y00 (by omega)]
 have r0:=(old 0 (by omega)).trans q0
 have r1:=(old 1 (by omega)).trans q1
 have r2:=(old 2 (by omega)).trans q2
 have r3:=(old 3 (by omega)).trans q3
 have k2:∀ob fz,callV (evF E n) Id.y08 [.agg (qC s),.agg ac] ob fz=some (.fzd fz (.agg (qC (s*a)))):=fun ob fz=>by rw [yai (.of _) lq];exact k2 n (by omega) ob fz
 have lsub:=lq.sub
 have llen:=lq.len
 rw [yfj] at e1
 have l9:(ac++(qC (v+s*a)++qC (p+s*(v+s*a)))).length=9:=by rw [List.length_append,llen];rfl
 have p0:∀z1 z2 z3:AV,∀r:List AV,put (z1::z2::z3::r) 0 ac=some (ac++r):=fun z1 z2 z3 r=>yo1 (X:=[z1,z2,z3]) (by rw [llen];rfl)
 have p3:∀r xs:List AV,put (ac++r) 3 xs=(put r 0 xs).map (ac++·):=fun r xs=>yb6 llen 0 xs
 have p6:∀r xs:List AV,put (ac++r) 6 xs=(put r 3 xs).map (ac++·):=fun r xs=>yb6 llen 3 xs
 have u6:(nx+6<nx+7)=True:=by simp only [eq_iff_iff,iff_true];omega
 have u0:(0<nx+7)=True:=by simp only [eq_iff_iff,iff_true];omega
 have u1:(1<nx+7)=True:=by simp only [eq_iff_iff,iff_true];omega
 have u2:(2<nx+7)=True:=by simp only [eq_iff_iff,iff_true];omega
 have g6:(nx+6=2)=False:=by simp only [eq_iff_iff,iff_false];omega
 have g6':(nx+6=1)=False:=by simp only [eq_iff_iff,iff_false];omega
 have ow:∀y,upd ob' 2 y (nx+6)=ob' (nx+6):=fun y=>y00 (by omega)
 have oa:∀y z,upd (upd ob' 2 y) 1 z (nx+6)=ob' (nx+6):=fun y z=>by rw [y00 (by omega),y00 (by omega)]
 have t1:∀y,upd ob' 2 y 1=ob' 1:=fun y=>y00 (by decide)
 have t0:∀y,upd ob' 2 y 0=ob' 0:=fun y=>y00 (by decide)
 have t2:∀y z,upd (upd ob' 2 y) 1 z 2=some y:=fun y z=>by rw [y00 (by decide),upd_same]
 obtain ⟨r,hr0⟩:∃r,evC (evF E n) n Fn.y2a ⟨env (drvS d x ws i X),ob,fz0,nx⟩=r:=⟨_,rfl⟩
 have hr:=hr0
 rw [y10i] at hr
 generalize drvSW=SW at hr e1
 unfold drvS at hr hr0 ⊢
 have hmo:MoL ⟨a,v+s*a,p+s*(v+s*a)⟩ (ac++(qC (v+s*a)++qC (p+s*(v+s*a)))):=⟨ac,lq,rfl⟩
 have hB':∀ob2,(∀id,id<4→ob2 id=upd (upd ob' 2 (.box (qC (v+s*a)))) 1 (.box (qC (p+s*(v+s*a)))) id)→DrvB ob2 l h m s (p+s*(v+s*a)) (v+s*a) at_ lng:=fun ob2 hk=>
  ⟨by rw [hk 0 (by decide),y00 (by decide),y00 (by decide)];exact r0,by rw [hk 1 (by decide),upd_same],by rw [hk 2 (by decide),y00 (by decide),upd_same],by rw [hk 3 (by decide),y00 (by decide),y00 (by decide)];exact r3⟩
 rcases hO with ⟨rfl,rfl⟩ | ⟨id,ver,es,rfl,hid,hidn,hM⟩
 ·simp only [go_sem,drvPut,Fn.y2a,h1,gw,o3w,ROOM,add1,wk,nxa,e1,r0,r1,r2,r3,e3,↓lsub,llen,l9,↓p0,↓p3,↓p6,u6,u0,u1,u2,g6,g6',ow,oa,t0,t1,t2,k2,k3,k4,k5] at hr
  rw [hr0,←hr]
  refine ⟨_,_,_,rfl,by omega,hB' _ fun id hid=> ?_,.inr ⟨nx+13,0,[ac++(qC (v+s*a)++qC (p+s*(v+s*a)))],rfl,upd_same _ _ _,by omega,⟨hmo,trivial⟩⟩⟩
  rw [y00 (by omega),y00 (by omega)]
 ·have rid:∀y z,rowAt (upd (upd ob' 2 y) 1 z) id ver=some (9,es):=fun y z=>by
   have n1:id≠1:=fun e=>by rw [e,q1] at hid;cases hid
   have n2:id≠2:=fun e=>by rw [e,q2] at hid;cases hid
   rw [y5r n1,y5r n2]
   exact y4d ((old id hidn).trans hid)
  have kr:∀k ob y,rowAt (upd ob (nx+k) y) id ver=rowAt ob id ver:=fun k ob y=>y5r (by omega)
  have b1:(es.length==es.length)=true:=by simp
  have hel:es.length=i:=by rw [hM.len,hms]
  have w9:(es.length+1)*168≤140737488355328:=by omega
  simp only [go_sem,drvPut,Fn.y2a,h1,gw,o3w,ROOM,add1,wk,nxa,e1,r0,r1,r2,r3,e3,↓lsub,llen,l9,↓p0,↓p3,↓p6,u6,u0,u1,u2,g6,g6',ow,oa,t0,t1,t2,k2,k3,k4,k5,rid,kr,b1,w9] at hr
  rw [hr0,←hr]
  refine ⟨_,_,_,rfl,by omega,hB' _ fun c hc=> ?_,.inr ⟨id,ver+1,es++[ac++(qC (v+s*a)++qC (p+s*(v+s*a)))],by rw [List.length_append];rfl,upd_same _ _ _,by omega,hM.snoc hmo⟩⟩
  have n3:c≠id:=fun e=>by
   subst e
   have h4:c=0∨c=1∨c=2∨c=3:=by omega
   rcases h4 with rfl | rfl | rfl | rfl
   ·rw [q0] at hid;cases hid
   ·rw [q1] at hid;cases hid
   ·rw [q2] at hid;cases hid
   ·rw [q3] at hid;cases hid
  rw [y00 n3,y00 (by omega)]
end
set_option maxRecDepth 100000 in
theorem yni (l h m s:Rat) (d at_ lng:Int) (sl:SmQ 256 l) (sh:SmQ 256 h) (sm:SmQ 256 m) (ss:SmQ 256 s) (s0:0<s) (m0:0<m) (d0:0≤d) (d1:d≤16) (ha:0≤at_) (ha':at_<9223372036854775808) (g0:0≤lng) (g1:lng≤d) (ws:List (List AV)) (o3w:okSz 3 ws=true) (hlen:ws.length≤40):
  ∀(r:List Rat) (i:Nat) (p v:Rat) (Z:Nat),ws.drop i=r.map qC→PvS Z p v→Z+4374*r.length≤200000→safeQ l h m s p v (lookQ d at_ lng (i:Int))=true→(∀w∈r,SmQ 256 w)→i+r.length=ws.length→
   (∀o∈driveQ l h m s d at_ lng (i:Int) p v r,SmQ 6300000 o.a∧SmQ 200000 o.v∧SmQ 200000 o.p)∧
   ∃N,∀n,N≤n→∀(ob:Nat→Option AObj) (nx:Nat) (x:AV) (ms:List Mo) (X:List (Nat×SV)),4≤nx→DrvB ob l h m s p v at_ lng→OutM ob nx x ms→ms.length=i→∀M,r.length<M→
   ∃ob' nx' x' X',loopN (evC (evF E n) n Fn.y2a) M ⟨env (drvS d x ws i X),ob,fz0,nx⟩=some (.ext 1,⟨env (drvS d x' ws ws.length X'),ob',fz0,nx'⟩)∧OutM ob' nx' x' (ms++driveQ l h m s d at_ lng (i:Int) p v r)
 | [],i,p,v,Z,hd,hP,hZ,hsafe,hw,hi=>by
  rw [List.length_nil,Nat.add_zero] at hi
  refine ⟨fun o ho=>(List.not_mem_nil ho).elim,0,fun n hn ob nx x ms X hnx B hO hms M hM=> ?_⟩
  obtain ⟨M,rfl⟩:∃q,M=q+1:=⟨M-1,by omega⟩
  subst hi
  have lt:(((ws.length:Nat):Int)<((ws.length:Nat):Int))=False:=by simp
  refine ⟨ob,nx,x,[(56,.one (.bool false))],y06 ?_,by unfold driveQ;rw [List.append_nil];exact hO⟩
  unfold drvS
  simp only [go_sem,Fn.y2a,lt]
 | w::r,i,p,v,Z,hd,hP,hZ,hsafe,hw,hi=>by
  rw [List.length_cons] at hi hZ
  have gw:ws[i]? =some (qC w):=by
   have:=congrArg (fun l=>l[0]?) hd
   simpa using this
  have hd':ws.drop (i+1)=r.map qC:=by
   have:=congrArg (fun l=>l.drop 1) hd
   simpa using this
  obtain ⟨m1,m2,m3,m4,m5,-,-⟩:=mo_ok (w:=w) s0 m0 d0 g0 g1 hsafe
  have hle:=yay s0 m0 (by unfold lookQ;split;omega;split<;>omega) hsafe
  have h5:Z+(17*256+22)≤200000:=by omega
  have sp:=hP.sm
  have hPs:=hP.step (w:=w) (d:=d) (at_:=at_) (lng:=lng) (i:=(i:Int)) (by decide) sl sh sm ss (hw w (by simp)) s0 m0 d0 d1 hle.1 hle.2
  have S2:∀{q:Rat},SmQ 256 q→SmQ 200000 q:=fun h=>h.mono (by decide)
  have sp1:SmQ 200000 p:=sp.1.mono (by omega)
  have sv1:SmQ 200000 v:=sp.2.mono (by omega)
  have hacc:SmQ (31*200000+200) (accQ l h m s d at_ lng (i:Int) p v w):=by
   unfold accQ
   split
   ·exact (yak l h m s p v w d (by decide) (S2 sl) (S2 sh) (S2 sm) (S2 ss) sp1 sv1 (S2 (hw w (by simp))) s0 m0 d0 d1 (by decide)).2
   ·split
    ·unfold brakingQ
     have hsn:s.num≠0:=fun e=>by have:=Rat.num_eq_zero.1 e;grind
     have t1:SmQ (31*200000+200) m:=sm.mono (by decide)
     have t2:SmQ (31*200000+200) (-v / s):=(sv1.neg.div hsn ss).mono (by decide)
     exact t1.neg.max (t1.min t2)
    ·exact yyh (by decide)
  obtain ⟨N1,k1⟩:=ywg l h m s p v w d at_ lng (by decide) (S2 sl) (S2 sh) (S2 sm) (S2 ss) sp1 sv1 (S2 (hw w (by simp))) s0 m0 d0 d1 (by decide) ha ha' ws i gw o3w (by omega) (by omega) hacc
  have ei:((i:Nat):Int)+1=((i+1:Nat):Int):=rfl
  rw [ei] at m1
  obtain ⟨r1,N2,k2⟩:=yni l h m s d at_ lng sl sh sm ss s0 m0 d0 d1 ha ha' g0 g1 ws o3w hlen r (i+1) _ _ _ hd' hPs (by omega) m1 (fun x hx=>hw x (by simp [hx])) (by omega)
  refine ⟨fun o ho=> ?_,N1+N2,fun n hn ob nx x ms X hnx B hO hms M hM=> ?_⟩
  ·unfold driveQ at ho
   rw [ei] at ho
   rcases List.mem_cons.1 ho with rfl | ho
   ·have hsm:=hPs.sm
    exact ⟨hacc.mono (by decide),hsm.2.mono h5,hsm.1.mono h5⟩
   ·exact r1 o ho
  ·rw [List.length_cons] at hM
   obtain ⟨M,rfl⟩:∃q,M=q+1:=⟨M-1,by omega⟩
   obtain ⟨ob',nx',x',e1,e2,e3,e4⟩:=k1 n (by omega) ob nx x ms X hnx B hO hms
   obtain ⟨ob2,nx2,x2,X2,f1,f2⟩:=k2 n (by omega) ob' nx' x' _ [] (by omega) e3 e4 (by rw [List.length_append,hms];rfl) M (by omega)
   refine ⟨ob2,nx2,x2,X2,by rw [y07 e1];exact f1, ?_⟩
   unfold driveQ
   rw [ei,List.append_assoc] at*
   exact f2
end Go.Ev
namespace Go.Ev
theorem Jt.sub18 (j:Jt):sub j.c 18 1=some [.int .i64 j.d]:=by
 unfold Jt.c
 simp only [go_sem]
attribute [go_sem ↓] Jt.sub18
end Go.Ev
namespace Go.Ev
def DriveE (l h m s p v:Rat) (d at_ lng:Int) (n:Nat):Int:=
 if errR l h m s d=0 then (if safeQ l h m s p v d=true then (if n>256 then 5 else if at_<0∨lng<0∨lng>d then 2 else 0) else 13) else errR l h m s d
theorem yq4 {l h m s p v:Rat} {d at_ lng:Int} {n:Nat} (e:DriveE l h m s p v d at_ lng n=0):errR l h m s d=0∧safeQ l h m s p v d=true∧n≤256∧0≤at_∧0≤lng∧lng≤d:=by
 unfold DriveE at e
 by_cases c:errR l h m s d=0
 ·rw [if_pos c] at e
  by_cases c2:safeQ l h m s p v d=true
  ·rw [if_pos c2] at e
   by_cases c3:n>256
   ·rw [if_pos c3] at e;cases e
   ·rw [if_neg c3] at e
    by_cases c4:at_<0∨lng<0∨lng>d
    ·rw [if_pos c4] at e;cases e
    ·exact ⟨c,c2,by omega,by omega,by omega,by omega⟩
  ·rw [if_neg c2] at e;cases e
 ·rw [if_neg c] at e;exact absurd e c
def driveR (l h m s p v:Rat) (d at_ lng:Int) (ws:List Rat):List Mo:=if DriveE l h m s p v d at_ lng ws.length=0 then driveQ l h m s d at_ lng 0 p v ws else []
set_option maxRecDepth 100000 in
theorem yss (l h m s p v:Rat) (d at_ lng:Int) (ws:List Rat) (sl:SmQ 256 l) (sh:SmQ 256 h) (sm:SmQ 256 m) (ss:SmQ 256 s) (sp:SmQ 256 p) (sv:SmQ 256 v) (sw:∀w∈ws,SmQ 256 w) (hlen:ws.length≤256→ws.length≤40) (hlen2:ws.length<2^40) (ha':at_<9223372036854775808):
  (∀o∈driveR l h m s p v d at_ lng ws,SmQ 6300000 o.a∧SmQ 200000 o.v∧SmQ 200000 o.p)∧
  Ends Id.y0u [.agg (qC l++(qC h++(qC m++qC s))),.agg (qC p),.agg (qC v),.one (.sl false (ws.map qC)),.one (.int .i64 d),.agg [.int .i64 at_,.int .i64 lng]] (.tup [.one (.sl false ((driveR l h m s p v d at_ lng ws).map Mo.c)),.one (.int .i64 (DriveE l h m s p v d at_ lng ws.length))]):=by
 obtain ⟨N1,h1⟩:=cCheckR l h m s d sl sh (by decide)
 unfold driveR
 by_cases c1:errR l h m s d=0
 ·obtain ⟨_,e1,e2,e3,e4⟩:=y9a c1
  obtain ⟨N2,h2⟩:=cSafe l h m s p v d sl sh sm ss sp sv (ydm e2 e1) e3 e4 (by decide)
  have e0:((0:Int) !=0)=false:=rfl
  rw [c1] at h1
  by_cases c2:safeQ l h m s p v d=true
  ·rw [c2] at h2
   by_cases c3:ws.length>256
   ·have eE:DriveE l h m s p v d at_ lng ws.length=5:=by unfold DriveE;rw [if_pos c1,if_pos c2,if_pos c3]
    rw [eE,if_neg (by decide)]
    refine ⟨fun o ho=>(List.not_mem_nil ho).elim,.of (N1+N2) fun {n} hn=> ?_⟩
    have h1:=h1 n (by omega)
    have h2:=h2 n (by omega)
    have f3:(((ws.length:Nat):Int)>256)=True:=by simp only [eq_iff_iff,iff_true];omega
    rw [y03 y7j]
    simp only [go_sem,Fn.y0u,h1,h2,e0,List.length_map,f3]
   ·have f3:(((ws.length:Nat):Int)>256)=False:=by simp only [eq_iff_iff,iff_false];omega
    by_cases c4:at_<0∨lng<0∨lng>d
    ·have eE:DriveE l h m s p v d at_ lng ws.length=2:=by unfold DriveE;rw [if_pos c1,if_pos c2,if_neg c3,if_pos c4]
     rw [eE,if_neg (by decide)]
     refine ⟨fun o ho=>(List.not_mem_nil ho).elim,.of (N1+N2) fun {n} hn=> ?_⟩
     have h1:=h1 n (by omega)
     have h2:=h2 n (by omega)
     rw [y03 y7j]
     by_cases a1:at_<0
     ·have g1:(at_<0)=True:=by simp only [eq_iff_iff,iff_true];exact a1
      simp only [go_sem,Fn.y0u,h1,h2,e0,List.length_map,f3,g1]
     ·have g1:(at_<0)=False:=by simp only [eq_iff_iff,iff_false];exact a1
      by_cases a2:lng<0
      ·have g2:(lng<0)=True:=by simp only [eq_iff_iff,iff_true];exact a2
       simp only [go_sem,Fn.y0u,h1,h2,e0,List.length_map,f3,g1,g2]
      ·have g2:(lng<0)=False:=by simp only [eq_iff_iff,iff_false];exact a2
       have g3:(lng>d)=True:=by simp only [eq_iff_iff,iff_true];omega
       simp only [go_sem,Fn.y0u,h1,h2,e0,List.length_map,f3,g1,g2,g3]
    ·have eE:DriveE l h m s p v d at_ lng ws.length=0:=by unfold DriveE;rw [if_pos c1,if_pos c2,if_neg c3,if_neg c4]
     rw [eE,if_pos rfl]
     have g1:(at_<0)=False:=by simp only [eq_iff_iff,iff_false];omega
     have g2:(lng<0)=False:=by simp only [eq_iff_iff,iff_false];omega
     have g3:(lng>d)=False:=by simp only [eq_iff_iff,iff_false];omega
     have hl40:=hlen (by omega)
     have hlook:safeQ l h m s p v (lookQ d at_ lng ((0:Nat):Int))=true:=by
      have:lookQ d at_ lng ((0:Nat):Int)=d:=if_pos (.inr (by omega))
      rw [this];exact c2
     obtain ⟨r1,N3,h3⟩:=yni l h m s d at_ lng sl sh sm ss (y8q e2) (y8q e1) e3 e4 (by omega) ha' (by omega) (by omega) (ws.map qC) (y9r yj4 ws) (by rw [List.length_map];exact hl40) ws 0 p v 512 rfl (PvS.start sp sv) (by omega)
      hlook sw (by simp)
     refine ⟨r1,.of (N1+N2+N3+ws.length+1) fun {n} hn=> ?_⟩
     have h1:=h1 n (by omega)
     have h2:=h2 n (by omega)
     have key:∀(ob:Nat→Option AObj),DrvB ob l h m s p v at_ lng→
       finV [.tmp 12,.tmp 13] (thenC (evF E n) n (tailAt 4 Fn.y0u.code) (blkC 1 (loopN (evC (evF E n) n Fn.y2a) n ⟨env (drvS d .nils (ws.map qC) 0 []),ob,fz0,6⟩)))=some (.tup [.one (.sl false ((driveQ l h m s d at_ lng 0 p v ws).map Mo.c)),.one (.int .i64 0)]):=by
      intro ob B
      obtain ⟨ob',nx',x',X',f1,f2⟩:=h3 n (by omega) ob 6 .nils [] [] (by decide) B (.inl ⟨rfl,rfl⟩) rfl n (by omega)
      obtain ⟨g,hg⟩:=f2.frz
      rw [f1,y7c,if_pos rfl,y4u]
      rw [List.nil_append] at hg
      have hg:∀fz,frzS ob' fz (.one x')=some (g fz,.one (.sl false ((driveQ l h m s d at_ lng 0 p v ws).map Mo.c))):=hg
      unfold drvS
      simp only [go_sem,tailAt,Fn.y0u,hg]
     rw [y03 y7j,show Fn.y0u.code=cutAt 4 Fn.y0u.code (tailAt 4 Fn.y0u.code) from rfl]
     generalize tailAt 4 Fn.y0u.code=T at key ⊢
     unfold drvS at key
     simp only [List.length_map] at key
     simp only [go_sem,cutAt,Fn.y0u,h1,h2,e0,List.length_map,f3,g1,g2,g3]
     refine key _ ?_
     exact ⟨rfl,rfl,rfl,rfl⟩
  ·have c2':safeQ l h m s p v d=false:=by simpa using c2
   rw [c2'] at h2
   have eE:DriveE l h m s p v d at_ lng ws.length=13:=by unfold DriveE;rw [if_pos c1,if_neg c2]
   rw [eE,if_neg (by decide)]
   refine ⟨fun o ho=>(List.not_mem_nil ho).elim,.of (N1+N2) fun {n} hn=> ?_⟩
   have h1:=h1 n (by omega)
   have h2:=h2 n (by omega)
   rw [y03 y7j]
   simp only [go_sem,Fn.y0u,h1,h2,e0]
 ·have eE:DriveE l h m s p v d at_ lng ws.length=errR l h m s d:=by unfold DriveE;rw [if_neg c1]
  rw [eE,if_neg c1]
  refine ⟨fun o ho=>(List.not_mem_nil ho).elim,.of N1 fun {n} hn=> ?_⟩
  have h1:=h1 n (by omega)
  have e0:(errR l h m s d !=0)=true:=by simp [c1]
  generalize errR l h m s d=er at h1 e0
  rw [y03 y7j]
  simp only [go_sem,Fn.y0u,h1,e0]
end Go.Ev
namespace Go.Ev
open Go.Dig
def MoR (o:Mo) (e:List AV):Prop:=∃tc,RW o.a tc∧e=tc++(rC o.v++rC o.p)
def MoRs:List Mo→List (List AV)→Prop
 | [],[]=>True
 | o::r,e::s=>MoR o e∧MoRs r s
 | _,_=>False
theorem MoRs.snoc:∀{ms:List Mo} {es:List (List AV)} {o:Mo} {e:List AV},MoRs ms es→MoR o e→MoRs (ms++[o]) (es++[e])
 | [],[],_,_,_,h=>⟨h,trivial⟩
 | _::r,_::s,_,_,h,k=>⟨h.1,MoRs.snoc h.2 k⟩
theorem MoRs.len:∀{ms:List Mo} {es:List (List AV)},MoRs ms es→es.length=ms.length
 | [],[],_=>rfl
 | _::r,_::s,h=>by rw [List.length_cons,List.length_cons,MoRs.len h.2]
theorem MoR.len {o:Mo} {e:List AV} (h:MoR o e):e.length=12:=by
 obtain ⟨tc,h1,rfl⟩:=h
 obtain ⟨a,b,c,d,rfl⟩:=h1.cells4
 simp [y5j]
theorem MoRs.okSz:∀{ms:List Mo} {es:List (List AV)},MoRs ms es→Ev.okSz 12 es=true
 | [],[],_=>rfl
 | _::r,_::s,h=>by simp [Ev.okSz,h.1.len]
def drA:ACode:=match Fn.y1t with | .seq a _=>a | _=>.skip
def drIn:ACode:=match Fn.y1t with | .seq _ (.seq (.block _ a) _)=>a | _=>.skip
def drZ:ACode:=match Fn.y1t with | .seq _ (.seq _ z)=>z | _=>.skip
theorem dr_L0:Fn.y1t=.seq drA (.seq (.block 1 drIn) drZ):=rfl
theorem y10h:drIn=.seq (nthC 0 drIn) (.seq (nthC 1 drIn) (tailAt 2 drIn)):=rfl
structure DrE (L:List (Nat×SV)) (ws:List (List AV)) (d:Nat) (at_ lng:Int) (x:AV) (i:Nat):Prop where
 e3:env L 3=.one (.sl false ws)
 e4:env L 4=.one (.int .i64 (d:Int))
 e5:env L 5=.one (.int .i64 at_)
 e6:env L 6=.one (.int .i64 lng)
 e7:env L 7=.one (.box 0 0)
 e8:env L 8=.one (.box 1 0)
 e9:env L 9=.one (.box 2 0)
 e15:env L 15=.one x
 e16:env L 16=.one (.int .i64 (i:Int))
structure DrB (ob:Nat→Option AObj) (nx:Nat) (l h m s p v:Rat) (x:AV) (es:List (List AV)):Prop where
 o0:ob 0=some (.box (rC l++(rC h++(rC m++rC s))))
 o1:ob 1=some (.box (rC p))
 o2:ob 2=some (.box (rC v))
 nx4:4≤nx
 out:(es=[]∧x=.nils)∨∃id ver,x=.rsl id ver 12 0 es.length false∧ob id=some (.row 12 es ver)∧4≤id∧id<nx
theorem DrB.old {ob ob':Nat→Option AObj} {nx nx':Nat} {l h m s p v:Rat} {x:AV} {es:List (List AV)} (B:DrB ob nx l h m s p v x es) (e:∀id,id<nx→ob' id=ob id) (hn:nx≤nx'):DrB ob' nx' l h m s p v x es:=by
 obtain ⟨o0,o1,o2,n4,out⟩:=B
 refine ⟨by rw [e _ (by omega)];exact o0,by rw [e _ (by omega)];exact o1,by rw [e _ (by omega)];exact o2,by omega, ?_⟩
 rcases out with out | ⟨id,ver,h1,h2,h3,h4⟩
 ·exact .inl out
 ·exact .inr ⟨id,ver,h1,by rw [e _ h4];exact h2,h3,by omega⟩
section
variable {n:Nat} {ob:Nat→Option AObj} {fz:Nat→Nat} {nx:Nat} {L:List (Nat×SV)} {d i:Nat} {at_ lng:Int} {ws:List (List AV)} {x:AV} {l h m s p v:Rat}
theorem yyi (hL:DrE L ws d at_ lng x i) (hi:i<ws.length):∃L',evC (evF E n) n drA ⟨env L,ob,fz,nx⟩=some (.nrm,⟨env L',ob,fz,nx⟩)∧DrE L' ws d at_ lng x i:=by
 obtain ⟨e3,e4,e5,e6,e7,e8,e9,e15,e16⟩:=hL
 have lt:(((i:Nat):Int)<((ws.length:Nat):Int))=True:=by simp only [eq_iff_iff,iff_true];omega
 unfold drA Fn.y1t
 simp only [go_sem,e3,e4,e5,e6,e7,e8,e9,e15,e16,lt]
 exact ⟨_,rfl,⟨rfl,rfl,rfl,rfl,rfl,rfl,rfl,rfl,rfl⟩⟩
theorem y117 (hL:DrE L ws d at_ lng x i) (hi:i=ws.length):∃L',evC (evF E n) n Fn.y1t ⟨env L,ob,fz,nx⟩=some (.ext 0,⟨env L',ob,fz,nx⟩)∧DrE L' ws d at_ lng x i:=by
 obtain ⟨e3,e4,e5,e6,e7,e8,e9,e15,e16⟩:=hL
 have lt:(((i:Nat):Int)<((ws.length:Nat):Int))=False:=by simp only [eq_iff_iff,iff_false];omega
 unfold Fn.y1t
 simp only [go_sem,e3,e4,e5,e6,e7,e8,e9,e15,e16,lt]
 exact ⟨_,rfl,⟨rfl,rfl,rfl,rfl,rfl,rfl,rfl,rfl,rfl⟩⟩
theorem y125 (hL:DrE L ws d at_ lng x i) (hi:i<2^20):∃L',evC (evF E n) n drZ ⟨env L,ob,fz,nx⟩=some (.nrm,⟨env L',ob,fz,nx⟩)∧DrE L' ws d at_ lng x (i+1):=by
 obtain ⟨e3,e4,e5,e6,e7,e8,e9,e15,e16⟩:=hL
 have wk:IntKind.i64.wrap ((i+1:Nat):Int)=((i+1:Nat):Int):=wi64 (by omega)
 unfold drZ Fn.y1t
 simp only [go_sem,e3,e4,e5,e6,e7,e8,e9,e15,e16,add1,wk]
 exact ⟨_,rfl,⟨rfl,rfl,rfl,rfl,rfl,rfl,rfl,rfl,rfl⟩⟩
theorem y11u {es:List (List AV)} {w a:Rat} (hL:DrE L ws d at_ lng x i) (B:DrB ob nx l h m s p v x es) (gw:ws[i]? =some (rC w)) (o4w:okSz 4 ws=true) (hi:i<2^20) (ha:0≤at_) (ha':at_<9223372036854775808)
  (kH:(lng=0∨(i:Int)-at_<0)→∀ob fz,callV (evF E n) Id.y1i [.agg (rC l++(rC h++(rC m++rC s))),.agg (rC p),.agg (rC v),.agg (rC w),.one (.int .i64 (d:Int))] ob fz=some (.fzd fz (.agg (rC a))))
  (kB:¬(lng=0∨(i:Int)-at_<0)→(i:Int)-at_≥lng→∀ob fz,callV (evF E n) Id.y1q [.agg (rC l++(rC h++(rC m++rC s))),.agg (rC v)] ob fz=some (.fzd fz (.agg (rC a))))
  (k0:¬(lng=0∨(i:Int)-at_<0)→¬(i:Int)-at_≥lng→a=0):
  ∃L' ob' tc,(∀T,evC (evF E n) n (.seq (nthC 0 drIn) (.seq (nthC 1 drIn) T)) ⟨env L,ob,fz,nx⟩=evC (evF E n) n T ⟨env L',ob',fz,nx+1⟩)∧DrE L' ws d at_ lng x i∧env L' 17=.one (.box nx 0)∧ob' nx=some (.box tc)∧RW a tc∧∀id,id<nx→ob' id=ob id:=by
 obtain ⟨e3,e4,e5,e6,e7,e8,e9,e15,e16⟩:=hL
 obtain ⟨o0,o1,o2,n4,out⟩:=B
 have hil:i<ws.length:=(List.getElem?_eq_some_iff.1 gw).1
 have li:((i:Nat)<ws.length)=True:=by simp only [eq_iff_iff,iff_true];omega
 have w1:IntKind.i64.wrap ((i:Int)-at_)=(i:Int)-at_:=wrap_i64 (by omega)
 have g0:(0=nx)=False:=by simp only [eq_iff_iff,iff_false];omega
 have g1:(1=nx)=False:=by simp only [eq_iff_iff,iff_false];omega
 have g2:(2=nx)=False:=by simp only [eq_iff_iff,iff_false];omega
 have l0:(0<nx+1)=True:=by simp only [eq_iff_iff,iff_true];omega
 have l1:(1<nx+1)=True:=by simp only [eq_iff_iff,iff_true];omega
 have l2:(2<nx+1)=True:=by simp only [eq_iff_iff,iff_true];omega
 obtain ⟨r,hr0⟩:∃r,(fun T=>evC (evF E n) n (.seq (nthC 0 drIn) (.seq (nthC 1 drIn) T)) ⟨env L,ob,fz,nx⟩)=r:=⟨_,rfl⟩
 have hr:=hr0
 unfold drIn Fn.y1t at hr
 by_cases c1:lng=0
 ·have f1:(lng==0)=true:=by simp [c1]
  have kH:=kH (.inl c1)
  simp only [nthC,go_sem,e3,e4,e5,e6,e7,e8,e9,e15,e16,o0,o1,o2,gw,o4w,li,g0,g1,g2,l0,l1,l2,f1,kH] at hr
  have h2:=fun T=>congrFun (hr0.trans hr.symm) T
  exact ⟨_,_,_,h2,⟨rfl,rfl,rfl,rfl,rfl,rfl,rfl,rfl,rfl⟩,rfl,upd_same _ _ _,.self _,fun id hid=>by repeat rw [y00 (by omega)]⟩
 ·have f1:(lng==0)=false:=by simp [c1]
  by_cases c2:(i:Int)<at_
  ·have f2:((i:Int)<at_)=True:=by simp only [eq_iff_iff,iff_true];exact c2
   have kH:=kH (.inr (by omega))
   simp only [nthC,go_sem,e3,e4,e5,e6,e7,e8,e9,e15,e16,o0,o1,o2,gw,o4w,li,g0,g1,g2,l0,l1,l2,f1,f2,kH] at hr
   have h2:=fun T=>congrFun (hr0.trans hr.symm) T
   exact ⟨_,_,_,h2,⟨rfl,rfl,rfl,rfl,rfl,rfl,rfl,rfl,rfl⟩,rfl,upd_same _ _ _,.self _,fun id hid=>by repeat rw [y00 (by omega)]⟩
  ·have f2:((i:Int)<at_)=False:=by simp only [eq_iff_iff,iff_false];exact c2
   by_cases c3:(i:Int)-at_≥lng
   ·have f3:((i:Int)-at_≥lng)=True:=by simp only [eq_iff_iff,iff_true];exact c3
    have kB:=kB (by omega) c3
    simp only [nthC,go_sem,e3,e4,e5,e6,e7,e8,e9,e15,e16,o0,o1,o2,g0,g1,g2,l0,l1,l2,f1,f2,f3,w1,kB] at hr
    have h2:=fun T=>congrFun (hr0.trans hr.symm) T
    exact ⟨_,_,_,h2,⟨rfl,rfl,rfl,rfl,rfl,rfl,rfl,rfl,rfl⟩,rfl,upd_same _ _ _,.self _,fun id hid=>by repeat rw [y00 (by omega)]⟩
   ·have f3:((i:Int)-at_≥lng)=False:=by simp only [eq_iff_iff,iff_false];exact c3
    have k0:=k0 (by omega) c3
    subst k0
    simp only [nthC,go_sem,e3,e4,e5,e6,e7,e8,e9,e15,e16,g0,g1,g2,l0,l1,l2,f1,f2,f3,w1] at hr
    have h2:=fun T=>congrFun (hr0.trans hr.symm) T
    exact ⟨_,_,_,h2,⟨rfl,rfl,rfl,rfl,rfl,rfl,rfl,rfl,rfl⟩,rfl,upd_same _ _ _,.zero,fun id hid=>by repeat rw [y00 (by omega)]⟩
theorem y10o (x y z w a b c d e f g h:AV) (q:Rat):put (x::y::z::w::[a,b,c,d,e,f,g,h]) 4 (rC q)=some (x::y::z::w::(rC q++[e,f,g,h])):=by
 have:=yb6 (X:=[x,y,z,w]) (l:=[a,b,c,d,e,f,g,h]) (K:=4) rfl 0 (rC q)
 rw [put_w] at this
 exact this
theorem y10a (x y z w e f g h:AV) (q r:Rat):put (x::y::z::w::(rC q++[e,f,g,h])) 8 (rC r)=some (x::y::z::w::(rC q++rC r)):=by
 have:=yb6 (X:=[x,y,z,w]) (l:=rC q++[e,f,g,h]) (K:=4) rfl 4 (rC r)
 rw [yth,yo2] at this
 exact this
theorem y10b {es:List (List AV)} {a v' p':Rat} {tc:List AV} (hL:DrE L ws d at_ lng x i) (B:DrB ob nx l h m s p v x es) {q:Nat} (l17:env L 17=.one (.box q 0)) (hq:ob q=some (.box tc)) (ht:RW a tc) (hqn:q<nx) (hq3:3<q) (hqo:∀id ver,x=.rsl id ver 12 0 es.length false→id≠q) (hlen:es.length<2^20) (o12:Ev.okSz 12 es=true)
  (k1:∀ob fz,callV (evF E n) Id.y09 [.agg (rC s),.agg tc] ob fz=some (.fzd fz (.agg (rC (s*a))))) (k2:∀ob fz,callV (evF E n) Id.y0w [.agg (rC v),.agg (rC (s*a))] ob fz=some (.fzd fz (.agg (rC v'))))
  (k3:∀ob fz,callV (evF E n) Id.y09 [.agg (rC s),.agg (rC v')] ob fz=some (.fzd fz (.agg (rC (s*v'))))) (k4:∀ob fz,callV (evF E n) Id.y0w [.agg (rC p),.agg (rC (s*v'))] ob fz=some (.fzd fz (.agg (rC p')))):
  ∃L' ob' x',evC (evF E n) n (tailAt 2 drIn) ⟨env L,ob,fz,nx⟩=some (.nrm,⟨env L',ob',fz,nx+8⟩)∧DrE L' ws d at_ lng x' i∧DrB ob' (nx+8) l h m s p' v' x' (es++[tc++(rC v'++rC p')]):=by
 obtain ⟨e3,e4,e5,e6,e7,e8,e9,e15,e16⟩:=hL
 obtain ⟨o0,o1,o2,n4,out⟩:=B
 obtain ⟨y0,y1,y2,y3,rfl⟩:=ht.cells4
 have nxa:∀a b:Nat,nx+a+b=nx+(a+b):=fun a b=>Nat.add_assoc nx a b
 have l0:(0<nx)=True:=by simp only [eq_iff_iff,iff_true];omega
 have l1:(1<nx)=True:=by simp only [eq_iff_iff,iff_true];omega
 have l2:(2<nx)=True:=by simp only [eq_iff_iff,iff_true];omega
 have lq:(q<nx)=True:=by simp only [eq_iff_iff,iff_true];omega
 have q0:(q=0)=False:=by simp only [eq_iff_iff,iff_false];omega
 have q1:(q=1)=False:=by simp only [eq_iff_iff,iff_false];omega
 have q2:(q=2)=False:=by simp only [eq_iff_iff,iff_false];omega
 have w2:(es.length+1)*192≤140737488355328:=by omega
 have b2:(es.length==es.length)=true:=by simp
 have p12:∀z1 z2 z3 z4 z5 z6 z7 z8 z9 z10 z11 z12:AV,put [z1,z2,z3,z4,z5,z6,z7,z8,z9,z10,z11,z12] 0 [y0,y1,y2,y3]=some [y0,y1,y2,y3,z5,z6,z7,z8,z9,z10,z11,z12]:=fun _ _ _ _ _ _ _ _ _ _ _ _=>rfl
 have p4:∀a b c d e f g h:AV,put [y0,y1,y2,y3,a,b,c,d,e,f,g,h] 4 (rC v')=some (y0::y1::y2::y3::(rC v'++[e,f,g,h])):=fun a b c d e f g h=>y10o y0 y1 y2 y3 a b c d e f g h v'
 have p8:∀e f g h:AV,put (y0::y1::y2::y3::(rC v'++[e,f,g,h])) 8 (rC p')=some (y0::y1::y2::y3::(rC v'++rC p')):=fun e f g h=>y10a y0 y1 y2 y3 e f g h v' p'
 have len12:(y0::y1::y2::y3::(rC v'++rC p')).length=12:=by simp [y5j]
 obtain ⟨r,hr0⟩:∃r,evC (evF E n) n (tailAt 2 drIn) ⟨env L,ob,fz,nx⟩=r:=⟨_,rfl⟩
 have hr:=hr0
 unfold drIn Fn.y1t at hr
 rcases out with ⟨rfl,rfl⟩ | ⟨id,ver,rfl,hid,h6,h7⟩
 ·simp only [tailAt,go_sem,e3,e4,e5,e6,e7,e8,e9,e15,e16,l17,o0,o1,o2,hq,l0,l1,l2,lq,q0,q1,q2,k1,k2,k3,k4,↓p12,↓p4,↓p8,↓len12,nxa,ROOM,okSz] at hr
  refine ⟨_,_,_,hr0.trans hr.symm,⟨rfl,rfl,rfl,rfl,rfl,rfl,rfl,rfl,rfl⟩,⟨?_, ?_, ?_,by omega,.inr ⟨nx+6,0,rfl,upd_same _ _ _,by omega,by omega⟩⟩⟩
  ·repeat rw [y00 (by omega)]
   exact o0
  ·repeat first | rw [upd_same] | rw [y00 (by omega)]
  ·repeat first | rw [upd_same] | rw [y00 (by omega)]
 ·have hne:=hqo id ver rfl
  have gqi:(q=id)=False:=by simp only [eq_iff_iff,iff_false];exact Ne.symm hne
  have gi0:(0=id)=False:=by simp only [eq_iff_iff,iff_false];omega
  have gi1:(1=id)=False:=by simp only [eq_iff_iff,iff_false];omega
  have gi2:(2=id)=False:=by simp only [eq_iff_iff,iff_false];omega
  have gi0':(id=0)=False:=by simp only [eq_iff_iff,iff_false];omega
  have gi1':(id=1)=False:=by simp only [eq_iff_iff,iff_false];omega
  have gi2':(id=2)=False:=by simp only [eq_iff_iff,iff_false];omega
  have gni:∀c:Nat,(nx+c=id)=False:=fun c=>by simp only [eq_iff_iff,iff_false];omega
  have gin:∀c:Nat,(id=nx+c)=False:=fun c=>by simp only [eq_iff_iff,iff_false];omega
  have r8:rowAt ob id ver=some (12,es):=y4d hid
  have r8':∀c ob y ver,rowAt (upd ob (nx+c) y) id ver=rowAt ob id ver:=fun c ob y ver=>y5r (by omega)
  have r81:∀ob y ver,rowAt (upd ob 1 y) id ver=rowAt ob id ver:=fun ob y ver=>y5r (by omega)
  have r82:∀ob y ver,rowAt (upd ob 2 y) id ver=rowAt ob id ver:=fun ob y ver=>y5r (by omega)
  have m2:∀c ob y,upd ob id y (nx+c)=ob (nx+c):=fun c ob y=>y00 (by omega)
  simp only [tailAt,go_sem,e3,e4,e5,e6,e7,e8,e9,e15,e16,l17,o0,o1,o2,hq,l0,l1,l2,lq,q0,q1,q2,gqi,gi0,gi1,gi2,gi0',gi1',gi2',gni,gin,r8,r8',r81,r82,m2,o12,b2,w2,k1,k2,k3,k4,↓p12,↓p4,↓p8,↓len12,nxa,ROOM,okSz] at hr
  refine ⟨_,_,_,hr0.trans hr.symm,⟨rfl,rfl,rfl,rfl,rfl,rfl,rfl,rfl,rfl⟩,⟨?_, ?_, ?_,by omega,.inr ⟨id,ver+1,by rw [List.length_append];rfl,upd_same _ _ _,by omega,by omega⟩⟩⟩
  ·repeat rw [y00 (by omega)]
   exact o0
  ·repeat first | rw [upd_same] | rw [y00 (by omega)]
  ·repeat first | rw [upd_same] | rw [y00 (by omega)]
end
end Go.Ev
namespace Go.Ev
open Go.Dig
theorem yrc {l h m s p:Rat} (hs:0<s) (hm:0<m) (hp:l≤p) (hh:p≤h) (hb:h-l≤((200:Nat):Rat)*(s*m)*s):(h-p) / s≤((400:Nat):Rat)*(s*m)∧(-l- -p) / s≤((400:Nat):Rat)*(s*m):=by
 have hB:0<s*m:=Rat.mul_pos hs hm
 have e2:(((200:Nat)):Rat)=200:=rfl
 have e4:(((400:Nat)):Rat)=400:=rfl
 rw [e2] at hb
 rw [e4]
 have key:∀x:Rat,x≤200*(s*m)*s→x / s≤400*(s*m):=fun x hx=>by
  refine Rat.not_lt.1 fun hlt=> ?_
  have:=Rat.mul_lt_mul_of_pos_right hlt hs
  rw [Rat.div_mul_cancel (by grind)] at this
  have p1:0<s*m*s:=Rat.mul_pos hB hs
  grind
 exact ⟨key _ (by grind),key _ (by grind)⟩
set_option maxRecDepth 100000 in
theorem yy5 (l h m s p v w:Rat) (d:Nat) (at_ lng:Int) (sl:SmQ 200000 l) (sh:SmQ 200000 h) (sm:SmQ 200000 m) (ss:SmQ 200000 s) (sp:SmQ 200000 p) (sv:SmQ 200000 v) (sw:SmQ 200000 w) (s0:0<s) (m0:0<m) (hd:d≤16) (ha:0≤at_) (ha':at_<9223372036854775808) (g0:0≤lng)
  (ws:List (List AV)) (i:Nat) (gw:ws[i]? =some (rC w)) (o4w:okSz 4 ws=true) (hi:i<ws.length) (hlen:ws.length<2^20-1) (hacc:SmQ 6300000 (accQ l h m s (d:Int) at_ lng (i:Int) p v w)) (hsafe:safeQ l h m s p v (lookQ (d:Int) at_ lng (i:Int))=true) (hb:h-l≤((200:Nat):Rat)*(s*m)*s) (g1:lng≤d):
  ∃N,∀n,N≤n→∀(ob:Nat→Option AObj) (fz:Nat→Nat) (nx:Nat) (L:List (Nat×SV)) (x:AV) (es:List (List AV)) (os:List Mo),DrE L ws d at_ lng x i→DrB ob nx l h m s p v x es→MoRs os es→os.length=i→
   ∃L' ob' nx' x' es',evC (evF E n) n Fn.y1t ⟨env L,ob,fz,nx⟩=some (.nrm,⟨env L',ob',fz,nx'⟩)∧DrE L' ws d at_ lng x' (i+1)∧
    DrB ob' nx' l h m s (moQ l h m s (d:Int) at_ lng (i:Int) p v w).p (moQ l h m s (d:Int) at_ lng (i:Int) p v w).v x' es'∧MoRs (os++[moQ l h m s (d:Int) at_ lng (i:Int) p v w]) es':=by
 obtain ⟨a,ea⟩:∃a,a=accQ l h m s (d:Int) at_ lng (i:Int) p v w:=⟨_,rfl⟩
 have emo:moQ l h m s (d:Int) at_ lng (i:Int) p v w=⟨a,v+s*a,p+s*(v+s*a)⟩:=by rw [ea];rfl
 rw [emo]
 have hle:=yay s0 m0 (by unfold lookQ;split;omega;split<;>omega) hsafe
 have hroom:=yrc s0 m0 hle.1 hle.2 hb
 have kH:∃N,∀n,N≤n→(lng=0∨(i:Int)-at_<0)→∀ob fz,callV (evF E n) Id.y1i [.agg (rC l++(rC h++(rC m++rC s))),.agg (rC p),.agg (rC v),.agg (rC w),.one (.int .i64 (d:Int))] ob fz=some (.fzd fz (.agg (rC a))):=by
  by_cases c:lng=0∨(i:Int)-at_<0
  ·have el:lookQ (d:Int) at_ lng (i:Int)=(d:Int):=if_pos (by omega)
   rw [el] at hsafe
   have e:a=heldQ l h m s p v w (d:Int):=by rw [ea];unfold accQ;rw [if_pos c];rfl
   have tf:=(y7r l h m s p (d:Int) (by decide) sl sh sm ss sp s0 m0 (by omega) (by omega) (by decide)).2
   have tg:=(y7r (-h) (-l) m s (-p) (d:Int) (by decide) sh.neg sl.neg sm ss sp.neg s0 m0 (by omega) (by omega) (by decide)).2
   obtain ⟨N,hN⟩:=cRHold l h m s p v w d hd sl sh sm ss sp sv sw (by decide) s0 m0 hroom.1 hroom.2 tf tg (by decide) hsafe (RW.self w)
   rw [e]
   exact ⟨N,fun n hn _=>hN n hn⟩
  ·exact ⟨0,fun n hn h=>absurd h c⟩
 have kB:∃N,∀n,N≤n→¬(lng=0∨(i:Int)-at_<0)→(i:Int)-at_≥lng→∀ob fz,callV (evF E n) Id.y1q [.agg (rC l++(rC h++(rC m++rC s))),.agg (rC v)] ob fz=some (.fzd fz (.agg (rC a))):=by
  by_cases c:lng=0∨(i:Int)-at_<0
  ·exact ⟨0,fun n hn h=>absurd c h⟩
  ·by_cases c2:(i:Int)-at_≥lng
   ·have e:a=brakingQ m s v:=by rw [ea];unfold accQ;rw [if_neg c,if_pos c2]
    obtain ⟨N,hN⟩:=cRBraking l h m s v sm ss sv (by decide) s0
    rw [e]
    exact ⟨N,fun n hn _ _=>hN n hn⟩
   ·exact ⟨0,fun n hn _ h=>absurd h c2⟩
 have k0:¬(lng=0∨(i:Int)-at_<0)→¬(i:Int)-at_≥lng→a=0:=fun c c2=>by rw [ea];unfold accQ;rw [if_neg c,if_neg c2]
 rw [←ea] at hacc
 obtain ⟨N1,k1⟩:=kH
 obtain ⟨N2,k2⟩:=kB
 obtain ⟨N3,k3⟩:=yjr (q:=a) (f:=Id.y09) (A:=fun c=>[.agg (rC s),.agg c]) (r:=.agg (rC (s*a))) fun c hc=>y5t (RW.self s) hc ss hacc (by decide)
 obtain ⟨N4,k4⟩:=y7v (RW.self v) (RW.self (s*a)) sv (ss.mul hacc) (by decide)
 have sv':=sv.add (ss.mul hacc)
 obtain ⟨N5,k5⟩:=y5t (RW.self s) (RW.self (v+s*a)) ss sv' (by decide)
 obtain ⟨N6,k6⟩:=y7v (RW.self p) (RW.self (s*(v+s*a))) sp (ss.mul sv') (by decide)
 refine ⟨N1+N2+N3+N4+N5+N6,fun n hn ob fz nx L x es os hL B hW hos=> ?_⟩
 have hes:=hW.len
 obtain ⟨L1,s1,E1⟩:=yyi (n:=n) (ob:=ob) (fz:=fz) (nx:=nx) hL hi
 obtain ⟨L2,ob2,tc,s2,E2,l17,hq,ht,old2⟩:=y11u (n:=n) (fz:=fz) E1 B gw o4w (by omega) ha ha' (k1 n (by omega)) (k2 n (by omega)) k0
 have B2:=B.old old2 (nx':=nx+1) (by omega)
 have hqo:∀id ver,x=.rsl id ver 12 0 es.length false→id≠nx:=by
  intro id ver ho
  rcases B.out with ⟨_,h1⟩ | ⟨id',ver',h1,_,_,h7⟩
  ·rw [h1] at ho;cases ho
  ·rw [h1] at ho
   injection ho with e1
   omega
 obtain ⟨L3,ob3,x3,s3,E3,B3⟩:=y10b (n:=n) (fz:=fz) E2 B2 l17 hq ht (by omega) (by have:=B.nx4;omega) hqo (by omega) hW.okSz (k3 tc ht n (by omega)) (k4 n (by omega)) (k5 n (by omega)) (k6 n (by omega))
 obtain ⟨L4,s4,E4⟩:=y125 (n:=n) (ob:=ob3) (fz:=fz) (nx:=nx+1+8) E3 (by omega)
 refine ⟨L4,ob3,nx+1+8,x3,_, ?_,E4,B3,hW.snoc ⟨tc,ht,rfl⟩⟩
 rw [dr_L0,x_seq,s1,y4u,x_seq,yfi,y10h,s2,s3,yhs,y4u,s4]
set_option maxRecDepth 100000 in
theorem yr3 (l h m s:Rat) (d:Nat) (at_ lng:Int) (sl:SmQ 256 l) (sh:SmQ 256 h) (sm:SmQ 256 m) (ss:SmQ 256 s) (s0:0<s) (m0:0<m) (hd:d≤16) (ha:0≤at_) (ha':at_<9223372036854775808) (g0:0≤lng) (g1:lng≤(d:Int)) (hb:h-l≤((200:Nat):Rat)*(s*m)*s) (ws:List (List AV)) (o4w:okSz 4 ws=true) (hlen:ws.length≤40):
  ∀(r:List Rat) (i:Nat) (p v:Rat) (Z:Nat),ws.drop i=r.map rC→PvS Z p v→Z+4374*r.length≤200000→safeQ l h m s p v (lookQ (d:Int) at_ lng (i:Int))=true→(∀w∈r,SmQ 256 w)→i+r.length=ws.length→
   ∃N,∀n,N≤n→∀(ob:Nat→Option AObj) (fz:Nat→Nat) (nx:Nat) (L:List (Nat×SV)) (x:AV) (es:List (List AV)) (os:List Mo),DrE L ws d at_ lng x i→DrB ob nx l h m s p v x es→MoRs os es→os.length=i→∀M,r.length<M→
   ∃L' ob' nx' x' es' p' v',loopN (evC (evF E n) n Fn.y1t) M ⟨env L,ob,fz,nx⟩=some (.ext 0,⟨env L',ob',fz,nx'⟩)∧DrE L' ws d at_ lng x' ws.length∧DrB ob' nx' l h m s p' v' x' es'∧MoRs (os++driveQ l h m s (d:Int) at_ lng (i:Int) p v r) es'
 | [],i,p,v,Z,hdr,hP,hZ,hsafe,hw,hi=>by
  rw [List.length_nil,Nat.add_zero] at hi
  subst hi
  refine ⟨0,fun n hn ob fz nx L x es os hL B hW hos M hM=> ?_⟩
  obtain ⟨M,rfl⟩:∃q,M=q+1:=⟨M-1,by omega⟩
  obtain ⟨L',s1,E'⟩:=y117 (n:=n) (ob:=ob) (fz:=fz) (nx:=nx) hL rfl
  exact ⟨L',ob,nx,x,es,p,v,y06 s1,E',B,by unfold driveQ;rw [List.append_nil];exact hW⟩
 | w::r,i,p,v,Z,hdr,hP,hZ,hsafe,hw,hi=>by
  rw [List.length_cons] at hi hZ
  have gw:ws[i]? =some (rC w):=by
   have:=congrArg (fun l=>l[0]?) hdr
   simpa using this
  have hd':ws.drop (i+1)=r.map rC:=by
   have:=congrArg (fun l=>l.drop 1) hdr
   simpa using this
  obtain ⟨m1,m2,m3,m4,m5,-,-⟩:=mo_ok (w:=w) s0 m0 (by omega) g0 g1 hsafe
  have hle:=yay s0 m0 (by unfold lookQ;split;omega;split<;>omega) hsafe
  have h5:Z+(17*256+22)≤200000:=by omega
  have sp:=hP.sm
  have hPs:=hP.step (w:=w) (d:=(d:Int)) (at_:=at_) (lng:=lng) (i:=(i:Int)) (by decide) sl sh sm ss (hw w (by simp)) s0 m0 (by omega) (by omega) hle.1 hle.2
  have S2:∀{q:Rat},SmQ 256 q→SmQ 200000 q:=fun h=>h.mono (by decide)
  have sp1:SmQ 200000 p:=sp.1.mono (by omega)
  have sv1:SmQ 200000 v:=sp.2.mono (by omega)
  have hacc:SmQ 6300000 (accQ l h m s (d:Int) at_ lng (i:Int) p v w):=by
   unfold accQ
   split
   ·exact (yak l h m s p v w (d:Int) (by decide) (S2 sl) (S2 sh) (S2 sm) (S2 ss) sp1 sv1 (S2 (hw w (by simp))) s0 m0 (by omega) (by omega) (by decide)).2.mono (by decide)
   ·split
    ·unfold brakingQ
     have hsn:s.num≠0:=fun e=>by have:=Rat.num_eq_zero.1 e;grind
     have t1:SmQ 6300000 m:=sm.mono (by decide)
     have t2:SmQ 6300000 (-v / s):=(sv1.neg.div hsn ss).mono (by decide)
     exact t1.neg.max (t1.min t2)
    ·exact zS (by decide)
  obtain ⟨N1,k1⟩:=yy5 l h m s p v w d at_ lng (S2 sl) (S2 sh) (S2 sm) (S2 ss) sp1 sv1 (S2 (hw w (by simp))) s0 m0 hd ha ha' g0 ws i gw o4w (by omega) (by omega) hacc hsafe hb g1
  have ei:((i:Nat):Int)+1=((i+1:Nat):Int):=rfl
  rw [ei] at m1
  obtain ⟨N2,k2⟩:=yr3 l h m s d at_ lng sl sh sm ss s0 m0 hd ha ha' g0 g1 hb ws o4w hlen r (i+1) _ _ _ hd' hPs (by omega) m1 (fun x hx=>hw x (by simp [hx])) (by omega)
  refine ⟨N1+N2,fun n hn ob fz nx L x es os hL B hW hos M hM=> ?_⟩
  rw [List.length_cons] at hM
  obtain ⟨M,rfl⟩:∃q,M=q+1:=⟨M-1,by omega⟩
  obtain ⟨L1,ob1,nx1,x1,es1,s1,E1,B1,W1⟩:=k1 n (by omega) ob fz nx L x es os hL B hW hos
  obtain ⟨L2,ob2,nx2,x2,es2,p2,v2,s2,E2,B2,W2⟩:=k2 n (by omega) ob1 fz nx1 L1 x1 es1 _ E1 B1 W1 (by rw [List.length_append,hos];rfl) M (by omega)
  refine ⟨L2,ob2,nx2,x2,es2,p2,v2,by rw [y07 s1];exact s2,E2,B2, ?_⟩
  unfold driveQ
  rw [ei]
  rw [List.append_assoc] at W2
  exact W2
def MoQ (o:Mo) (e:List AV):Prop:=∃tc,RQ o.a tc∧e=tc++(rC o.v++rC o.p)
def MoQs:List Mo→List (List AV)→Prop
 | [],[]=>True
 | o::r,e::s=>MoQ o e∧MoQs r s
 | _,_=>False
theorem MoQs.len:∀{ms:List Mo} {es:List (List AV)},MoQs ms es→es.length=ms.length
 | [],[],_=>rfl
 | _::r,_::s,h=>by rw [List.length_cons,List.length_cons,MoQs.len h.2]
theorem MoR.frz {o:Mo} {e:List AV} (h:MoR o e) (ob:Nat→Option AObj) (k:Nat):∃e2,MoQ o e2∧∀fz,mapFz (Ev.frz ob (k+1)) fz e=some (fz,e2):=by
 obtain ⟨tc,hw,rfl⟩:=h
 have hcan:CanL (rC o.v++rC o.p):=.app (.r _) (.r _)
 have hr:∀fz,mapFz (Ev.frz ob (k+1)) fz (rC o.v++rC o.p)=some (fz,rC o.v++rC o.p):=fun fz=>y5s _ fun x hx=>(hcan x hx).frz ob k fz
 rcases hw with hq | ⟨h0,rfl⟩
 ·refine ⟨tc++(rC o.v++rC o.p),⟨tc,hq,rfl⟩,fun fz=>y5s _ fun x hx=> ?_⟩
  rcases List.mem_append.1 hx with hx | hx
  ·have hc:=hq.can
   cases hc with
   | agg _ hc=>exact (hc x hx).frz ob k fz
  ·exact (hcan x hx).frz ob k fz
 ·refine ⟨[.bool false,.sl false [],.bool false,.sl false []]++(rC o.v++rC o.p),⟨_,.inr ⟨h0,rfl⟩,rfl⟩, ?_⟩
  exact y7m (fun fz=>rfl) (y7m (fun fz=>rfl) (y7m (fun fz=>rfl) (y7m (fun fz=>rfl) hr)))
theorem MoRs.frz (ob:Nat→Option AObj) (k:Nat):∀{ms:List Mo} {es:List (List AV)},MoRs ms es→∃es2,MoQs ms es2∧∀fz,mapFz (mapFz (Ev.frz ob (k+1))) fz es=some (fz,es2)
 | [],[],_=>⟨[],trivial,fun fz=>rfl⟩
 | _::r,_::s,h=>by
  obtain ⟨e2,h1,h2⟩:=h.1.frz ob k
  obtain ⟨s2,h3,h4⟩:=MoRs.frz ob k h.2
  exact ⟨e2::s2,⟨h1,h3⟩,y7m h2 h4⟩
theorem DrB.frz {ob:Nat→Option AObj} {nx:Nat} {l h m s p v:Rat} {x:AV} {es:List (List AV)} {os:List Mo} (B:DrB ob nx l h m s p v x es) (hW:MoRs os es):∃es2,MoQs os es2∧∃g:(Nat→Nat)→(Nat→Nat),∀fz,frzS ob fz (.one x)=some (g fz,.one (.sl false es2)):=by
 obtain ⟨es2,hq,hm⟩:=hW.frz ob 6
 refine ⟨es2,hq, ?_⟩
 rcases B.out with ⟨rfl,rfl⟩ | ⟨id,ver,rfl,hid,h6,h7⟩
 ·have:=hm (fun _=>0)
  simp only [mapFz,Option.some.injEq,Prod.mk.injEq] at this
  rw [←this.2]
  exact ⟨fun fz=>fz,fun fz=>rfl⟩
 ·refine ⟨fun fz=>raise fz id (0+es.length),fun fz=> ?_⟩
  have hb:Nat.ble (0+es.length) es.length=true:=by simp
  have h1:Ev.frz ob DEPTH fz (.rsl id ver 12 0 es.length false)=some (raise fz id (0+es.length),.sl false es2):=by
   rw [show DEPTH=6+1+1 from rfl,y9c,y4d hid]
   simp only [hb,cond_true,List.drop_zero,List.take_length]
   rw [hm]
  simp only [frzS,h1]
set_option maxRecDepth 100000 in
theorem yq2 (l h m s p v:Rat) (d:Nat) (at_ lng:Int) (sl:SmQ 256 l) (sh:SmQ 256 h) (sm:SmQ 256 m) (ss:SmQ 256 s) (sp:SmQ 256 p) (sv:SmQ 256 v) (s0:0<s) (m0:0<m) (hd:d≤16) (ha:0≤at_) (ha':at_<9223372036854775808) (g0:0≤lng) (g1:lng≤(d:Int)) (hb:h-l≤((200:Nat):Rat)*(s*m)*s) (ws:List Rat) (hlen:ws.length≤20) (sw:∀w∈ws,SmQ 256 w) (hsafe:safeQ l h m s p v (d:Int)=true):
  ∃es2,MoQs (driveQ l h m s (d:Int) at_ lng 0 p v ws) es2∧
   Ends Id.y11 [.agg (rC l++(rC h++(rC m++rC s))),.agg (rC p),.agg (rC v),.one (.sl false (ws.map rC)),.one (.int .i64 (d:Int)),.one (.int .i64 at_),.one (.int .i64 lng)] (.one (.sl false es2)):=by
 have el:lookQ (d:Int) at_ lng ((0:Nat):Int)=(d:Int):=if_pos (by omega)
 obtain ⟨N,hN⟩:=yr3 l h m s d at_ lng sl sh sm ss s0 m0 hd ha ha' g0 g1 hb (ws.map rC) (yrg ws) (by rw [List.length_map];omega) ws 0 p v (256+256) rfl (.start sp sv) (by omega) (by rw [el];exact hsafe) sw (by simp)
 have run:∀n,N+ws.length+1≤n→∃es2,MoQs (driveQ l h m s (d:Int) at_ lng 0 p v ws) es2∧evV E (n+1) Id.y11 [.agg (rC l++(rC h++(rC m++rC s))),.agg (rC p),.agg (rC v),.one (.sl false (ws.map rC)),.one (.int .i64 (d:Int)),.one (.int .i64 at_),.one (.int .i64 lng)]=some (.one (.sl false es2)):=by
  intro n hn
  have key:∀(ob:Nat→Option AObj) (L:List (Nat×SV)),DrE L (ws.map rC) d at_ lng .nils 0→DrB ob 4 l h m s p v .nils []→
    ∃es2,MoQs (driveQ l h m s (d:Int) at_ lng 0 p v ws) es2∧finV [.tmp 14] (thenC (evF E n) n (tailAt 3 Fn.y11.code) (blkC 0 (loopN (evC (evF E n) n Fn.y1t) n ⟨env L,ob,fz0,4⟩)))=some (.one (.sl false es2)):=by
   intro ob L hL B
   obtain ⟨L',ob',nx',x',es',p',v',f1,E',B',W'⟩:=hN n (by omega) ob fz0 4 L _ [] [] hL B trivial rfl n (by omega)
   rw [List.nil_append] at W'
   obtain ⟨es2,hq,g,hf⟩:=B'.frz W'
   refine ⟨es2,hq, ?_⟩
   obtain ⟨e3,e4,e5,e6,e7,e8,e9,e15,e16⟩:=E'
   rw [f1,y7c,if_pos rfl,y4u]
   simp only [go_sem,tailAt,Fn.y11,e3,e4,e5,e6,e7,e8,e9,e15,e16,hf]
  rw [y03 yep,show Fn.y11.code=cutAt 3 Fn.y11.code (tailAt 3 Fn.y11.code) from rfl]
  generalize tailAt 3 Fn.y11.code=T' at key ⊢
  simp only [go_sem,cutAt,Fn.y11]
  exact key _ _ ⟨rfl,rfl,rfl,rfl,rfl,rfl,rfl,rfl,rfl⟩ ⟨rfl,rfl,rfl,by decide,.inl ⟨rfl,rfl⟩⟩
 obtain ⟨es2,h1,h2⟩:=run _ (Nat.le_refl _)
 exact ⟨es2,h1,_,fun n hn=>yp3 hn h2⟩
end Go.Ev
namespace Go.Ev
open Go.Dig
def byteE (ds:List Nat):List (List AV):=ds.map fun (d:Nat)=>[AV.int .u8 d]
theorem yag (ds:List Nat):(byteE ds).length=ds.length:=by simp [byteE]
theorem yuy (ds:List Nat) (k:Nat):(byteE ds)[k]? =(ds[k]?).map fun (d:Nat)=>[AV.int .u8 d]:=by simp [byteE]
theorem yvg (ds:List Nat) (k d:Nat):(byteE ds).set k [AV.int .u8 d]=byteE (ds.set k d):=by simp [byteE,List.map_set]
theorem yjp (o:List Nat) (d:Nat):byteE o++[[AV.int .u8 (d:Int)]]=byteE (o++[d]):=by simp [byteE]
attribute [go_sem] yag yuy yvg
theorem yqf {ob:Nat→Option AObj} {id:Nat} {o:AObj} (h:ob id=some o):upd ob id o=ob:=by
 funext k
 by_cases e:k=id
 ·subst e;rw [upd_same,h]
 ·rw [y00 e]
section
variable {F:Caller} {fuel:Nat} {fz:Nat→Nat} {nx:Nat}
set_option maxRecDepth 100000 in
theorem yy0 {id ver T:Nat} (hid:id<nx) (hfz:fz id=0) (o:List Nat) (hT:o.length=T) (hT2:T<2^60):∀(m i j:Nat),i+j+1=T→j≤m→∀(ob:Nat→Option AObj) (o':List Nat) (X:List (Nat×SV)),o'.length=T→ob id=some (.row 1 (byteE o') ver)→(∀k,k<T→o'[k]? =if k<i∨j<k then o[T-1-k]? else o[k]?)→∀N,m<N→
  ∃X',loopN (evC F fuel Fn.y41) N ⟨env ((0,.one (.rsl id ver 1 0 T false))::(2,.one (.int .i64 (i:Int)))::(3,.one (.int .i64 (j:Int)))::X),ob,fz,nx⟩=
   some (.ext 0,⟨env ((0,.one (.rsl id ver 1 0 T false))::X'),upd ob id (.row 1 (byteE o.reverse) ver),fz,nx⟩):=by
 intro m
 induction m with
 | zero=>
  intro i j hij hjm ob o' X hol hob hinv N hN
  obtain ⟨N,rfl⟩:∃k,N=k+1:=⟨N-1,by omega⟩
  have hr:o'=o.reverse:=by
   apply List.ext_getElem?
   intro k
   by_cases hk:k<T
   ·rw [hinv k hk,List.getElem?_reverse (by omega),hT]
    split
    ·rfl
    ·rw [show T-1-k=k by omega]
   ·rw [List.getElem?_eq_none (by omega),List.getElem?_eq_none (by rw [List.length_reverse];omega)]
  have hlt:(((i:Nat):Int)<((j:Nat):Int))=False:=by simp;omega
  refine ⟨[(2,.one (.int .i64 (i:Int))),(3,.one (.int .i64 (j:Int))),(9,.one (.bool false))],y06 ?_⟩
  rw [←hr,yqf hob]
  simp only [go_sem,Fn.y41,hlt]
 | succ m ih=>
  intro i j hij hjm ob o' X hol hob hinv N hN
  obtain ⟨N,rfl⟩:∃k,N=k+1:=⟨N-1,by omega⟩
  by_cases hlt':i<j
  ·have hlt:(((i:Nat):Int)<((j:Nat):Int))=True:=by simp;omega
   obtain ⟨x,gi⟩:∃x,o'[i]? =some x:=⟨o'[i],by simp⟩
   obtain ⟨y,gj⟩:∃y,o'[j]? =some y:=⟨o'[j],by simp⟩
   have w1:IntKind.i64.wrap ((i+1:Nat):Int)=((i+1:Nat):Int):=wi64 (by omega)
   have w2:IntKind.i64.wrap (((j:Nat):Int)-1)=((j-1:Nat):Int):=by rw [wrap_i64 (by omega)];omega
   have li:(i<T)=True:=by simp;omega
   have lj:(j<T)=True:=by simp;omega
   have lid:∀k,(id<nx+k)=True:=fun k=>by simp only [eq_iff_iff,iff_true];omega
   have lid0:(id<nx)=True:=by simp only [eq_iff_iff,iff_true];omega
   have hrow:rowAt ob id ver=some (1,byteE o'):=y4d hob
   have hset:(o'.set i y).length=T:=by simp [hol]
   have gj2:(o'.set i y)[j]? =some y:=by rw [List.getElem?_set_ne (by omega)];exact gj
   have hst:evC F fuel Fn.y41 ⟨env ((0,.one (.rsl id ver 1 0 T false))::(2,.one (.int .i64 (i:Int)))::(3,.one (.int .i64 (j:Int)))::X),ob,fz,nx⟩=
     some (.nrm,⟨env [(0,.one (.rsl id ver 1 0 T false)),(2,.one (.int .i64 ((i+1:Nat):Int))),(3,.one (.int .i64 ((j-1:Nat):Int)))],upd (upd ob id (.row 1 (byteE (o'.set i y)) ver)) id (.row 1 (byteE ((o'.set i y).set j x)) ver),fz,nx⟩):=by
    simp only [go_sem,Fn.y41,hlt,hob,hrow,gi,gj,gj2,li,lj,lid,lid0,hfz,hol,hset,add1,w1,w2]
   rw [y07 hst]
   obtain ⟨X',hX⟩:=ih (i+1) (j-1) (by omega) (by omega) (upd (upd ob id (.row 1 (byteE (o'.set i y)) ver)) id (.row 1 (byteE ((o'.set i y).set j x)) ver)) ((o'.set i y).set j x) [] (by simp [hol]) (upd_same _ _ _) (fun k hk=>by
    have q:=hinv k hk
    have qi:=hinv i (by omega)
    have qj:=hinv j (by omega)
    rw [if_neg (by omega)] at qi qj
    by_cases e1:k=j
    ·subst e1
     rw [List.getElem?_set_self (by simp;omega),if_pos (by omega),show T-1-k=i by omega,←qi,gi]
    ·rw [List.getElem?_set_ne (by omega)]
     by_cases e2:k=i
     ·subst e2
      rw [List.getElem?_set_self (by omega),if_pos (by omega),show T-1-k=j by omega,←qj,gj]
     ·rw [List.getElem?_set_ne (by omega),q]
      by_cases e3:k<i∨j<k
      ·rw [if_pos e3,if_pos (by omega)]
      ·rw [if_neg e3,if_neg (by omega)]) N (by omega)
   exact ⟨X',by rw [hX,yfj,yfj]⟩
  ·have hr:o'=o.reverse:=by
    apply List.ext_getElem?
    intro k
    by_cases hk:k<T
    ·rw [hinv k hk,List.getElem?_reverse (by omega),hT]
     split
     ·rfl
     ·rw [show T-1-k=k by omega]
    ·rw [List.getElem?_eq_none (by omega),List.getElem?_eq_none (by rw [List.length_reverse];omega)]
   have hlt:(((i:Nat):Int)<((j:Nat):Int))=False:=by simp;omega
   refine ⟨[(2,.one (.int .i64 (i:Int))),(3,.one (.int .i64 (j:Int))),(9,.one (.bool false))],y06 ?_⟩
   rw [←hr,yqf hob]
   simp only [go_sem,Fn.y41,hlt]
end
theorem yzy {n id ver:Nat} {ob:Nat→Option AObj} {fz:Nat→Nat} {nx:Nat} (hid:id<nx) (hfz:fz id=0) (o:List Nat) (h1:1≤o.length) (h2:o.length<2^60) (hob:ob id=some (.row 1 (byteE o) ver)) (hn:o.length+1≤n):
  evF E (n+1) (.fn Id.y1c) [.one (.rsl id ver 1 0 o.length false)] ⟨ob,fz,nx⟩=some (.tup [],⟨upd ob id (.row 1 (byteE o.reverse) ver),fz,nx⟩):=by
 rw [y9y yan]
 obtain ⟨X',hX⟩:=yy0 (F:=evF E n) (fuel:=n) (nx:=nx) hid hfz o rfl h2 (o.length-1) 0 (o.length-1) (by omega) (Nat.le_refl _) ob o [] rfl hob (fun k hk=>by
  rw [if_neg (by omega)]) n (by omega)
 have w1:IntKind.i64.wrap (((o.length:Nat):Int)-1)=((o.length-1:Nat):Int):=by rw [wrap_i64 (by omega)];omega
 rw [show ((0:Nat):Int)=0 from rfl] at hX
 simp only [go_sem,Fn.y1c,w1,hX,ypl]
end Go.Ev
namespace Go.Ev
open Go.Dig
def padD:Nat→Nat→List Nat
 | 0,_=>[]
 | k+1,d=>d%10::padD k (d / 10)
theorem yoq {q:Nat} (hq:q≠0):∀(k d:Nat),d<10^k→digs 10 (d+10^k*q)=padD k d++digs 10 q
 | 0,d,h=>by
  have:d=0:=by simpa using h
  subst this
  simp [padD]
 | k+1,d,h=>by
  have hp:0<10^(k+1)*q:=Nat.mul_pos (Nat.pow_pos (by decide)) (Nat.pos_of_ne_zero hq)
  rw [y6n (by decide) (by omega)]
  have e:10^(k+1)*q=10*(10^k*q):=by rw [Nat.pow_succ];rw [Nat.mul_comm (10^k) 10,Nat.mul_assoc]
  have e1:(d+10^(k+1)*q)%10=d%10:=by omega
  have e2:(d+10^(k+1)*q) / 10=d / 10+10^k*q:=by omega
  rw [e1,e2,yoq hq k (d / 10) (by rw [Nat.pow_succ] at h;omega)]
  rfl
def chD (ds:List Nat):List Nat:=ds.map (48+·)
theorem yzs (a b:List Nat):chD (a++b)=chD a++chD b:=by simp [chD]
def tailD (q k d:Nat):List Nat:=if q≠0 then padD k d else digs 10 d
theorem yrv {q k d:Nat} (h:q≠0∨d≠0):tailD q (k+1) d=d%10::tailD q k (d / 10):=by
 unfold tailD
 by_cases hq:q≠0
 ·rw [if_pos hq,if_pos hq];rfl
 ·rw [if_neg hq,if_neg hq,y6n (by decide) (by omega)]
theorem yun (a:Nat):tailD (a / 1000000000) 9 (a%1000000000)++digs 10 (a / 1000000000)=digs 10 a:=by
 unfold tailD
 have e:a%1000000000+1000000000*(a / 1000000000)=a:=Nat.mod_add_div a 1000000000
 by_cases hq:a / 1000000000≠0
 ·rw [if_pos hq,←yoq hq 9 _ (by show _<1000000000;omega)]
  rw [show (10:Nat)^9=1000000000 from rfl,e]
 ·rw [if_neg hq]
  have h0:a / 1000000000=0:=by omega
  rw [h0,digs_zero,List.append_nil,Nat.mod_eq_of_lt (by omega)]
section
variable {F:Caller} {fuel:Nat} {fz:Nat→Nat}
set_option maxRecDepth 100000 in
theorem ywh {ob:Nat→Option AObj} {nx:Nat} (q d i:Nat) (hi:i<9) (hqd:q≠0∨d≠0) (hd:d<10^9) (x:AV) (o:List Nat) (ho:o.length<2^40) (hx:OutE 1 ob nx x (byteE o)) (X:List (Nat×SV)):∃ob' nx' x',
  evC F fuel Fn.y1g ⟨env ((3,.one x)::(4,.one (natV q))::(6,.one (.int .u64 (d:Int)))::(7,.one (.int .i64 (i:Int)))::X),ob,fz,nx⟩=
   some (.nrm,⟨env [(3,.one x'),(4,.one (natV q)),(6,.one (.int .u64 ((d / 10:Nat):Int))),(7,.one (.int .i64 ((i+1:Nat):Int)))],ob',fz,nx'⟩)∧nx≤nx'∧OutE 1 ob' nx' x' (byteE (o++[48+d%10])):=by
 have hd9:d<1000000000:=hd
 have h1:(((i:Nat):Int)<9)=True:=by simp;omega
 have wk:IntKind.i64.wrap ((i+1:Nat):Int)=((i+1:Nat):Int):=wi64 (by omega)
 have t10:((10:Int)=0)=False:=by simp
 have m1:((d:Nat):Int).tmod 10=((d%10:Nat):Int):=by rw [Int.tmod_eq_emod_of_nonneg (by omega)];omega
 have m2:IntKind.u64.wrap (48+((d%10:Nat):Int))=((48+d%10:Nat):Int):=by
  have:(48+((d%10:Nat):Int))=((48+d%10:Nat):Int):=by omega
  rw [this,IntKind.wrap_u64];omega
 have m3:IntKind.u8.wrap ((48+d%10:Nat):Int)=((48+d%10:Nat):Int):=by rw [IntKind.wrap_u8];omega
 have m4:IntKind.u64.wrap (((d:Nat):Int).tdiv 10)=((d / 10:Nat):Int):=by
  rw [Int.tdiv_eq_ediv_of_nonneg (by omega)]
  have:((d:Nat):Int) / 10=((d / 10:Nat):Int):=by omega
  rw [this,IntKind.wrap_u64];omega
 have gd:(((d:Nat):Int)>0)=(d≠0):=by rw [eq_iff_iff];omega
 have gq:(((digs B32 q).length:Int)>0)=(q≠0):=by
  by_cases h0:q=0
  ·subst h0;rw [digs_zero];simp
  ·have:=y4p (B:=B32) (by decide) h0
   have:(digs B32 q).length≠0:=fun e=>this (List.length_eq_zero_iff.1 e)
   simp only [eq_iff_iff,ne_eq,h0,not_false_eq_true,iff_true];omega
 have one8:[[AV.int .u8 ((48+d%10:Nat):Int)]]=byteE [48+d%10]:=rfl
 unfold natV at*
 have key:∀(gq':((digs B32 q).length:Int)>0∨True),∃ob' nx' x',
  evC F fuel Fn.y1g ⟨env ((3,.one x)::(4,.one (.sl false (natE (digs B32 q))))::(6,.one (.int .u64 (d:Int)))::(7,.one (.int .i64 (i:Int)))::X),ob,fz,nx⟩=
   some (.nrm,⟨env [(3,.one x'),(4,.one (.sl false (natE (digs B32 q)))),(6,.one (.int .u64 ((d / 10:Nat):Int))),(7,.one (.int .i64 ((i+1:Nat):Int)))],ob',fz,nx'⟩)∧nx≤nx'∧OutE 1 ob' nx' x' (byteE (o++[48+d%10])):=by
  intro _
  by_cases hq:q≠0
  ·have gq1:(((digs B32 q).length:Int)>0)=True:=by rw [gq];simp [hq]
   rcases hx with ⟨he,rfl⟩ | ⟨a,va,rfl,h2,h3⟩
   ·have ho0:o=[]:=by simpa [byteE] using he
    subst ho0
    obtain ⟨r,hr0⟩:∃r,evC F fuel Fn.y1g ⟨env ((3,.one .nils)::(4,.one (.sl false (natE (digs B32 q))))::(6,.one (.int .u64 (d:Int)))::(7,.one (.int .i64 (i:Int)))::X),ob,fz,nx⟩=r:=⟨_,rfl⟩
    have hr:=hr0
    simp only [go_sem,Fn.y1g,y5a,h1,gq1,gd,t10,m1,m2,m3,m4,okSz,ROOM,Nat.reduceBEq,add1,wk] at hr
    rw [hr0,←hr]
    exact ⟨_,_,_,rfl,by omega,.inr ⟨_,0,rfl,upd_same _ _ _,by omega⟩⟩
   ·have hrow:∀k y,rowAt (upd ob (nx+k) y) a va=some (1,byteE o):=fun k y=>(y5r (by omega)).trans (y4d h2)
    have w1:(o.length+1)*1≤140737488355328:=by omega
    obtain ⟨r,hr0⟩:∃r,evC F fuel Fn.y1g ⟨env ((3,.one (.rsl a va 1 0 (byteE o).length false))::(4,.one (.sl false (natE (digs B32 q))))::(6,.one (.int .u64 (d:Int)))::(7,.one (.int .i64 (i:Int)))::X),ob,fz,nx⟩=r:=⟨_,rfl⟩
    have hr:=hr0
    simp only [go_sem,Fn.y1g,y5a,h1,gq1,gd,t10,m1,m2,m3,m4,okSz,ROOM,Nat.reduceBEq,hrow,w1,beq_self_eq_true,add1,wk] at hr
    rw [hr0,←hr]
    refine ⟨_,_,_,rfl,by omega,.inr ⟨a,va+1, ?_, ?_,by omega⟩⟩
    ·rw [yag,List.length_append];rfl
    ·rw [←yjp];exact upd_same _ _ _
  ·have hd0:(d≠0)=True:=by rw [eq_iff_iff];simp;omega
   have gq1:(((digs B32 q).length:Int)>0)=False:=by rw [gq];simp [hq]
   rcases hx with ⟨he,rfl⟩ | ⟨a,va,rfl,h2,h3⟩
   ·have ho0:o=[]:=by simpa [byteE] using he
    subst ho0
    obtain ⟨r,hr0⟩:∃r,evC F fuel Fn.y1g ⟨env ((3,.one .nils)::(4,.one (.sl false (natE (digs B32 q))))::(6,.one (.int .u64 (d:Int)))::(7,.one (.int .i64 (i:Int)))::X),ob,fz,nx⟩=r:=⟨_,rfl⟩
    have hr:=hr0
    simp only [go_sem,Fn.y1g,y5a,h1,gq1,gd,hd0,t10,m1,m2,m3,m4,okSz,ROOM,Nat.reduceBEq,add1,wk] at hr
    rw [hr0,←hr]
    exact ⟨_,_,_,rfl,by omega,.inr ⟨_,0,rfl,upd_same _ _ _,by omega⟩⟩
   ·have hrow:∀k y,rowAt (upd ob (nx+k) y) a va=some (1,byteE o):=fun k y=>(y5r (by omega)).trans (y4d h2)
    have w1:(o.length+1)*1≤140737488355328:=by omega
    obtain ⟨r,hr0⟩:∃r,evC F fuel Fn.y1g ⟨env ((3,.one (.rsl a va 1 0 (byteE o).length false))::(4,.one (.sl false (natE (digs B32 q))))::(6,.one (.int .u64 (d:Int)))::(7,.one (.int .i64 (i:Int)))::X),ob,fz,nx⟩=r:=⟨_,rfl⟩
    have hr:=hr0
    simp only [go_sem,Fn.y1g,y5a,h1,gq1,gd,hd0,t10,m1,m2,m3,m4,okSz,ROOM,Nat.reduceBEq,hrow,w1,beq_self_eq_true,add1,wk] at hr
    rw [hr0,←hr]
    refine ⟨_,_,_,rfl,by omega,.inr ⟨a,va+1, ?_, ?_,by omega⟩⟩
    ·rw [yag,List.length_append];rfl
    ·rw [←yjp];exact upd_same _ _ _
 exact key (.inr trivial)
end
end Go.Ev
namespace Go.Ev
open Go.Dig
def strB (l:List Nat):ByteArray:=byteStr (l.map fun (d:Nat)=>(d:Int))
theorem ygq:∀l:List Nat,bytesOf (byteE l)=some (l.map fun (d:Nat)=>(d:Int))
 | []=>rfl
 | d::r=>by
  have ih:=ygq r
  show (match byteOf [AV.int .u8 (d:Int)],bytesOf (byteE r) with
   | some n,some l=>some (n::l)
   | _,_=>none)=_
  rw [ih];rfl
theorem ydw:∀(k d:Nat),(padD k d).length=k
 | 0,_=>rfl
 | k+1,d=>by unfold padD;rw [List.length_cons,ydw k]
def decL (a:Nat):List Nat:=if a=0 then [48] else (chD (digs 10 a)).reverse
section
variable {fz:Nat→Nat}
set_option maxRecDepth 100000 in
theorem yu7 {F:Caller} {fuel:Nat} (q:Nat):∀(m i d:Nat),i+m=9→d<10^m→∀(ob:Nat→Option AObj) (nx:Nat) (x:AV) (o:List Nat) (X:List (Nat×SV)),o.length+m<2^40→OutE 1 ob nx x (byteE o)→∀N,m<N→
  ∃ob' nx' x' X',loopN (evC F fuel Fn.y1g) N ⟨env ((3,.one x)::(4,.one (natV q))::(6,.one (.int .u64 (d:Int)))::(7,.one (.int .i64 (i:Int)))::X),ob,fz,nx⟩=
   some (.ext 2,⟨env ((3,.one x')::(4,.one (natV q))::X'),ob',fz,nx'⟩)∧nx≤nx'∧OutE 1 ob' nx' x' (byteE (o++chD (tailD q m d))):=by
 intro m
 induction m with
 | zero=>
  intro i d hi hd ob nx x o X ho hx N hN
  obtain ⟨N,rfl⟩:∃k,N=k+1:=⟨N-1,by omega⟩
  have h1:(((i:Nat):Int)<9)=False:=by simp;omega
  have h0:d=0:=by simpa using hd
  have e:tailD q 0 d=[]:=by
   unfold tailD
   rw [h0,digs_zero]
   split<;>rfl
  rw [e]
  refine ⟨ob,nx,x,[(6,.one (.int .u64 (d:Int))),(7,.one (.int .i64 (i:Int))),(31,.one (.bool false))],y06 ?_,Nat.le_refl _,by simpa [chD] using hx⟩
  simp only [go_sem,Fn.y1g,h1]
 | succ m ih=>
  intro i d hi hd ob nx x o X ho hx N hN
  obtain ⟨N,rfl⟩:∃k,N=k+1:=⟨N-1,by omega⟩
  by_cases hqd:q≠0∨d≠0
  ·have hd9:d<10^9:=Nat.lt_of_lt_of_le hd (Nat.pow_le_pow_right (by decide) (by omega))
   obtain ⟨ob1,nx1,x1,hst,g1,g2⟩:=ywh (F:=F) (fuel:=fuel) (fz:=fz) q d i (by omega) hqd hd9 x o (by omega) hx X
   obtain ⟨ob',nx',x',X',k1,k2,k3⟩:=ih (i+1) (d / 10) (by omega) (by rw [Nat.pow_succ] at hd;omega) ob1 nx1 x1 (o++[48+d%10]) [] (by rw [List.length_append];simp;omega) g2 N (by omega)
   refine ⟨ob',nx',x',X',by rw [y07 hst];exact k1,by omega, ?_⟩
   rw [yrv hqd]
   have:o++chD (d%10::tailD q m (d / 10))=o++[48+d%10]++chD (tailD q m (d / 10)):=by simp [chD]
   rw [this];exact k3
  ·have hq0:q=0:=by omega
   have hd0:d=0:=by omega
   subst hq0 hd0
   have h1:(((i:Nat):Int)<9)=True:=by simp;omega
   have e:tailD 0 (m+1) 0=[]:=by unfold tailD;rw [if_neg (by simp),digs_zero]
   rw [e]
   have hq:(((digs B32 0).length:Int)>0)=False:=by rw [digs_zero];simp
   have hd:(((0:Nat):Int)>0)=False:=by simp
   refine ⟨ob,nx,x,[(6,.one (.int .u64 ((0:Nat):Int))),(7,.one (.int .i64 (i:Int))),(31,.one (.bool false))],y06 ?_,Nat.le_refl _,by simpa [chD] using hx⟩
   unfold natV
   simp only [go_sem,Fn.y1g,y5a,h1,hq,hd]
set_option maxRecDepth 100000 in
theorem yv5 {n:Nat}:∀(k a:Nat),a<2^k→k+30≤n→k<2^36→∀(ob:Nat→Option AObj) (nx:Nat) (x:AV) (o:List Nat) (X:List (Nat×SV)),o.length+9*k<2^39+(2^39-1)→OutE 1 ob nx x (byteE o)→∀N,k<N→
  ∃ob' nx' x' X',loopN (evC (evF E n) n Fn.y5d) N ⟨env ((0,.one (natV a))::(3,.one x)::X),ob,fz,nx⟩=
   some (.ext 0,⟨env ((0,.one (natV 0))::(3,.one x')::X'),ob',fz,nx'⟩)∧nx≤nx'∧OutE 1 ob' nx' x' (byteE (o++chD (digs 10 a))):=by
 intro k
 induction k with
 | zero=>
  intro a ha hn hk ob nx x o X ho hx N hN
  obtain ⟨N,rfl⟩:∃k,N=k+1:=⟨N-1,by omega⟩
  have h0:a=0:=by simpa using ha
  subst h0
  have hq:(((digs B32 0).length:Int)>0)=False:=by rw [digs_zero];simp
  refine ⟨ob,nx,x,[(13,.one (.bool false))],y06 ?_,Nat.le_refl _,by rw [digs_zero];simpa [chD] using hx⟩
  unfold natV
  simp only [go_sem,Fn.y5d,y5a,hq]
 | succ k ih=>
  intro a ha hn hk ob nx x o X ho hx N hN
  obtain ⟨N,rfl⟩:∃k,N=k+1:=⟨N-1,by omega⟩
  by_cases h0:a=0
  ·subst h0
   have hq:(((digs B32 0).length:Int)>0)=False:=by rw [digs_zero];simp
   refine ⟨ob,nx,x,[(13,.one (.bool false))],y06 ?_,Nat.le_refl _,by rw [digs_zero];simpa [chD] using hx⟩
   unfold natV
   simp only [go_sem,Fn.y5d,y5a,hq]
  ·have hq:(((digs B32 a).length:Int)>0)=True:=by
    have:=y4p (B:=B32) (by decide) h0
    have:(digs B32 a).length≠0:=fun e=>this (List.length_eq_zero_iff.1 e)
    simp;omega
   have hla:=y4w ha
   have hlr:dlen B32 (a%1000000000)≤2:=y5n (by decide) (by
    have h1:a%1000000000<1000000000:=Nat.mod_lt _ (by decide)
    have h2:(1000000000:Nat)≤B32^2:=by decide
    omega)
   obtain ⟨n,rfl⟩:∃j,n=j+1:=⟨n-1,by omega⟩
   have k1:=y01 (ym0 a 1000000000 (by decide) (by decide) (by omega) (n:=n) (by omega)) (can2 (y0e _) (y26 _ _))
   have k2:=y01 (yed (a%1000000000) hlr (n:=n) (by omega)) (can1 (y0e _))
   have hd:a%1000000000<10^9:=Nat.mod_lt _ (by decide)
   obtain ⟨ob1,nx1,x1,X1,q1,q2,q3⟩:=yu7 (F:=evF E (n+1)) (fuel:=n+1) (fz:=fz) (a / 1000000000) 9 0 (a%1000000000) rfl hd ob nx x o [] (by omega) hx (n+1) (by omega)
   have z0:((0:Nat):Int)=0:=rfl
   have z1:((1000000000:Nat):Int)=1000000000:=rfl
   rw [z0] at q1
   rw [z1] at k1
   have hlt:a / 1000000000<2^k:=by rw [Nat.pow_succ] at ha;omega
   have tl:(chD (tailD (a / 1000000000) 9 (a%1000000000))).length≤9:=by
    unfold chD tailD
    rw [List.length_map]
    split
    ·rw [ydw];exact Nat.le_refl _
    ·exact y5n (B:=10) (by decide) hd
   obtain ⟨ob',nx',x',X',r1,r2,r3⟩:=ih (a / 1000000000) hlt (by omega) (by omega) ob1 nx1 x1 (o++chD (tailD (a / 1000000000) 9 (a%1000000000))) [] (by rw [List.length_append];omega) q3 N (by omega)
   have hst:evC (evF E (n+1)) (n+1) Fn.y5d ⟨env ((0,.one (natV a))::(3,.one x)::X),ob,fz,nx⟩=some (.nrm,⟨env [(0,.one (natV (a / 1000000000))),(3,.one x1)],ob1,fz,nx1⟩):=by
    unfold natV at k1 k2 q1 ⊢
    simp only [go_sem,Fn.y5d,y5a,hq,k1,k2,q1]
   refine ⟨ob',nx',x',X',by rw [y07 hst];exact r1,by omega, ?_⟩
   have e:=yun a
   have:o++chD (digs 10 a)=o++chD (tailD (a / 1000000000) 9 (a%1000000000))++chD (digs 10 (a / 1000000000)):=by rw [←e,yzs,List.append_assoc]
   rw [this];exact r3
end
theorem y7f (ob:Nat→Option AObj) (fz:Nat→Nat) (b:ByteArray):frzS ob fz (.one (.str b))=some (fz,.one (.str b)):=Eq.trans rfl rfl
theorem yd3 {a:Nat} (h:a≠0):decL a=(chD (digs 10 a)).reverse:=by unfold decL;rw [if_neg h]
theorem ygs {x S:Nat} (h:x<2^S):(digs 10 x).length≤S:=by
 have h2:x<10^S:=Nat.lt_of_lt_of_le h (Nat.pow_le_pow_left (by decide) S)
 exact y5n (B:=10) (by decide) h2
set_option maxRecDepth 100000 in
theorem ygx (a:Nat) {S:Nat} (ha:a<2^S) (hS:S<2^35) {n:Nat} (hn:2*S+40≤n):evV E (n+1) Id.y2e [.one (natV a)]=some (.one (.str (strB (decL a)))):=by
 rw [y03 ye6]
 by_cases h0:a=0
 ·subst h0
  have hq:(((digs B32 0).length:Int)==0)=true:=by rw [digs_zero];rfl
  have e:strB (decL 0)=⟨#[48]⟩:=by rfl
  rw [e]
  unfold natV
  simp only [go_sem,Fn.y2e,y5a,hq,y7f]
 ·have hq:(((digs B32 a).length:Int)==0)=false:=by
   have:=y4p (B:=B32) (by decide) h0
   have:(digs B32 a).length≠0:=fun e=>this (List.length_eq_zero_iff.1 e)
   simp only [beq_eq_false_iff_ne,ne_eq];omega
  rw [yd3 h0]
  obtain ⟨ob',nx',x',X',hloop,g1,g2⟩:=yv5 (fz:=fz0) (n:=n) S a ha (by omega) (by omega) ob0 0 .nils [] [] (by simp;omega) (.inl ⟨rfl,rfl⟩) n (by omega)
  rw [List.nil_append] at g2
  have hl10:=ygs ha
  have hne:digs 10 a≠[]:=y4p (by decide) h0
  have hlen:(chD (digs 10 a)).length=(digs 10 a).length:=by simp [chD]
  have hpos:0<(digs 10 a).length:=List.length_pos_iff.2 hne
  generalize hD:chD (digs 10 a)=D at*
  rcases g2 with ⟨he,-⟩ | ⟨id,ver,rfl,hob,hid⟩
  ·have:D=[]:=by simpa [byteE] using he
   rw [this] at hlen;simp at hlen;omega
  ·obtain ⟨n,rfl⟩:∃j,n=j+1:=⟨n-1,by omega⟩
   have hrev:=yzy (n:=n) (fz:=fz0) hid rfl D (by omega) (by omega) hob (by omega)
   have hrow:=y4d (upd_same ob' id (.row 1 (byteE D.reverse) ver))
   have hle:(D.length≤D.reverse.length)=True:=by rw [List.length_reverse];simp
   have htk:(byteE D.reverse).take D.length=byteE D.reverse:=List.take_of_length_le (by rw [yag,List.length_reverse];exact Nat.le_refl _)
   have hby:=ygq D.reverse
   rw [yag] at hloop
   unfold natV at hloop ⊢
   generalize upd ob' id (.row 1 (byteE D.reverse) ver)=obR at hrev hrow
   simp only [go_sem,Fn.y2e,y5a,hq,hloop,hrev,hrow,hle,htk,hby,beq_self_eq_true,y7f]
   rfl
end Go.Ev
namespace Go.Ev
open Go.Dig
theorem yj5:∀(l:List Int) (s:ByteArray),(l.foldl (fun r n=>r.push (UInt8.ofNat n.toNat)) s).data=s.data++(l.map fun n=>UInt8.ofNat n.toNat).toArray
 | [],s=>by simp
 | n::r,s=>by
  rw [List.foldl_cons,yj5 r]
  simp [ByteArray.push]
theorem y7y (l:List Nat):(strB l).data=(l.map fun d=>UInt8.ofNat d).toArray:=by
 unfold strB byteStr
 rw [yj5]
 simp [ByteArray.empty,ByteArray.emptyWithCapacity]
 rfl
theorem yza (a b:List Nat):strB (a++b)=strB a++strB b:=by
 apply ByteArray.ext
 rw [ByteArray.data_append,y7y,y7y,y7y]
 simp
def txtL (q:Rat):List Nat:=(if q.num<0 then 45::decL q.num.natAbs else decL q.num.natAbs)++(if q.den=1 then [] else 47::decL q.den)
theorem ybv (l:List Nat):(strB l).size=l.length:=by
 show (strB l).data.size=_
 rw [y7y];simp
theorem yd5 {a S:Nat} (h:a<2^S):(decL a).length≤S+1:=by
 unfold decL
 split
 ·simp
 ·rw [List.length_reverse]
  have:=ygs h
  simp only [chD,List.length_map];omega
theorem y92 (a b:List Nat) (h:a.length+b.length<2^60):binS .add (strB a) (strB b)=some (.str (strB (a++b))):=by
 have hmax:IntKind.i64.max=9223372036854775807:=rfl
 show (if (((strB a).size+(strB b).size:Nat):Int)>IntKind.i64.max then none else some (AV.str (strB a++strB b)))=_
 rw [ybv,ybv,if_neg (by rw [hmax];omega),yza]
theorem ytm (a:ByteArray):binS .eql a a=some (.bool true):=by
 show some (AV.bool (a.toList==a.toList))=_
 rw [beq_self_eq_true]
set_option maxRecDepth 100000 in
theorem yxm (q:Rat) {S:Nat} (h:SmQ S q) (hS:S<2^34) {n:Nat} (hn:2*S+100≤n):evV E (n+1) Id.y3t [qV q]=some (.one (.str (strB (txtL q)))):=by
 rw [y03 yk3]
 obtain ⟨n,rfl⟩:∃j,n=j+1:=⟨n-1,by omega⟩
 have k1:=y01 (ygx q.num.natAbs h.num (by omega) (n:=n) (by omega)) (can1 (y0e _))
 have k2:=y01 (ygx q.den h.den (by omega) (n:=n) (by omega)) (can1 (y0e _))
 have k3:=y7n q h.den (by omega) (n:=n+1) (by omega)
 have hpos:=q.den_pos
 have s1:=yd5 h.num
 have s2:=yd5 h.den
 have g1:binS .add ⟨#[45]⟩ (strB (decL q.num.natAbs))=some (.str (strB (45::decL q.num.natAbs))):=y92 [45] _ (by simp;omega)
 have g2:binS .add ⟨#[47]⟩ (strB (decL q.den))=some (.str (strB (47::decL q.den))):=y92 [47] _ (by simp;omega)
 have g3:∀l:List Nat,l.length≤S+2→binS .add (strB l) (strB (47::decL q.den))=some (.str (strB (l++47::decL q.den))):=fun l hl=>y92 l _ (by simp;omega)
 have gd:(((digs B32 (q.den-1)).length:Int)>0)=(q.den≠1):=by
  by_cases h0:q.den=1
  ·rw [h0,Nat.sub_self,digs_zero];simp
  ·have:=y4p (B:=B32) (n:=q.den-1) (by decide) (by omega)
   have:(digs B32 (q.den-1)).length≠0:=fun e=>this (List.length_eq_zero_iff.1 e)
   simp only [eq_iff_iff,ne_eq,h0,not_false_eq_true,iff_true];omega
 unfold txtL
 unfold qV qC at k3 ⊢
 generalize hd1:decL q.num.natAbs=D at*
 generalize hd2:decL q.den=D2 at*
 unfold natV at k1 k2 k3 ⊢
 by_cases hn:q.num<0
 ·have g3:=g3 (45::D) (by simp;omega)
  rw [decide_eq_true hn,if_pos hn] at*
  by_cases h1:q.den=1
  ·have gd':(((digs B32 (q.den-1)).length:Int)>0)=False:=by rw [gd];simp [h1]
   rw [if_pos h1,List.append_nil]
   simp only [go_sem,Fn.y3t,y5a,k1,g1,gd',y7f]
  ·have gd':(((digs B32 (q.den-1)).length:Int)>0)=True:=by rw [gd];simp [h1]
   rw [if_neg h1]
   simp only [go_sem,Fn.y3t,y5a,k1,k2,k3,g1,g2,g3,gd',y7f]
 ·have g3:=g3 D (by omega)
  rw [decide_eq_false hn,if_neg hn] at*
  by_cases h1:q.den=1
  ·have gd':(((digs B32 (q.den-1)).length:Int)>0)=False:=by rw [gd];simp [h1]
   rw [if_pos h1,List.append_nil]
   simp only [go_sem,Fn.y3t,y5a,k1,gd',y7f]
  ·have gd':(((digs B32 (q.den-1)).length:Int)>0)=True:=by rw [gd];simp [h1]
   rw [if_neg h1]
   simp only [go_sem,Fn.y3t,y5a,k1,k2,k3,g2,g3,gd',y7f]
end Go.Ev
namespace Go.Ev
open Go.Dig
theorem y107 (c:Nat) (h:c<10):(⟨#[48,49,50,51,52,53,54,55,56,57]⟩:ByteArray).extract c (c+1)=strB [48+c]:=by
 match c,h with
 | 0,_=>rfl
 | 1,_=>rfl
 | 2,_=>rfl
 | 3,_=>rfl
 | 4,_=>rfl
 | 5,_=>rfl
 | 6,_=>rfl
 | 7,_=>rfl
 | 8,_=>rfl
 | 9,_=>rfl
theorem yw4 (a:Nat) (l:List Nat):(strB (a::l)).extract 1 (l.length+1)=strB l:=by
 apply ByteArray.ext
 rw [ByteArray.data_extract,y7y,y7y]
 simp
 exact List.take_of_length_le (by simp)
theorem ytq (a:Nat) (l:List Nat):(strB (a::l))[0]? =some (UInt8.ofNat a):=by
 have h:0<(strB (a::l)).size:=by rw [ybv];simp
 rw [getElem?_pos _ 0 h]
 congr 1
 show (strB (a::l)).data[0]'h=_
 simp only [y7y]
 simp
section
variable {F:Caller} {fuel:Nat} {fz:Nat→Nat} {ob:Nat→Option AObj} {nx:Nat}
set_option maxRecDepth 100000 in
theorem zt_L0 (y1 y4:SV):∀(m k d:Nat) (s:List Nat) (X:List (Nat×SV)),k+m=4→d<10000→s.length+m<2^50→∀N,m<N→
  ∃X',loopN (evC F fuel Fn.y61) N ⟨env ((1,y1)::(3,.one (.str (strB s)))::(4,y4)::(5,.one (.int .i64 (d:Int)))::(6,.one (.int .i64 (k:Int)))::X),ob,fz,nx⟩=
   some (.ext 2,⟨env ((1,y1)::(3,.one (.str (strB ((chD (padD m d)).reverse++s))))::(4,y4)::X'),ob,fz,nx⟩)
 | 0,k,d,s,X,hk,hd,hs,N,hN=>by
  obtain ⟨N,rfl⟩:∃k,N=k+1:=⟨N-1,by omega⟩
  have h1:(((k:Nat):Int)<4)=False:=by simp;omega
  refine ⟨[(5,.one (.int .i64 (d:Int))),(6,.one (.int .i64 (k:Int))),(24,.one (.bool false))],y06 ?_⟩
  simp only [go_sem,Fn.y61,h1,padD,chD,List.map_nil,List.reverse_nil,List.nil_append]
 | m+1,k,d,s,X,hk,hd,hs,N,hN=>by
  obtain ⟨N,rfl⟩:∃k,N=k+1:=⟨N-1,by omega⟩
  have h1:(((k:Nat):Int)<4)=True:=by simp;omega
  have wk:IntKind.i64.wrap ((k+1:Nat):Int)=((k+1:Nat):Int):=wi64 (by omega)
  have t10:((10:Int)=0)=False:=by simp
  have m1:((d:Nat):Int).tmod 10=((d%10:Nat):Int):=by rw [Int.tmod_eq_emod_of_nonneg (by omega)];omega
  have m4:IntKind.i64.wrap (((d:Nat):Int).tdiv 10)=((d / 10:Nat):Int):=by
   rw [Int.tdiv_eq_ediv_of_nonneg (by omega)]
   have:((d:Nat):Int) / 10=((d / 10:Nat):Int):=by omega
   rw [this,wrap_i64 (by omega)]
  have hc:d%10<10:=Nat.mod_lt _ (by decide)
  have e:(chD (padD (m+1) d)).reverse++s=(chD (padD m (d / 10))).reverse++((48+d%10)::s):=by
   have:padD (m+1) d=d%10::padD m (d / 10):=rfl
   rw [this]
   simp [chD]
  rw [e]
  generalize hcc:d%10=c at*
  have w1:IntKind.i64.wrap ((c+1:Nat):Int)=((c+1:Nat):Int):=wi64 (by omega)
  have hx:=y107 c hc
  have hadd:=y92 [48+c] s (by simp;omega)
  have b1:(c≤c+1)=True:=by simp
  have b2:(c+1≤10)=True:=by simp;omega
  have sz:(⟨#[48,49,50,51,52,53,54,55,56,57]⟩:ByteArray).size=10:=rfl
  have hst:evC F fuel Fn.y61 ⟨env ((1,y1)::(3,.one (.str (strB s)))::(4,y4)::(5,.one (.int .i64 (d:Int)))::(6,.one (.int .i64 (k:Int)))::X),ob,fz,nx⟩=
    some (.nrm,⟨env [(1,y1),(3,.one (.str (strB ((48+c)::s)))),(4,y4),(5,.one (.int .i64 ((d / 10:Nat):Int))),(6,.one (.int .i64 ((k+1:Nat):Int)))],ob,fz,nx⟩):=by
   simp only [go_sem,Fn.y61,h1,t10,m1,m4,add1,w1,b1,b2,sz,hx,hadd,wk]
  rw [y07 hst]
  exact zt_L0 y1 y4 m (k+1) (d / 10) ((48+c)::s) [] (by omega) (by omega) (by simp;omega) N (by omega)
set_option maxRecDepth 100000 in
theorem zt_L2 (y1:SV):∀(m:Nat) (D:List Nat) (X:List (Nat×SV)),D.length=m→(∀d∈D,d<10)→trim D≠[]→D.length<2^50→∀N,m<N→
  ∃X',loopN (evC F fuel Fn.y63) N ⟨env ((1,y1)::(3,.one (.str (strB (chD D).reverse)))::X),ob,fz,nx⟩=
   some (.ext 4,⟨env ((1,y1)::(3,.one (.str (strB (chD (trim D)).reverse)))::X'),ob,fz,nx⟩):=by
 intro m
 induction m with
 | zero=>
  intro D X hm hd ht hl N hN
  have:D=[]:=List.eq_nil_of_length_eq_zero hm
  subst this
  exact absurd rfl ht
 | succ m ih=>
  intro D X hm hd ht hl N hN
  obtain ⟨N,rfl⟩:∃k,N=k+1:=⟨N-1,by omega⟩
  obtain ⟨l,x,rfl⟩:∃l x,D=l++[x]:=by
   rcases List.eq_nil_or_concat D with h | ⟨l,x,h⟩
   ·rw [h] at hm;simp at hm
   ·exact ⟨l,x,by simpa using h⟩
  have hx:x<10:=hd x (by simp)
  have hrev:(chD (l++[x])).reverse=(48+x)::(chD l).reverse:=by simp [chD]
  have hh:=ytq (48+x) (chD l).reverse
  have hn:((UInt8.ofNat (48+x)).toNat:Int)=((48+x:Nat):Int):=by
   rw [UInt8.toNat_ofNat'];omega
  have nz:Ev.natOf 0=some 0:=rfl
  by_cases h0:x=0
  ·subst h0
   have hb:(((48+0:Nat):Int)==48)=true:=rfl
   have hll:(chD l).reverse.length=l.length:=by simp [chD]
   have ht1:=yw4 (48+0) (chD l).reverse
   have hsz:(strB ((48+0)::(chD l).reverse)).size=(chD l).reverse.length+1:=by rw [ybv];rfl
   have nz1:Ev.natOf 1=some 1:=rfl
   have b1:(1≤(chD l).reverse.length+1)=True:=by simp
   have hst:evC F fuel Fn.y63 ⟨env ((1,y1)::(3,.one (.str (strB (chD (l++[0])).reverse)))::X),ob,fz,nx⟩=
     some (.nrm,⟨env [(1,y1),(3,.one (.str (strB (chD l).reverse)))],ob,fz,nx⟩):=by
    rw [hrev]
    generalize (chD l).reverse=R at*
    simp only [go_sem,Fn.y63,nz,hh,hn,hb,nz1,hsz,b1,ht1]
   rw [y07 hst,y7e]
   rw [y7e] at ht
   exact ih l [] (by simpa using hm) (fun d hd'=>hd d (by simp [hd'])) ht (by simp at hl;omega) N (by omega)
  ·rw [y8b h0]
   have hb:(((48+x:Nat):Int)==48)=false:=by simp;omega
   refine ⟨[(39,.one (.bool false))],y06 ?_⟩
   rw [hrev]
   simp only [go_sem,Fn.y63,nz,hh,hn,hb]
end
end Go.Ev
namespace Go.Ev
open Go.Dig
section
variable {F:Caller} {fuel:Nat} {fz:Nat→Nat} {ob:Nat→Option AObj} {nx:Nat}
def ztP (ds:List Nat):List Nat:=(chD (ds.flatMap (padD 4))).reverse
theorem yxe (ds:List Nat) (d:Nat):ztP (ds++[d])=(chD (padD 4 d)).reverse++ztP ds:=by
 unfold ztP
 rw [List.flatMap_append]
 simp [chD]
theorem yqk (ds:List Nat):(ztP ds).length=4*ds.length:=by
 unfold ztP chD
 rw [List.length_reverse,List.length_map]
 induction ds with
 | nil=>rfl
 | cons d r ih=>rw [List.flatMap_cons,List.length_append,ih,ydw,List.length_cons];omega
set_option maxRecDepth 100000 in
theorem zt_L1 {sg:AV} (ds:List Nat) (hds:∀d∈ds,d<BT) (hl:ds.length<2^40) (hob:ob 0=some (.box [sg,.sl false (intE ds)])) (hf:5≤fuel):∀(m i:Nat) (X:List (Nat×SV)),i+m=ds.length→∀N,m<N→
  ∃X',loopN (evC F fuel Fn.y62) N ⟨env ((1,.one (.box 0 0))::(3,.one (.str (strB (ztP (ds.take i)))))::(4,.one (.int .i64 (i:Int)))::X),ob,fz,nx⟩=
   some (.ext 0,⟨env ((1,.one (.box 0 0))::(3,.one (.str (strB (ztP ds))))::X'),ob,fz,nx⟩)
 | 0,i,X,hi,N,hN=>by
  obtain ⟨N,rfl⟩:∃k,N=k+1:=⟨N-1,by omega⟩
  have hi':i=ds.length:=by omega
  subst hi'
  rw [List.take_length]
  have h1:(((ds.length:Nat):Int)<((ds.length:Nat):Int))=False:=by simp
  refine ⟨[(4,.one (.int .i64 (ds.length:Int))),(15,.one (.bool false))],y06 ?_⟩
  simp only [go_sem,Fn.y62,hob,y9z,h1]
 | m+1,i,X,hi,N,hN=>by
  obtain ⟨N,rfl⟩:∃k,N=k+1:=⟨N-1,by omega⟩
  have hil:i<ds.length:=by omega
  have h1:(((i:Nat):Int)<((ds.length:Nat):Int))=True:=by simp;omega
  have wk:IntKind.i64.wrap ((i+1:Nat):Int)=((i+1:Nat):Int):=wi64 (by omega)
  have gd:ds[i]? =some ds[i]:=by simp
  have hd:ds[i]<10000:=hds _ (by simp)
  have td:ds.take (i+1)=ds.take i++[ds[i]]:=by rw [List.take_add_one,gd];rfl
  have okz:okSz 1 (intE ds)=true:=yly ds
  have ih:=zt_L1 ds hds hl hob hf m (i+1) [] (by omega) N (by omega)
  rw [td,yxe] at ih
  have hlen:(ztP (ds.take i)).length+4<2^50:=by rw [yqk,List.length_take];omega
  generalize ds[i]=d at*
  obtain ⟨X',hX⟩:=zt_L0 (F:=F) (fuel:=fuel) (fz:=fz) (ob:=ob) (nx:=nx) (.one (.box 0 0)) (.one (.int .i64 (i:Int))) 4 0 d (ztP (ds.take i)) [] rfl hd hlen fuel hf
  have z0:((0:Nat):Int)=0:=rfl
  rw [z0] at hX
  generalize ztP (ds.take i)=s at*
  generalize (chD (padD 4 d)).reverse++s=s' at*
  have hst:evC F fuel Fn.y62 ⟨env ((1,.one (.box 0 0))::(3,.one (.str (strB s)))::(4,.one (.int .i64 (i:Int)))::X),ob,fz,nx⟩=
    some (.nrm,⟨env [(1,.one (.box 0 0)),(3,.one (.str (strB s'))),(4,.one (.int .i64 ((i+1:Nat):Int)))],ob,fz,nx⟩):=by
   simp only [go_sem,Fn.y62,hob,y9z,yny,gd,okz,h1,hX,add1,wk]
  rw [y07 hst]
  exact ih
end
theorem yk4:∀(k d:Nat),∀x∈padD k d,x<10
 | 0,d,x,h=>by cases h
 | k+1,d,x,h=>by
  rcases List.mem_cons.1 h with rfl | h
  ·omega
  ·exact yk4 k _ x h
theorem yqw:∀(k d:Nat),d<10^k→val 10 (padD k d)=d
 | 0,d,h=>by
  have:d=0:=by simpa using h
  rw [this];rfl
 | k+1,d,h=>by
  show d%10+10*val 10 (padD k (d / 10))=d
  rw [yqw k (d / 10) (by rw [Nat.pow_succ] at h;omega)];omega
theorem yos:∀(ds:List Nat),(∀d∈ds,d<BT)→val 10 (ds.flatMap (padD 4))=val BT ds
 | [],h=>rfl
 | d::r,h=>by
  have hd:d<10^4:=h d (by simp)
  rw [List.flatMap_cons,y9l,yqw 4 d hd,ydw,yos r fun x hx=>h x (by simp [hx])]
  rfl
theorem ytr (ds:List Nat) (h:∀d∈ds,d<BT):trim (ds.flatMap (padD 4))=digs 10 (val BT ds):=by
 rw [ycj (show 2≤10 by decide) _ (fun x hx=>by
  obtain ⟨d,_,hd⟩:=List.mem_flatMap.1 hx
  exact yk4 4 d x hd),yos ds h]
def zL (z:Int):List Nat:=if z<0 then 45::decL z.natAbs else decL z.natAbs
set_option maxRecDepth 100000 in
theorem yll (z:Int) (hz:dlen BT z.natAbs<2^38) {n:Nat} (hn:4*dlen BT z.natAbs+20≤n):evV E (n+1) Id.y2c [sV z]=some (.one (.str (strB (zL z)))):=by
 rw [y03 yem]
 unfold zL sV zC zD
 by_cases h0:z.natAbs=0
 ·have hz0:z=0:=by omega
  subst hz0
  have hq:(((digs BT (0:Int).natAbs).length:Int)==0)=true:=by rw [show (0:Int).natAbs=0 from rfl,digs_zero];rfl
  have e:strB (if (0:Int)<0 then 45::decL (0:Int).natAbs else decL (0:Int).natAbs)=⟨#[48]⟩:=by rfl
  rw [e]
  simp only [go_sem,Fn.y2c,y9z,hq,y7f]
 ·have hq:(((digs BT z.natAbs).length:Int)==0)=false:=by
   have:=y4p BT2 h0
   have:(digs BT z.natAbs).length≠0:=fun e=>this (List.length_eq_zero_iff.1 e)
   simp only [beq_eq_false_iff_ne,ne_eq];omega
  rw [yd3 h0]
  unfold dlen at hz hn
  obtain ⟨ob1,hob1⟩:∃o,o=upd ob0 0 (.box [.bool (decide (z<0)),.sl false (intE (digs BT z.natAbs))]):=⟨_,rfl⟩
  have o0:ob1 0=some (.box [.bool (decide (z<0)),.sl false (intE (digs BT z.natAbs))]):=by rw [hob1];exact upd_same _ _ _
  obtain ⟨X1,k1⟩:=zt_L1 (F:=evF E n) (fuel:=n) (fz:=fz0) (ob:=ob1) (nx:=2) (digs BT z.natAbs) (y29 BT2 _) (by omega) o0 (by omega) (digs BT z.natAbs).length 0 [] (by omega) n (by omega)
  have hft:=ytr (digs BT z.natAbs) (y29 BT2 _)
  rw [y1k BT2] at hft
  have hne:digs 10 z.natAbs≠[]:=y4p (by decide) h0
  have hfl:((digs BT z.natAbs).flatMap (padD 4)).length=4*(digs BT z.natAbs).length:=by
   have:=yqk (digs BT z.natAbs)
   unfold ztP chD at this
   simpa using this
  obtain ⟨X2,k2⟩:=zt_L2 (F:=evF E n) (fuel:=n) (fz:=fz0) (ob:=ob1) (nx:=2) (.one (.box 0 0)) ((digs BT z.natAbs).flatMap (padD 4)).length ((digs BT z.natAbs).flatMap (padD 4)) X1 rfl (fun x hx=>by
   obtain ⟨d,_,hd⟩:=List.mem_flatMap.1 hx
   exact yk4 4 d x hd) (by rw [hft];exact hne) (by omega) n (by omega)
  have e0:strB (ztP ((digs BT z.natAbs).take 0))=⟨#[]⟩:=rfl
  have z0:((0:Nat):Int)=0:=rfl
  rw [e0,z0] at k1
  rw [hft] at k2
  have eP:ztP (digs BT z.natAbs)=(chD ((digs BT z.natAbs).flatMap (padD 4))).reverse:=rfl
  rw [eP] at k1
  have hl10:(digs 10 z.natAbs).length≤4*(digs BT z.natAbs).length:=by
   rw [←hft,←hfl];exact ygt _
  have hadd:=y92 [45] (chD (digs 10 z.natAbs)).reverse (by simp [chD];omega)
  have hadd:binS .add ⟨#[45]⟩ (strB (chD (digs 10 z.natAbs)).reverse)=some (.str (strB (45::(chD (digs 10 z.natAbs)).reverse))):=hadd
  generalize (chD (digs 10 z.natAbs)).reverse=R at*
  generalize (chD ((digs BT z.natAbs).flatMap (padD 4))).reverse=R2 at*
  by_cases hneg:z<0
  ·rw [if_pos hneg]
   rw [decide_eq_true hneg] at o0 hob1 ⊢
   simp only [go_sem,Fn.y2c,y9z,hq,←hob1,k1,k2,o0,hadd,y7f]
  ·rw [if_neg hneg]
   rw [decide_eq_false hneg] at o0 hob1 ⊢
   simp only [go_sem,Fn.y2c,y9z,hq,←hob1,k1,k2,o0,y7f]
end Go.Ev
namespace Go.Ev
open Go.Dig
theorem yq9 (l:List Nat):(strB l).toList=l.map fun d=>UInt8.ofNat d:=by
 rw [ByteArray.toList_eq,y7y]
theorem yyr (a:Nat):(((decL a).map fun d=>UInt8.ofNat d)=[49])↔a=1:=by
 constructor
 ·intro h
  by_cases h0:a=0
  ·subst h0;exact absurd h (by decide)
  ·rw [yd3 h0] at h
   have hl:(digs 10 a).length=1:=by
    have:=congrArg List.length h
    simpa [chD] using this
   obtain ⟨d,hd⟩:∃d,digs 10 a=[d]:=List.length_eq_one_iff.1 hl
   have hlt:d<10:=y29 (show 2≤10 by decide) a d (by rw [hd];simp)
   have hv:=y1k (show 2≤10 by decide) a
   rw [hd] at hv h
   have hv:d=a:=by simpa [val] using hv
   have h1:UInt8.ofNat (48+d)=49:=by simpa [chD] using h
   have h2:=congrArg UInt8.toNat h1
   rw [UInt8.toNat_ofNat'] at h2
   have h3:(49:UInt8).toNat=49:=rfl
   rw [h3] at h2
   omega
 ·rintro rfl
  have:decL 1=[49]:=by
   rw [yd3 (by decide),y6n (by decide) (by decide),digs_zero];rfl
  rw [this];rfl
theorem y104 (a:Nat):binS .eql (strB (decL a)) ⟨#[49]⟩=some (.bool (decide (a=1))):=by
 show some (AV.bool ((strB (decL a)).toList==(⟨#[49]⟩:ByteArray).toList))=_
 have h1:(⟨#[49]⟩:ByteArray).toList=[49]:=by rw [ByteArray.toList_eq]
 rw [h1,yq9]
 congr 2
 rw [Bool.eq_iff_iff,beq_iff_eq,decide_eq_true_iff,yyr]
set_option maxRecDepth 100000 in
theorem yvw (q:Rat) {ca:List AV} (hq:RQ q ca) {S:Nat} (h:SmQ S q) (hS:S<2^34) {n:Nat} (hn:4*S+100≤n):evV E (n+1) Id.y3i [.agg ca]=some (.one (.str (strB (txtL q)))):=by
 rw [y03 yfv]
 obtain ⟨n,rfl⟩:∃j,n=j+1:=⟨n-1,by omega⟩
 have na:=y10 h.num
 have da:=y10 h.den
 have k1:=y01 (yll q.num (by omega) (n:=n) (by omega)) (can1 (y1y _))
 have k2:=rdn hq (by omega) (n:=n+1) (by omega)
 have k3:=y01 (yll (q.den:Int) (by rw [Int.natAbs_natCast];omega) (n:=n) (by rw [Int.natAbs_natCast];omega)) (can1 (y1y _))
 have s1:=yd5 h.num
 have s2:=yd5 h.den
 have ez:zL (q.den:Int)=decL q.den:=by unfold zL;rw [if_neg (by omega),Int.natAbs_natCast]
 rw [ez] at k3
 have ezl:(zL q.num).length≤S+2:=by
  unfold zL
  split
  ·rw [List.length_cons];omega
  ·omega
 have g1:binS .add (strB (zL q.num)) ⟨#[47]⟩=some (.str (strB (zL q.num++[47]))):=y92 _ [47] (by simp;omega)
 have g2:=y92 (zL q.num++[47]) (decL q.den) (by simp;omega)
 have g3:=y104 q.den
 have et:txtL q=zL q.num++(if q.den=1 then [] else 47::decL q.den):=rfl
 rw [et]
 obtain ⟨e,y,rfl⟩:=hq.cells
 generalize zL q.num=A at*
 generalize decL q.den=B at*
 unfold sV zC at k1 k2 k3
 rw [Int.natAbs_natCast] at k2 k3
 unfold zD at k1 k2 k3 ⊢
 by_cases h1:q.den=1
 ·rw [decide_eq_true h1] at g3
  rw [if_pos h1,List.append_nil]
  simp only [go_sem,Fn.y3i,k1,k2,k3,g3,y7f]
 ·rw [decide_eq_false h1] at g3
  rw [if_neg h1,show A++47::B=A++[47]++B by simp]
  simp only [go_sem,Fn.y3i,k1,k2,k3,g1,g2,g3,y7f]
theorem yy4 (q:Rat) {ca:List AV} (hq:RQ q ca) {S:Nat} (h:SmQ S q) (hS:S<2^34) {n:Nat} (hn:4*S+110≤n):evV E (n+1) Id.y1v [qV q,.agg ca]=some (.one (.bool true)):=by
 rw [y03 yfx]
 obtain ⟨n,rfl⟩:∃j,n=j+1:=⟨n-1,by omega⟩
 have k1:=y01 (yxm q h hS (n:=n) (by omega)) (can1 (y22 _))
 have k2:=y01 (yvw q hq h hS (n:=n) (by omega)) (can1 hq.can)
 have k3:=ytm (strB (txtL q))
 obtain ⟨e,y,rfl⟩:=hq.cells
 obtain ⟨a1,a2,a3,ea,-,-,-⟩:=yyg q
 unfold qV at k1 ⊢
 rw [ea] at k1 ⊢
 unfold zD at k2 ⊢
 simp only [go_sem,Fn.y1v,k1,k2,k3]
end Go.Ev
namespace Go.Ev
open Go.Dig
theorem cSame {q:Rat} {ca:List AV} {S:Nat} (hq:RQ q ca) (h:SmQ S q) (hS:S<2^34):∀n,4*S+112≤n→∀(ob:Nat→Option AObj) (fz:Nat→Nat),callV (evF E n) Id.y1v [.agg (qC q),.agg ca] ob fz=some (.fzd fz (.one (.bool true))):=fun n hn ob fz=>by
 obtain ⟨n,rfl⟩:∃j,n=j+1:=⟨n-1,by omega⟩
 exact y01 (yy4 q hq h hS (n:=n) (by omega)) (can2 (y22 _) hq.can) ob fz
structure PairIs (z:Nat) (ob:Nat→Option AObj) (nx:Nat) (x y:AV) (es fs:List (List AV)):Prop where
 fst:(es=[]∧x=.nils)∨∃a va,x=.rsl a va 3 0 es.length false∧ob a=some (.row 3 es va)∧z≤a∧a<nx∧∀b vb k,y=.rsl b vb 4 0 k false→a≠b
 snd:(fs=[]∧y=.nils)∨∃b vb,y=.rsl b vb 4 0 fs.length false∧ob b=some (.row 4 fs vb)∧z≤b∧b<nx
 nf:es=[]→x=.nils
 ns:fs=[]→y=.nils
theorem PairIs.old {z:Nat} {ob ob':Nat→Option AObj} {nx nx':Nat} {x y:AV} {es fs:List (List AV)} (h:PairIs z ob nx x y es fs) (e:∀id,id<nx→ob' id=ob id) (hn:nx≤nx'):PairIs z ob' nx' x y es fs:=by
 obtain ⟨h1,h2,h3,h4⟩:=h
 refine ⟨?_, ?_,h3,h4⟩
 ·rcases h1 with h1 | ⟨a,va,q1,q2,q3,q4,q5⟩
  ·exact .inl h1
  ·exact .inr ⟨a,va,q1,by rw [e _ q4];exact q2,q3,by omega,q5⟩
 ·rcases h2 with h2 | ⟨b,vb,q1,q2,q3,q4⟩
  ·exact .inl h2
  ·exact .inr ⟨b,vb,q1,by rw [e _ q4];exact q2,q3,by omega⟩
theorem ymb {n:Nat} {ob:Nat→Option AObj} {fz:Nat→Nat} {z nx i:Nat} {x y:AV} {es fs:List (List AV)} (l:List (List AV)) (s:Num) (gl:l[i]? =some s.c) (o6:okSz 3 l=true) (hl:l.length<2^20) (hi:i<l.length) (hc:∀ob fz,callV (evF E n) Id.y0l [.agg s.c] ob fz=some (.fzd fz (.tup [.agg (qC s.q),.agg (rC s.q)]))) (hz:z≤nx) (h:PairIs z ob nx x y es fs) (l1:es.length=i) (l2:fs.length=i) (X:List (Nat×SV)):
  ∃(ob':Nat→Option AObj) (nx':Nat) (x' y':AV),evC (evF E n) n Fn.y59 ⟨env ((0,.one (.sl false l))::(4,.one x)::(5,.one y)::(6,.one (.int .i64 (i:Int)))::X),ob,fz,nx⟩=
   some (.nrm,⟨env [(0,.one (.sl false l)),(4,.one x'),(5,.one y'),(6,.one (.int .i64 ((i+1:Nat):Int)))],ob',fz,nx'⟩)∧PairIs z ob' nx' x' y' (es++[qC s.q]) (fs++[rC s.q])∧nx≤nx'∧∀id,id<z→ob' id=ob id:=by
 have h1:(((i:Nat):Int)<((l.length:Nat):Int))=True:=by simp;omega
 have wk:IntKind.i64.wrap ((i+1:Nat):Int)=((i+1:Nat):Int):=wi64 (by omega)
 have nxa:∀a b:Nat,nx+a+b=nx+(a+b):=fun a b=>Nat.add_assoc nx a b
 obtain ⟨r,hr0⟩:∃r,evC (evF E n) n Fn.y59 ⟨env ((0,.one (.sl false l))::(4,.one x)::(5,.one y)::(6,.one (.int .i64 (i:Int)))::X),ob,fz,nx⟩=r:=⟨_,rfl⟩
 have hr:=hr0
 obtain ⟨hf,hs,nf,ns⟩:=h
 rcases hf with ⟨rfl,rfl⟩ | ⟨a,va,rfl,h3,h5,h6,h7⟩
 ·rcases hs with ⟨rfl,rfl⟩ | ⟨b,vb,rfl,h4,h8,h9⟩
  ·simp only [go_sem,Fn.y59,h1,gl,hc,o6,okSz,ROOM,add1,wk,nxa] at hr
   rw [hr0,←hr]
   refine ⟨_,nx+22,_,_,rfl,⟨.inr ⟨nx+15,0,rfl, ?_,by omega,by omega,fun b vb k e=> ?_⟩,.inr ⟨nx+20,0,rfl,upd_same _ _ _,by omega,by omega⟩,fun h=>by simp at h,fun h=>by simp at h⟩,by omega,fun id hid=>by repeat rw [y00 (by omega)]⟩
   ·rw [y00 (by omega),y00 (by omega)];exact upd_same _ _ _
   ·injection e with e;omega
  ·exfalso;rw [List.length_nil] at l1;have:=ns (List.length_eq_zero_iff.1 (by omega));cases this
 ·rcases hs with ⟨rfl,rfl⟩ | ⟨b,vb,rfl,h4,h8,h9⟩
  ·exfalso;rw [List.length_nil] at l2;have:=nf (List.length_eq_zero_iff.1 (by omega));cases this
  ·have h7:a≠b:=h7 b vb _ rfl
   have k1:∀k ob y ver,rowAt (upd ob (nx+k) y) a ver=rowAt ob a ver:=fun k ob y ver=>y5r (by omega)
   have k2:∀k ob y ver,rowAt (upd ob (nx+k) y) b ver=rowAt ob b ver:=fun k ob y ver=>y5r (by omega)
   have k3:∀k j ob y ver,rowAt (upd ob (nx+k+j) y) a ver=rowAt ob a ver:=fun k j ob y ver=>y5r (by omega)
   have k4:∀k j ob y ver,rowAt (upd ob (nx+k+j) y) b ver=rowAt ob b ver:=fun k j ob y ver=>y5r (by omega)
   have k5:∀ob y ver,rowAt (upd ob a y) b ver=rowAt ob b ver:=fun ob y ver=>y5r h7.symm
   have m1:∀k ob y,upd ob a y (nx+k)=ob (nx+k):=fun k ob y=>y00 (by omega)
   have b1:(i==i)=true:=by simp
   have w1:(i+1)*56≤140737488355328:=by omega
   have w2:(i+1)*64≤140737488355328:=by omega
   have hra:rowAt ob a va=some (3,es):=y4d h3
   have hrb:rowAt ob b vb=some (4,fs):=y4d h4
   simp only [go_sem,Fn.y59,h1,gl,hc,o6,okSz,ROOM,add1,wk,nxa,k1,k2,k3,k4,k5,hra,hrb,l1,l2,m1,b1,w1,w2] at hr
   rw [hr0,←hr]
   refine ⟨_,nx+22,_,_,rfl,⟨.inr ⟨a,va+1,by rw [List.length_append,l1];rfl, ?_,by omega,by omega,fun b' vb' k e=> ?_⟩,.inr ⟨b,vb+1,by rw [List.length_append,l2];rfl,upd_same _ _ _,by omega,by omega⟩,fun h=>by simp at h,fun h=>by simp at h⟩,by omega,fun id hid=>by repeat rw [y00 (by omega)]⟩
   ·rw [y00 h7,y00 (by omega)];exact upd_same _ _ _
   ·injection e with e;omega
theorem yf8 {n:Nat} {fz:Nat→Nat} {z:Nat} (l:List Num) (hl:l.length<2^20) (hc:∀s∈l,∀ob fz,callV (evF E n) Id.y0l [.agg s.c] ob fz=some (.fzd fz (.tup [.agg (qC s.q),.agg (rC s.q)]))):∀(m i:Nat),i+m=l.length→∀(ob:Nat→Option AObj) (nx:Nat) (x y:AV) (X:List (Nat×SV)),z≤nx→PairIs z ob nx x y ((l.take i).map fun s=>qC s.q) ((l.take i).map fun s=>rC s.q)→∀N,m<N→
  ∃(ob':Nat→Option AObj) (nx':Nat) (x' y':AV) (X':List (Nat×SV)),loopN (evC (evF E n) n Fn.y59) N ⟨env ((0,.one (.sl false (l.map Num.c)))::(4,.one x)::(5,.one y)::(6,.one (.int .i64 (i:Int)))::X),ob,fz,nx⟩=
   some (.ext 0,⟨env ((0,.one (.sl false (l.map Num.c)))::(4,.one x')::(5,.one y')::X'),ob',fz,nx'⟩)∧PairIs z ob' nx' x' y' (l.map fun s=>qC s.q) (l.map fun s=>rC s.q)∧nx≤nx'∧∀id,id<z→ob' id=ob id
 | 0,i,hi,ob,nx,x,y,X,hz,h,N+1,hN=>by
  have hi':i=l.length:=by omega
  subst hi'
  rw [List.take_length] at h
  refine ⟨ob,nx,x,y,[(6,.one (.int .i64 (l.length:Int))),(12,.one (.bool false))],y06 ?_,h,Nat.le_refl _,fun id hid=>rfl⟩
  have h1:(((l.length:Nat):Int)<((l.length:Nat):Int))=False:=by simp
  simp only [go_sem,Fn.y59,List.length_map,h1]
 | m+1,i,hi,ob,nx,x,y,X,hz,h,N+1,hN=>by
  have hil:i<l.length:=by omega
  have gd:l[i]? =some l[i]:=by simp
  obtain ⟨ob',nx',x',y',hst,h',hnx,old⟩:=ymb (fz:=fz) (n:=n) (l.map Num.c) l[i] (by rw [List.getElem?_map,gd];rfl) (y9r (f:=Num.c) (fun a=>rfl) l) (by simpa using hl) (by simpa using hil) (hc _ (by simp)) hz h (by simp;omega) (by simp;omega) X
  rw [y07 hst]
  have td:l.take (i+1)=l.take i++[l[i]]:=by rw [List.take_add_one,gd];rfl
  obtain ⟨ob2,nx2,x2,y2,X2,f1,f2,f3,f4⟩:=yf8 (z:=z) l hl hc m (i+1) (by omega) ob' nx' x' y' [] (by omega) (by rw [td,List.map_append,List.map_append];exact h') N (by omega)
  exact ⟨ob2,nx2,x2,y2,X2,f1,f2,by omega,fun id hid=>(f4 id hid).trans (old id hid)⟩
theorem ylh {ob ob':Nat→Option AObj} {id sz ver:Nat} {es:List (List AV)} (h:ob' id=some (.row sz es ver)):shut ob ob' id=some (.row sz es ver):=by
 unfold shut
 rw [h]
theorem yxs (l:List Num) (hl:l.length<2^20):∃N,∀n,N≤n→∀(ob:Nat→Option AObj) (fz:Nat→Nat) (nx:Nat),∃ob' nx' x y,
  evF E n (.fn Id.y3g) [.one (.sl false (l.map Num.c))] ⟨ob,fz,nx⟩=some (.tup [.one x,.one y],⟨ob',fz,nx'⟩)∧PairIs nx ob' nx' x y (l.map fun s=>qC s.q) (l.map fun s=>rC s.q)∧nx≤nx'∧∀id,id<nx→ob' id=ob id:=by
 obtain ⟨N,hN⟩:=ygu cBoth l
 refine ⟨N+l.length+2,fun n hn ob fz nx=> ?_⟩
 obtain ⟨n,rfl⟩:∃k,n=k+1:=⟨n-1,by omega⟩
 obtain ⟨ob',nx',x',y',X',hlo,h2,h3,h4⟩:=yf8 (fz:=fz) (n:=n) (z:=nx) l hl (hN n (by omega)) l.length 0 (by omega) ob nx .nils .nils [] (Nat.le_refl _) ⟨.inl ⟨rfl,rfl⟩,.inl ⟨rfl,rfl⟩,fun _=>rfl,fun _=>rfl⟩ n (by omega)
 refine ⟨shut ob ob',nx',x',y', ?_,⟨?_, ?_,h2.nf,h2.ns⟩,h3,fun id hid=>ypb (h4 id hid)⟩
 ·rw [show ((0:Nat):Int)=0 from rfl] at hlo
  rw [y9y yg8]
  simp only [go_sem,Fn.y3g,hlo]
 ·rcases h2.fst with h | ⟨a,va,q1,q2,q3⟩
  ·exact .inl h
  ·exact .inr ⟨a,va,q1,ylh q2,q3⟩
 ·rcases h2.snd with h | ⟨b,vb,q1,q2,q3⟩
  ·exact .inl h
  ·exact .inr ⟨b,vb,q1,ylh q2,q3⟩
def rawZ:List AV:=[.bool false,.nils,.nils]
theorem yy6 {k:Nat} {es:List (List AV)} {e:List AV} (h:okSz k es=true) (he:e.length=k):okSz k (es++[e])=true:=by
 cases es with
 | nil=>simp [okSz,he]
 | cons a r=>exact h
theorem yhq {f:FuncId} {xs ys:List SV} {r:SV} {n:Nat} {ob:Nat→Option AObj} {fz fz':Nat→Nat} (h:evV E n f ys=some r) (hx:mapFz (frzS ob) fz xs=some (fz',ys)):callV (evF E n) f xs ob fz=some (.fzd fz' r):=by
 rw [y68,hx]
 simp only [h,Option.map_some]
section
variable {n:Nat} {ob:Nat→Option AObj} {fz:Nat→Nat} {nx:Nat} {L:List (Nat×SV)} {x y:AV} {kind:Nat} {at_:Int}
end
end Go.Ev
namespace Go.Ev
open Go.Dig
theorem ynl (ob:Nat→Option AObj) (k:Nat):∀j fz,mapFz (mapFz (Ev.frz ob (k+1))) fz (List.replicate j rawZ)=some (fz,(List.replicate j (0:Rat)).map qC)
 | 0,fz=>rfl
 | j+1,fz=>by
  rw [List.replicate_succ,List.replicate_succ,List.map_cons]
  refine y7m (fun fz=> ?_) (ynl ob k j) fz
  rw [yct];rfl
theorem ydi (ob:Nat→Option AObj) (k j:Nat):∀(ws:List Rat) fz,mapFz (mapFz (Ev.frz ob (k+1))) fz (ws.map qC++List.replicate j rawZ)=some (fz,(ws++List.replicate j 0).map qC)
 | [],fz=>by rw [List.map_nil,List.nil_append,List.nil_append];exact ynl ob k j fz
 | w::r,fz=>by
  rw [List.map_cons,List.cons_append,List.cons_append,List.map_cons]
  exact y7m (fun fz=>y5s _ fun x hx=>(CanL.q w x hx).frz ob k fz) (ydi ob k j r) fz
theorem PairIs.frzx {z:Nat} {ob:Nat→Option AObj} {nx:Nat} {x y:AV} {es fs es2:List (List AV)} (h:PairIs z ob nx x y es fs) (hm:∀fz,mapFz (mapFz (Ev.frz ob (6+1))) fz es=some (fz,es2)) (fz:Nat→Nat):∃fz',frzS ob fz (.one x)=some (fz',.one (.sl false es2)):=by
 rcases h.fst with ⟨rfl,rfl⟩ | ⟨id,ver,rfl,hid,-⟩
 ·have:=hm fz
  simp only [mapFz,Option.some.injEq,Prod.mk.injEq] at this
  rw [←this.2]
  exact ⟨fz,rfl⟩
 ·refine ⟨raise fz id (0+es.length), ?_⟩
  have hb:Nat.ble (0+es.length) es.length=true:=by simp
  have h1:Ev.frz ob DEPTH fz (.rsl id ver 3 0 es.length false)=some (raise fz id (0+es.length),.sl false es2):=by
   rw [show DEPTH=6+1+1 from rfl,y9c,y4d hid]
   simp only [hb,cond_true,List.drop_zero,List.take_length]
   rw [hm]
  simp only [frzS,h1]
theorem PairIs.frzy {z:Nat} {ob:Nat→Option AObj} {nx:Nat} {x y:AV} {es fs es2:List (List AV)} (h:PairIs z ob nx x y es fs) (hm:∀fz,mapFz (mapFz (Ev.frz ob (6+1))) fz fs=some (fz,es2)) (fz:Nat→Nat):∃fz',frzS ob fz (.one y)=some (fz',.one (.sl false es2)):=by
 rcases h.snd with ⟨rfl,rfl⟩ | ⟨id,ver,rfl,hid,-⟩
 ·have:=hm fz
  simp only [mapFz,Option.some.injEq,Prod.mk.injEq] at this
  rw [←this.2]
  exact ⟨fz,rfl⟩
 ·refine ⟨raise fz id (0+fs.length), ?_⟩
  have hb:Nat.ble (0+fs.length) fs.length=true:=by simp
  have h1:Ev.frz ob DEPTH fz (.rsl id ver 4 0 fs.length false)=some (raise fz id (0+fs.length),.sl false es2):=by
   rw [show DEPTH=6+1+1 from rfl,y9c,y4d hid]
   simp only [hb,cond_true,List.drop_zero,List.take_length]
   rw [hm]
  simp only [frzS,h1]
theorem ykp {ob:Nat→Option AObj} {fz:Nat→Nat}:∀{l:List SV},(∀v∈l,CanS v)→mapFz (frzS ob) fz l=some (fz,l)
 | [],_=>rfl
 | v::r,h=>by
  have h1:=(h v (by simp)).frz ob fz
  have h2:=ykp (ob:=ob) (fz:=fz) (l:=r) fun w hw=>h w (by simp [hw])
  simp only [mapFz,h1,h2]
theorem yc3 {ob:Nat→Option AObj} {fz fz':Nat→Nat} {x x':SV} {suf:List SV} (hs:∀v∈suf,CanS v) (hx:frzS ob fz x=some (fz',x')):∀{pre:List SV},(∀v∈pre,CanS v)→mapFz (frzS ob) fz (pre++x::suf)=some (fz',pre++x'::suf)
 | [],_=>by
  rw [List.nil_append,List.nil_append]
  simp only [mapFz,hx,ykp (ob:=ob) (fz:=fz') hs]
 | v::r,h=>by
  have h1:=(h v (by simp)).frz ob fz
  have h2:=yc3 (ob:=ob) hs hx (pre:=r) fun w hw=>h w (by simp [hw])
  rw [List.cons_append,List.cons_append]
  simp only [mapFz,h1,h2]
end Go.Ev
namespace Go.Ev
open Go.Dig
theorem yog (d n:Nat):sameA (d+2) (zD n) (zD n)=true:=by
 unfold zD
 rw [sameA,Bool.and_eq_true]
 refine ⟨rfl,y81 _ fun e he=>y81 _ fun x hx=> ?_⟩
 unfold intE at he
 obtain ⟨z,-,rfl⟩:=List.mem_map.1 he
 simp only [List.mem_singleton] at hx
 subst hx
 exact yl5 _ _ _
theorem yzp (q:Rat):same2 (sameA DEPTH) (rC q) (rC q)=true:=by
 refine y81 _ fun x hx=> ?_
 rw [rC_eq] at hx
 simp only [List.mem_cons,List.not_mem_nil,or_false] at hx
 rcases hx with rfl | rfl | rfl | rfl
 ·exact ydr _ _
 ·exact yog _ _
 ·exact ydr _ _
 ·exact yog _ _
attribute [go_sem] yzp
def briefB (l h m s p v:Rat):Bool:=if m≤0 then true else if s≤0 then true else decide (absQ v≤((200:Nat):Rat)*(s*m))&&(decide (h-l≤((200:Nat):Rat)*(s*m)*s)&&decide (absQ (p-l)≤((200:Nat):Rat)*(s*m)*s))
set_option maxRecDepth 100000 in
theorem ys2 (l h m s p v:Rat) {S:Nat} (h1S:10≤S) (sl:SmQ S l) (sh:SmQ S h) (sm:SmQ S m) (ss:SmQ S s) (sp:SmQ S p) (sv:SmQ S v) (hS:S<2^20):
  Ends Id.y14 [.agg (rC l++(rC h++(rC m++rC s))),.agg (rC p),.agg (rC v)] (.one (.bool (briefB l h m s p v))):=by
 have s2:SmQ S ((200:Nat):Rat):=(y7q (S:=9) (n:=200) (by decide)).mono h1S
 obtain ⟨N1,k1⟩:=y6y (RW.self m) sm (by omega)
 obtain ⟨N2,k2⟩:=y6y (RW.self s) ss (by omega)
 obtain ⟨N3,k3⟩:=ya8 200 (by decide) (by decide)
 have e200:Rat.ofInt 200=((200:Nat):Rat):=rfl
 rw [e200] at k3
 unfold briefB
 generalize ((200:Nat):Rat)=c2 at*
 obtain ⟨N4,k4⟩:=y5t (RW.self s) (RW.self m) ss sm (by omega)
 obtain ⟨N5,k5⟩:=y5t (RW.self c2) (RW.self (s*m)) s2 (ss.mul sm) (by omega)
 have sb:=s2.mul (ss.mul sm)
 obtain ⟨N6,k6⟩:=y5t (RW.self (c2*(s*m))) (RW.self s) sb ss (by omega)
 have sf:=sb.mul ss
 obtain ⟨N7,k7⟩:=ykq v (RW.self v) sv (by omega)
 obtain ⟨N8,k8⟩:=y6f (RW.self (absQ v)) (RW.self (c2*(s*m))) sv.absQ sb (by omega)
 obtain ⟨N9,k9⟩:=y8m (RW.self h) (RW.self l) sh sl (by omega)
 obtain ⟨N10,k10⟩:=y6f (RW.self (h-l)) (RW.self (c2*(s*m)*s)) (sh.sub sl) sf (by omega)
 obtain ⟨N11,k11⟩:=y8m (RW.self p) (RW.self l) sp sl (by omega)
 obtain ⟨N12,k12⟩:=ykq (p-l) (RW.self (p-l)) (sp.sub sl) (by omega)
 obtain ⟨N13,k13⟩:=y6f (RW.self (absQ (p-l))) (RW.self (c2*(s*m)*s)) (sp.sub sl).absQ sf (by omega)
 refine .of (N1+N2+N3+N4+N5+N6+N7+N8+N9+N10+N11+N12+N13) fun {n} hn=> ?_
 have k1:=k1 n (by omega)
 have k2:=k2 n (by omega)
 have k3:=k3 n (by omega)
 have k4:=k4 n (by omega)
 have k5:=k5 n (by omega)
 have k6:=k6 n (by omega)
 have k7:=k7 n (by omega)
 have k8:=k8 n (by omega)
 have k9:=k9 n (by omega)
 have k10:=k10 n (by omega)
 have k11:=k11 n (by omega)
 have k12:=k12 n (by omega)
 have k13:=k13 n (by omega)
 rw [y03 yex]
 have g1:=yp9 m
 have g2:=yp9 s
 have g3:=y72 (absQ v) (c2*(s*m))
 have g4:=y72 (h-l) (c2*(s*m)*s)
 have g5:=y72 (absQ (p-l)) (c2*(s*m)*s)
 by_cases c1:m≤0
 ·have f1:(signI m.num≤0)=True:=by rw [g1,eq_iff_iff,iff_true];exact c1
  rw [if_pos c1]
  simp only [go_sem,Fn.y14,k1,f1]
 have f1:(signI m.num≤0)=False:=by rw [g1,eq_iff_iff,iff_false];exact c1
 rw [if_neg c1]
 by_cases c2':s≤0
 ·have f2:(signI s.num≤0)=True:=by rw [g2,eq_iff_iff,iff_true];exact c2'
  rw [if_pos c2']
  simp only [go_sem,Fn.y14,k1,k2,f1,f2]
 have f2:(signI s.num≤0)=False:=by rw [g2,eq_iff_iff,iff_false];exact c2'
 rw [if_neg c2']
 by_cases c3:absQ v≤c2*(s*m)
 ·have f3:(cmpQ (absQ v) (c2*(s*m))≤0)=True:=by rw [g3,eq_iff_iff,iff_true];exact c3
  rw [decide_eq_true c3,Bool.true_and]
  by_cases c4:h-l≤c2*(s*m)*s
  ·have f4:(cmpQ (h-l) (c2*(s*m)*s)≤0)=True:=by rw [g4,eq_iff_iff,iff_true];exact c4
   rw [decide_eq_true c4,Bool.true_and]
   by_cases c5:absQ (p-l)≤c2*(s*m)*s
   ·have f5:(cmpQ (absQ (p-l)) (c2*(s*m)*s)≤0)=True:=by rw [g5,eq_iff_iff,iff_true];exact c5
    rw [decide_eq_true c5]
    simp only [go_sem,Fn.y14,k1,k2,k3,k4,k5,k6,k7,k8,k9,k10,k11,k12,k13,f1,f2,f3,f4,f5]
   ·have f5:(cmpQ (absQ (p-l)) (c2*(s*m)*s)≤0)=False:=by rw [g5,eq_iff_iff,iff_false];exact c5
    rw [decide_eq_false c5]
    simp only [go_sem,Fn.y14,k1,k2,k3,k4,k5,k6,k7,k8,k9,k10,k11,k12,k13,f1,f2,f3,f4,f5]
  ·have f4:(cmpQ (h-l) (c2*(s*m)*s)≤0)=False:=by rw [g4,eq_iff_iff,iff_false];exact c4
   rw [decide_eq_false c4,Bool.false_and]
   simp only [go_sem,Fn.y14,k1,k2,k3,k4,k5,k6,k7,k8,k9,k10,f1,f2,f3,f4]
 ·have f3:(cmpQ (absQ v) (c2*(s*m))≤0)=False:=by rw [g3,eq_iff_iff,iff_false];exact c3
  rw [decide_eq_false c3,Bool.false_and]
  simp only [go_sem,Fn.y14,k1,k2,k3,k4,k5,k6,k7,k8,f1,f2,f3]
theorem cBrief (l h m s p v:Rat) {S:Nat} (h1S:10≤S) (sl:SmQ S l) (sh:SmQ S h) (sm:SmQ S m) (ss:SmQ S s) (sp:SmQ S p) (sv:SmQ S v) (hS:S<2^20):
  Calling Id.y14 [.agg (rC l++(rC h++(rC m++rC s))),.agg (rC p),.agg (rC v)] (.one (.bool (briefB l h m s p v))):=
 (ys2 l h m s p v h1S sl sh sm ss sp sv hS).call fun x hx=>by
  simp only [List.mem_cons,List.not_mem_nil,or_false] at hx
  rcases hx with rfl | rfl | rfl
  ·exact y7x l h m s
  ·exact y7l _
  ·exact y7l _
abbrev rnC:ACode:=Fn.y04.code
structure RnB (ob:Nat→Option AObj) (j:Jt) (at_ lng:Int):Prop where
 o0:ob 0=some (.box j.c)
 o1:ob 1=some (.box [.int .i64 at_,.int .i64 lng])
 o12:ob 12=some (.box (qC j.low.q++(qC j.high.q++(qC j.most.q++qC j.step.q))))
 o13:ob 13=some (.box (qC j.place.q))
 o14:ob 14=some (.box (qC j.speed.q))
 o15:ob 15=some (.box (rC j.low.q++(rC j.high.q++(rC j.most.q++rC j.step.q))))
 o16:ob 16=some (.box (rC j.place.q))
 o17:ob 17=some (.box (rC j.speed.q))
theorem RnB.old {ob ob':Nat→Option AObj} {j:Jt} {at_ lng:Int} (B:RnB ob j at_ lng) (e:∀id,id<24→ob' id=ob id):RnB ob' j at_ lng:=by
 obtain ⟨o0,o1,o12,o13,o14,o15,o16,o17⟩:=B
 exact ⟨by rw [e _ (by decide)];exact o0,by rw [e _ (by decide)];exact o1,by rw [e _ (by decide)];exact o12,by rw [e _ (by decide)];exact o13,by rw [e _ (by decide)];exact o14,by rw [e _ (by decide)];exact o15,by rw [e _ (by decide)];exact o16,by rw [e _ (by decide)];exact o17⟩
structure RnE (L:List (Nat×SV)) (x y:AV) (p q:Nat):Prop where
 e4:env L 4=.one (.box 0 0)
 e6:env L 6=.one (.box 1 0)
 e9:env L 9=.one (.box 12 0)
 e10:env L 10=.one (.box 13 0)
 e11:env L 11=.one (.box 14 0)
 e12:env L 12=.one (.box 15 0)
 e13:env L 13=.one (.box 16 0)
 e14:env L 14=.one (.box 17 0)
 e15:env L 15=.one x
 e16:env L 16=.one y
 e17:env L 17=.one (.box p 0)
 e18:env L 18=.one (.box q 0)
theorem yji {n:Nat} {fz:Nat→Nat} (y:AV) (fs:List (List AV)) (p q:Nat) (mq:Nat) (hmq:mq<2^20) (K:Nat→Prop):∀(j:Nat) (ob:Nat→Option AObj) (nx:Nat) (L:List (Nat×SV)) (x:AV) (es:List (List AV)),24≤nx→RnE L x y p q→env L 3=.one (.int .i64 (mq:Int))→PairIs 24 ob nx x y es fs→okSz 3 es=true→es.length+j=mq→
  (∀id,K id→id<nx∧∀a va k,x=.rsl a va 3 0 k false→id≠a)→∀M,j<M→
  ∃L' ob' nx' x',loopN (evC (evF E n) n Fn.y1r) M ⟨env L,ob,fz,nx⟩=some (.ext 0,⟨env L',ob',fz,nx'⟩)∧nx≤nx'∧RnE L' x' y p q∧PairIs 24 ob' nx' x' y (es++List.replicate j rawZ) fs∧∀id,K id→ob' id=ob id
 | 0,ob,nx,L,x,es,hnx,hL,l3,hx,ok3,hj,hK,M,hM=>by
  obtain ⟨M,rfl⟩:∃q,M=q+1:=⟨M-1,by omega⟩
  have hx':=hx
  obtain ⟨e4,e6,e9,e10,e11,e12,e13,e14,e15,e16,e17,e18⟩:=hL
  have lt:(((es.length:Nat):Int)<((mq:Nat):Int))=False:=by simp only [eq_iff_iff,iff_false];omega
  rw [List.replicate_zero,List.append_nil]
  obtain ⟨hf,hs,nf,ns⟩:=hx
  obtain ⟨r,hr0⟩:∃r,evC (evF E n) n Fn.y1r ⟨env L,ob,fz,nx⟩=r:=⟨_,rfl⟩
  have hr:=hr0
  rcases hf with ⟨rfl,rfl⟩ | ⟨id,ver,rfl,h1,h2,h3,h4⟩
  ·rw [List.length_nil] at lt
   simp only [go_sem,Fn.y1r,e4,e6,e9,e10,e11,e12,e13,e14,e15,e16,e17,e18,l3,lt] at hr
   exact ⟨_,ob,nx,_,y06 (hr0.trans hr.symm),Nat.le_refl _,⟨rfl,rfl,rfl,rfl,rfl,rfl,rfl,rfl,rfl,rfl,rfl,rfl⟩,hx',fun id hid=>rfl⟩
  ·simp only [go_sem,Fn.y1r,e4,e6,e9,e10,e11,e12,e13,e14,e15,e16,e17,e18,l3,lt] at hr
   exact ⟨_,ob,nx,_,y06 (hr0.trans hr.symm),Nat.le_refl _,⟨rfl,rfl,rfl,rfl,rfl,rfl,rfl,rfl,rfl,rfl,rfl,rfl⟩,hx',fun id hid=>rfl⟩
 | j+1,ob,nx,L,x,es,hnx,hL,l3,hx,ok3,hj,hK,M,hM=>by
  obtain ⟨M,rfl⟩:∃q,M=q+1:=⟨M-1,by omega⟩
  have step:∃L' ob' nx' x',evC (evF E n) n Fn.y1r ⟨env L,ob,fz,nx⟩=some (.nrm,⟨env L',ob',fz,nx'⟩)∧nx≤nx'∧RnE L' x' y p q∧env L' 3=.one (.int .i64 (mq:Int))∧PairIs 24 ob' nx' x' y (es++[rawZ]) fs∧(∀id,K id→ob' id=ob id)∧(∀id,K id→id<nx'∧∀a va k,x'=.rsl a va 3 0 k false→id≠a):=by
   obtain ⟨e4,e6,e9,e10,e11,e12,e13,e14,e15,e16,e17,e18⟩:=hL
   have lt:(((es.length:Nat):Int)<((mq:Nat):Int))=True:=by simp only [eq_iff_iff,iff_true];omega
   have w1:(es.length+1)*56≤140737488355328:=by omega
   have nxa:∀a b:Nat,nx+a+b=nx+(a+b):=fun a b=>Nat.add_assoc nx a b
   have b1:(es.length==es.length)=true:=by simp
   obtain ⟨r,hr0⟩:∃r,evC (evF E n) n Fn.y1r ⟨env L,ob,fz,nx⟩=r:=⟨_,rfl⟩
   have hr:=hr0
   obtain ⟨hf,hs,nf,ns⟩:=hx
   rcases hf with ⟨rfl,rfl⟩ | ⟨id,ver,rfl,h1,h2,h3,h4⟩
   ·rw [List.length_nil] at lt
    simp only [go_sem,Fn.y1r,e4,e6,e9,e10,e11,e12,e13,e14,e15,e16,e17,e18,l3,lt,ok3,nxa,b1,ROOM,okSz] at hr
    refine ⟨_,_,nx+5,_,hr0.trans hr.symm,by omega,⟨rfl,rfl,rfl,rfl,rfl,rfl,rfl,rfl,rfl,rfl,rfl,rfl⟩,rfl,⟨.inr ⟨nx+3,0,rfl,upd_same _ _ _,by omega,by omega,fun b vb k e=> ?_⟩, ?_,fun h=>by simp at h,ns⟩,fun id hid=>by have:=(hK id hid).1;repeat rw [y00 (by omega)],fun id hid=>⟨by have:=(hK id hid).1;omega,fun a va k e=>by have:=(hK id hid).1;injection e with e;omega⟩⟩
    ·rcases hs with ⟨_,e2⟩ | ⟨b2,vb2,e2,_,_,h9⟩
     ·rw [e2] at e;cases e
     ·rw [e2] at e;injection e with e;omega
    ·rcases hs with hs | ⟨b2,vb2,e2,h7,h8,h9⟩
     ·exact .inl hs
     ·exact .inr ⟨b2,vb2,e2,by rw [y00 (by omega),y00 (by omega)];exact h7,h8,by omega⟩
   ·have r3:rowAt ob id ver=some (3,es):=y4d h1
    have r3':∀c ob y ver,rowAt (upd ob (nx+c) y) id ver=rowAt ob id ver:=fun c ob y ver=>y5r (by omega)
    simp only [go_sem,Fn.y1r,e4,e6,e9,e10,e11,e12,e13,e14,e15,e16,e17,e18,l3,lt,ok3,w1,nxa,b1,r3,r3',ROOM,okSz] at hr
    refine ⟨_,_,nx+5,_,hr0.trans hr.symm,by omega,⟨rfl,rfl,rfl,rfl,rfl,rfl,rfl,rfl,rfl,rfl,rfl,rfl⟩,rfl,⟨.inr ⟨id,ver+1,by rw [List.length_append];rfl,upd_same _ _ _,h2,by omega,fun b vb k e=> ?_⟩, ?_,fun h=>by simp at h,ns⟩,fun k hid=>by have:=(hK k hid).1;have:=(hK k hid).2 id ver _ rfl;repeat rw [y00 (by omega)],fun k hid=>⟨by have:=(hK k hid).1;omega,fun a va z e=>by have:=(hK k hid).2 id ver _ rfl;injection e with e;omega⟩⟩
    ·exact h4 b vb k e
    ·rcases hs with hs | ⟨b2,vb2,e2,h7,h8,h9⟩
     ·exact .inl hs
     ·have:=h4 b2 vb2 _ e2
      exact .inr ⟨b2,vb2,e2,by rw [y00 (Ne.symm this),y00 (by omega)];exact h7,h8,by omega⟩
  obtain ⟨L1,ob1,nx1,x1,s1,n1,E1,l1,X1,old1,K1⟩:=step
  obtain ⟨L2,ob2,nx2,x2,s2,n2,E2,X2,old2⟩:=yji y fs p q mq hmq K j ob1 nx1 L1 x1 (es++[rawZ]) (by omega) E1 l1 X1 (yy6 ok3 rfl) (by rw [List.length_append];show es.length+1+j=mq;omega) K1 M (by omega)
  refine ⟨L2,ob2,nx2,x2,by rw [y07 s1];exact s2,by omega,E2, ?_,fun id hid=>(old2 id hid).trans (old1 id hid)⟩
  rw [List.replicate_succ,List.append_cons];exact X2
end Go.Ev
namespace Go.Ev
theorem y10s (o:Mo):sub o.c 0 3=some (qC o.a):=rfl
theorem y11c (o:Mo):sub o.c 3 3=some (qC o.v):=rfl
theorem y11m (o:Mo):sub o.c 6 3=some (qC o.p):=rfl
theorem Mo.len (o:Mo):o.c.length=9:=rfl
attribute [go_sem ↓] y10s y11c y11m Mo.len
end Go.Ev
namespace Go.Ev
open Go.Dig
section
variable {n:Nat} {ob:Nat→Option AObj} {fz:Nat→Nat} {nx:Nat} {L:List (Nat×SV)} {x y:AV} {j:Jt} {at_ lng:Int} {p q:Nat}
theorem rn34 {ob':Nat→Option AObj} {nx':Nat} {ls:List (List AV)} {mn:Int}
  (e1:env L 1=.one (.sl false ls)) (e3:env L 3=.one (.int .i64 mn)) (e4:env L 4=.one (.box 0 0)) (e6:env L 6=.one (.box 1 0)) (e9:env L 9=.one (.box 12 0)) (e10:env L 10=.one (.box 13 0)) (e11:env L 11=.one (.box 14 0)) (e12:env L 12=.one (.box 15 0)) (e13:env L 13=.one (.box 16 0)) (e14:env L 14=.one (.box 17 0))
  (hl:evF E n (.fn Id.y3g) [.one (.sl false ls)] ⟨ob,fz,nx⟩=some (.tup [.one x,.one y],⟨ob',fz,nx'⟩)):
  ∃L' ob2,(∀T,evC (evF E n) n (.seq (nthC 3 rnC) (.seq (nthC 4 rnC) T)) ⟨env L,ob,fz,nx⟩=evC (evF E n) n T ⟨env L',ob2,fz,nx'+6⟩)∧RnE L' x y (nx'+2) (nx'+3)∧env L' 3=.one (.int .i64 mn)∧ob2 (nx'+2)=some (.box rawZ)∧ob2 (nx'+3)=some (.box [.bool false,.nils,.bool false,.nils])∧∀id,id<nx'→ob2 id=ob' id:=by
 obtain ⟨r,hr0⟩:∃r,(fun T=>evC (evF E n) n (.seq (nthC 3 rnC) (.seq (nthC 4 rnC) T)) ⟨env L,ob,fz,nx⟩)=r:=⟨_,rfl⟩
 have hr:=hr0
 unfold rnC Fn.y04 at hr
 simp only [nthC,go_sem,e1,e3,e4,e6,e9,e10,e11,e12,e13,e14,hl] at hr
 have h2:=fun T=>congrFun (hr0.trans hr.symm) T
 refine ⟨_,_,h2,⟨rfl,rfl,rfl,rfl,rfl,rfl,rfl,rfl,rfl,rfl,rfl,rfl⟩,rfl, ?_, ?_,fun id hid=>by repeat rw [y00 (by omega)]⟩
 ·first | exact upd_same _ _ _ | (rw [y00 (by omega)];exact upd_same _ _ _)
 ·first | exact upd_same _ _ _ | (rw [y00 (by omega)];exact upd_same _ _ _)
theorem rn5 {mn:Int} {ws:List Rat} (hL:RnE L x y p q) (l3:env L 3=.one (.int .i64 mn)) (P:PairIs 24 ob nx x y (ws.map qC) (ws.map rC)) (hp:ob p=some (.box rawZ)) (hq:ob q=some (.box [.bool false,.nils,.bool false,.nils])) (hpn:p<nx) (hqn:q<nx) (hpq:p≠q)
  (hx:∀a va k,x=.rsl a va 3 0 k false→p≠a∧q≠a) (hy:∀a va k,y=.rsl a va 4 0 k false→p≠a∧q≠a):
  ∃L' ob' pc qc,evC (evF E n) n (nthC 5 rnC) ⟨env L,ob,fz,nx⟩=some (.nrm,⟨env L',ob',fz,nx⟩)∧RnE L' x y p q∧env L' 3=.one (.int .i64 mn)∧ob' p=some (.box pc)∧LQ (ws.headD 0) pc∧ob' q=some (.box qc)∧RW (ws.headD 0) qc∧∀id,id≠p→id≠q→ob' id=ob id:=by
 obtain ⟨e4,e6,e9,e10,e11,e12,e13,e14,e15,e16,e17,e18⟩:=hL
 obtain ⟨r,hr0⟩:∃r,evC (evF E n) n (nthC 5 rnC) ⟨env L,ob,fz,nx⟩=r:=⟨_,rfl⟩
 have hr:=hr0
 unfold rnC Fn.y04 at hr
 cases ws with
 | nil=>
  have hxn:=P.nf rfl
  subst hxn
  have f0:(((0:Nat):Int)>0)=False:=by simp
  simp only [nthC,go_sem,e4,e6,e9,e10,e11,e12,e13,e14,e15,e16,e17,e18,l3,f0] at hr
  exact ⟨_,ob,_,_,hr0.trans hr.symm,⟨rfl,rfl,rfl,rfl,rfl,rfl,rfl,rfl,rfl,rfl,rfl,rfl⟩,rfl,hp,.inr ⟨rfl,rfl⟩,hq,.inr ⟨rfl,rfl⟩,fun id _ _=>rfl⟩
 | cons w ws=>
  rcases P.fst with ⟨h,-⟩ | ⟨a,va,rfl,h1,h2,h3,h4⟩
  ·simp at h
  ·rcases P.snd with ⟨h,-⟩ | ⟨b,vb,rfl,h5,h6,h7⟩
   ·simp at h
   ·have ra:rowAt ob a va=some (3,(w::ws).map qC):=y4d h1
    have rb:rowAt ob b vb=some (4,(w::ws).map rC):=y4d h5
    have ga:((w::ws).map qC)[0]? =some (qC w):=rfl
    have gb:((w::ws).map rC)[0]? =some (rC w):=rfl
    have oa:okSz 3 ((w::ws).map qC)=true:=y9r yj4 _
    have obb:okSz 4 ((w::ws).map rC)=true:=yrg _
    have la:(a<nx)=True:=by simp only [eq_iff_iff,iff_true];exact h3
    have lb:(b<nx)=True:=by simp only [eq_iff_iff,iff_true];exact h7
    have n1:=hx a va _ rfl
    have n2:=hy b vb _ rfl
    have rp:∀y ver,rowAt (upd ob p y) b ver=rowAt ob b ver:=fun y ver=>y5r (Ne.symm n2.1)
    have gqp:(q=p)=False:=by simp only [eq_iff_iff,iff_false];exact Ne.symm hpq
    have gpq:(p=q)=False:=by simp only [eq_iff_iff,iff_false];exact hpq
    have lla:((w::ws).map qC).length=(w::ws).length:=List.length_map _
    have llb:((w::ws).map rC).length=(w::ws).length:=List.length_map _
    have bl:Nat.ble (0+(w::ws).length) (w::ws).length=true:=by simp
    have f0:((((w::ws).length:Nat):Int)>0)=True:=by simp only [eq_iff_iff,iff_true,List.length_cons];omega
    have l0:(0<(w::ws).length)=True:=by simp
    have n0:Ev.natOf 0=some 0:=rfl
    have zp:put rawZ 0 (qC w)=some (qC w):=y73 rfl
    have ep:∀c,upd (upd ob p c) q (.box (rC w)) p=some c:=fun c=>by rw [y00 hpq];exact upd_same _ _ _
    have hd:(w::ws).headD 0=w:=rfl
    rw [hd]
    clear hd
    generalize w::ws=W at*
    simp only [nthC,go_sem,e4,e6,e9,e10,e11,e12,e13,e14,e15,e16,e17,e18,l3,f0,lla,llb,bl,l0,ra,rb,rp,ga,gb,oa,obb,la,lb,hp,hq,gqp,gpq,n0,↓zp] at hr
    refine ⟨_,_,_,_,hr0.trans hr.symm,⟨rfl,rfl,rfl,rfl,rfl,rfl,rfl,rfl,by rw [lla];rfl,by rw [llb];rfl,rfl,rfl⟩,rfl, ?_,.of w,upd_same _ _ _,.self w,fun id h1 h2=>by repeat rw [y00 (by assumption)]⟩
    rw [y00 hpq];exact upd_same _ _ _
theorem rn6 (hn:300≤n) (hL:RnE L x y p q) {mn:Int} (l3:env L 3=.one (.int .i64 mn)) {es fs:List (List AV)} (P:PairIs 24 ob nx x y es fs) (hnx:24≤nx) (ok3:okSz 3 es=true) (hes:es.length≤12) (hpn:p<nx) (hqn:q<nx) (hx:∀a va k,x=.rsl a va 3 0 k false→p≠a∧q≠a∧24≤a):
  ∃L' ob' nx' x',evC (evF E n) n (nthC 6 rnC) ⟨env L,ob,fz,nx⟩=some (.nrm,⟨env L',ob',fz,nx'⟩)∧nx≤nx'∧RnE L' x' y p q∧PairIs 24 ob' nx' x' y (if mn>256 then es++List.replicate (257+(mn%10).toNat-es.length) rawZ else es) fs∧∀id,(id<24∨id=p∨id=q)→ob' id=ob id:=by
 by_cases c:mn>256
 ·rw [if_pos c]
  have f1:(mn>256)=True:=by simp only [eq_iff_iff,iff_true];exact c
  have hb:0≤mn%10∧mn%10<10:=⟨Int.emod_nonneg _ (by decide),Int.emod_lt_of_pos _ (by decide)⟩
  have t:mn.tmod 10=mn%10:=Int.tmod_eq_emod_of_nonneg (by omega)
  have w:IntKind.i64.wrap (257+mn%10)=((257+(mn%10).toNat:Nat):Int):=by rw [wrap_i64 (by omega)];omega
  have h10:((10:Int)=0)=False:=by simp
  have key:∀L2,RnE L2 x y p q→env L2 3=.one (.int .i64 ((257+(mn%10).toNat:Nat):Int))→∃L' ob' nx' x',blkC 0 (loopN (evC (evF E n) n Fn.y1r) n ⟨env L2,ob,fz,nx⟩)=some (.nrm,⟨env L',ob',fz,nx'⟩)∧nx≤nx'∧RnE L' x' y p q∧PairIs 24 ob' nx' x' y (es++List.replicate (257+(mn%10).toNat-es.length) rawZ) fs∧∀id,(id<24∨id=p∨id=q)→ob' id=ob id:=by
   intro L2 E2 l2
   obtain ⟨L',ob',nx',x',s,h1,h2,h3,h4⟩:=yji (n:=n) (fz:=fz) y fs p q (257+(mn%10).toNat) (by omega) (fun id=>id<24∨id=p∨id=q) (257+(mn%10).toNat-es.length) ob nx L2 x es hnx E2 l2 P ok3 (by omega) (fun id hid=>⟨by omega,fun a va k e=>by have:=hx a va k e;omega⟩) n (by omega)
   exact ⟨L',ob',nx',x',by rw [s,y7c,if_pos rfl],h1,h2,h3,h4⟩
  obtain ⟨e4,e6,e9,e10,e11,e12,e13,e14,e15,e16,e17,e18⟩:=hL
  unfold rnC Fn.y04
  simp only [nthC,go_sem,e4,e6,e9,e10,e11,e12,e13,e14,e15,e16,e17,e18,l3,f1,t,w,h10]
  exact key _ ⟨rfl,rfl,rfl,rfl,rfl,rfl,rfl,rfl,rfl,rfl,rfl,rfl⟩ rfl
 ·rw [if_neg c]
  have f1:(mn>256)=False:=by simp only [eq_iff_iff,iff_false];exact c
  obtain ⟨e4,e6,e9,e10,e11,e12,e13,e14,e15,e16,e17,e18⟩:=hL
  unfold rnC Fn.y04
  simp only [nthC,go_sem,e4,e6,e9,e10,e11,e12,e13,e14,e15,e16,e17,e18,l3,f1]
  exact ⟨_,ob,nx,x,rfl,Nat.le_refl _,⟨rfl,rfl,rfl,rfl,rfl,rfl,rfl,rfl,rfl,rfl,rfl,rfl⟩,P,fun id hid=>rfl⟩
structure RnF (L:List (Nat×SV)) (x y:AV) (q:Nat) (is:Bool) (e:Int) (r:Nat) (g:Int) (os:List (List AV)) (h:Int):Prop where
 e4:env L 4=.one (.box 0 0)
 e6:env L 6=.one (.box 1 0)
 e12:env L 12=.one (.box 15 0)
 e13:env L 13=.one (.box 16 0)
 e14:env L 14=.one (.box 17 0)
 e15:env L 15=.one x
 e16:env L 16=.one y
 e18:env L 18=.one (.box q 0)
 e19:env L 19=.one (.bool is)
 e20:env L 20=.one (.int .i64 e)
 e21:env L 21=.one (.box r 0)
 e22:env L 22=.one (.int .i64 g)
 e23:env L 23=.one (.sl false os)
 e24:env L 24=.one (.int .i64 h)
theorem rn789 {fz':Nat→Nat} (hL:RnE L x y p q) (B:RnB ob j at_ lng) (hnx:24≤nx) (hpn:p<nx) {is:Bool} {e g h:Int} {hold w0:Rat} {pc:List AV} {os:List (List AV)} (hp:ob p=some (.box pc)) (hlq:LQ w0 pc)
  (k1:∀ob fz,callV (evF E n) Id.y4a [.agg (qC j.low.q++(qC j.high.q++(qC j.most.q++qC j.step.q))),.agg (qC j.place.q),.agg (qC j.speed.q),.one (.int .i64 j.d)] ob fz=some (.fzd fz (.tup [.one (.bool is),.one (.int .i64 e)])))
  (k2:∀ob fz,callV (evF E n) Id.y2k [.agg (qC j.low.q++(qC j.high.q++(qC j.most.q++qC j.step.q))),.agg (qC j.place.q),.agg (qC j.speed.q),.agg pc,.one (.int .i64 j.d)] ob fz=some (.fzd fz (.tup [.agg (qC hold),.one (.int .i64 g)])))
  (k3:∀ob2:Nat→Option AObj,(∀id,id<nx→ob2 id=ob id)→callV (evF E n) Id.y0u [.agg (qC j.low.q++(qC j.high.q++(qC j.most.q++qC j.step.q))),.agg (qC j.place.q),.agg (qC j.speed.q),.one x,.one (.int .i64 j.d),.agg [.int .i64 at_,.int .i64 lng]] ob2 fz=some (.fzd fz' (.tup [.one (.sl false os),.one (.int .i64 h)]))):
  ∃L' ob',(∀T,evC (evF E n) n (.seq (nthC 7 rnC) (.seq (nthC 8 rnC) (.seq (nthC 9 rnC) T))) ⟨env L,ob,fz,nx⟩=evC (evF E n) n T ⟨env L',ob',fz',nx+13⟩)∧RnF L' x y q is e (nx+10) g os h∧ob' (nx+10)=some (.box (qC hold))∧∀id,id<nx→ob' id=ob id:=by
 obtain ⟨e4,e6,e9,e10,e11,e12,e13,e14,e15,e16,e17,e18⟩:=hL
 obtain ⟨o0,o1,o12,o13,o14,o15,o16,o17⟩:=B
 have n0:∀c:Nat,c<24→∀k,(c=nx+k)=False:=fun c hc k=>by simp only [eq_iff_iff,iff_false];omega
 have g0:=n0 0 (by decide)
 have g1:=n0 1 (by decide)
 have g12:=n0 12 (by decide)
 have g13:=n0 13 (by decide)
 have g14:=n0 14 (by decide)
 have zput:∀a b c:AV,put [a,b,c] 0 (qC hold)=some (qC hold):=fun _ _ _=>y73 rfl
 have ls:=hlq.sub
 have ll:=hlq.len
 have k3':=k3 (upd ob (nx+10) (.box (qC hold))) fun id hid=>y00 (by omega)
 obtain ⟨r,hr0⟩:∃r,(fun T=>evC (evF E n) n (.seq (nthC 7 rnC) (.seq (nthC 8 rnC) (.seq (nthC 9 rnC) T))) ⟨env L,ob,fz,nx⟩)=r:=⟨_,rfl⟩
 have hr:=hr0
 unfold rnC Fn.y04 at hr
 simp only [nthC,go_sem,e4,e6,e9,e10,e11,e12,e13,e14,e15,e16,e17,e18,o0,o1,o12,o13,o14,hp,↓ls,ll,k1,k2,k3',g0,g1,g12,g13,g14,↓zput] at hr
 have h2:=fun T=>congrFun (hr0.trans hr.symm) T
 exact ⟨_,_,h2,⟨rfl,rfl,rfl,rfl,rfl,rfl,rfl,rfl,rfl,rfl,rfl,rfl,rfl,rfl⟩,upd_same _ _ _,fun id hid=>by repeat rw [y00 (by omega)]⟩
end
end Go.Ev
