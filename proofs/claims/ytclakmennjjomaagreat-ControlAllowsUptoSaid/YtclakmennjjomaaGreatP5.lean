import Derived.Test.YtclakmennjjomaaGreatP4
import Derived.Test.YtclakmennjjomaaGreatP1
import Derived.Test.YtclakmennjjomaaGreatP3
import Derived.Laws.Strings
set_option linter.all false
namespace Go.Ev
def Mt.coolR (m:Mt) (t:Rat):Nat→Rat→Bool
 | 0,h=>true
 | n+1,h=>if m.M<m.next h t then false else m.coolR t n (m.next h t)
theorem Mt.coolR_iff (m:Mt) (t:Rat):∀(n:Nat) (h:Rat),h≤m.M→(m.coolR t n h=true↔m.Cool n h (t*t))
 | 0,h,h1=>⟨fun _=>h1,fun _=>rfl⟩
 | n+1,h,h1=>by
  unfold Mt.coolR
  by_cases c:m.M<m.next h t
  ·rw [if_pos c]
   refine ⟨fun e=>by simp at e,fun e=> ?_⟩
   have:=e.2.now
   rw [←Mt.next_nx] at this
   exact absurd c (Rat.not_lt.2 this)
  ·rw [if_neg c,Mt.coolR_iff m t n _ (Rat.not_lt.1 c)]
   show _↔(h≤m.M∧m.Cool n (m.nx h (t*t)) (t*t))
   rw [←Mt.next_nx]
   exact ⟨fun e=>⟨h1,e⟩,fun e=>e.2⟩
theorem Mt.cool_sq {m:Mt} (ok:m.Ok) (x:Rat) (x0:0≤x):∀(n:Nat) (h part q:Rat),0≤h→h≤m.M→0≤part→m.Cool n (h+part*x) x→x≤q→x≤m.sq n h part q
 | 0,h,part,q,h0,h1,h2,hc,hq=>hq
 | n+1,h,part,q,h0,h1,h2,hc,hq=>by
  unfold Mt.sq
  have hp:=Mt.part_nonneg ok h2
  have hn:=Mt.nx_zero ok h0
  have e:m.next h 0=m.nx h 0:=by rw [Mt.next_nx,Rat.mul_zero]
  rw [e]
  have e2:m.nx (h+part*x) x=m.nx h 0+(part+m.s*m.H-m.s*m.C*part)*x:=by unfold Mt.nx;grind
  have hc2:=hc.2
  rw [e2] at hc2
  refine Mt.cool_sq ok x x0 n _ _ _ hn.1 (Rat.le_trans hn.2 h1) hp hc2 ?_
  have hnow:=hc2.now
  by_cases c:part+m.s*m.H-m.s*m.C*part=0
  ·rw [if_pos c];exact hq
  ·rw [if_neg c]
   generalize part+m.s*m.H-m.s*m.C*part=p at*
   have p0:0<p:=by grind
   have:x≤(m.M-m.nx h 0) / p:=by
    refine Rat.not_lt.1 fun hlt=> ?_
    have h5:=Rat.mul_lt_mul_of_pos_right hlt p0
    rw [Rat.div_mul_cancel c] at h5
    grind
   rw [y97];grind
theorem yhv {a:Rat} (h0:0≤a):(a.num.natAbs:Rat)=a*((a.den:Nat):Rat):=by
 have hn:0≤a.num:=Rat.num_nonneg.2 h0
 rw [y7y a]
 have:((a.num.natAbs:Nat):Int)=a.num:=by omega
 rw [←this];rfl
theorem y13r {q:Rat} (h0:0≤q) (z:Nat):z≤q.num.natAbs / q.den↔((z:Nat):Rat)≤q:=by
 have hd:(0:Rat)<((q.den:Nat):Rat):=Rat.natCast_pos.2 q.den_pos
 rw [Nat.le_div_iff_mul_le q.den_pos,←Rat.natCast_le_natCast,Rat.natCast_mul,yhv h0]
 constructor
 ·intro h
  refine Rat.not_lt.1 fun hlt=> ?_
  have:=Rat.mul_lt_mul_of_pos_right hlt hd
  grind
 ·intro h
  exact Rat.mul_le_mul_of_nonneg_right h (Rat.le_of_lt hd)
theorem ykb {a:Rat} (h0:0≤a) (k z:Nat):z≤isqrt (a.num.natAbs*2^(2*k) / a.den)↔((z:Nat):Rat) / ((2^k:Nat):Rat)*(((z:Nat):Rat) / ((2^k:Nat):Rat))≤a:=by
 have hp:(0:Rat)<((2^k:Nat):Rat):=Rat.natCast_pos.2 (Nat.pow_pos (by decide))
 have hd:(0:Rat)<((a.den:Nat):Rat):=Rat.natCast_pos.2 a.den_pos
 have e1:z≤isqrt (a.num.natAbs*2^(2*k) / a.den)↔z*z*a.den≤a.num.natAbs*(2^k*2^k):=by
  rw [←Nat.pow_add,show k+k=2*k by omega,←Nat.le_div_iff_mul_le a.den_pos]
  exact ⟨fun h=>Nat.le_trans (Nat.mul_le_mul h h) (yaw _),ygx⟩
 rw [e1,←Rat.natCast_le_natCast]
 simp only [Rat.natCast_mul]
 rw [yhv h0]
 generalize ((2^k:Nat):Rat)=p at*
 have e2:(z:Rat) / p*p=z:=Rat.div_mul_cancel (by grind)
 generalize (z:Rat) / p=y at*
 rw [←e2]
 generalize ((a.den:Nat):Rat)=b at*
 have hpb:0<p*p*b:=Rat.mul_pos (Rat.mul_pos hp hp) hd
 constructor
 ·intro h
  refine Rat.not_lt.1 fun hlt=> ?_
  have:=Rat.mul_lt_mul_of_pos_right hlt hpb
  grind
 ·intro h
  have:=Rat.mul_le_mul_of_nonneg_right h (Rat.le_of_lt hpb)
  grind
def Mt.topZ (m:Mt) (d k:Nat) (h:Rat):Nat:=isqrt ((m.sq (d+1) h 0 (m.T*m.T)).num.natAbs*2^(2*k) / (m.sq (d+1) h 0 (m.T*m.T)).den)
theorem Mt.sq_ok {m:Mt} (ok:m.Ok) {d:Nat} {h:Rat} (h0:0≤h) (h1:h≤m.M):0≤m.sq (d+1) h 0 (m.T*m.T):=
 Mt.sq_nonneg ok (d+1) h 0 (m.T*m.T) h0 h1 Rat.le_refl (Rat.mul_nonneg ok.t ok.t)
theorem Mt.top_eq {m:Mt} (ok:m.Ok) {d k:Nat} {h:Rat} (h0:0≤h) (h1:h≤m.M):m.top d k h=((m.topZ d k h:Nat):Rat) / ((2^k:Nat):Rat):=by
 unfold Mt.top rootQ Mt.topZ
 rw [if_neg]
 have:=Rat.num_nonneg.2 (Mt.sq_ok ok (d:=d) h0 h1)
 omega
theorem Mt.topZ_le {m:Mt} (ok:m.Ok) {d k:Nat} {h:Rat} (h0:0≤h) (h1:h≤m.M):((m.topZ d k h:Nat):Rat)≤m.T*((2^k:Nat):Rat):=by
 have hp:(0:Rat)<((2^k:Nat):Rat):=Rat.natCast_pos.2 (Nat.pow_pos (by decide))
 have hs:=Mt.sq_ok ok (d:=d) h0 h1
 have h2:=(ykb hs k (m.topZ d k h)).1 (Nat.le_refl _)
 have h3:=Rat.le_trans h2 (Mt.sq_le m (d+1) h 0 (m.T*m.T))
 have h4:=(yt0 ok.t h3).2
 have h5:=Rat.mul_le_mul_of_nonneg_right h4 (Rat.le_of_lt hp)
 rw [Rat.div_mul_cancel (by grind)] at h5
 exact h5
theorem Mt.cool_topZ {m:Mt} (ok:m.Ok) {d k:Nat} {h:Rat} (h0:0≤h) (h1:h≤m.M) (z:Nat) (hz:((z:Nat):Rat)≤m.T*((2^k:Nat):Rat)):m.coolR (((z:Nat):Rat) / ((2^k:Nat):Rat)) (d+1) h=decide (z≤m.topZ d k h):=by
 have hp:(0:Rat)<((2^k:Nat):Rat):=Rat.natCast_pos.2 (Nat.pow_pos (by decide))
 have hs:=Mt.sq_ok ok (d:=d) h0 h1
 rw [Bool.eq_iff_iff,decide_eq_true_iff,Mt.coolR_iff m _ (d+1) h h1,show m.topZ d k h=isqrt ((m.sq (d+1) h 0 (m.T*m.T)).num.natAbs*2^(2*k) / (m.sq (d+1) h 0 (m.T*m.T)).den) from rfl,ykb hs]
 have hz0:(0:Rat)≤((z:Nat):Rat):=Rat.natCast_nonneg
 have e:((z:Nat):Rat) / ((2^k:Nat):Rat)*((2^k:Nat):Rat)=((z:Nat):Rat):=Rat.div_mul_cancel (by grind)
 have hy0:0≤((z:Nat):Rat) / ((2^k:Nat):Rat):=by
  rw [Rat.div_def];exact Rat.mul_nonneg hz0 (Rat.le_of_lt (Rat.inv_pos.2 hp))
 have hyT:((z:Nat):Rat) / ((2^k:Nat):Rat)≤m.T:=by
  refine Rat.not_lt.1 fun hlt=> ?_
  have:=Rat.mul_lt_mul_of_pos_right hlt hp
  rw [e] at this
  exact absurd this (Rat.not_lt.2 hz)
 generalize ((z:Nat):Rat) / ((2^k:Nat):Rat)=y at*
 have hyy:y*y≤m.T*m.T:=yhl (by grind) hyT
 have hy2:0≤y*y:=Rat.mul_nonneg hy0 hy0
 constructor
 ·intro hc
  refine Mt.cool_sq ok (y*y) hy2 (d+1) h 0 (m.T*m.T) h0 h1 Rat.le_refl ?_ hyy
  rw [Rat.zero_mul,Rat.add_zero];exact hc
 ·intro hc
  have:=Mt.sq_cool ok (y*y) hy2 (d+1) h 0 (m.T*m.T) h0 h1 Rat.le_refl (by rw [Rat.zero_mul];grind) hc
  rw [Rat.zero_mul,Rat.add_zero] at this
  exact this
def rcut (top want:Rat):Rat:=if (if top<want then top else want)< -top then-top else (if top<want then top else want)
theorem yq1 (top want:Rat):rcut top want=maxQ (-top) (minQ top want):=by
 unfold rcut
 rw [y97,yjt]
 grind
def rrd (d kind:Nat) (at_ i:Int) (heat hat:Rat):Rat:=if kind=3∧at_≤i∧i-at_<(d:Int) then hat else heat
def Mt.rtq (m:Mt) (d k kind:Nat) (at_ i:Int) (heat hat tat want:Rat):Rat:=
 if (kind=1∧at_≤i)∨(0<kind∧at_≤i∧(d:Int)≤i-at_) then 0
 else if kind=2∧at_≤i then tat
 else rcut (m.top d k (rrd d kind at_ i heat hat)) want
theorem y12g (m:Mt) (d k kind:Nat) (at_ i:Int) (w:Wt) (want:Rat) (hk:kind≤3):
  m.rtq d k kind at_ i w.heat (if i≤at_ then w.heat else w.read) w.last want=m.tq d k kind at_ i w want:=by
 unfold Mt.rtq Mt.tq Mt.cmd
 by_cases c1:kind≠0∧at_≤i
 ·rw [if_pos c1]
  by_cases c2:kind=1∨¬i-at_<(d:Int)
  ·rw [if_pos c2,if_pos (by omega)]
  ·rw [if_neg c2,if_neg (by omega)]
   by_cases c3:kind=2
   ·rw [if_pos c3,if_pos (by omega)]
   ·rw [if_neg c3,if_neg (by omega),yq1]
    have e:rrd d kind at_ i w.heat (if i≤at_ then w.heat else w.read)=Mt.rd kind at_ i w:=by
     unfold rrd Mt.rd
     rw [if_pos (by omega)]
     by_cases c4:i≤at_
     ·rw [if_pos c4,if_pos (.inr c4)]
     ·rw [if_neg c4,if_neg (by omega)]
    rw [e]
 ·rw [if_neg c1,if_neg (by omega),if_neg (by omega),yq1]
  have e:rrd d kind at_ i w.heat (if i≤at_ then w.heat else w.read)=Mt.rd kind at_ i w:=by
   unfold rrd Mt.rd
   rw [if_neg (by omega)]
   by_cases c4:i≤at_
   ·rw [if_pos (.inr c4)]
   ·rw [if_pos (.inl (by omega))]
  rw [e]
structure RelW (h0:Rat) (d kind:Nat) (at_:Int) (i:Nat) (w:Wt) (os:List Wt):Prop where
 len:os.length=i
 now:(h0::os.map Wt.heat)[i]? =some w.heat
 stuck:kind=2→at_≤(i:Int)→(i:Int)-at_<(d:Int)→(at_=0∧w.last=0)∨(0<at_∧(os.map Wt.last)[(at_-1).toNat]? =some w.last)
 blind:kind=3→at_≤(i:Int)→(h0::os.map Wt.heat)[at_.toNat]? =some (if (i:Int)≤at_ then w.heat else w.read)
theorem RelW.start {h0:Rat} {d kind:Nat} {at_:Int} (ha:0≤at_):RelW h0 d kind at_ 0 ⟨h0,0,h0⟩ []:=by
 refine ⟨rfl,rfl,fun _ h _=>.inl ⟨by omega,rfl⟩,fun _ h=> ?_⟩
 have:at_=0:=by omega
 subst this;rfl
theorem RelW.step {m:Mt} {h0:Rat} {d k kind:Nat} {at_:Int} {i:Nat} {w:Wt} {os:List Wt} (h:RelW h0 d kind at_ i w os) (ha:0≤at_) (hk:kind≤3) (want:Rat):
  RelW h0 d kind at_ (i+1) (m.step d k kind at_ (i:Int) w want) (os++[m.step d k kind at_ (i:Int) w want]):=by
 obtain ⟨hl,hn,hs,hb⟩:=h
 have low:∀(f:Wt→Rat) (j:Nat) (o:Wt),j<i→((os++[o]).map f)[j]? =(os.map f)[j]? :=fun f j o hj=>by
  rw [List.map_append,List.getElem?_append_left (by rw [List.length_map];omega)]
 have top:∀(f:Wt→Rat) (o:Wt),((os++[o]).map f)[i]? =some (f o):=fun f o=>by
  rw [List.map_append,List.getElem?_append_right (by rw [List.length_map];omega),List.length_map,hl,Nat.sub_self];rfl
 refine ⟨by rw [List.length_append,hl];rfl,by rw [List.getElem?_cons_succ,top],fun e1 e2 e3=> ?_,fun e1 e2=> ?_⟩
 ·by_cases c:at_=((i+1:Nat):Int)
  ·refine .inr ⟨by omega, ?_⟩
   have:(at_-1).toNat=i:=by omega
   rw [this,top]
  ·have c2:at_≤(i:Int):=by omega
   have el:(m.step d k kind at_ (i:Int) w want).last=w.last:=by
    show m.tq d k kind at_ (i:Int) w want=_
    unfold Mt.tq
    rw [if_pos ⟨by omega,c2⟩,if_neg (by omega),if_pos e1]
   rw [el]
   rcases hs e1 c2 (by omega) with ⟨q1,q2⟩ | ⟨q1,q2⟩
   ·exact .inl ⟨q1,q2⟩
   ·exact .inr ⟨q1,by rw [low _ _ _ (by omega)];exact q2⟩
 ·have er:(m.step d k kind at_ (i:Int) w want).read=if (i:Int)≤at_ then w.heat else w.read:=by
   show Mt.rd kind at_ (i:Int) w=_
   unfold Mt.rd
   by_cases c:(i:Int)≤at_
   ·rw [if_pos c,if_pos (.inr c)]
   ·rw [if_neg c,if_neg (by omega)]
  by_cases c:at_=((i+1:Nat):Int)
  ·rw [if_pos (by omega)]
   have:at_.toNat=i+1:=by omega
   rw [this,List.getElem?_cons_succ,top]
  ·rw [if_neg (by omega),er,←hb e1 (by omega)]
   obtain ⟨j,hj⟩:∃j,at_.toNat=j:=⟨_,rfl⟩
   rw [hj]
   cases j with
   | zero=>rfl
   | succ j=>rw [List.getElem?_cons_succ,List.getElem?_cons_succ,low _ _ _ (by omega)]
end Go.Ev
namespace Go.Ev
def brakingQ (m s v:Rat):Rat:=maxQ (-m) (minQ m (-v / s))
theorem ylp {m s v:Rat} (hs:0<s) (hm:0<m):v+s*brakingQ m s v=brkQ (s*m) v∧-m≤brakingQ m s v∧brakingQ m s v≤m:=by
 have e:s*(-v / s)=-v:=by rw [Rat.mul_comm,Rat.div_mul_cancel (by grind)]
 have sc:∀a b:Rat,s*a<s*b↔a<b:=fun a b=>Rat.mul_lt_mul_left hs
 unfold brakingQ brkQ
 rw [y97,yjt]
 generalize-v / s=x at*
 have h1:=sc x m
 have h2:=sc (-m) x
 have h3:=sc (-m) m
 have e1:s*-m=-(s*m):=by grind
 refine ⟨?_,by grind,by grind⟩
 by_cases c:x<m
 ·rw [if_pos c]
  by_cases c2:-m<x
  ·rw [if_pos c2,if_neg (by grind),if_pos (by grind)];grind
  ·rw [if_neg c2]
   by_cases c3:v-s*m=0
   ·rw [if_neg (by grind),if_pos (by grind)];grind
   ·have:s*x≤s*-m:=Rat.not_lt.1 (fun h=>c2 ((sc _ _).1 h))
    rw [if_neg (by have:0<s*m:=Rat.mul_pos hs hm;grind),if_neg (by grind)];grind
 ·rw [if_neg c,if_pos (by grind)]
  have:s*m≤s*x:=Rat.not_lt.1 (fun h=>c ((sc _ _).1 h))
  by_cases c3:v=-(s*m)
  ·have:0<s*m:=Rat.mul_pos hs hm
   rw [if_neg (by grind),if_pos (by grind)];grind
  ·rw [if_pos (by grind)]
def accQ (l h m s:Rat) (d at_ lng:Int) (i:Int) (p v w:Rat):Rat:=
 if lng=0∨i-at_<0 then holdQ m s v w (fastQ h m s p d) (fastQ (-l) m s (-p) d) else if i-at_≥lng then brakingQ m s v else 0
structure Mo where
 a:Rat
 v:Rat
 p:Rat
def moQ (l h m s:Rat) (d at_ lng:Int) (i:Int) (p v w:Rat):Mo:=
 ⟨accQ l h m s d at_ lng i p v w,v+s*accQ l h m s d at_ lng i p v w,p+s*(v+s*accQ l h m s d at_ lng i p v w)⟩
end Go.Ev
namespace Go.Ev
theorem InD.cast {D E Z Y:Nat} {q:Rat} (h:InD D Z q) (e:D=E) (k:Z≤Y):InD E Y q:=by subst e;exact h.mono k
def Cand (D Z c:Nat) (u:Rat):Prop:=∃F,0<F∧F<2^c∧InD (D*F) (Z+c) u
theorem Cand.mono {D Z c e:Nat} {u:Rat} (h:Cand D Z c u) (k:c≤e):Cand D Z e u:=by
 obtain ⟨F,f1,f2,f3⟩:=h
 exact ⟨F,f1,Nat.lt_of_lt_of_le f2 (Nat.pow_le_pow_right (by decide) k),f3.mono (by omega)⟩
theorem Cand.neg {D Z c:Nat} {u:Rat} (h:Cand D Z c u):Cand D Z c (-u):=by
 obtain ⟨F,f1,f2,f3⟩:=h
 exact ⟨F,f1,f2,f3.neg⟩
theorem Cand.same {D Z:Nat} {u:Rat} (h:InD D Z u):Cand D Z 1 u:=⟨1,by decide,by decide,by rw [Nat.mul_one];exact h.mono (by omega)⟩
theorem Cand.plus {D Z S:Nat} {v a:Rat} {F:Nat} (hv:InD D Z v) (hF:0<F) (hF2:F<2^S) (ha:InD F S a) (hD:D<2^Z):Cand D Z (S+1) (v+a):=by
 refine ⟨F,hF,Nat.lt_of_lt_of_le hF2 (Nat.pow_le_pow_right (by decide) (by omega)), ?_⟩
 have h1:=hv.more hF2
 have h2:InD (D*F) (Z+S) a:=by
  have:=ha.more' hD
  exact this
 exact (h1.add h2).mono (by omega)
theorem InD.prod {S T:Nat} {a b:Rat} (ha:SmQ S a) (hb:SmQ T b):InD (a.den*b.den) (S+T) (a*b)∧0<a.den*b.den∧a.den*b.den<2^(S+T):=
 ⟨(InD.of ha).mul (InD.of hb),Nat.mul_pos a.den_pos b.den_pos,y16 ha.den hb.den⟩
theorem yl3 {h m s p l:Rat} {d:Int} {D Z S:Nat} (hp:InD D Z p) (hD0:0<D) (hD:D<2^Z) (sh:SmQ S h) (sl:SmQ S l) (sm:SmQ S m) (ss:SmQ S s) (s0:0<s) (m0:0<m) (d0:0≤d) (d1:d≤16) (hlp:l≤p):Cand D Z (16*S+20) (fastQ h m s p d):=by
 have hsn:s.num≠0:=fun e=>by have:=Rat.num_eq_zero.1 e;grind
 have hB:0<s*m:=Rat.mul_pos s0 m0
 have hF:=yxv (h:=h) (p:=p) s0 m0 d0
 have hroom:InD (D*h.den*s.num.natAbs) (Z+S+1+S) ((h-p) / s):=by
  have h1:InD (D*h.den) (Z+S) p:=hp.more sh.den
  have h2:InD (D*h.den) (Z+S) h:=by have:=(InD.of sh).more' hD;exact this
  have h3:=h2.sub h1
  rw [Rat.div_def]
  exact h3.mul (InD.inv ss hsn)
 have hsa:0<s.num.natAbs:=Int.natAbs_pos.2 hsn
 have hmono:∀a b:Nat,a≤b→2^a≤2^b:=fun a b h=>Nat.pow_le_pow_right (by decide) h
 by_cases hr:(h-p) / s<0
 ·rw [hF.neg hr]
  refine ⟨h.den*s.num.natAbs,Nat.mul_pos h.den_pos hsa,Nat.lt_of_lt_of_le (y16 sh.den ss.num) (hmono _ _ (by omega)), ?_⟩
  exact hroom.cast (by rw [Nat.mul_assoc]) (by omega)
 ·obtain ⟨k,k0,k1,k2,k3⟩:=hF.pos (Rat.not_lt.1 hr)
  obtain ⟨n,rfl⟩:∃n:Nat,k=(n:Int):=⟨k.toNat,by omega⟩
  have hks:n<2^(5*S+2):=by
   have q1:SmQ (S+S+1+S+(S+S)) ((h-l) / s / (s*m)):=((sh.sub sl).div hsn ss).div (fun e=>by have:=Rat.num_eq_zero.1 e;grind) (ss.mul sm)
   have q2:=(yuo q1).num
   have q3:(Rat.ofInt (floorQ ((h-l) / s / (s*m)))).num=floorQ ((h-l) / s / (s*m)):=rfl
   rw [q3] at q2
   have q4:((n:Int):Rat)≤(h-l) / s / (s*m):=by
    have e1:(h-p) / s≤(h-l) / s:=by
     rw [Rat.div_def,Rat.div_def]
     exact Rat.mul_le_mul_of_nonneg_right (by grind) (Rat.le_of_lt (Rat.inv_pos.2 s0))
    have e2:((n:Int):Rat)*(s*m)≤(h-p) / s:=by
     unfold wayQ triQ at k1
     rw [ymi,ymi,show ((1:Int):Rat)=1 from rfl] at k1
     have hD':(0:Rat)≤(d:Rat):=Rat.intCast_nonneg.2 d0
     have hn:(0:Rat)≤((n:Int):Rat):=Rat.intCast_nonneg.2 k0
     have p1:0≤(s*m)*(((n:Int):Rat)*(d:Rat)):=Rat.mul_nonneg (by grind) (Rat.mul_nonneg hn hD')
     have p2:0≤(s*m)*(((n:Int):Rat)*(((n:Int):Rat)-1)):=by
      rcases Nat.eq_zero_or_pos n with e | e
      ·subst e
       rw [show (((0:Nat):Int):Rat)=0 from rfl];grind
      ·have:(1:Rat)≤((n:Int):Rat):=by
        have:((1:Int):Rat)≤((n:Int):Rat):=Rat.intCast_le_intCast.2 (by omega)
        exact this
       exact Rat.mul_nonneg (by grind) (Rat.mul_nonneg hn (by grind))
     generalize ((n:Int):Rat)=x at*
     generalize s*m=B at*
     generalize (d:Rat)=y at*
     grind
    have e3:(h-l) / s / (s*m)*(s*m)=(h-l) / s:=Rat.div_mul_cancel (by grind)
    rw [←ynd hB,e3]
    exact Rat.le_trans e2 e1
   have q5:(n:Int)≤floorQ ((h-l) / s / (s*m)):=by rw [yb7,Rat.le_floor_iff];exact q4
   have q6:2^(S+S+1+S+(S+S)+1)=2^(5*S+2):=by congr 1;omega
   omega
  obtain ⟨e,he⟩:∃e:Nat,(1+d+(n:Int))=(e:Int):=⟨(1+d+(n:Int)).toNat,by omega⟩
  have he0:0<e:=by omega
  have hes:e<2^(5*S+8):=by
   have h2:2^(5*S+8)=64*2^(5*S+2):=by rw [show 5*S+8=5*S+2+6 by omega,Nat.pow_add,Nat.mul_comm]
   have h3:1≤2^(5*S+2):=Nat.one_le_two_pow
   omega
  have het:(1:Rat)+Rat.ofInt d+((n:Int):Rat)=((e:Nat):Rat):=by
   have:((1+d+(n:Int):Int):Rat)=((e:Int):Rat):=by rw [he]
   rw [Rat.intCast_add,Rat.intCast_add] at this
   exact this
  have hne:((e:Nat):Rat)≠0:=fun hz=>by have:=Rat.natCast_pos.2 he0;grind
  rw [het] at k3
  have ef:fastQ h m s p d=((h-p) / s+s*m*triQ ((n:Int):Rat))*((e:Nat):Rat)⁻¹:=by
   rw [←k3,Rat.mul_assoc,Rat.mul_inv_cancel _ hne,Rat.mul_one]
  rw [ef]
  have htri:InD 1 (10*S+5) (triQ ((n:Int):Rat)):=by
   obtain ⟨t,ht⟩:∃t:Nat,n*(n+1)=2*t:=by
    rcases Nat.mod_two_eq_zero_or_one n with h | h
    ·exact ⟨n / 2*(n+1),by rw [←Nat.mul_assoc];congr 1;omega⟩
    ·exact ⟨n*((n+1) / 2),by rw [Nat.mul_left_comm];congr 1;omega⟩
   have e1:triQ ((n:Int):Rat)=((t:Int):Rat):=by
    have h3:((n*(n+1):Nat):Rat)=((2*t:Nat):Rat):=by rw [ht]
    rw [Rat.natCast_mul,Rat.natCast_mul,Rat.natCast_add] at h3
    have a1:((1:Nat):Rat)=1:=rfl
    have a2:((2:Nat):Rat)=2:=rfl
    rw [a1,a2] at h3
    have h2:2*triQ ((n:Nat):Rat)=((n:Nat):Rat)*(((n:Nat):Rat)+1):=yqi ((n:Int):Rat)
    show triQ ((n:Nat):Rat)=((t:Nat):Rat)
    rw [h3] at h2
    grind
   rw [e1]
   refine InD.int ?_
   have h5:n*(n+1)<2^(5*S+2)*2^(5*S+3):=Nat.mul_lt_mul'' hks (by rw [Nat.pow_succ 2 (5*S+2)];omega)
   rw [←Nat.pow_add,show 5*S+2+(5*S+3)=10*S+5 by omega] at h5
   omega
  have hbr:InD (s.den*m.den) (S+S+(10*S+5)) (s*m*triQ ((n:Int):Rat)):=by
   have:=((InD.of ss).mul (InD.of sm)).mul htri
   rw [Nat.mul_one] at this
   exact this
  obtain ⟨F,hFe⟩:∃F,F=h.den*s.num.natAbs*(s.den*m.den):=⟨_,rfl⟩
  have hF0:0<F:=by rw [hFe];exact Nat.mul_pos (Nat.mul_pos h.den_pos hsa) (Nat.mul_pos s.den_pos m.den_pos)
  have hF2:F<2^(S+S+(S+S)):=by rw [hFe];exact y16 (y16 sh.den ss.num) (y16 ss.den sm.den)
  have a1:InD (D*F) (Z+14*S+5) ((h-p) / s):=(hroom.more (y16 ss.den sm.den)).cast (by rw [hFe];simp only [Nat.mul_assoc]) (by omega)
  have a2:InD (D*F) (Z+14*S+5) (s*m*triQ ((n:Int):Rat)):=by
   have x1:D*(h.den*s.num.natAbs)<2^(Z+(S+S)):=y16 hD (y16 sh.den ss.num)
   exact (hbr.more' x1).cast (by rw [hFe];simp only [Nat.mul_assoc]) (by omega)
  have a3:=a1.add a2
  have a4:InD e 1 ((e:Nat):Rat)⁻¹:=⟨1,by show ((e:Nat):Rat)⁻¹*((e:Nat):Rat)=1;rw [Rat.mul_comm];exact Rat.mul_inv_cancel _ hne,by decide⟩
  refine ⟨F*e,Nat.mul_pos hF0 he0,Nat.lt_of_lt_of_le (y16 hF2 hes) (hmono _ _ (by omega)),(a3.mul a4).cast (by rw [Nat.mul_assoc]) (by omega)⟩
theorem ycy {C:Rat→Prop} {a b:Rat} (ha:C a) (hb:C b):C (minQ a b):=by unfold minQ;split<;>assumption
theorem ycw {C:Rat→Prop} {a b:Rat} (ha:C a) (hb:C b):C (maxQ a b):=by unfold maxQ;split<;>assumption
def PvS (Z:Nat) (p v:Rat):Prop:=∃D,0<D∧D<2^Z∧InD D Z p∧InD D Z v
theorem PvS.sm {Z:Nat} {p v:Rat} (h:PvS Z p v):SmQ Z p∧SmQ Z v:=by
 obtain ⟨D,d0,d1,hp,hv⟩:=h
 exact ⟨hp.sm d0 d1 (Nat.le_refl _),hv.sm d0 d1 (Nat.le_refl _)⟩
theorem PvS.start {p v:Rat} {S:Nat} (hp:SmQ S p) (hv:SmQ S v):PvS (S+S) p v:=by
 refine ⟨p.den*v.den,Nat.mul_pos p.den_pos v.den_pos,y16 hp.den hv.den,(InD.of hp).more hv.den, ?_⟩
 exact (InD.of hv).more' hp.den
theorem PvS.step {l h m s p v w:Rat} {d at_ lng i:Int} {Z S:Nat} (h1S:1≤S) (hs:PvS Z p v) (sl:SmQ S l) (sh:SmQ S h) (sm:SmQ S m) (ss:SmQ S s) (sw:SmQ S w) (s0:0<s) (m0:0<m) (d0:0≤d) (d1:d≤16) (hlp:l≤p) (hph:p≤h):
  PvS (Z+(17*S+22)) (moQ l h m s d at_ lng i p v w).p (moQ l h m s d at_ lng i p v w).v:=by
 obtain ⟨D,D0,D1,hp,hv⟩:=hs
 obtain ⟨b1,b2,b3⟩:=InD.prod ss sm
 obtain ⟨w1,w2,w3⟩:=InD.prod ss sw
 have cv:Cand D Z (16*S+20) v:=(Cand.same hv).mono (by omega)
 have cp:Cand D Z (16*S+20) (v+s*m):=(Cand.plus hv b2 b3 b1 D1).mono (by omega)
 have cm:Cand D Z (16*S+20) (v-s*m):=by
  have:=(Cand.plus hv b2 b3 b1.neg D1).mono (show S+S+1≤16*S+20 by omega)
  rwa [←Rat.sub_eq_add_neg] at this
 have cw:Cand D Z (16*S+20) (v+s*w):=(Cand.plus hv w2 w3 w1 D1).mono (by omega)
 have cf:Cand D Z (16*S+20) (fastQ h m s p d):=yl3 hp D0 D1 sh sl sm ss s0 m0 d0 d1 hlp
 have cg:Cand D Z (16*S+20) (fastQ (-l) m s (-p) d):=yl3 (l:=-h) hp.neg D0 D1 sl.neg sh.neg sm ss s0 m0 d0 d1 (by grind)
 have c0:Cand D Z (16*S+20) 0:=⟨1,by decide,Nat.one_lt_two_pow (by omega),0,by rw [Rat.zero_mul];rfl,by rw [show (0:Int).natAbs=0 from rfl];exact Nat.pow_pos (by decide)⟩
 have hu:Cand D Z (16*S+20) (v+s*accQ l h m s d at_ lng i p v w):=by
  unfold accQ
  split
  ·rw [yrv s0]
   exact ycw (ycw cg.neg cm) (ycy (ycy cf cp) cw)
  ·split
   ·rw [(ylp s0 m0).1]
    unfold brkQ
    split
    ·exact cp
    ·split
     ·exact c0
     ·exact cm
   ·rw [Rat.mul_zero,Rat.add_zero];exact cv
 show PvS (Z+(17*S+22)) (p+s*(v+s*accQ l h m s d at_ lng i p v w)) (v+s*accQ l h m s d at_ lng i p v w)
 generalize v+s*accQ l h m s d at_ lng i p v w=u at hu ⊢
 obtain ⟨F,f1,f2,f3⟩:=hu
 have hsd:=ss.den
 have k1:F*s.den<2^(16*S+20+S):=y16 f2 hsd
 refine ⟨D*(F*s.den),Nat.mul_pos D0 (Nat.mul_pos f1 s.den_pos),Nat.lt_of_lt_of_le (y16 D1 k1) (Nat.pow_le_pow_right (by decide) (by omega)), ?_, ?_⟩
 ·have a1:InD (D*(F*s.den)) (Z+(16*S+20+S)) p:=hp.more k1
  have a2:InD (D*(F*s.den)) (Z+(16*S+20)+S) (s*u):=by
   have:=f3.mul (InD.of ss)
   rw [Rat.mul_comm] at this
   exact this.cast (by rw [Nat.mul_assoc]) (Nat.le_refl _)
  exact (a1.add (a2.mono (by omega))).mono (by omega)
 ·exact (f3.more hsd).cast (by rw [Nat.mul_assoc]) (by omega)
end Go.Ev
namespace Go.Ev
def TqS (c:Nat) (t:Rat):Prop:=∃e,0<e∧e<2^c∧InD e c t
theorem TqS.sm {c:Nat} {t:Rat} (h:TqS c t):SmQ c t:=by
 obtain ⟨e,e0,e1,h⟩:=h
 exact h.sm e0 e1 (Nat.le_refl _)
theorem TqS.neg {c:Nat} {t:Rat} (h:TqS c t):TqS c (-t):=by
 obtain ⟨e,e0,e1,h⟩:=h
 exact ⟨e,e0,e1,h.neg⟩
theorem TqS.of {S c:Nat} {t:Rat} (h:SmQ S t) (k:S≤c):TqS c t:=
 ⟨t.den,t.den_pos,Nat.lt_of_lt_of_le h.den (Nat.pow_le_pow_right (by decide) k),(InD.of h).mono k⟩
theorem TqS.zero {c:Nat} (h:1≤c):TqS c 0:=⟨1,by decide,Nat.one_lt_two_pow (by omega),0,by rw [Rat.zero_mul];rfl,by rw [show (0:Int).natAbs=0 from rfl];exact Nat.pow_pos (by decide)⟩
theorem y133 {q:Rat} (h:0≤q):q≤((q.num.natAbs:Nat):Rat):=by
 have h1:=y7y q
 have h2:((q.num.natAbs:Nat):Int)=q.num:=by have:=Rat.num_nonneg.2 h;omega
 have h3:((q.num.natAbs:Nat):Rat)=(q.num:Rat):=by rw [←h2];rfl
 rw [h3,←h1]
 have h4:(1:Rat)≤((q.den:Nat):Rat):=by
  have:((1:Nat):Rat)≤((q.den:Nat):Rat):=Rat.natCast_le_natCast.2 q.den_pos
  exact this
 have:0≤q*(((q.den:Nat):Rat)-1):=Rat.mul_nonneg h (by grind)
 grind
theorem yam {m:Mt} {d k:Nat} {h:Rat} {S:Nat} (hk:k≤64) (hT:SmQ S m.T) (t0:0≤m.T):TqS (S+66) (m.top d k h):=by
 have hle:m.top d k h≤m.T:=by
  unfold Mt.top
  by_cases c:0≤m.sq (d+1) h 0 (m.T*m.T)
  ·have h1:=ynj (k:=k) c
   exact (yt0 t0 (Rat.le_trans h1 (Mt.sq_le m _ _ _ _))).2
  ·have:rootQ k (m.sq (d+1) h 0 (m.T*m.T))=0:=by
    unfold rootQ
    rw [if_pos]
    have:=@Rat.num_nonneg (m.sq (d+1) h 0 (m.T*m.T))
    exact Int.not_le.1 fun hn=>c (this.1 hn)
   rw [this];exact t0
 unfold Mt.top at hle ⊢
 generalize m.sq (d+1) h 0 (m.T*m.T)=a at hle ⊢
 unfold rootQ at hle ⊢
 by_cases c:a.num<0
 ·rw [if_pos c];exact TqS.zero (by omega)
 ·rw [if_neg c] at hle ⊢
  generalize isqrt (a.num.natAbs*2^(2*k) / a.den)=z at hle ⊢
  have hp:(0:Rat)<((2^k:Nat):Rat):=Rat.natCast_pos.2 (Nat.pow_pos (by decide))
  have e:((z:Nat):Rat) / ((2^k:Nat):Rat)*((2^k:Nat):Rat)=((z:Nat):Rat):=Rat.div_mul_cancel (by grind)
  have hz:z<2^S*2^65:=by
   have h1:=Rat.le_trans hle (y133 t0)
   have h2:=Rat.mul_le_mul_of_nonneg_right h1 (Rat.le_of_lt hp)
   rw [e,←Rat.natCast_mul] at h2
   have h3:=Rat.natCast_le_natCast.1 h2
   have h4:m.T.num.natAbs*2^k<2^S*2^65:=Nat.mul_lt_mul'' hT.num (Nat.pow_lt_pow_right (by decide) (by omega))
   omega
  rw [←Nat.pow_add] at hz
  refine ⟨2^k,Nat.pow_pos (by decide),Nat.pow_lt_pow_right (by decide) (by omega),(z:Int),e, ?_⟩
  rw [Int.natAbs_natCast]
  exact Nat.lt_of_lt_of_le hz (Nat.pow_le_pow_right (by decide) (by omega))
def HtS (Z:Nat) (h:Rat):Prop:=∃D,0<D∧D<2^Z∧InD D Z h
theorem HtS.sm {Z:Nat} {h:Rat} (k:HtS Z h):SmQ Z h:=by
 obtain ⟨D,d0,d1,h⟩:=k
 exact h.sm d0 d1 (Nat.le_refl _)
theorem HtS.of {S:Nat} {h:Rat} (k:SmQ S h):HtS S h:=⟨h.den,h.den_pos,k.den,InD.of k⟩
theorem HtS.next {m:Mt} {S c Z:Nat} {h t:Rat} (hs:SmQ S m.s) (hH:SmQ S m.H) (hC:SmQ S m.C) (k:HtS Z h) (ht:TqS c t):HtS (Z+(4*S+2*c+2)) (m.next h t):=by
 obtain ⟨D,D0,D1,kh⟩:=k
 obtain ⟨e,e0,e1,kt⟩:=ht
 have f1:m.s.den*m.C.den<2^(S+S):=y16 hs.den hC.den
 have f2:m.s.den*(m.H.den*(e*e))<2^(S+(S+(c+c))):=y16 hs.den (y16 hH.den (y16 e1 e1))
 have a1:InD (D*(m.s.den*m.C.den*(m.s.den*(m.H.den*(e*e))))) (Z+(S+S+(S+(S+(c+c))))) h:=kh.more (y16 f1 f2)
 have a2:InD (D*(m.s.den*m.C.den*(m.s.den*(m.H.den*(e*e))))) (Z+(S+S+(S+(S+(c+c))))) (m.s*m.C*h):=by
  have:=(((InD.of hs).mul (InD.of hC)).mul kh).more f2
  exact this.cast (by simp only [Nat.mul_comm,Nat.mul_left_comm]) (by omega)
 have a3:InD (D*(m.s.den*m.C.den*(m.s.den*(m.H.den*(e*e))))) (Z+(S+S+(S+(S+(c+c))))) (m.s*(m.H*(t*t))):=by
  have:=((InD.of hs).mul ((InD.of hH).mul (kt.mul kt))).more' (y16 D1 f1)
  exact this.cast (by simp only [Nat.mul_assoc]) (by omega)
 have e2:m.next h t=h+m.s*(m.H*(t*t))-m.s*m.C*h:=by unfold Mt.next;grind
 rw [e2]
 refine ⟨D*(m.s.den*m.C.den*(m.s.den*(m.H.den*(e*e)))),Nat.mul_pos D0 (Nat.mul_pos (Nat.mul_pos m.s.den_pos m.C.den_pos) (Nat.mul_pos m.s.den_pos (Nat.mul_pos m.H.den_pos (Nat.mul_pos e0 e0)))), ?_, ?_⟩
 ·exact Nat.lt_of_lt_of_le (y16 D1 (y16 f1 f2)) (Nat.pow_le_pow_right (by decide) (by omega))
 ·exact ((a1.add a3).sub (a2.mono (by omega))).mono (by omega)
theorem yqf {m:Mt} {d k kind:Nat} {at_ i:Int} {w:Wt} {want:Rat} {S:Nat} (hk:k≤64) (hT:SmQ S m.T) (t0:0≤m.T) (hw:SmQ S want) (hl:TqS (S+66) w.last):TqS (S+66) (m.tq d k kind at_ i w want):=by
 have hc:TqS (S+66) (m.cmd d k kind at_ i w want):=by
  unfold Mt.cmd
  exact ycw (C:=TqS (S+66)) (yam hk hT t0).neg (ycy (C:=TqS (S+66)) (yam hk hT t0) (TqS.of hw (by omega)))
 unfold Mt.tq
 split
 ·split
  ·exact TqS.zero (by omega)
  ·split
   ·exact hl
   ·exact hc
 ·exact hc
end Go.Ev
namespace Go.Ev
theorem ybt {F:Caller} {f:FuncId} {a b:List AV} {q:Rat} {c:List AV} (ha:CanS (.agg a)) (hb:CanS (.agg b)) (h:LQ q c) (ob:Nat→Option AObj) (fz:Nat→Nat):callV F f [.agg a,.agg b,.agg c] ob fz=callV F f [.agg a,.agg b,.agg (qC q)] ob fz:=by
 simp only [callV,mapFz]
 rw [ha.frz]
 simp only
 rw [hb.frz]
 simp only
 rw [h.frz,yby]
def alwS (d i:Nat) (X:List (Nat×SV)):List (Nat×SV):=(2,.one (.box 0 0))::(3,.one (.box 1 0))::(4,.one (.box 2 0))::(5,.one (.box 10 0))::(6,.one (.box 12 0))::(20,.one (.int .i64 ((d+1:Nat):Int)))::(21,.one (.int .i64 (i:Int)))::X
structure AlwB (ob:Nat→Option AObj) (m:Mt) (b:Int) (d k:Nat) (heat part sq:Rat) (pc:List AV):Prop where
 o0:ob 0=some (.box (gC b m.T m.H m.C m.M m.s d k))
 o1:ob 1=some (.box (qC heat))
 o2:ob 2=some (.box [.bool false,.nils,.nils])
 o10:ob 10=some (.box (qC sq))
 o12:ob 12=some (.box pc)
 lq:LQ part pc
structure MtS (m:Mt):Prop where
 t:SmQ 256 m.T
 h:SmQ 256 m.H
 c:SmQ 256 m.C
 mm:SmQ 256 m.M
 s:SmQ 256 m.s
def SQB:Nat:=2^33+2^29+300
theorem ymy:SQB=2^33+2^29+300:=by unfold SQB;rfl
def Mt.sq1 (m:Mt) (h part q:Rat):Rat:=if part+m.s*m.H-m.s*m.C*part=0 then q else minQ q ((m.M-m.next h 0) / (part+m.s*m.H-m.s*m.C*part))
set_option maxRecDepth 100000 in
theorem ykt (m:Mt) (ms:MtS m) (b:Int) (d k i:Nat) (hi:i≤d) (hd:d≤16) {A P:Nat} (heat part sq:Rat) (pc:List AV) (hA:SmQ A heat) (hP:SmQ P part) (hQ:SmQ SQB sq) (hA2:2*A+780≤2^33) (hP2:2*P+1026≤2^29) (hlq:LQ part pc):
  SmQ (2*A+780) (m.next heat 0)∧SmQ (2*P+1026) (part+m.s*m.H-m.s*m.C*part)∧SmQ SQB (m.sq1 heat part sq)∧
  ∃N,∀n,N≤n→∀(ob:Nat→Option AObj) (fz:Nat→Nat) (nx:Nat) (X:List (Nat×SV)),13≤nx→AlwB ob m b d k heat part sq pc→
   ∃ob' fz' nx',evC (evF E n) n Fn.y3c ⟨env (alwS d i X),ob,fz,nx⟩=some (.nrm,⟨env (alwS d (i+1) []),ob',fz',nx'⟩)∧nx≤nx'∧AlwB ob' m b d k (m.next heat 0) (part+m.s*m.H-m.s*m.C*part) (m.sq1 heat part sq) (qC (part+m.s*m.H-m.s*m.C*part)):=by
 have z0:SmQ 1 (0:Rat):=⟨by decide,by decide⟩
 have e33:(2:Nat)^33=8589934592:=by decide
 have e29:(2:Nat)^29=536870912:=by decide
 have e36:(2:Nat)^36=68719476736:=by decide
 have e34:(2:Nat)^34=17179869184:=by decide
 rw [e33] at hA2
 rw [e29] at hP2
 have hSQ:=ymy
 rw [e33,e29] at hSQ
 have n1:=(yk9 m b d k heat 0 ms.h ms.c ms.s hA z0 (by decide) (by omega) (by decide)).2.mono (show 2*A+3*256+2*1+10≤2*A+780 by omega)
 obtain ⟨N1,k1⟩:=cNext m b d k heat 0 ms.h ms.c ms.s hA z0 (by decide) (by omega) (by decide)
 obtain ⟨N2,k2⟩:=cMul m.s m.H ms.s ms.h (by omega)
 obtain ⟨N3,k3⟩:=cAdd part (m.s*m.H) hP (ms.s.mul ms.h) (by omega)
 obtain ⟨N4,k4⟩:=cMul m.s m.C ms.s ms.c (by omega)
 obtain ⟨N5,k5⟩:=cMul (m.s*m.C) part (ms.s.mul ms.c) hP (by omega)
 have q1:=hP.add (ms.s.mul ms.h)
 have q2:=(ms.s.mul ms.c).mul hP
 obtain ⟨N6,k6⟩:=cSub (part+m.s*m.H) (m.s*m.C*part) q1 q2 (by omega)
 have hP':SmQ (2*P+1026) (part+m.s*m.H-m.s*m.C*part):=(q1.sub q2).mono (by omega)
 obtain ⟨N7,k7⟩:=cSub m.M (m.next heat 0) ms.mm n1 (by omega)
 have hd1:SmQ (256+(2*A+780)+1) (m.M-m.next heat 0):=ms.mm.sub n1
 have w1:IntKind.i64.wrap ((i+1:Nat):Int)=((i+1:Nat):Int):=wi64 (by omega)
 have lt:(((i:Nat):Int)<((d+1:Nat):Int))=True:=by simp;omega
 unfold Mt.sq1
 by_cases hz:part+m.s*m.H-m.s*m.C*part=0
 ·rw [if_pos hz]
  refine ⟨n1,hP',hQ, ?_⟩
  obtain ⟨N8,k8⟩:=cDiv0 (m.M-m.next heat 0) (part+m.s*m.H-m.s*m.C*part) (by rw [hz];rfl)
  refine ⟨N1+N2+N3+N4+N5+N6+N7+N8,fun n hn ob fz nx X hnx B=> ?_⟩
  obtain ⟨o0,o1,o2,o10,o12,lq⟩:=B
  have k1:∀ob fz,callV (evF E n) Id.y0o [.agg (gC b m.T m.H m.C m.M m.s d k),.agg (qC heat),.agg [.bool false,.nils,.nils]] ob fz=some (.fzd fz (.agg (qC (m.next heat 0)))):=fun ob fz=>by
   rw [ybt (.agg _ (yc2 _ _ _ _ _ _ _ _)) (y1j _) (.inr ⟨rfl,rfl⟩)];exact k1 n (by omega) ob fz
  have k2:=k2 n (by omega)
  have k3:∀ob fz,callV (evF E n) Id.y0l [.agg pc,.agg (qC (m.s*m.H))] ob fz=some (.fzd fz (.agg (qC (part+m.s*m.H)))):=fun ob fz=>by rw [ybh lq (.of _)];exact k3 n (by omega) ob fz
  have k4:=k4 n (by omega)
  have k5:∀ob fz,callV (evF E n) Id.y0a [.agg (qC (m.s*m.C)),.agg pc] ob fz=some (.fzd fz (.agg (qC (m.s*m.C*part)))):=fun ob fz=>by rw [ybh (.of _) lq];exact k5 n (by omega) ob fz
  have k6:=k6 n (by omega)
  have k7:=k7 n (by omega)
  have k8:=k8 n (by omega)
  have lsub:=lq.sub
  have lput:=lq.put (part+m.s*m.H-m.s*m.C*part)
  have e9:((9:Int)==0)=false:=rfl
  have u0:(0<nx)=True:=by simp only [eq_iff_iff,iff_true];omega
  have u1:(1<nx)=True:=by simp only [eq_iff_iff,iff_true];omega
  have u12:(12<nx)=True:=by simp only [eq_iff_iff,iff_true];omega
  have v0:(0=nx+10)=False:=by simp only [eq_iff_iff,iff_false];omega
  have x12:∀y,upd ob 1 y 12=ob 12:=fun y=>y00 (by decide)
  have x0:∀y,upd ob 1 y 0=ob 0:=fun y=>y00 (by decide)
  have x0':∀y z,upd (upd ob 1 y) 12 z 0=ob 0:=fun y z=>by rw [y00 (by decide),y00 (by decide)]
  have x1':∀y z,upd (upd ob 1 y) 12 z 1=some y:=fun y z=>by rw [y00 (by decide),upd_same]
  refine ⟨upd (upd (upd ob 1 (.box (qC (m.next heat 0)))) 12 (.box (qC (part+m.s*m.H-m.s*m.C*part)))) (nx+10) (.box (qC 0)),fz,nx+13, ?_,by omega, ?_⟩
  ·unfold alwS
   simp only [go_sem,Fn.y3c,lt,o0,o1,o12,k1,k2,k3,k4,k5,k6,k7,k8,↓lsub,↓lput,e9,u0,u1,u12,v0,x12,x0,x0',x1',add1,w1]
  ·exact ⟨by rw [y00 (by omega),y00 (by decide),y00 (by decide)];exact o0,by rw [y00 (by omega),y00 (by decide),upd_same],by rw [y00 (by omega),y00 (by decide),y00 (by decide)];exact o2,by rw [y00 (by omega),y00 (by decide),y00 (by decide)];exact o10,by rw [y00 (by omega),upd_same],.of _⟩
 ·rw [if_neg hz]
  have hzn:(part+m.s*m.H-m.s*m.C*part).num≠0:=fun e=>hz (Rat.num_eq_zero.1 e)
  have hq:SmQ SQB ((m.M-m.next heat 0) / (part+m.s*m.H-m.s*m.C*part)):=(hd1.div hzn hP').mono (by omega)
  refine ⟨n1,hP',hQ.min hq, ?_⟩
  obtain ⟨N8,k8⟩:=cDiv (m.M-m.next heat 0) (part+m.s*m.H-m.s*m.C*part) hzn hd1 hP' (by omega)
  obtain ⟨N9,k9⟩:=ygg (yno sq ((m.M-m.next heat 0) / (part+m.s*m.H-m.s*m.C*part)) hQ hq (by omega))
  refine ⟨N1+N2+N3+N4+N5+N6+N7+N8+N9,fun n hn ob fz nx X hnx B=> ?_⟩
  obtain ⟨o0,o1,o2,o10,o12,lq⟩:=B
  have k1:∀ob fz,callV (evF E n) Id.y0o [.agg (gC b m.T m.H m.C m.M m.s d k),.agg (qC heat),.agg [.bool false,.nils,.nils]] ob fz=some (.fzd fz (.agg (qC (m.next heat 0)))):=fun ob fz=>by
   rw [ybt (.agg _ (yc2 _ _ _ _ _ _ _ _)) (y1j _) (.inr ⟨rfl,rfl⟩)];exact k1 n (by omega) ob fz
  have k2:=k2 n (by omega)
  have k3:∀ob fz,callV (evF E n) Id.y0l [.agg pc,.agg (qC (m.s*m.H))] ob fz=some (.fzd fz (.agg (qC (part+m.s*m.H)))):=fun ob fz=>by rw [ybh lq (.of _)];exact k3 n (by omega) ob fz
  have k4:=k4 n (by omega)
  have k5:∀ob fz,callV (evF E n) Id.y0a [.agg (qC (m.s*m.C)),.agg pc] ob fz=some (.fzd fz (.agg (qC (m.s*m.C*part)))):=fun ob fz=>by rw [ybh (.of _) lq];exact k5 n (by omega) ob fz
  have k6:=k6 n (by omega)
  have k7:=k7 n (by omega)
  have k8:=k8 n (by omega)
  have k9:=k9 n (by omega)
  have lsub:=lq.sub
  have lput:=lq.put (part+m.s*m.H-m.s*m.C*part)
  have e9:((0:Int)==0)=true:=rfl
  have u0:(0<nx)=True:=by simp only [eq_iff_iff,iff_true];omega
  have u1:(1<nx)=True:=by simp only [eq_iff_iff,iff_true];omega
  have u12:(12<nx)=True:=by simp only [eq_iff_iff,iff_true];omega
  have v0:(0=nx+10)=False:=by simp only [eq_iff_iff,iff_false];omega
  have x12:∀y,upd ob 1 y 12=ob 12:=fun y=>y00 (by decide)
  have x0:∀y,upd ob 1 y 0=ob 0:=fun y=>y00 (by decide)
  have x0':∀y z,upd (upd ob 1 y) 12 z 0=ob 0:=fun y z=>by rw [y00 (by decide),y00 (by decide)]
  have x1':∀y z,upd (upd ob 1 y) 12 z 1=some y:=fun y z=>by rw [y00 (by decide),upd_same]
  have x10:∀y z v,upd (upd (upd ob 1 y) 12 z) (nx+10) v 10=ob 10:=fun y z v=>by rw [y00 (by omega),y00 (by decide),y00 (by decide)]
  have x10':∀y z v w,upd (upd (upd (upd ob 1 y) 12 z) (nx+10) v) (nx+15) w 10=ob 10:=fun y z v w=>by rw [y00 (by omega),y00 (by omega),y00 (by decide),y00 (by decide)]
  refine ⟨upd (upd (upd (upd (upd ob 1 (.box (qC (m.next heat 0)))) 12 (.box (qC (part+m.s*m.H-m.s*m.C*part)))) (nx+10) (.box (qC ((m.M-m.next heat 0) / (part+m.s*m.H-m.s*m.C*part))))) (nx+15) (.row 3 [qC sq,qC ((m.M-m.next heat 0) / (part+m.s*m.H-m.s*m.C*part))] 0)) 10 (.box (qC (minQ sq ((m.M-m.next heat 0) / (part+m.s*m.H-m.s*m.C*part))))),raise fz (nx+15) 2,nx+18, ?_,by omega, ?_⟩
  ·unfold alwS
   simp only [go_sem,Fn.y3c,lt,o0,o1,o10,o12,k1,k2,k3,k4,k5,k6,k7,k8,k9,↓lsub,↓lput,e9,u0,u1,u12,v0,x12,x0,x0',x1',x10,x10',add1,w1]
  ·exact ⟨by rw [y00 (by decide),y00 (by omega),y00 (by omega),y00 (by decide),y00 (by decide)];exact o0,by rw [y00 (by decide),y00 (by omega),y00 (by omega),y00 (by decide),upd_same],by rw [y00 (by decide),y00 (by omega),y00 (by omega),y00 (by decide),y00 (by decide)];exact o2,by rw [upd_same],by rw [y00 (by decide),y00 (by omega),y00 (by omega),upd_same],.of _⟩
set_option maxRecDepth 100000 in
theorem yml (m:Mt) (ms:MtS m) (b:Int) (d k:Nat) (hd:d≤16):∀(j i:Nat),i+j=d+1→∀(heat part sq:Rat) (A P:Nat),SmQ A heat→SmQ P part→SmQ SQB sq→(A+780)*2^j≤2^33→(P+1026)*2^j≤2^29→
  SmQ SQB (m.sq j heat part sq)∧∀pc,LQ part pc→∃N,∀n,N≤n→∀(ob:Nat→Option AObj) (fz:Nat→Nat) (nx:Nat) (X:List (Nat×SV)),13≤nx→AlwB ob m b d k heat part sq pc→∀M,j<M→
   ∃ob' fz' nx' X' heat' part' pc',loopN (evC (evF E n) n Fn.y3c) M ⟨env (alwS d i X),ob,fz,nx⟩=some (.ext 0,⟨env (alwS d (d+1) X'),ob',fz',nx'⟩)∧nx≤nx'∧AlwB ob' m b d k heat' part' (m.sq j heat part sq) pc'
 | 0,i,hi,heat,part,sq,A,P,hA,hP,hQ,a1,a2=>by
  have e:i=d+1:=by omega
  subst e
  refine ⟨hQ,fun pc hlq=>⟨0,fun n hn ob fz nx X hnx B M hM=> ?_⟩⟩
  obtain ⟨M,rfl⟩:∃q,M=q+1:=⟨M-1,by omega⟩
  have lt:(((d+1:Nat):Int)<((d+1:Nat):Int))=False:=by simp
  refine ⟨ob,fz,nx,[(22,.one (.bool false))],heat,part,pc,y09 ?_,Nat.le_refl _,B⟩
  unfold alwS
  simp only [go_sem,Fn.y3c,lt]
 | j+1,i,hi,heat,part,sq,A,P,hA,hP,hQ,a1,a2=>by
  have b1:(2*A+780+780)*2^j≤2^33:=by rw [Nat.pow_succ,Nat.mul_comm (2^j) 2,←Nat.mul_assoc] at a1;rw [show 2*A+780+780=(A+780)*2 by omega];exact a1
  have b2:(2*P+1026+1026)*2^j≤2^29:=by rw [Nat.pow_succ,Nat.mul_comm (2^j) 2,←Nat.mul_assoc] at a2;rw [show 2*P+1026+1026=(P+1026)*2 by omega];exact a2
  have p1:1≤2^j:=Nat.one_le_two_pow
  have c1:2*A+780+780≤2^33:=Nat.le_trans (Nat.le_mul_of_pos_right _ p1) b1
  have c2:2*P+1026+1026≤2^29:=Nat.le_trans (Nat.le_mul_of_pos_right _ p1) b2
  have r0:=ykt m ms b d k i (by omega) hd heat part sq (qC part) hA hP hQ (by omega) (by omega) (.of _)
  obtain ⟨r1,r2⟩:=yml m ms b d k hd j (i+1) (by omega) (m.next heat 0) (part+m.s*m.H-m.s*m.C*part) (m.sq1 heat part sq) _ _ r0.1 r0.2.1 r0.2.2.1 b1 b2
  refine ⟨r1,fun pc hlq=> ?_⟩
  obtain ⟨-,-,-,N1,h1⟩:=ykt m ms b d k i (by omega) hd heat part sq pc hA hP hQ (by omega) (by omega) hlq
  obtain ⟨N2,h2⟩:=r2 _ (.of _)
  refine ⟨N1+N2,fun n hn ob fz nx X hnx B M hM=> ?_⟩
  obtain ⟨M,rfl⟩:∃q,M=q+1:=⟨M-1,by omega⟩
  obtain ⟨ob',fz',nx',e1,e2,e3⟩:=h1 n (by omega) ob fz nx X hnx B
  obtain ⟨ob2,fz2,nx2,X2,heat2,part2,pc2,f1,f2,f3⟩:=h2 n (by omega) ob' fz' nx' [] (by omega) e3 M (by omega)
  exact ⟨ob2,fz2,nx2,X2,heat2,part2,pc2,by rw [y0c e1];exact f1,by omega,f3⟩
set_option maxRecDepth 100000 in
theorem yn5 (m:Mt) (ms:MtS m) (b:Int) (d k:Nat) (hd:d≤16) (hk:k≤64) (heat:Rat) (hh:SmQ 64000 heat):Ends Id.y08 [.agg (gC b m.T m.H m.C m.M m.s d k),.agg (qC heat)] (.agg (qC (m.top d k heat))):=by
 have z0:SmQ 1 (0:Rat):=⟨by decide,by decide⟩
 obtain ⟨N1,k1⟩:=cMul m.T m.T ms.t ms.t (by omega)
 have hTT:SmQ SQB (m.T*m.T):=(ms.t.mul ms.t).mono (by rw [ymy];decide)
 have pd:2^(d+1)≤2^17:=Nat.pow_le_pow_right (by decide) (by omega)
 obtain ⟨s1,s2⟩:=yml m ms b d k hd (d+1) 0 (by omega) heat 0 (m.T*m.T) 64000 1 hh z0 hTT
  (Nat.le_trans (Nat.mul_le_mul_left _ pd) (by decide)) (Nat.le_trans (Nat.mul_le_mul_left _ pd) (by decide))
 obtain ⟨N2,k2⟩:=s2 [.bool false,.nils,.nils] (.inr ⟨rfl,rfl⟩)
 obtain ⟨N3,k3⟩:=cQRoot (m.sq (d+1) heat 0 (m.T*m.T)) k hk s1 (by rw [ymy];decide)
 refine .of (N1+N2+N3+20) fun {n} hn=> ?_
 have k1:=k1 n (by omega)
 have k3:=k3 n (by omega)
 have key:∀(ob:Nat→Option AObj),AlwB ob m b d k heat 0 (m.T*m.T) [.bool false,.nils,.nils]→
   finV [.cell 4 true 3] (thenC (evF E n) n (tailAt 4 Fn.y08.code) (blkC 0 (loopN (evC (evF E n) n Fn.y3c) n ⟨env (alwS d 0 []),ob,fz0,13⟩)))=some (.agg (qC (m.top d k heat))):=by
  intro ob B
  obtain ⟨ob',fz',nx',X',heat',part',pc',e1,e2,e3⟩:=k2 n (by omega) ob fz0 13 [] (by decide) B n (by omega)
  obtain ⟨o0,o1,o2,o10,o12,lq⟩:=e3
  have g2:(2=nx'+7)=False:=by simp only [eq_iff_iff,iff_false];omega
  have u2:∀y,upd ob' (nx'+7) y 2=ob' 2:=fun y=>y00 (by omega)
  rw [e1,y7a,if_pos rfl,y4j]
  unfold alwS Mt.top
  generalize (if (m.sq (d+1) heat 0 (m.T*m.T)).num<0 then (8:Int) else 0)=er at k3
  simp only [go_sem,tailAt,Fn.y08,o0,o2,o10,k3,g2,u2]
 rw [y04 y9t,show Fn.y08.code=cutAt 4 Fn.y08.code (tailAt 4 Fn.y08.code) from rfl]
 generalize tailAt 4 Fn.y08.code=T at key ⊢
 have w1:IntKind.i64.wrap (((d:Nat):Int)+1)=((d+1:Nat):Int):=by rw [wrap_i64 (by omega)];omega
 have w1':IntKind.i64.wrap (((d+1:Nat)):Int)=((d+1:Nat):Int):=wi64 (by omega)
 simp only [go_sem,cutAt,Fn.y08,k1,add1,w1,w1']
 refine key _ ?_
 exact ⟨rfl,rfl,rfl,rfl,rfl,.inr ⟨rfl,rfl⟩⟩
theorem cAllowed (m:Mt) (ms:MtS m) (b:Int) (d k:Nat) (hd:d≤16) (hk:k≤64) (heat:Rat) (hh:SmQ 64000 heat):Calling Id.y08 [.agg (gC b m.T m.H m.C m.M m.s d k),.agg (qC heat)] (.agg (qC (m.top d k heat))):=
 (yn5 m ms b d k hd hk heat hh).call (can2 (.agg _ (yc2 _ _ _ _ _ _ _ _)) (y1j _))
end Go.Ev
namespace Go.Ev
open Go.Dig
def powQ (k:Nat):Rat:=((2^k:Nat):Rat)
theorem yqq (k:Nat):powQ k=((2^k:Nat):Rat):=rfl
theorem yy7 (k:Nat):powQ k+powQ k=powQ (k+1):=by
 unfold powQ
 rw [←Rat.natCast_add,Nat.pow_succ,Nat.mul_two]
theorem yet {k:Nat} (hk:k≤64):SmQ 66 (powQ k):=yf0 (S:=65) (Nat.lt_of_lt_of_le (ymm k hk) (Nat.pow_le_pow_right (by decide) (by omega)))
theorem yd2 (k:Nat):0<powQ k:=Rat.natCast_pos.2 (Nat.pow_pos (by decide))
def fineS (k i:Nat) (X:List (Nat×SV)):List (Nat×SV):=(0,.one (.int .i64 (k:Int)))::(2,.one (.box 0 0))::(3,.one (.box 2 0))::(4,.one (.int .i64 (i:Int)))::X
theorem yjx (k:Nat) (hk:k≤64):∀(j i:Nat),i+j=k→∃N,∀n,N≤n→∀(ob:Nat→Option AObj) (X:List (Nat×SV)),ob 2=some (.box (rC (powQ i)))→∀M,j<M→
   ∃ob' X',loopN (evC (evF E n) n Fn.y6b) M ⟨env (fineS k i X),ob,fz0,4⟩=some (.ext 0,⟨env (fineS k k X'),ob',fz0,4⟩)∧ob' 2=some (.box (rC (powQ k)))∧ob' 0=ob 0
 | 0,i,hi=>⟨0,fun n hn ob X B M hM=>by
  have e:i=k:=by omega
  subst e
  obtain ⟨M,rfl⟩:∃q,M=q+1:=⟨M-1,by omega⟩
  have lt:(((i:Nat):Int)<((i:Nat):Int))=False:=by simp
  refine ⟨ob,[(8,.one (.bool false))],y09 ?_,B,rfl⟩
  unfold fineS
  simp only [go_sem,Fn.y6b,lt]⟩
 | j+1,i,hi=>by
  obtain ⟨N1,k1⟩:=yl1 (RW.self (powQ i)) (RW.self (powQ i)) (yet (by omega)) (yet (by omega)) (by decide)
  rw [yy7] at k1
  obtain ⟨N2,k2⟩:=yjx k hk j (i+1) (by omega)
  refine ⟨N1+N2,fun n hn ob X B M hM=> ?_⟩
  obtain ⟨M,rfl⟩:∃q,M=q+1:=⟨M-1,by omega⟩
  have k1:=k1 n (by omega)
  obtain ⟨ob',X',e1,e2,e3⟩:=k2 n (by omega) (upd ob 2 (.box (rC (powQ (i+1))))) [] (upd_same _ _ _) M (by omega)
  refine ⟨ob',X', ?_,e2,by rw [e3];exact y00 (by decide)⟩
  rw [←e1]
  refine y0c ?_
  have lt:(((i:Nat):Int)<((k:Nat):Int))=True:=by simp;omega
  have wk:IntKind.i64.wrap ((i+1:Nat):Int)=((i+1:Nat):Int):=wi64 (by omega)
  unfold fineS
  simp only [go_sem,Fn.y6b,lt,B,k1,add1,wk]
theorem ysg (k:Nat) (hk:k≤64):Ends Id.y1i [.one (.int .i64 (k:Int))] (.agg (rC (powQ k))):=by
 obtain ⟨N1,k1⟩:=ykz 1 (by decide) (by decide)
 have e1:Rat.ofInt 1=powQ 0:=rfl
 rw [e1] at k1
 obtain ⟨N2,k2⟩:=yjx k hk k 0 (by omega)
 refine .of (N1+N2+k+1) fun {n} hn=> ?_
 have k1:=k1 n (by omega)
 have key:∀(ob:Nat→Option AObj),ob 2=some (.box (rC (powQ 0)))→ob 0=some (.box [.bool false,.nils,.bool false,.nils])→finV [.cell 2 true 4] (thenC (evF E n) n (tailAt 3 Fn.y1i.code) (blkC 0 (loopN (evC (evF E n) n Fn.y6b) n ⟨env (fineS k 0 []),ob,fz0,4⟩)))=some (.agg (rC (powQ k))):=by
  intro ob B1 B0
  obtain ⟨ob',X',f1,f2,f3⟩:=k2 n (by omega) ob [] B1 n (by omega)
  rw [B0] at f3
  rw [f1,y7a,if_pos rfl,y4j]
  unfold fineS
  simp only [go_sem,tailAt,Fn.y1i,f2,f3]
 rw [y04 yf6,show Fn.y1i.code=cutAt 3 Fn.y1i.code (tailAt 3 Fn.y1i.code) from rfl]
 generalize tailAt 3 Fn.y1i.code=T' at key ⊢
 unfold fineS at key
 simp only [go_sem,cutAt,Fn.y1i,k1]
 exact key _ rfl rfl
theorem cRFine (k:Nat) (hk:k≤64):Calling Id.y1i [.one (.int .i64 (k:Int))] (.agg (rC (powQ k))):=(ysg k hk).call (can1 (y0y _ _))
structure CoolB (ob:Nat→Option AObj) (m:Mt) (h t:Rat):Prop where
 o0:ob 0=some (.box (rmC m.T m.H m.C m.M))
 o1:ob 1=some (.box (rC m.s))
 o2:ob 2=some (.box (rC h))
 o3:ob 3=some (.box (rC t))
def coolS (c i:Nat) (X:List (Nat×SV)):List (Nat×SV):=(4,.one (.int .i64 (c:Int)))::(5,.one (.box 0 0))::(6,.one (.box 1 0))::(7,.one (.box 2 0))::(8,.one (.box 3 0))::(11,.one (.int .i64 (i:Int)))::X
set_option maxRecDepth 100000 in
theorem yl9 (m:Mt) (ms:MtS m) (t:Rat) (ht:TqS (256+66) t) (c:Nat) (hc:c≤20):∀(j i:Nat) (h:Rat) (Z:Nat),i+j=c→HtS Z h→Z+1670*j≤200000→∃N,∀n,N≤n→∀(ob:Nat→Option AObj) (X:List (Nat×SV)),CoolB ob m h t→∀M,j<M→
   ∃L' ob',loopN (evC (evF E n) n Fn.y5p) M ⟨env (coolS c i X),ob,fz0,5⟩=some (if m.coolR t j h=true then .ext 0 else .ret,⟨env L',ob',fz0,5⟩)∧(m.coolR t j h=false→env L' 10=.one (.bool false))
 | 0,i,h,Z,hi,hz,hZ=>⟨0,fun n hn ob X B M hM=>by
  have e:i=c:=by omega
  subst e
  obtain ⟨M,rfl⟩:∃q,M=q+1:=⟨M-1,by omega⟩
  have lt:(((i:Nat):Int)<((i:Nat):Int))=False:=by simp
  have e:m.coolR t 0 h=true:=rfl
  rw [e,if_pos rfl]
  refine ⟨coolS i i [(14,.one (.bool false))],ob,y09 ?_,fun hf=>by cases hf⟩
  unfold coolS
  simp only [go_sem,Fn.y5p,lt]⟩
 | j+1,i,h,Z,hi,hz,hZ=>by
  have hn2:=HtS.next (m:=m) (h:=h) (t:=t) (S:=256) (c:=256+66) (Z:=Z) ms.s ms.h ms.c hz ht
  obtain ⟨N1,k1⟩:=yhd m h t (RW.self t) ms.h ms.c ms.s hz.sm ht.sm (by decide) (by omega) (by decide)
  obtain ⟨N2,k2⟩:=y9m (RW.self (m.next h t)) (RW.self m.M) hn2.sm ms.mm (by omega)
  obtain ⟨N3,k3⟩:=yl9 m ms t ht c hc j (i+1) (m.next h t) _ (by omega) hn2 (by omega)
  refine ⟨N1+N2+N3,fun n hn ob X B M hM=> ?_⟩
  obtain ⟨M,rfl⟩:∃q,M=q+1:=⟨M-1,by omega⟩
  have k1:=k1 n (by omega)
  have k2:=k2 n (by omega)
  obtain ⟨o0,o1,o2,o3⟩:=B
  have lt:(((i:Nat):Int)<((c:Nat):Int))=True:=by simp;omega
  have wk:IntKind.i64.wrap ((i+1:Nat):Int)=((i+1:Nat):Int):=wi64 (by omega)
  unfold Mt.coolR
  by_cases hh:m.M<m.next h t
  ·have c1:(cmpQ (m.next h t) m.M>0)=True:=by rw [y7w,eq_iff_iff,iff_true];exact hh
   rw [if_pos hh]
   refine ⟨[(10,.one (.bool false))],upd ob 2 (.box (rC (m.next h t))),y7k ?_,fun _=>rfl⟩
   unfold coolS
   simp only [go_sem,Fn.y5p,lt,o0,o1,o2,o3,k1,k2,c1]
  ·have c1:(cmpQ (m.next h t) m.M>0)=False:=by rw [y7w,eq_iff_iff,iff_false];exact hh
   rw [if_neg hh]
   obtain ⟨L',ob',e1,e2⟩:=k3 n (by omega) (upd ob 2 (.box (rC (m.next h t)))) [] ⟨by rw [y00 (by decide)];exact o0,by rw [y00 (by decide)];exact o1,upd_same _ _ _,by rw [y00 (by decide)];exact o3⟩ M (by omega)
   refine ⟨L',ob', ?_,e2⟩
   rw [←e1]
   refine y0c ?_
   unfold coolS
   simp only [go_sem,Fn.y5p,lt,o0,o1,o2,o3,k1,k2,c1,add1,wk]
theorem ysk (m:Mt) (ms:MtS m) (h t:Rat) (c:Nat) (hc:c≤20) (hh:SmQ 64000 h) (ht:TqS (256+66) t):Ends Id.y1f [.agg (rmC m.T m.H m.C m.M),.agg (rC m.s),.agg (rC h),.agg (rC t),.one (.int .i64 (c:Int))] (.one (.bool (m.coolR t c h))):=by
 obtain ⟨N1,k1⟩:=yl9 m ms t ht c hc c 0 h 64000 (by omega) (.of hh) (by omega)
 refine .of (N1+c+1) fun {n} hn=> ?_
 have key:∀(ob:Nat→Option AObj),CoolB ob m h t→finV [.tmp 10] (thenC (evF E n) n (tailAt 2 Fn.y1f.code) (blkC 0 (loopN (evC (evF E n) n Fn.y5p) n ⟨env (coolS c 0 []),ob,fz0,5⟩)))=some (.one (.bool (m.coolR t c h))):=by
  intro ob B
  obtain ⟨L',ob',f1,f2⟩:=k1 n (by omega) ob [] B n (by omega)
  rw [f1]
  cases hr:m.coolR t c h with
  | true=>
   rw [if_pos rfl,y7a,if_pos rfl,y4j]
   simp only [go_sem,tailAt,Fn.y1f]
  | false=>
   have:=f2 hr
   rw [if_neg (by decide),ymq,yed,yo0]
   simp only [go_sem,this]
 rw [y04 yf8,show Fn.y1f.code=cutAt 2 Fn.y1f.code (tailAt 2 Fn.y1f.code) from rfl]
 generalize tailAt 2 Fn.y1f.code=T' at key ⊢
 unfold coolS at key
 simp only [go_sem,cutAt,Fn.y1f]
 exact key _ ⟨rfl,rfl,rfl,rfl⟩
theorem yyi (m:Mt) (h t:Rat) (z:Int):∀x∈[SV.agg (rmC m.T m.H m.C m.M),.agg (rC m.s),.agg (rC h),.agg (rC t),.one (.int .i64 z)],CanS x:=fun x hx=>by
 simp only [List.mem_cons,List.not_mem_nil,or_false] at hx
 rcases hx with rfl | rfl | rfl | rfl | rfl
 ·exact yjf m
 ·exact y70 _
 ·exact y70 _
 ·exact y70 _
 ·exact y0y _ _
theorem cCool (m:Mt) (ms:MtS m) (h t:Rat) (c:Nat) (hc:c≤20) (hh:SmQ 64000 h) (ht:TqS (256+66) t):Calling Id.y1f [.agg (rmC m.T m.H m.C m.M),.agg (rC m.s),.agg (rC h),.agg (rC t),.one (.int .i64 (c:Int))] (.one (.bool (m.coolR t c h))):=
 (ysk m ms h t c hc hh ht).call (yyi m h t c)
structure RalB (ob:Nat→Option AObj) (m:Mt) (k:Nat) (h:Rat) (lo hi:Nat) (lc:List AV):Prop where
 o0:ob 0=some (.box (rmC m.T m.H m.C m.M))
 o1:ob 1=some (.box (rC m.s))
 o2:ob 2=some (.box (rC h))
 o3:ob 3=some (.box [.bool false,.nils,.bool false,.nils])
 o6:ob 6=some (.box (rC (powQ k)))
 o16:ob 16=some (.box lc)
 o17:ob 17=some (.box [.bool false,zD hi])
 nw:NW lo lc
def ralS (d:Nat) (X:List (Nat×SV)):List (Nat×SV):=(3,.one (.int .i64 (d:Int)))::(5,.one (.box 0 0))::(6,.one (.box 1 0))::(7,.one (.box 2 0))::(10,.one (.box 3 0))::(11,.one (.box 6 0))::(12,.one (.box 16 0))::(13,.one (.box 17 0))::X
@[irreducible] def TB:Nat:=321
theorem TB_eq:TB=321:=by unfold TB;rfl
theorem TB1:1<2^(TB+1):=Nat.one_lt_two_pow (by omega)
theorem TB2:2<2^(TB+2):=by
 have:=Nat.pow_lt_pow_right (a:=2) (by decide) (show 1<TB+2 by omega)
 rwa [Nat.pow_one] at this
theorem TBs:TB+2<2^20:=by rw [TB_eq];decide
theorem y10r {z k c:Nat} (hk:k<c) (hz:z<2^c):TqS c (((z:Nat):Rat) / powQ k):=
 ⟨2^k,Nat.pow_pos (by decide),Nat.pow_lt_pow_right (by decide) hk,(z:Int),Rat.div_mul_cancel (by have:=yd2 k;grind),by rw [Int.natAbs_natCast];exact hz⟩
theorem y106 {z k:Nat} (hk:k≤64) (hz:z<2^(TB+1)):TqS (256+66) (((z:Nat):Rat) / powQ k):=by
 have:=y10r (c:=TB+1) (z:=z) (k:=k) (by rw [TB_eq];omega) hz
 rw [TB_eq] at this
 exact this
theorem yom (a:Nat):(cmpZ (a:Int) ((1:Nat):Int)>0)=(1<a):=by
 rw [yqx,eq_iff_iff];omega
theorem NW.sub0 {z:Nat} {c:List AV} (h:NW z c):sub c 0 2=some c:=by
 obtain ⟨y,rfl⟩:=h.two;rfl
theorem NW.len {z:Nat} {c:List AV} (h:NW z c):c.length=2:=by
 obtain ⟨y,rfl⟩:=h.two;rfl
theorem NW.put {z:Nat} {c:List AV} (h:NW z c) (x y:AV):Ev.put c 0 [x,y]=some [x,y]:=by
 obtain ⟨y,rfl⟩:=h.two;rfl
set_option maxHeartbeats 1000000 in
theorem yxd (m:Mt) (ok:m.Ok) (ms:MtS m) (d k:Nat) (hd:d≤16) (hk:k≤64) (h:Rat) (h0:0≤h) (h1:h≤m.M) (hh:SmQ 64000 h):∀(g lo hi:Nat),hi-lo≤g+1→lo≤m.topZ d k h→m.topZ d k h<hi→hi<2^(TB+1)→(∀z:Nat,z<hi→((z:Nat):Rat)≤m.T*powQ k)→∀lc,NW lo lc→
   ∃N,∀n,N≤n→∀(ob:Nat→Option AObj) (nx:Nat) (X:List (Nat×SV)),20≤nx→RalB ob m k h lo hi lc→∀M,g<M→
   ∃ob' nx' X' hi' lc',loopN (evC (evF E n) n Fn.y4h) M ⟨env (ralS d X),ob,fz0,nx⟩=some (.ext 0,⟨env (ralS d X'),ob',fz0,nx'⟩)∧20≤nx'∧RalB ob' m k h (m.topZ d k h) hi' lc':=by
 intro g
 induction g with
 | zero=>
  intro lo hi hg hlo hhi hH hT lc nw
  obtain ⟨N1,k1⟩:=yim (NW.self hi) nw (by omega) hH (by have:=TBs;omega)
  obtain ⟨N2,k2⟩:=y9y 1 (by decide)
  obtain ⟨N3,k3⟩:=yiy (NW.self (hi-lo)) (NW.self 1) (S:=TB+1) (by omega) TB1 (by have:=TBs;omega)
  refine ⟨N1+N2+N3,fun n hn ob nx X hnx B M hM=> ?_⟩
  obtain ⟨M,rfl⟩:∃q,M=q+1:=⟨M-1,by omega⟩
  have k1:=k1 n (by omega)
  have k2:=k2 n (by omega)
  have k3:=k3 n (by omega)
  have e:lo=m.topZ d k h:=by omega
  rw [←e]
  have c1:(cmpZ ((hi-lo:Nat):Int) ((1:Nat):Int)>0)=False:=by rw [yom,eq_iff_iff,iff_false];omega
  have B':=B
  obtain ⟨o0,o1,o2,o3,o6,o16,o17,nw⟩:=B
  have ls:=nw.sub0
  rw [show (((1:Nat):Int))=1 from rfl] at k2
  refine ⟨ob,nx,[(31,.one (.bool false))],hi,lc,y09 ?_,hnx,B'⟩
  unfold ralS
  simp only [go_sem,Fn.y4h,o16,o17,↓ls,k1,k2,k3,c1]
 | succ g ih=>
  intro lo hi hg hlo hhi hH hT lc nw
  by_cases hle:hi-lo≤g+1
  ·obtain ⟨N,hN⟩:=ih lo hi hle hlo hhi hH hT lc nw
   exact ⟨N,fun n hn ob nx X hnx B M hM=>hN n hn ob nx X hnx B M (by omega)⟩
  obtain ⟨mid,hmid⟩:∃mid,mid=(lo+hi) / 2:=⟨_,rfl⟩
  have m1:lo<mid:=by omega
  have m2:mid<hi:=by omega
  obtain ⟨N1,k1⟩:=yim (NW.self hi) nw (by omega) hH (by have:=TBs;omega)
  obtain ⟨N2,k2⟩:=y9y 1 (by decide)
  obtain ⟨N3,k3⟩:=yiy (NW.self (hi-lo)) (NW.self 1) (S:=TB+1) (by omega) TB1 (by have:=TBs;omega)
  have hsum:lo+hi<2^(TB+2):=by rw [show TB+2=(TB+1)+1 from rfl,Nat.pow_succ];omega
  obtain ⟨N4,k4⟩:=yhb nw (NW.self hi) (S:=TB+2) (by omega) (by omega) (by have:=TBs;omega)
  obtain ⟨N5,k5⟩:=y9y 2 (by decide)
  obtain ⟨N6,k6⟩:=yop (NW.self (lo+hi)) (NW.self 2) (by decide) (S:=TB+2) hsum TB2 (by have:=TBs;omega)
  rw [←hmid] at k6
  obtain ⟨N7,k7⟩:=yg4 (NW.self mid)
  have hmz:mid<2^(TB+1):=by omega
  have smid:SmQ (TB+1) ((mid:Nat):Rat):=yf0 (S:=TB) hmz
  obtain ⟨N8,k8⟩:=yjy (a:=((mid:Nat):Rat)) (b:=powQ k) (by rw [Ne,ygz];have:=yd2 k;grind) (RW.self _) (RW.self _) smid (yet hk) (by have:=TBs;omega)
  obtain ⟨N9,k9⟩:=cCool m ms h (((mid:Nat):Rat) / powQ k) (d+1) (by omega) hh (y106 hk hmz)
  have hcool:=Mt.cool_topZ ok (d:=d) (k:=k) h0 h1 mid (hT mid m2)
  rw [←yqq] at hcool
  rw [hcool] at k9
  have hrec:∃N,∀n,N≤n→∀(ob:Nat→Option AObj) (nx:Nat),20≤nx→RalB ob m k h (if mid≤m.topZ d k h then mid else lo) (if mid≤m.topZ d k h then hi else mid) (if mid≤m.topZ d k h then [.bool false,zD mid] else lc)→∀M,g<M→
   ∃ob' nx' X' hi' lc',loopN (evC (evF E n) n Fn.y4h) M ⟨env (ralS d []),ob,fz0,nx⟩=some (.ext 0,⟨env (ralS d X'),ob',fz0,nx'⟩)∧20≤nx'∧RalB ob' m k h (m.topZ d k h) hi' lc':=by
   by_cases c:mid≤m.topZ d k h
   ·obtain ⟨N,hN⟩:=ih mid hi (by omega) c hhi hH hT _ (NW.self mid)
    simp only [if_pos c]
    exact ⟨N,fun n hn ob nx hnx B M hM=>hN n hn ob nx [] hnx B M hM⟩
   ·obtain ⟨N,hN⟩:=ih lo mid (by omega) hlo (by omega) (by omega) (fun z hz=>hT z (by omega)) lc nw
    simp only [if_neg c]
    exact ⟨N,fun n hn ob nx hnx B M hM=>hN n hn ob nx [] hnx B M hM⟩
  obtain ⟨N10,k10⟩:=hrec
  refine ⟨N1+N2+N3+N4+N5+N6+N7+N8+N9+N10,fun n hn ob nx X hnx B M hM=> ?_⟩
  obtain ⟨M,rfl⟩:∃q,M=q+1:=⟨M-1,by omega⟩
  have k1:=k1 n (by omega)
  have k2:=k2 n (by omega)
  have k3:=k3 n (by omega)
  have k4:=k4 n (by omega)
  have k5:=k5 n (by omega)
  have k6:=k6 n (by omega)
  have k7:=k7 n (by omega)
  have k8:=k8 n (by omega)
  have k9:=k9 n (by omega)
  have k10:=k10 n (by omega)
  have c1:(cmpZ ((hi-lo:Nat):Int) ((1:Nat):Int)>0)=True:=by rw [yom,eq_iff_iff,iff_true];omega
  obtain ⟨o0,o1,o2,o3,o6,o16,o17,nw⟩:=B
  have ls:=nw.sub0
  have ln:=nw.len
  have lp:=nw.put (.bool false) (zD mid)
  rw [show (((1:Nat):Int))=1 from rfl] at k2
  rw [show (((2:Nat):Int))=2 from rfl] at k5
  have w1:IntKind.i64.wrap (1+((d:Nat):Int))=((d+1:Nat):Int):=by rw [wrap_i64 (by omega)];omega
  have g0:∀o:Nat,(0=nx+o)=False:=fun o=>by simp only [eq_iff_iff,iff_false];omega
  have g1:∀o:Nat,(1=nx+o)=False:=fun o=>by simp only [eq_iff_iff,iff_false];omega
  have g2:∀o:Nat,(2=nx+o)=False:=fun o=>by simp only [eq_iff_iff,iff_false];omega
  have g3:∀o:Nat,(3=nx+o)=False:=fun o=>by simp only [eq_iff_iff,iff_false];omega
  have g6:∀o:Nat,(6=nx+o)=False:=fun o=>by simp only [eq_iff_iff,iff_false];omega
  have g16:∀o:Nat,(16=nx+o)=False:=fun o=>by simp only [eq_iff_iff,iff_false];omega
  have g17:∀o:Nat,(17=nx+o)=False:=fun o=>by simp only [eq_iff_iff,iff_false];omega
  have l0:(0<nx+12)=True:=by simp only [eq_iff_iff,iff_true];omega
  have l1:(1<nx+12)=True:=by simp only [eq_iff_iff,iff_true];omega
  have l2:(2<nx+12)=True:=by simp only [eq_iff_iff,iff_true];omega
  have l6:(6<nx+12)=True:=by simp only [eq_iff_iff,iff_true];omega
  by_cases c:mid≤m.topZ d k h
  ·simp only [if_pos c] at k10
   have dc:decide (mid≤m.topZ d k h)=true:=decide_eq_true c
   rw [dc] at k9
   obtain ⟨ob',nx',X',hi',lc',f1,f2,f3⟩:=k10 (upd (upd (upd (upd (upd ob (nx+8) (.box [.bool false,.nils])) (nx+9) (.box [.bool false,.nils])) (nx+8) (.box [.bool false,zD mid])) (nx+9) (.box [.bool false,zD ((lo+hi)%2)])) 16 (.box [.bool false,zD mid])) (nx+12) (by omega)
    ⟨by rw [y00 (by omega),y00 (by omega),y00 (by omega),y00 (by omega),y00 (by omega)];exact o0,by rw [y00 (by omega),y00 (by omega),y00 (by omega),y00 (by omega),y00 (by omega)];exact o1,by rw [y00 (by omega),y00 (by omega),y00 (by omega),y00 (by omega),y00 (by omega)];exact o2,by rw [y00 (by omega),y00 (by omega),y00 (by omega),y00 (by omega),y00 (by omega)];exact o3,by rw [y00 (by omega),y00 (by omega),y00 (by omega),y00 (by omega),y00 (by omega)];exact o6,upd_same _ _ _,by rw [y00 (by omega),y00 (by omega),y00 (by omega),y00 (by omega),y00 (by omega)];exact o17,.self _⟩ M (by omega)
   refine ⟨ob',nx',X',hi',lc', ?_,f2,f3⟩
   rw [←f1]
   refine y0c ?_
   unfold ralS
   simp only [go_sem,Fn.y4h,o0,o1,o2,o3,o6,o16,o17,↓ls,↓ln,↓lp,k1,k2,k3,k4,k5,k6,k7,k8,k9,c1,w1,g0,g1,g2,g3,g6,g16,g17,l0,l1,l2,l6]
  ·simp only [if_neg c] at k10
   have dc:decide (mid≤m.topZ d k h)=false:=decide_eq_false c
   rw [dc] at k9
   obtain ⟨ob',nx',X',hi',lc',f1,f2,f3⟩:=k10 (upd (upd (upd (upd (upd ob (nx+8) (.box [.bool false,.nils])) (nx+9) (.box [.bool false,.nils])) (nx+8) (.box [.bool false,zD mid])) (nx+9) (.box [.bool false,zD ((lo+hi)%2)])) 17 (.box [.bool false,zD mid])) (nx+12) (by omega)
    ⟨by rw [y00 (by omega),y00 (by omega),y00 (by omega),y00 (by omega),y00 (by omega)];exact o0,by rw [y00 (by omega),y00 (by omega),y00 (by omega),y00 (by omega),y00 (by omega)];exact o1,by rw [y00 (by omega),y00 (by omega),y00 (by omega),y00 (by omega),y00 (by omega)];exact o2,by rw [y00 (by omega),y00 (by omega),y00 (by omega),y00 (by omega),y00 (by omega)];exact o3,by rw [y00 (by omega),y00 (by omega),y00 (by omega),y00 (by omega),y00 (by omega)];exact o6,by rw [y00 (by omega),y00 (by omega),y00 (by omega),y00 (by omega),y00 (by omega)];exact o16,upd_same _ _ _,nw⟩ M (by omega)
   refine ⟨ob',nx',X',hi',lc', ?_,f2,f3⟩
   rw [←f1]
   refine y0c ?_
   unfold ralS
   simp only [go_sem,Fn.y4h,o0,o1,o2,o3,o6,o16,o17,↓ls,↓ln,↓lp,k1,k2,k3,k4,k5,k6,k7,k8,k9,c1,w1,g0,g1,g2,g3,g6,g16,g17,l0,l1,l2,l6]
set_option maxRecDepth 100000 in
theorem yln (m:Mt) (ok:m.Ok) (ms:MtS m) (d k:Nat) (hd:d≤16) (hk:k≤64) (h:Rat) (h0:0≤h) (h1:h≤m.M) (hh:SmQ 64000 h):Ends Id.y0h [.agg (rmC m.T m.H m.C m.M),.agg (rC m.s),.agg (rC h),.one (.int .i64 (d:Int)),.one (.int .i64 (k:Int))] (.agg (rC (m.top d k h))):=by
 obtain ⟨N1,k1⟩:=cRFine k hk
 have sp:SmQ (64+1) (powQ k):=yf0 (S:=64) (Nat.pow_lt_pow_right (by decide) (by omega))
 have sTp:SmQ TB (m.T*powQ k):=by
  have:=ms.t.mul sp
  rw [TB_eq];exact this
 obtain ⟨N2,k2⟩:=y8n (RW.self m.T) (RW.self (powQ k)) ms.t sp (by decide)
 have q0:0≤m.T*powQ k:=Rat.mul_nonneg ok.t (Rat.le_of_lt (yd2 k))
 obtain ⟨N3,k3⟩:=yoy (m.T*powQ k) q0 (RW.self _) sTp (by have:=TBs;omega)
 obtain ⟨fl,hfl⟩:∃fl,fl=(m.T*powQ k).num.natAbs / (m.T*powQ k).den:=⟨_,rfl⟩
 have hle:∀z:Nat,z≤fl↔((z:Nat):Rat)≤m.T*powQ k:=fun z=>by rw [hfl];exact y13r q0 z
 have hfb:fl<2^TB:=by rw [hfl];exact Nat.lt_of_le_of_lt (Nat.div_le_self _ _) sTp.num
 rw [←hfl] at k3
 have hH:fl+1<2^(TB+1):=by
  have e:(2:Nat)^(TB+1)=2*2^TB:=by rw [Nat.pow_succ,Nat.mul_comm]
  have:1≤fl∨fl=0:=by omega
  have p1:1<2^TB:=Nat.one_lt_two_pow (by rw [TB_eq];decide)
  omega
 obtain ⟨N4,k4⟩:=y9y 1 (by decide)
 rw [show (((1:Nat):Int))=1 from rfl] at k4
 obtain ⟨N5,k5⟩:=yhb (NW.self fl) (NW.self 1) (S:=TB+1) (by omega) TB1 (by have:=TBs;omega)
 have htz:=(hle _).2 (Mt.topZ_le ok (d:=d) (k:=k) h0 h1)
 obtain ⟨N6,k6⟩:=yxd m ok ms d k hd hk h h0 h1 hh fl 0 (fl+1) (by omega) (by omega) (by omega) hH (fun z hz=>(hle z).1 (by omega)) [.bool false,.nils] .zero
 have htop:=Mt.top_eq ok (d:=d) (k:=k) h0 h1
 rw [←yqq] at htop
 have htb:m.topZ d k h<2^(TB+1):=by omega
 have call7:∀lc,NW (m.topZ d k h) lc→∃N,∀n,N≤n→∀ob fz,callV (evF E n) Id.y21 [.agg lc] ob fz=some (.fzd fz (.agg (rC ((m.topZ d k h:Nat):Rat)))):=fun lc h=>yg4 h
 obtain ⟨N7,k7⟩:∃N,∀lc,NW (m.topZ d k h) lc→∀n,N≤n→∀ob fz,callV (evF E n) Id.y21 [.agg lc] ob fz=some (.fzd fz (.agg (rC ((m.topZ d k h:Nat):Rat)))):=by
  obtain ⟨Na,ha⟩:=call7 _ (NW.self _)
  by_cases c:m.topZ d k h=0
  ·obtain ⟨Nb,hb⟩:=call7 [.bool false,.nils] (.inr ⟨c,rfl⟩)
   refine ⟨Na+Nb,fun lc hl n hn=> ?_⟩
   rcases hl with rfl | ⟨_,rfl⟩
   ·exact ha n (by omega)
   ·exact hb n (by omega)
  ·refine ⟨Na,fun lc hl n hn=> ?_⟩
   rcases hl with rfl | ⟨h0,rfl⟩
   ·exact ha n hn
   ·exact absurd h0 c
 have stz:SmQ (TB+1) ((m.topZ d k h:Nat):Rat):=yf0 (S:=TB) htb
 obtain ⟨N8,k8⟩:=yjy (a:=((m.topZ d k h:Nat):Rat)) (b:=powQ k) (by rw [Ne,ygz];have:=yd2 k;grind) (RW.self _) (RW.self _) stz (yet hk) (by have:=TBs;omega)
 rw [←htop] at k8
 refine .of (N1+N2+N3+N4+N5+N6+N7+N8+fl+1) fun {n} hn=> ?_
 have k1:=k1 n (by omega)
 have k2:=k2 n (by omega)
 have k3:=k3 n (by omega)
 have k4:=k4 n (by omega)
 have k5:=k5 n (by omega)
 have k8:=k8 n (by omega)
 have key:∀(ob:Nat→Option AObj),RalB ob m k h 0 (fl+1) [.bool false,.nils]→finV [.cell 10 true 4] (thenC (evF E n) n (tailAt 4 Fn.y0h.code) (blkC 0 (loopN (evC (evF E n) n Fn.y4h) n ⟨env (ralS d []),ob,fz0,20⟩)))=some (.agg (rC (m.top d k h))):=by
  intro ob B
  obtain ⟨ob',nx',X',hi',lc',f1,f2,f3⟩:=k6 n (by omega) ob 20 [] (by decide) B n (by omega)
  obtain ⟨o0,o1,o2,o3,o6,o16,o17,nw⟩:=f3
  have k7:=k7 lc' nw n (by omega)
  have ls:=nw.sub0
  have l6:(6<nx')=True:=by simp only [eq_iff_iff,iff_true];omega
  have l16:(16<nx')=True:=by simp only [eq_iff_iff,iff_true];omega
  rw [f1,y7a,if_pos rfl,y4j]
  unfold ralS
  simp only [go_sem,tailAt,Fn.y0h,o3,o6,o16,↓ls,k7,k8,l6,l16]
 rw [y04 ycv,show Fn.y0h.code=cutAt 4 Fn.y0h.code (tailAt 4 Fn.y0h.code) from rfl]
 generalize tailAt 4 Fn.y0h.code=T' at key ⊢
 unfold ralS at key
 simp only [go_sem,cutAt,Fn.y0h,k1,k2,k3,k4,k5]
 exact key _ ⟨rfl,rfl,rfl,rfl,rfl,rfl,rfl,.zero⟩
theorem cRAllowed (m:Mt) (ok:m.Ok) (ms:MtS m) (d k:Nat) (hd:d≤16) (hk:k≤64) (h:Rat) (h0:0≤h) (h1:h≤m.M) (hh:SmQ 64000 h):Calling Id.y0h [.agg (rmC m.T m.H m.C m.M),.agg (rC m.s),.agg (rC h),.one (.int .i64 (d:Int)),.one (.int .i64 (k:Int))] (.agg (rC (m.top d k h))):=
 (yln m ok ms d k hd hk h h0 h1 hh).call fun x hx=>by
  simp only [List.mem_cons,List.not_mem_nil,or_false] at hx
  rcases hx with rfl | rfl | rfl | rfl | rfl
  ·exact yjf m
  ·exact y70 _
  ·exact y70 _
  ·exact y0y _ _
  ·exact y0y _ _
end Go.Ev
namespace Go.Ev
open Go.Dig
def WtR (o:Wt) (e:List AV):Prop:=∃tc,RW o.last tc∧e=tc++rC o.heat
def WtRs:List Wt→List (List AV)→Prop
 | [],[]=>True
 | o::r,e::s=>WtR o e∧WtRs r s
 | _,_=>False
theorem WtRs.snoc:∀{ms:List Wt} {es:List (List AV)} {o:Wt} {e:List AV},WtRs ms es→WtR o e→WtRs (ms++[o]) (es++[e])
 | [],[],_,_,_,h=>⟨h,trivial⟩
 | _::r,_::s,_,_,h,k=>⟨h.1,WtRs.snoc h.2 k⟩
theorem WtRs.len:∀{ms:List Wt} {es:List (List AV)},WtRs ms es→es.length=ms.length
 | [],[],_=>rfl
 | _::r,_::s,h=>by rw [List.length_cons,List.length_cons,WtRs.len h.2]
theorem WtRs.get:∀{ms:List Wt} {es:List (List AV)} {j:Nat} {o:Wt},WtRs ms es→ms[j]? =some o→∃e,es[j]? =some e∧WtR o e
 | [],[],j,o,_,h=>by simp at h
 | x::r,y::s,0,o,h,hj=>by
  simp only [List.getElem?_cons_zero,Option.some.injEq] at hj
  subst hj
  exact ⟨y,rfl,h.1⟩
 | x::r,y::s,j+1,o,h,hj=>by
  simp only [List.getElem?_cons_succ] at hj ⊢
  exact WtRs.get h.2 hj
theorem WtR.len {o:Wt} {e:List AV} (h:WtR o e):e.length=8:=by
 obtain ⟨tc,h1,rfl⟩:=h
 obtain ⟨a,b,c,d,rfl⟩:=h1.cells4
 simp [y5q]
theorem WtRs.okSz:∀{ms:List Wt} {es:List (List AV)},WtRs ms es→Ev.okSz 8 es=true
 | [],[],_=>rfl
 | _::r,_::s,h=>by simp [Ev.okSz,h.1.len]
def nthC:Nat→ACode→ACode
 | 0,.seq a _=>a
 | n+1,.seq _ b=>nthC n b
 | _,c=>c
def rwIn:ACode:=match Fn.y06 with | .seq _ (.seq (.block _ a) _)=>a | _=>.skip
theorem y10l:rwIn=.seq (nthC 0 rwIn) (.seq (nthC 1 rwIn) (.seq (nthC 2 rwIn) (.seq (nthC 3 rwIn) (.seq (nthC 4 rwIn) (.seq (nthC 5 rwIn) (.seq (nthC 6 rwIn) (.seq (nthC 7 rwIn) (.seq (nthC 8 rwIn) (.seq (nthC 9 rwIn) (tailAt 10 rwIn)))))))))):=rfl
structure RwE (L:List (Nat×SV)) (d k:Nat) (ws:List (List AV)) (kind a:Nat) (h o:AV) (i:Nat):Prop where
 e3:env L 3=.one (.int .i64 (d:Int))
 e4:env L 4=.one (.int .i64 (k:Int))
 e5:env L 5=.one (.sl false ws)
 e6:env L 6=.one (.int .u8 (kind:Int))
 e7:env L 7=.one (.int .i64 (a:Int))
 e8:env L 8=.one (.box 0 0)
 e9:env L 9=.one (.box 1 0)
 e17:env L 17=.one h
 e18:env L 18=.one o
 e19:env L 19=.one (.int .i64 (i:Int))
structure RwB (ob:Nat→Option AObj) (nx:Nat) (m:Mt) (h o:AV) (hs:List Rat) (hv:Nat) (es:List (List AV)):Prop where
 o0:ob 0=some (.box (rmC m.T m.H m.C m.M))
 o1:ob 1=some (.box (rC m.s))
 o5:ob 5=some (.row 4 (hs.map rC) hv)
 hh:h=.rsl 5 hv 4 0 hs.length false
 nx6:6<nx
 out:(es=[]∧o=.nils)∨∃id ver,o=.rsl id ver 8 0 es.length false∧ob id=some (.row 8 es ver)∧6≤id∧id<nx
theorem RwB.old {ob ob':Nat→Option AObj} {nx nx':Nat} {m:Mt} {h o:AV} {hs:List Rat} {hv:Nat} {es:List (List AV)} (B:RwB ob nx m h o hs hv es) (e:∀id,id<nx→ob' id=ob id) (hn:nx≤nx'):RwB ob' nx' m h o hs hv es:=by
 obtain ⟨o0,o1,o5,hh,n6,out⟩:=B
 refine ⟨by rw [e _ (by omega)];exact o0,by rw [e _ (by omega)];exact o1,by rw [e _ (by omega)];exact o5,hh,by omega, ?_⟩
 rcases out with out | ⟨id,ver,h1,h2,h3,h4⟩
 ·exact .inl out
 ·exact .inr ⟨id,ver,h1,by rw [e _ h4];exact h2,h3,by omega⟩
section
variable {n:Nat} {ob:Nat→Option AObj} {fz:Nat→Nat} {nx:Nat} {L:List (Nat×SV)} {d k kind a i:Nat} {ws:List (List AV)} {h o:AV} {m:Mt}
def flB (kind a i:Nat):Bool:=decide (0<kind∧a≤i)
def ltB (d kind a i:Nat):Bool:=decide (0<kind∧a≤i∧d≤i-a)
theorem yy8 (hL:RwE L d k ws kind a h o i) (hi:i<2^20):
  ∃L',(∀T,evC (evF E n) n (.seq (nthC 0 rwIn) (.seq (nthC 1 rwIn) T)) ⟨env L,ob,fz,nx⟩=evC (evF E n) n T ⟨env L',ob,fz,nx⟩)∧RwE L' d k ws kind a h o i∧env L' 20=.one (.bool (flB kind a i))∧env L' 21=.one (.bool (ltB d kind a i)):=by
 obtain ⟨e3,e4,e5,e6,e7,e8,e9,e17,e18,e19⟩:=hL
 by_cases c1:0<kind
 ·have f1:(((kind:Nat):Int)>0)=True:=by simp only [eq_iff_iff,iff_true];omega
  by_cases c2:a≤i
  ·have f2:(((i:Nat):Int)≥((a:Nat):Int))=True:=by simp only [eq_iff_iff,iff_true];omega
   have w:IntKind.i64.wrap (((i:Nat):Int)-((a:Nat):Int))=((i-a:Nat):Int):=by rw [wrap_i64 (by omega)];omega
   have hfl:flB kind a i=true:=decide_eq_true ⟨c1,c2⟩
   by_cases c3:d≤i-a
   ·have f3:(((i-a:Nat):Int)≥((d:Nat):Int))=True:=by simp only [eq_iff_iff,iff_true];omega
    have hlt:ltB d kind a i=true:=decide_eq_true ⟨c1,c2,c3⟩
    rw [hfl,hlt]
    unfold rwIn Fn.y06
    simp only [nthC,go_sem,e3,e4,e5,e6,e7,e8,e9,e17,e18,e19,f1,f2,f3,w]
    exact ⟨_,fun T=>rfl,⟨rfl,rfl,rfl,rfl,rfl,rfl,rfl,rfl,rfl,rfl⟩,rfl,rfl⟩
   ·have f3:(((i-a:Nat):Int)≥((d:Nat):Int))=False:=by simp only [eq_iff_iff,iff_false];omega
    have hlt:ltB d kind a i=false:=decide_eq_false fun h=>c3 h.2.2
    rw [hfl,hlt]
    unfold rwIn Fn.y06
    simp only [nthC,go_sem,e3,e4,e5,e6,e7,e8,e9,e17,e18,e19,f1,f2,f3,w]
    exact ⟨_,fun T=>rfl,⟨rfl,rfl,rfl,rfl,rfl,rfl,rfl,rfl,rfl,rfl⟩,rfl,rfl⟩
  ·have f2:(((i:Nat):Int)≥((a:Nat):Int))=False:=by simp only [eq_iff_iff,iff_false];omega
   have hfl:flB kind a i=false:=decide_eq_false fun h=>c2 h.2
   have hlt:ltB d kind a i=false:=decide_eq_false fun h=>c2 h.2.1
   rw [hfl,hlt]
   unfold rwIn Fn.y06
   simp only [nthC,go_sem,e3,e4,e5,e6,e7,e8,e9,e17,e18,e19,f1,f2]
   exact ⟨_,fun T=>rfl,⟨rfl,rfl,rfl,rfl,rfl,rfl,rfl,rfl,rfl,rfl⟩,rfl,rfl⟩
 ·have f1:(((kind:Nat):Int)>0)=False:=by simp only [eq_iff_iff,iff_false];omega
  have hfl:flB kind a i=false:=decide_eq_false fun h=>c1 h.1
  have hlt:ltB d kind a i=false:=decide_eq_false fun h=>c1 h.1
  rw [hfl,hlt]
  unfold rwIn Fn.y06
  simp only [nthC,go_sem,e3,e4,e5,e6,e7,e8,e9,e17,e18,e19,f1]
  exact ⟨_,fun T=>rfl,⟨rfl,rfl,rfl,rfl,rfl,rfl,rfl,rfl,rfl,rfl⟩,rfl,rfl⟩
theorem yjp (hs:List Rat):okSz 4 (hs.map rC)=true:=yar y5q hs
theorem y10o {hs:List Rat} {hv:Nat} {es:List (List AV)} {heat hat:Rat} (hL:RwE L d k ws kind a h o i) (B:RwB ob nx m h o hs hv es) (l20:env L 20=.one (.bool (flB kind a i))) (l21:env L 21=.one (.bool (ltB d kind a i)))
  (hnow:hs[i]? =some heat) (hhat:kind=3→a≤i→hs[a]? =some hat):
  ∃L' ob',(∀T,evC (evF E n) n (.seq (nthC 2 rwIn) (.seq (nthC 3 rwIn) T)) ⟨env L,ob,fz,nx⟩=evC (evF E n) n T ⟨env L',ob',fz,nx+6⟩)∧RwE L' d k ws kind a h o i∧env L' 20=.one (.bool (flB kind a i))∧env L' 21=.one (.bool (ltB d kind a i))∧
   env L' 22=.one (.box (nx+4) 0)∧ob' (nx+4)=some (.box (rC (rrd d kind (a:Int) (i:Int) heat hat)))∧∀id,id<nx→ob' id=ob id:=by
 obtain ⟨e3,e4,e5,e6,e7,e8,e9,e17,e18,e19⟩:=hL
 have B':=B
 obtain ⟨o0,o1,o5,rfl,n6,out⟩:=B
 have g5:∀c:Nat,(5=nx+c)=False:=fun c=>by simp only [eq_iff_iff,iff_false];omega
 have r5:rowAt ob 5 hv=some (4,hs.map rC):=y46 o5
 have r5':∀c y,rowAt (upd ob (nx+c) y) 5 hv=some (4,hs.map rC):=fun c y=>by rw [y4z (by omega)];exact r5
 have r5'':∀c y y',rowAt (upd (upd ob (nx+c) y) (nx+c) y') 5 hv=some (4,hs.map rC):=fun c y y'=>by rw [y4z (by omega)];exact r5' _ _
 have ok4:=yjp hs
 have gi:(hs.map rC)[i]? =some (rC heat):=by rw [List.getElem?_map,hnow];rfl
 have hil:i<hs.length:=(List.getElem?_eq_some_iff.1 hnow).1
 have ble1:Nat.ble (0+hs.length) (hs.map rC).length=true:=by simp
 have li:((i:Nat)<hs.length)=True:=by simp only [eq_iff_iff,iff_true];omega
 by_cases c:kind=3∧a≤i∧¬d≤i-a
 ·obtain ⟨c1,c2,c3⟩:=c
  have f1:(((kind:Nat):Int)==3)=true:=by simp;omega
  have hfl:flB kind a i=true:=decide_eq_true ⟨by omega,c2⟩
  have hlt:ltB d kind a i=false:=decide_eq_false fun h=>c3 h.2.2
  rw [hfl] at l20 ⊢
  rw [hlt] at l21 ⊢
  have ga:(hs.map rC)[a]? =some (rC hat):=by rw [List.getElem?_map,hhat c1 c2];rfl
  have hal:a<hs.length:=(List.getElem?_eq_some_iff.1 (hhat c1 c2)).1
  have la:((a:Nat)<hs.length)=True:=by simp only [eq_iff_iff,iff_true];omega
  have er:rrd d kind (a:Int) (i:Int) heat hat=hat:=if_pos ⟨c1,by omega,by omega⟩
  rw [er]
  obtain ⟨r,hr0⟩:∃r,(fun T=>evC (evF E n) n (.seq (nthC 2 rwIn) (.seq (nthC 3 rwIn) T)) ⟨env L,ob,fz,nx⟩)=r:=⟨_,rfl⟩
  have hr:=hr0
  unfold rwIn Fn.y06 at hr
  simp only [nthC,go_sem,e3,e4,e5,e6,e7,e8,e9,e17,e18,e19,l20,l21,f1,r5,r5',r5'',gi,ga,ok4,li,la,g5,ble1] at hr
  have h2:=fun T=>congrFun (hr0.trans hr.symm) T
  exact ⟨_,_,h2,⟨rfl,rfl,rfl,rfl,rfl,rfl,rfl,rfl,rfl,rfl⟩,rfl,rfl,rfl,upd_same _ _ _,fun id hid=>by repeat rw [y00 (by omega)]⟩
 ·have er:rrd d kind (a:Int) (i:Int) heat hat=heat:=if_neg (by omega)
  rw [er]
  by_cases c1:kind=3
  ·have f1:(((kind:Nat):Int)==3)=true:=by simp;omega
   by_cases c2:a≤i
   ·have hfl:flB kind a i=true:=decide_eq_true ⟨by omega,c2⟩
    have hlt:ltB d kind a i=true:=decide_eq_true ⟨by omega,c2,by omega⟩
    rw [hfl] at l20 ⊢
    rw [hlt] at l21 ⊢
    obtain ⟨r,hr0⟩:∃r,(fun T=>evC (evF E n) n (.seq (nthC 2 rwIn) (.seq (nthC 3 rwIn) T)) ⟨env L,ob,fz,nx⟩)=r:=⟨_,rfl⟩
    have hr:=hr0
    unfold rwIn Fn.y06 at hr
    simp only [nthC,go_sem,e3,e4,e5,e6,e7,e8,e9,e17,e18,e19,l20,l21,f1,r5,r5',r5'',gi,ok4,li,g5,ble1] at hr
    have h2:=fun T=>congrFun (hr0.trans hr.symm) T
    exact ⟨_,_,h2,⟨rfl,rfl,rfl,rfl,rfl,rfl,rfl,rfl,rfl,rfl⟩,rfl,rfl,rfl,upd_same _ _ _,fun id hid=>by repeat rw [y00 (by omega)]⟩
   ·have hfl:flB kind a i=false:=decide_eq_false fun h=>c2 h.2
    have hlt:ltB d kind a i=false:=decide_eq_false fun h=>c2 h.2.1
    rw [hfl] at l20 ⊢
    rw [hlt] at l21 ⊢
    obtain ⟨r,hr0⟩:∃r,(fun T=>evC (evF E n) n (.seq (nthC 2 rwIn) (.seq (nthC 3 rwIn) T)) ⟨env L,ob,fz,nx⟩)=r:=⟨_,rfl⟩
    have hr:=hr0
    unfold rwIn Fn.y06 at hr
    simp only [nthC,go_sem,e3,e4,e5,e6,e7,e8,e9,e17,e18,e19,l20,l21,f1,r5,r5',r5'',gi,ok4,li,g5,ble1] at hr
    have h2:=fun T=>congrFun (hr0.trans hr.symm) T
    exact ⟨_,_,h2,⟨rfl,rfl,rfl,rfl,rfl,rfl,rfl,rfl,rfl,rfl⟩,rfl,rfl,rfl,upd_same _ _ _,fun id hid=>by repeat rw [y00 (by omega)]⟩
  ·have f1:(((kind:Nat):Int)==3)=false:=by simp;omega
   obtain ⟨r,hr0⟩:∃r,(fun T=>evC (evF E n) n (.seq (nthC 2 rwIn) (.seq (nthC 3 rwIn) T)) ⟨env L,ob,fz,nx⟩)=r:=⟨_,rfl⟩
   have hr:=hr0
   unfold rwIn Fn.y06 at hr
   simp only [nthC,go_sem,e3,e4,e5,e6,e7,e8,e9,e17,e18,e19,l20,l21,f1,r5,r5',r5'',gi,ok4,li,g5,ble1] at hr
   have h2:=fun T=>congrFun (hr0.trans hr.symm) T
   exact ⟨_,_,h2,⟨rfl,rfl,rfl,rfl,rfl,rfl,rfl,rfl,rfl,rfl⟩,rfl,rfl,rfl,upd_same _ _ _,fun id hid=>by repeat rw [y00 (by omega)]⟩
theorem y13j {hs:List Rat} {hv:Nat} {es:List (List AV)} {rd top want:Rat} (hL:RwE L d k ws kind a h o i) (B:RwB ob nx m h o hs hv es) (l20:env L 20=.one (.bool (flB kind a i))) (l21:env L 21=.one (.bool (ltB d kind a i))) {p:Nat} (l22:env L 22=.one (.box p 0)) (hp:ob p=some (.box (rC rd))) (hp2:p<nx)
  (k1:∀ob fz,callV (evF E n) Id.y0h [.agg (rmC m.T m.H m.C m.M),.agg (rC m.s),.agg (rC rd),.one (.int .i64 (d:Int)),.one (.int .i64 (k:Int))] ob fz=some (.fzd fz (.agg (rC top)))) (gw:ws[i]? =some (rC want)) (o4w:okSz 4 ws=true):
  ∃L' ob',(∀T,evC (evF E n) n (.seq (nthC 4 rwIn) (.seq (nthC 5 rwIn) T)) ⟨env L,ob,fz,nx⟩=evC (evF E n) n T ⟨env L',ob',fz,nx+14⟩)∧RwE L' d k ws kind a h o i∧env L' 20=.one (.bool (flB kind a i))∧env L' 21=.one (.bool (ltB d kind a i))∧
   env L' 23=.one (.box (nx+6) 0)∧env L' 24=.one (.box (nx+12) 0)∧ob' (nx+6)=some (.box (rC top))∧ob' (nx+12)=some (.box (rC want))∧∀id,id<nx→ob' id=ob id:=by
 obtain ⟨e3,e4,e5,e6,e7,e8,e9,e17,e18,e19⟩:=hL
 obtain ⟨o0,o1,o5,rfl,n6,out⟩:=B
 have g0:∀c:Nat,(0=nx+c)=False:=fun c=>by simp only [eq_iff_iff,iff_false];omega
 have g1:∀c:Nat,(1=nx+c)=False:=fun c=>by simp only [eq_iff_iff,iff_false];omega
 have gp:∀c:Nat,(p=nx+c)=False:=fun c=>by simp only [eq_iff_iff,iff_false];omega
 have hil:i<ws.length:=(List.getElem?_eq_some_iff.1 gw).1
 have li:((i:Nat)<ws.length)=True:=by simp only [eq_iff_iff,iff_true];omega
 have nxa:nx+8+4=nx+12:=rfl
 have nxb:nx+8+6=nx+14:=rfl
 obtain ⟨r,hr0⟩:∃r,(fun T=>evC (evF E n) n (.seq (nthC 4 rwIn) (.seq (nthC 5 rwIn) T)) ⟨env L,ob,fz,nx⟩)=r:=⟨_,rfl⟩
 have hr:=hr0
 unfold rwIn Fn.y06 at hr
 simp only [nthC,go_sem,e3,e4,e5,e6,e7,e8,e9,e17,e18,e19,l20,l21,l22,o0,o1,hp,g0,g1,gp,k1,gw,o4w,li,nxa,nxb] at hr
 have h2:=fun T=>congrFun (hr0.trans hr.symm) T
 exact ⟨_,_,h2,⟨rfl,rfl,rfl,rfl,rfl,rfl,rfl,rfl,rfl,rfl⟩,rfl,rfl,rfl,rfl,by first | exact upd_same _ _ _ | (rw [y00 (by omega)];exact upd_same _ _ _),by first | exact upd_same _ _ _ | (rw [y00 (by omega)];exact upd_same _ _ _),fun id hid=>by repeat rw [y00 (by omega)]⟩
theorem y132 {top want:Rat} (hL:RwE L d k ws kind a h o i) (l20:env L 20=.one (.bool (flB kind a i))) (l21:env L 21=.one (.bool (ltB d kind a i))) {p q:Nat} (l23:env L 23=.one (.box p 0)) (l24:env L 24=.one (.box q 0)) (hp:ob p=some (.box (rC top))) (hq:ob q=some (.box (rC want))) (hpq:p≠q) (hqn:q<nx) (hpn:p<nx)
  (k1:∀ob fz,callV (evF E n) Id.y1l [.agg (rC want),.agg (rC top)] ob fz=some (.fzd fz (.one (.int .i64 (cmpQ want top))))) (k2:∀ob fz,callV (evF E n) Id.y2b [.agg (rC top)] ob fz=some (.fzd fz (.agg (rC (-top)))))
  (k3:∀ob fz,callV (evF E n) Id.y1l [.agg (rC (if top<want then top else want)),.agg (rC (-top))] ob fz=some (.fzd fz (.one (.int .i64 (cmpQ (if top<want then top else want) (-top)))))):
  ∃L' ob',(∀T,evC (evF E n) n (.seq (nthC 6 rwIn) (.seq (nthC 7 rwIn) T)) ⟨env L,ob,fz,nx⟩=evC (evF E n) n T ⟨env L',ob',fz,nx⟩)∧RwE L' d k ws kind a h o i∧env L' 20=.one (.bool (flB kind a i))∧env L' 21=.one (.bool (ltB d kind a i))∧
   env L' 24=.one (.box q 0)∧ob' q=some (.box (rC (rcut top want)))∧∀id,id≠q→ob' id=ob id:=by
 obtain ⟨e3,e4,e5,e6,e7,e8,e9,e17,e18,e19⟩:=hL
 have gpq:(p=q)=False:=by simp only [eq_iff_iff,iff_false];exact hpq
 have gqp:(q=p)=False:=by simp only [eq_iff_iff,iff_false];exact Ne.symm hpq
 have lq:(q<nx)=True:=by simp only [eq_iff_iff,iff_true];exact hqn
 have lp:(p<nx)=True:=by simp only [eq_iff_iff,iff_true];exact hpn
 unfold rcut
 by_cases c1:top<want
 ·have f1:(cmpQ want top>0)=True:=by rw [y7w,eq_iff_iff,iff_true];exact c1
  simp only [if_pos c1] at k3 ⊢
  by_cases c2:top< -top
  ·have f2:(cmpQ top (-top)<0)=True:=by rw [yc1,eq_iff_iff,iff_true];exact c2
   rw [if_pos c2]
   obtain ⟨r,hr0⟩:∃r,(fun T=>evC (evF E n) n (.seq (nthC 6 rwIn) (.seq (nthC 7 rwIn) T)) ⟨env L,ob,fz,nx⟩)=r:=⟨_,rfl⟩
   have hr:=hr0
   unfold rwIn Fn.y06 at hr
   simp only [nthC,go_sem,e3,e4,e5,e6,e7,e8,e9,e17,e18,e19,l20,l21,l23,l24,hp,hq,k1,k2,k3,gpq,gqp,lq,lp,f1,f2] at hr
   have h2:=fun T=>congrFun (hr0.trans hr.symm) T
   exact ⟨_,_,h2,⟨rfl,rfl,rfl,rfl,rfl,rfl,rfl,rfl,rfl,rfl⟩,rfl,rfl,rfl,upd_same _ _ _,fun id hid=>by repeat rw [y00 hid]⟩
  ·have f2:(cmpQ top (-top)<0)=False:=by rw [yc1,eq_iff_iff,iff_false];exact c2
   rw [if_neg c2]
   obtain ⟨r,hr0⟩:∃r,(fun T=>evC (evF E n) n (.seq (nthC 6 rwIn) (.seq (nthC 7 rwIn) T)) ⟨env L,ob,fz,nx⟩)=r:=⟨_,rfl⟩
   have hr:=hr0
   unfold rwIn Fn.y06 at hr
   simp only [nthC,go_sem,e3,e4,e5,e6,e7,e8,e9,e17,e18,e19,l20,l21,l23,l24,hp,hq,k1,k2,k3,gpq,gqp,lq,lp,f1,f2] at hr
   have h2:=fun T=>congrFun (hr0.trans hr.symm) T
   exact ⟨_,_,h2,⟨rfl,rfl,rfl,rfl,rfl,rfl,rfl,rfl,rfl,rfl⟩,rfl,rfl,rfl,upd_same _ _ _,fun id hid=>by repeat rw [y00 hid]⟩
 ·have f1:(cmpQ want top>0)=False:=by rw [y7w,eq_iff_iff,iff_false];exact c1
  simp only [if_neg c1] at k3 ⊢
  by_cases c2:want< -top
  ·have f2:(cmpQ want (-top)<0)=True:=by rw [yc1,eq_iff_iff,iff_true];exact c2
   rw [if_pos c2]
   obtain ⟨r,hr0⟩:∃r,(fun T=>evC (evF E n) n (.seq (nthC 6 rwIn) (.seq (nthC 7 rwIn) T)) ⟨env L,ob,fz,nx⟩)=r:=⟨_,rfl⟩
   have hr:=hr0
   unfold rwIn Fn.y06 at hr
   simp only [nthC,go_sem,e3,e4,e5,e6,e7,e8,e9,e17,e18,e19,l20,l21,l23,l24,hp,hq,k1,k2,k3,gpq,gqp,lq,lp,f1,f2] at hr
   have h2:=fun T=>congrFun (hr0.trans hr.symm) T
   exact ⟨_,_,h2,⟨rfl,rfl,rfl,rfl,rfl,rfl,rfl,rfl,rfl,rfl⟩,rfl,rfl,rfl,upd_same _ _ _,fun id hid=>by repeat rw [y00 hid]⟩
  ·have f2:(cmpQ want (-top)<0)=False:=by rw [yc1,eq_iff_iff,iff_false];exact c2
   rw [if_neg c2]
   obtain ⟨r,hr0⟩:∃r,(fun T=>evC (evF E n) n (.seq (nthC 6 rwIn) (.seq (nthC 7 rwIn) T)) ⟨env L,ob,fz,nx⟩)=r:=⟨_,rfl⟩
   have hr:=hr0
   unfold rwIn Fn.y06 at hr
   simp only [nthC,go_sem,e3,e4,e5,e6,e7,e8,e9,e17,e18,e19,l20,l21,l23,l24,hp,hq,k1,k2,k3,gpq,gqp,lq,lp,f1,f2] at hr
   have h2:=fun T=>congrFun (hr0.trans hr.symm) T
   exact ⟨_,_,h2,⟨rfl,rfl,rfl,rfl,rfl,rfl,rfl,rfl,rfl,rfl⟩,rfl,rfl,rfl,hq,fun id hid=>rfl⟩
theorem RW.len {q:Rat} {c:List AV} (h:RW q c):c.length=4:=by
 obtain ⟨x,y,z,w,rfl⟩:=h.cells4;rfl
theorem yx5 {hs:List Rat} {hv:Nat} {es:List (List AV)} {t:Rat} (hL:RwE L d k ws kind a h o i) (B:RwB ob nx m h o hs hv es) (l20:env L 20=.one (.bool (flB kind a i))) (l21:env L 21=.one (.bool (ltB d kind a i))) {q:Nat} (l24:env L 24=.one (.box q 0)) (hq:ob q=some (.box (rC t))) (hqo:∀id ver,o=.rsl id ver 8 0 es.length false→id≠q) (hqn:q<nx)
  {os:List Wt} (hos:WtRs os es) (hai:os.length=i) (hi:i<2^20):
  ∃L' ob' v tc,(∀T,evC (evF E n) n (.seq (nthC 8 rwIn) T) ⟨env L,ob,fz,nx⟩=evC (evF E n) n T ⟨env L',ob',fz,nx⟩)∧RwE L' d k ws kind a h o i∧env L' 20=.one (.bool (flB kind a i))∧env L' 21=.one (.bool (ltB d kind a i))∧
   env L' 24=.one (.box q 0)∧ob' q=some (.box tc)∧RW v tc∧(¬(kind=2∧a≤i)→v=t)∧(kind=2→a≤i→a=0→v=0)∧(kind=2→a≤i→0<a→∀x,(os.map Wt.last)[a-1]? =some x→v=x)∧∀id,id≠q→ob' id=ob id:=by
 obtain ⟨e3,e4,e5,e6,e7,e8,e9,e17,e18,e19⟩:=hL
 obtain ⟨o0,o1,o5,-,n6,out⟩:=B
 by_cases c1:kind=2
 ·have f1:(((kind:Nat):Int)==2)=true:=by simp;omega
  by_cases c2:a≤i
  ·have hfl:flB kind a i=true:=decide_eq_true ⟨by omega,c2⟩
   rw [hfl] at l20 ⊢
   have zput:put (rC t) 0 [.bool false,.nils,.bool false,.nils]=some [.bool false,.nils,.bool false,.nils]:=y64 (by rw [y5q];rfl)
   by_cases c3:0<a
   ·have f3:(((a:Nat):Int)>0)=True:=by simp only [eq_iff_iff,iff_true];omega
    have hal:a-1<os.length:=by omega
    obtain ⟨x,hx⟩:∃x,os[a-1]? =some x:=⟨os[a-1],by simp [hal]⟩
    obtain ⟨e,he,tc,hrw,rfl⟩:=hos.get hx
    have hlen:=hos.len
    rcases out with ⟨rfl,-⟩ | ⟨id,ver,rfl,hid,h6,h7⟩
    ·simp at hlen;omega
    have hne:=hqo id ver rfl
    have gq:(q=id)=False:=by simp only [eq_iff_iff,iff_false];exact Ne.symm hne
    have r8:rowAt ob id ver=some (8,es):=y46 hid
    have r8':∀y,rowAt (upd ob q y) id ver=some (8,es):=fun y=>by rw [y4z hne];exact r8
    have ok8:=hos.okSz
    have la:((a-1:Nat)<es.length)=True:=by simp only [eq_iff_iff,iff_true];omega
    have ble1:Nat.ble (0+es.length) es.length=true:=by simp
    have w:IntKind.i64.wrap (((a:Nat):Int)-1)=((a-1:Nat):Int):=by rw [wrap_i64 (by omega)];omega
    have s4:sub (tc++rC x.heat) 0 4=some tc:=y8b hrw.len
    have l4:=hrw.len
    have tput:∀y1 y2 y3 y4:AV,put [y1,y2,y3,y4] 0 tc=some tc:=fun _ _ _ _=>y64 (by rw [l4];rfl)
    obtain ⟨r,hr0⟩:∃r,(fun T=>evC (evF E n) n (.seq (nthC 8 rwIn) T) ⟨env L,ob,fz,nx⟩)=r:=⟨_,rfl⟩
    have hr:=hr0
    unfold rwIn Fn.y06 at hr
    simp only [nthC,go_sem,e3,e4,e5,e6,e7,e8,e9,e17,e18,e19,l20,l21,l24,hq,f1,f3,↓zput,w,r8,r8',he,ok8,la,ble1,↓s4,l4,↓tput,gq] at hr
    have h2:=fun T=>congrFun (hr0.trans hr.symm) T
    refine ⟨_,_,x.last,tc,h2,⟨rfl,rfl,rfl,rfl,rfl,rfl,rfl,rfl,rfl,rfl⟩,rfl,rfl,rfl,upd_same _ _ _,hrw,fun hn=>absurd ⟨c1,c2⟩ hn,fun _ _ h0=>by omega,fun _ _ _ y hy=> ?_,fun id hid=>by repeat rw [y00 hid]⟩
    rw [List.getElem?_map,hx] at hy
    exact Option.some.inj hy
   ·have f3:(((a:Nat):Int)>0)=False:=by simp only [eq_iff_iff,iff_false];omega
    obtain ⟨r,hr0⟩:∃r,(fun T=>evC (evF E n) n (.seq (nthC 8 rwIn) T) ⟨env L,ob,fz,nx⟩)=r:=⟨_,rfl⟩
    have hr:=hr0
    unfold rwIn Fn.y06 at hr
    simp only [nthC,go_sem,e3,e4,e5,e6,e7,e8,e9,e17,e18,e19,l20,l21,l24,hq,f1,f3,↓zput] at hr
    have h2:=fun T=>congrFun (hr0.trans hr.symm) T
    exact ⟨_,_,0,_,h2,⟨rfl,rfl,rfl,rfl,rfl,rfl,rfl,rfl,rfl,rfl⟩,rfl,rfl,rfl,upd_same _ _ _,.zero,fun hn=>absurd ⟨c1,c2⟩ hn,fun _ _ _=>rfl,fun _ _ h0=>by omega,fun id hid=>by repeat rw [y00 hid]⟩
  ·have hfl:flB kind a i=false:=decide_eq_false fun h=>c2 h.2
   rw [hfl] at l20 ⊢
   obtain ⟨r,hr0⟩:∃r,(fun T=>evC (evF E n) n (.seq (nthC 8 rwIn) T) ⟨env L,ob,fz,nx⟩)=r:=⟨_,rfl⟩
   have hr:=hr0
   unfold rwIn Fn.y06 at hr
   simp only [nthC,go_sem,e3,e4,e5,e6,e7,e8,e9,e17,e18,e19,l20,l21,l24,f1] at hr
   have h2:=fun T=>congrFun (hr0.trans hr.symm) T
   exact ⟨_,_,t,_,h2,⟨rfl,rfl,rfl,rfl,rfl,rfl,rfl,rfl,rfl,rfl⟩,rfl,rfl,rfl,hq,.self _,fun _=>rfl,fun _ h=>absurd h c2,fun _ h=>absurd h c2,fun id hid=>rfl⟩
 ·have f1:(((kind:Nat):Int)==2)=false:=by simp;omega
  obtain ⟨r,hr0⟩:∃r,(fun T=>evC (evF E n) n (.seq (nthC 8 rwIn) T) ⟨env L,ob,fz,nx⟩)=r:=⟨_,rfl⟩
  have hr:=hr0
  unfold rwIn Fn.y06 at hr
  simp only [nthC,go_sem,e3,e4,e5,e6,e7,e8,e9,e17,e18,e19,l20,l21,l24,f1] at hr
  have h2:=fun T=>congrFun (hr0.trans hr.symm) T
  exact ⟨_,_,t,_,h2,⟨rfl,rfl,rfl,rfl,rfl,rfl,rfl,rfl,rfl,rfl⟩,rfl,rfl,rfl,hq,.self _,fun _=>rfl,fun h=>absurd h c1,fun h=>absurd h c1,fun id hid=>rfl⟩
theorem yzj {v:Rat} {tc:List AV} (hL:RwE L d k ws kind a h o i) (l20:env L 20=.one (.bool (flB kind a i))) (l21:env L 21=.one (.bool (ltB d kind a i))) {q:Nat} (l24:env L 24=.one (.box q 0)) (hq:ob q=some (.box tc)) (hv:RW v tc):
  ∃L' ob' tc',(∀T,evC (evF E n) n (.seq (nthC 9 rwIn) T) ⟨env L,ob,fz,nx⟩=evC (evF E n) n T ⟨env L',ob',fz,nx⟩)∧RwE L' d k ws kind a h o i∧env L' 24=.one (.box q 0)∧ob' q=some (.box tc')∧
   RW (if (kind=1∧a≤i)∨(0<kind∧a≤i∧d≤i-a) then 0 else v) tc'∧∀id,id≠q→ob' id=ob id:=by
 obtain ⟨e3,e4,e5,e6,e7,e8,e9,e17,e18,e19⟩:=hL
 have zput:put tc 0 [.bool false,.nils,.bool false,.nils]=some [.bool false,.nils,.bool false,.nils]:=y64 (by rw [hv.len];rfl)
 have zero:∀fl lt:Bool,env L 20=.one (.bool fl)→env L 21=.one (.bool lt)→((((kind:Nat):Int)==1)&&fl || lt)=true→
   ∃L' ob' tc',(∀T,evC (evF E n) n (.seq (nthC 9 rwIn) T) ⟨env L,ob,fz,nx⟩=evC (evF E n) n T ⟨env L',ob',fz,nx⟩)∧RwE L' d k ws kind a h o i∧env L' 24=.one (.box q 0)∧ob' q=some (.box tc')∧RW 0 tc'∧∀id,id≠q→ob' id=ob id:=by
  intro fl lt l20 l21 hb
  obtain ⟨r,hr0⟩:∃r,(fun T=>evC (evF E n) n (.seq (nthC 9 rwIn) T) ⟨env L,ob,fz,nx⟩)=r:=⟨_,rfl⟩
  have hr:=hr0
  unfold rwIn Fn.y06 at hr
  cases c:(((kind:Nat):Int)==1)<;>cases fl<;>cases lt<;>rw [c] at hb<;>first
   |(exact absurd hb (by decide))
   |(simp only [nthC,go_sem,e3,e4,e5,e6,e7,e8,e9,e17,e18,e19,l20,l21,l24,c,hq,↓zput] at hr
     have h2:=fun T=>congrFun (hr0.trans hr.symm) T
     exact ⟨_,_,_,h2,⟨rfl,rfl,rfl,rfl,rfl,rfl,rfl,rfl,rfl,rfl⟩,rfl,upd_same _ _ _,.zero,fun id hid=>by repeat rw [y00 hid]⟩)
 have same:∀fl lt:Bool,env L 20=.one (.bool fl)→env L 21=.one (.bool lt)→((((kind:Nat):Int)==1)&&fl || lt)=false→
   ∃L' ob' tc',(∀T,evC (evF E n) n (.seq (nthC 9 rwIn) T) ⟨env L,ob,fz,nx⟩=evC (evF E n) n T ⟨env L',ob',fz,nx⟩)∧RwE L' d k ws kind a h o i∧env L' 24=.one (.box q 0)∧ob' q=some (.box tc')∧RW v tc'∧∀id,id≠q→ob' id=ob id:=by
  intro fl lt l20 l21 hb
  obtain ⟨r,hr0⟩:∃r,(fun T=>evC (evF E n) n (.seq (nthC 9 rwIn) T) ⟨env L,ob,fz,nx⟩)=r:=⟨_,rfl⟩
  have hr:=hr0
  unfold rwIn Fn.y06 at hr
  cases c:(((kind:Nat):Int)==1)<;>cases fl<;>cases lt<;>rw [c] at hb<;>first
   |(exact absurd hb (by decide))
   |(simp only [nthC,go_sem,e3,e4,e5,e6,e7,e8,e9,e17,e18,e19,l20,l21,l24,c] at hr
     have h2:=fun T=>congrFun (hr0.trans hr.symm) T
     exact ⟨_,_,_,h2,⟨rfl,rfl,rfl,rfl,rfl,rfl,rfl,rfl,rfl,rfl⟩,rfl,hq,hv,fun id hid=>rfl⟩)
 by_cases c:(kind=1∧a≤i)∨(0<kind∧a≤i∧d≤i-a)
 ·rw [if_pos c]
  refine zero _ _ l20 l21 ?_
  rcases c with ⟨c1,c2⟩ | c
  ·have f1:(((kind:Nat):Int)==1)=true:=by simp;omega
   have hfl:flB kind a i=true:=decide_eq_true ⟨by omega,c2⟩
   rw [f1,hfl];rfl
  ·have hlt:ltB d kind a i=true:=decide_eq_true c
   rw [hlt,Bool.or_true]
 ·rw [if_neg c]
  refine same _ _ l20 l21 ?_
  have hlt:ltB d kind a i=false:=decide_eq_false fun h=>c (.inr h)
  rw [hlt,Bool.or_false]
  by_cases c1:kind=1
  ·have hfl:flB kind a i=false:=decide_eq_false fun h=>c (.inl ⟨c1,h.2⟩)
   rw [hfl,Bool.and_false]
  ·have f1:(((kind:Nat):Int)==1)=false:=by simp;omega
   rw [f1];rfl
end
end Go.Ev
namespace Go.Ev
def wIn:ACode:=match Fn.y1w with | .seq _ (.seq _ (.seq (.block _ a) _))=>a | _=>.skip
def wRD:ACode:=match wIn with | .seq _ (.seq a _)=>a | _=>.skip
def wFL:ACode:=match wIn with | .seq _ (.seq _ (.seq _ (.seq _ (.seq a _))))=>a | _=>.skip
def wPut (c r f:ACode):ACode:=match c with
 | .seq a (.seq b (.seq (.block k (.seq r1 (.seq _ (.seq r3 (.seq r4 (.seq _ q)))))) z))=>.seq a (.seq b (.seq (.block k (.seq r1 (.seq r (.seq r3 (.seq r4 (.seq f q)))))) z))
 | c=>c
theorem w_put:Fn.y1w=wPut Fn.y1w wRD wFL:=rfl
structure WtB (ob:Nat→Option AObj) (m:Mt) (b:Int) (d k kind:Nat) (at_:Int) (w:Wt) (lc:List AV):Prop where
 o2:ob 2=some (.box (qC w.heat))
 o3:ob 3=some (.box [.int .u8 (kind:Int),.int .i64 at_])
 o15:ob 15=some (.box (gC b m.T m.H m.C m.M m.s d k))
 o18:ob 18=some (.box lc)
 o20:ob 20=some (.box (qC w.read))
 lq:LQ w.last lc
section
variable (m:Mt) (b:Int) (d k kind:Nat) (at_:Int) (w:Wt)
theorem w_rd (n:Nat) (ob:Nat→Option AObj) (fz:Nat→Nat) (nx i iw:Nat) (lc:List AV) (y18 y53 y54 y55:SV) (h3:ob 3=some (.box [.int .u8 (kind:Int),.int .i64 at_])) (h2:ob 2=some (.box (qC w.heat))) (h20:ob 20=some (.box (qC w.read))):
  ∃X' ob',evC (evF E n) n wRD ⟨env [(3,.one (.int .i64 (d:Int))),(9,.one (.box 2 0)),(13,.one (.box 3 0)),(16,.one (.box 15 0)),(18,y18),(19,.one (.box 18 0)),(20,.one (.box 20 0)),(21,.one (.int .i64 (i:Int))),(22,.one (.box iw 0)),(53,y53),(54,y54),(55,y55)],ob,fz,nx⟩=
   some (.nrm,⟨env ((3,.one (.int .i64 (d:Int)))::(9,.one (.box 2 0))::(13,.one (.box 3 0))::(16,.one (.box 15 0))::(18,y18)::(19,.one (.box 18 0))::(20,.one (.box 20 0))::(21,.one (.int .i64 (i:Int)))::(22,.one (.box iw 0))::(53,y53)::(54,y54)::(55,y55)::X'),ob',fz,nx⟩)∧
   ob' 20=some (.box (qC (Mt.rd kind at_ (i:Int) w)))∧∀id,id≠20→ob' id=ob id:=by
 unfold Mt.rd
 by_cases c1:kind≠3
 ·have e1:(((kind:Nat):Int) !=3)=true:=by simp;omega
  rw [if_pos (.inl c1)]
  refine ⟨[],upd ob 20 (.box (qC w.heat)), ?_,upd_same _ _ _,fun id hid=>y00 hid⟩
  unfold wRD wIn Fn.y1w
  simp only [go_sem,h3,h2,h20,e1]
 ·have e1:(((kind:Nat):Int) !=3)=false:=by simp;omega
  by_cases c2:(i:Int)≤at_
  ·have e2:((i:Int)≤at_)=True:=by simp only [eq_iff_iff,iff_true];exact c2
   rw [if_pos (.inr c2)]
   refine ⟨[],upd ob 20 (.box (qC w.heat)), ?_,upd_same _ _ _,fun id hid=>y00 hid⟩
   unfold wRD wIn Fn.y1w
   simp only [go_sem,h3,h2,h20,e1,e2]
  ·have e2:((i:Int)≤at_)=False:=by simp only [eq_iff_iff,iff_false];exact c2
   rw [if_neg (by simp only [not_or];exact ⟨c1,c2⟩)]
   refine ⟨[(68,.one (.bool false))],ob, ?_,h20,fun id hid=>rfl⟩
   unfold wRD wIn Fn.y1w
   simp only [go_sem,h3,e1,e2]
theorem w_fl (n:Nat) (ob:Nat→Option AObj) (fz:Nat→Nat) (nx i it:Nat) (lc:List AV) (y18 y53 y54 y55:SV) (t:Rat) (hd:d≤16) (hi:i<2^20) (ha:0≤at_) (ha':at_<9223372036854775808) (h3:ob 3=some (.box [.int .u8 (kind:Int),.int .i64 at_])) (h18:ob 18=some (.box lc)) (lq:LQ w.last lc) (ht:ob it=some (.box (qC t))) (hit:20<it):
  ∃L' ob' tc,evC (evF E n) n wFL ⟨env [(3,.one (.int .i64 (d:Int))),(9,.one (.box 2 0)),(13,.one (.box 3 0)),(16,.one (.box 15 0)),(18,y18),(19,.one (.box 18 0)),(20,.one (.box 20 0)),(21,.one (.int .i64 (i:Int))),(24,.one (.box it 0)),(53,y53),(54,y54),(55,y55)],ob,fz,nx⟩=some (.nrm,⟨env L',ob',fz,nx⟩)∧
   env L' 3=.one (.int .i64 (d:Int))∧env L' 9=.one (.box 2 0)∧env L' 13=.one (.box 3 0)∧env L' 16=.one (.box 15 0)∧env L' 18=y18∧env L' 19=.one (.box 18 0)∧env L' 20=.one (.box 20 0)∧env L' 24=.one (.box it 0)∧env L' 53=y53∧env L' 54=y54∧env L' 55=y55∧
   LQ (if kind≠0∧at_≤(i:Int) then (if kind=1∨¬(i:Int)-at_<(d:Int) then 0 else if kind=2 then w.last else t) else t) tc∧ob' it=some (.box tc)∧∀id,id≠it→ob' id=ob id:=by
 have w1:IntKind.i64.wrap ((i:Int)-at_)=(i:Int)-at_:=wrap_i64 (by omega)
 have lsub:=lq.sub
 have lput:put (qC t) 0 lc=some lc:=y64 (by rw [lq.len];rfl)
 have zput:put (qC t) 0 [.bool false,.nils,.nils]=some [.bool false,.nils,.nils]:=y64 rfl
 have llen:=lq.len
 obtain ⟨r,hr0⟩:∃r,evC (evF E n) n wFL ⟨env [(3,.one (.int .i64 (d:Int))),(9,.one (.box 2 0)),(13,.one (.box 3 0)),(16,.one (.box 15 0)),(18,y18),(19,.one (.box 18 0)),(20,.one (.box 20 0)),(21,.one (.int .i64 (i:Int))),(24,.one (.box it 0)),(53,y53),(54,y54),(55,y55)],ob,fz,nx⟩=r:=⟨_,rfl⟩
 have hr:=hr0
 unfold wFL wIn Fn.y1w at hr
 by_cases c1:kind=0
 ·have e1:(((kind:Nat):Int) !=0)=false:=by simp;omega
  rw [if_neg (by omega)]
  simp only [go_sem,h3,e1] at hr
  rw [hr0,←hr]
  exact ⟨_,ob,qC t,rfl,rfl,rfl,rfl,rfl,rfl,rfl,rfl,rfl,rfl,rfl,rfl,.of _,ht,fun id hid=>rfl⟩
 ·have e1:(((kind:Nat):Int) !=0)=true:=by simp;omega
  by_cases c2:at_≤(i:Int)
  ·have e2:((i:Int)≥at_)=True:=by simp only [eq_iff_iff,iff_true];exact c2
   rw [if_pos ⟨c1,c2⟩]
   by_cases c3:kind=1
   ·have e3:(((kind:Nat):Int)==1)=true:=by simp;omega
    rw [if_pos (.inl c3)]
    simp only [go_sem,h3,e1,e2,e3,w1,ht,↓zput] at hr
    rw [hr0,←hr]
    exact ⟨_,upd ob it (.box [.bool false,.nils,.nils]),[.bool false,.nils,.nils],rfl,rfl,rfl,rfl,rfl,rfl,rfl,rfl,rfl,rfl,rfl,rfl,.inr ⟨rfl,rfl⟩,upd_same _ _ _,fun id hid=>y00 hid⟩
   ·have e3:(((kind:Nat):Int)==1)=false:=by simp;omega
    by_cases c4:(i:Int)-at_<(d:Int)
    ·have e4:((i:Int)-at_<(d:Int))=True:=by simp only [eq_iff_iff,iff_true];exact c4
     rw [if_neg (by omega)]
     by_cases c5:kind=2
     ·have e5:(((kind:Nat):Int)==2)=true:=by simp;omega
      rw [if_pos c5]
      simp only [go_sem,h3,e1,e2,e3,e4,e5,w1,ht,h18,↓lsub,↓lput,llen] at hr
      rw [hr0,←hr]
      exact ⟨_,upd ob it (.box lc),lc,rfl,rfl,rfl,rfl,rfl,rfl,rfl,rfl,rfl,rfl,rfl,rfl,lq,upd_same _ _ _,fun id hid=>y00 hid⟩
     ·have e5:(((kind:Nat):Int)==2)=false:=by simp;omega
      rw [if_neg c5]
      simp only [go_sem,h3,e1,e2,e3,e4,e5,w1] at hr
      rw [hr0,←hr]
      exact ⟨_,ob,qC t,rfl,rfl,rfl,rfl,rfl,rfl,rfl,rfl,rfl,rfl,rfl,rfl,.of _,ht,fun id hid=>rfl⟩
    ·have e4:((i:Int)-at_<(d:Int))=False:=by simp only [eq_iff_iff,iff_false];exact c4
     rw [if_pos (.inr c4)]
     simp only [go_sem,h3,e1,e2,e3,e4,w1,ht,↓zput] at hr
     rw [hr0,←hr]
     exact ⟨_,upd ob it (.box [.bool false,.nils,.nils]),[.bool false,.nils,.nils],rfl,rfl,rfl,rfl,rfl,rfl,rfl,rfl,rfl,rfl,rfl,rfl,.inr ⟨rfl,rfl⟩,upd_same _ _ _,fun id hid=>y00 hid⟩
  ·have e2:((i:Int)≥at_)=False:=by simp only [eq_iff_iff,iff_false];omega
   rw [if_neg (by omega)]
   simp only [go_sem,h3,e1,e2] at hr
   rw [hr0,←hr]
   exact ⟨_,ob,qC t,rfl,rfl,rfl,rfl,rfl,rfl,rfl,rfl,rfl,rfl,rfl,rfl,.of _,ht,fun id hid=>rfl⟩
end
def Wt.c (o:Wt):List AV:=qC o.last++qC o.heat
def WtL (o:Wt) (e:List AV):Prop:=∃tc,LQ o.last tc∧e=tc++qC o.heat
def WtLs:List Wt→List (List AV)→Prop
 | [],[]=>True
 | o::r,e::s=>WtL o e∧WtLs r s
 | _,_=>False
theorem WtLs.snoc:∀{ms:List Wt} {es:List (List AV)} {o:Wt} {e:List AV},WtLs ms es→WtL o e→WtLs (ms++[o]) (es++[e])
 | [],[],_,_,_,h=>⟨h,trivial⟩
 | _::r,_::s,_,_,h,k=>⟨h.1,WtLs.snoc h.2 k⟩
theorem WtLs.len:∀{ms:List Wt} {es:List (List AV)},WtLs ms es→es.length=ms.length
 | [],[],_=>rfl
 | _::r,_::s,h=>by rw [List.length_cons,List.length_cons,WtLs.len h.2]
theorem y5f {α:Type} {g:(Nat→Nat)→α→Option ((Nat→Nat)×α)} {x y:α} {r r':List α} (h:∀fz,g fz x=some (fz,y)) (k:∀fz,mapFz g fz r=some (fz,r')):∀fz,mapFz g fz (x::r)=some (fz,y::r'):=fun fz=>by
 simp only [mapFz,h,k]
theorem yzk (o:Wt):CanL o.c:=.app (.q _) (.q _)
theorem WtL.frz {o:Wt} {e:List AV} (h:WtL o e) (ob:Nat→Option AObj) (k:Nat):∀fz,mapFz (Ev.frz ob (k+1)) fz e=some (fz,o.c):=by
 obtain ⟨ac,hq,rfl⟩:=h
 rcases hq with rfl | ⟨h0,rfl⟩
 ·exact fun fz=>y60 _ fun x hx=>(yzk o x hx).frz ob k fz
 ·have e:o.c=.bool false::.sl false []::.sl false []::qC o.heat:=by unfold Wt.c;rw [h0,y8x];rfl
  rw [e]
  exact y5f (fun fz=>rfl) (y5f (fun fz=>rfl) (y5f (fun fz=>rfl) fun fz=>y60 _ fun x hx=>(CanL.q o.heat x hx).frz ob k fz))
theorem WtLs.frz (ob:Nat→Option AObj) (k:Nat):∀{ms:List Wt} {es:List (List AV)},WtLs ms es→∀fz,mapFz (mapFz (Ev.frz ob (k+1))) fz es=some (fz,ms.map Wt.c)
 | [],[],_=>fun fz=>rfl
 | _::r,_::s,h=>y5f (h.1.frz ob k) (WtLs.frz ob k h.2)
def OutW (ob:Nat→Option AObj) (nx:Nat) (x:AV) (ms:List Wt):Prop:=
 (ms=[]∧x=.nils)∨∃id ver es,x=.rsl id ver 6 0 es.length false∧ob id=some (.row 6 es ver)∧id<nx∧WtLs ms es
theorem OutW.frz {ob:Nat→Option AObj} {nx:Nat} {x:AV} {ms:List Wt} (h:OutW ob nx x ms):∃g:(Nat→Nat)→(Nat→Nat),∀fz,frzS ob fz (.one x)=some (g fz,.one (.sl false (ms.map Wt.c))):=by
 rcases h with ⟨rfl,rfl⟩ | ⟨id,ver,es,rfl,hid,_,hm⟩
 ·exact ⟨fun fz=>fz,fun fz=>rfl⟩
 ·refine ⟨fun fz=>raise fz id (0+es.length),fun fz=> ?_⟩
  have hb:Nat.ble (0+es.length) es.length=true:=by simp
  have h1:Ev.frz ob DEPTH fz (.rsl id ver 6 0 es.length false)=some (raise fz id (0+es.length),.sl false (ms.map Wt.c)):=by
   rw [show DEPTH=6+1+1 from rfl,y94,y46 hid]
   simp only [hb,cond_true,List.drop_zero,List.take_length]
   rw [hm.frz ob 6]
  simp only [frzS,h1]
def watS (d:Nat) (x:AV) (ws:List (List AV)) (i:Nat) (X:List (Nat×SV)):List (Nat×SV):=
 (3,.one (.int .i64 (d:Int)))::(9,.one (.box 2 0))::(13,.one (.box 3 0))::(16,.one (.box 15 0))::(18,.one x)::(19,.one (.box 18 0))::(20,.one (.box 20 0))::(53,.one (.sl false ws))::(54,.one (.int .i64 (ws.length:Int)))::(55,.one (.int .i64 (i:Int)))::X
set_option maxHeartbeats 1000000 in
theorem yzm (m:Mt) (ms:MtS m) (b:Int) (d k kind:Nat) (hd:d≤16) (hk:k≤64) (at_:Int) (ha:0≤at_) (ha':at_<9223372036854775808) (w:Wt) (want:Rat) (ws:List (List AV)) (i:Nat) (gw:ws[i]? =some (qC want)) (o3w:okSz 3 ws=true) (hi:i<ws.length) (hlen:ws.length<2^20)
  (hh:SmQ 64000 w.heat) (hr:SmQ 64000 w.read) (hw:SmQ 256 want) (htop:SmQ 512 (m.top d k (Mt.rd kind at_ (i:Int) w))) (ht:SmQ 512 (m.tq d k kind at_ (i:Int) w want)):
  ∃N,∀n,N≤n→∀(ob:Nat→Option AObj) (fz:Nat→Nat) (nx:Nat) (x:AV) (os:List Wt) (lc:List AV) (X:List (Nat×SV)),22≤nx→WtB ob m b d k kind at_ w lc→OutW ob nx x os→os.length=i→
   ∃ob' fz' nx' x' lc',evC (evF E n) n Fn.y1w ⟨env (watS d x ws i X),ob,fz,nx⟩=some (.nrm,⟨env (watS d x' ws (i+1) []),ob',fz',nx'⟩)∧nx≤nx'∧
    WtB ob' m b d k kind at_ (m.step d k kind at_ (i:Int) w want) lc'∧OutW ob' nx' x' (os++[m.step d k kind at_ (i:Int) w want]):=by
 have hrd:SmQ 64000 (Mt.rd kind at_ (i:Int) w):=by unfold Mt.rd;split<;>assumption
 obtain ⟨N1,k1⟩:=cAllowed m ms b d k hd hk (Mt.rd kind at_ (i:Int) w) hrd
 have hw':SmQ 512 want:=hw.mono (by decide)
 unfold Mt.step
 have ecmd:m.cmd d k kind at_ (i:Int) w want=maxQ (-(m.top d k (Mt.rd kind at_ (i:Int) w))) (minQ (m.top d k (Mt.rd kind at_ (i:Int) w)) want):=rfl
 have etq:m.tq d k kind at_ (i:Int) w want=(if kind≠0∧at_≤(i:Int) then (if kind=1∨¬(i:Int)-at_<(d:Int) then 0 else if kind=2 then w.last else m.cmd d k kind at_ (i:Int) w want) else m.cmd d k kind at_ (i:Int) w want):=rfl
 obtain ⟨N2,k2⟩:=cNeg (m.top d k (Mt.rd kind at_ (i:Int) w))
 obtain ⟨N3,k3⟩:=ygg (yno (m.top d k (Mt.rd kind at_ (i:Int) w)) want htop hw' (by decide))
 obtain ⟨N4,k4⟩:=ygg (yxf (-(m.top d k (Mt.rd kind at_ (i:Int) w))) (minQ (m.top d k (Mt.rd kind at_ (i:Int) w)) want) htop.neg (htop.min hw') (by decide))
 rw [←ecmd] at k4
 obtain ⟨N5,k5⟩:=cNext m b d k w.heat (m.tq d k kind at_ (i:Int) w want) ms.h ms.c ms.s hh ht (by decide) (by decide) (by decide)
 refine ⟨N1+N2+N3+N4+N5,fun n hn ob fz nx x os lc X hnx B hO hos=> ?_⟩
 have k1:=k1 n (by omega)
 have k2:=k2 n (by omega)
 have k3:=k3 n (by omega)
 have k4:=k4 n (by omega)
 generalize m.cmd d k kind at_ (i:Int) w want=cmd at etq k4
 obtain ⟨q2,q3,q15,q18,q20,lq⟩:=id B
 have ne:∀c o:Nat,c<22→c≠nx+o:=fun c o hc=>by omega
 obtain ⟨X1,ob1,e1,e20,e1o⟩:=w_rd d kind at_ w n (upd ob (nx+3) (.box (qC want))) fz (nx+6) i (nx+3) lc (.one x) (.one (.sl false ws)) (.one (.int .i64 (ws.length:Int))) (.one (.int .i64 (i:Int))) (by rw [y00 (ne _ _ (by decide))];exact q3) (by rw [y00 (ne _ _ (by decide))];exact q2) (by rw [y00 (ne _ _ (by decide))];exact q20)
 have o1:∀c,c<22→c≠20→ob1 c=ob c:=fun c hc h=>by rw [e1o c h,y00 (ne _ _ hc)]
 have f2:=(o1 2 (by decide) (by decide)).trans q2
 have f3:=(o1 3 (by decide) (by decide)).trans q3
 have f15:=(o1 15 (by decide) (by decide)).trans q15
 have f18:=(o1 18 (by decide) (by decide)).trans q18
 have fw:ob1 (nx+3)=some (.box (qC want)):=by rw [e1o _ (by omega),upd_same]
 generalize m.top d k (Mt.rd kind at_ (i:Int) w)=top at*
 generalize Mt.rd kind at_ (i:Int) w=rd at*
 obtain ⟨L2,ob2,tc,e2,l3,l9,l13,l16,l18,l19,l20,l24,l53,l54,l55,tq,et,e2o⟩:=w_fl d kind at_ w n (upd (upd (upd (upd ob1 (nx+9) (.box (qC top))) (nx+15) (.row 3 [qC top,qC want] 0)) (nx+17) (.row 3 [qC (-top),qC (minQ top want)] 0)) (nx+19) (.box (qC cmd))) (raise (raise fz (nx+15) 2) (nx+17) 2) (nx+21) i (nx+19) lc (.one x) (.one (.sl false ws)) (.one (.int .i64 (ws.length:Int))) (.one (.int .i64 (i:Int))) cmd hd (by omega) ha ha' (by rw [y00 (ne _ _ (by decide)),y00 (ne _ _ (by decide)),y00 (ne _ _ (by decide)),y00 (ne _ _ (by decide))];exact f3) (by rw [y00 (ne _ _ (by decide)),y00 (ne _ _ (by decide)),y00 (ne _ _ (by decide)),y00 (ne _ _ (by decide))];exact f18) lq (upd_same _ _ _) (by omega)
 rw [←etq] at tq
 generalize m.tq d k kind at_ (i:Int) w want=t at*
 have k5:∀ob fz,callV (evF E n) Id.y0o [.agg (gC b m.T m.H m.C m.M m.s d k),.agg (qC w.heat),.agg tc] ob fz=some (.fzd fz (.agg (qC (m.next w.heat t)))):=fun ob fz=>by
  rw [ybt (.agg _ (yc2 _ _ _ _ _ _ _ _)) (y1j _) tq];exact k5 n (by omega) ob fz
 have old:∀c,c<22→c≠20→ob2 c=ob c:=fun c hc h=>by rw [e2o c (by omega),y00 (ne _ _ hc),y00 (ne _ _ hc),y00 (ne _ _ hc),y00 (ne _ _ hc),o1 c hc h]
 have oldr:∀id,22≤id→id<nx→ob2 id=ob id:=fun id h1 h2=>by rw [e2o id (by omega),y00 (by omega),y00 (by omega),y00 (by omega),y00 (by omega),e1o id (by omega),y00 (by omega)]
 have g2:=(old 2 (by decide) (by decide)).trans q2
 have g3:=(old 3 (by decide) (by decide)).trans q3
 have g15:=(old 15 (by decide) (by decide)).trans q15
 have g18:=(old 18 (by decide) (by decide)).trans q18
 have g20:ob2 20=some (.box (qC rd)):=by rw [e2o 20 (by omega),y00 (by omega),y00 (by omega),y00 (by omega),y00 (by omega)];exact e20
 have tsub:=tq.sub
 have tlen:=tq.len
 have lput:put lc 0 tc=some tc:=y64 (by rw [lq.len,tlen])
 have p0:∀z1 z2 z3:AV,∀r:List AV,put (z1::z2::z3::r) 0 tc=some (tc++r):=fun z1 z2 z3 r=>yad (X:=[z1,z2,z3]) (by rw [tlen];rfl)
 have p3:∀r xs:List AV,put (tc++r) 3 xs=(put r 0 xs).map (tc++·):=fun r xs=>y8v tlen 0 xs
 have l6:(tc++qC (m.next w.heat t)).length=6:=by rw [List.length_append,tlen];rfl
 have h1:(((i:Nat):Int)<((ws.length:Nat):Int))=True:=by simp;omega
 have wk:IntKind.i64.wrap ((i+1:Nat):Int)=((i+1:Nat):Int):=wi64 (by omega)
 have nxa:∀a b:Nat,nx+a+b=nx+(a+b):=fun a b=>Nat.add_assoc nx a b
 have c2:∀o,(2=nx+o)=False:=fun o=>by simp only [eq_iff_iff,iff_false];omega
 have c2':∀o,(nx+o=2)=False:=fun o=>by simp only [eq_iff_iff,iff_false];omega
 have c18':∀o,(nx+o=18)=False:=fun o=>by simp only [eq_iff_iff,iff_false];omega
 have c2b:∀o,(nx+o==2)=false:=fun o=>beq_eq_false_iff_ne.2 (by omega)
 have c18b:∀o,(nx+o==18)=false:=fun o=>beq_eq_false_iff_ne.2 (by omega)
 have c15:∀o,(15=nx+o)=False:=fun o=>by simp only [eq_iff_iff,iff_false];omega
 have c18:∀o,(18=nx+o)=False:=fun o=>by simp only [eq_iff_iff,iff_false];omega
 have c20:∀o,(20=nx+o)=False:=fun o=>by simp only [eq_iff_iff,iff_false];omega
 have t2:∀o,(2<nx+o)=True:=fun o=>by simp only [eq_iff_iff,iff_true];omega
 have t15:∀o,(15<nx+o)=True:=fun o=>by simp only [eq_iff_iff,iff_true];omega
 have t18:∀o,(18<nx+o)=True:=fun o=>by simp only [eq_iff_iff,iff_true];omega
 have hmo:WtL ⟨m.next w.heat t,t,rd⟩ (tc++qC (m.next w.heat t)):=⟨tc,tq,rfl⟩
 obtain ⟨r,hr0⟩:∃r,evC (evF E n) n Fn.y1w ⟨env (watS d x ws i X),ob,fz,nx⟩=r:=⟨_,rfl⟩
 have hr:=hr0
 rw [w_put] at hr
 generalize wRD=R1 at hr e1
 generalize wFL=R2 at hr e2
 unfold watS at hr hr0 ⊢
 have fin:∀(ob':Nat→Option AObj),(∀c,c=2∨c=3∨c=15∨c=18∨c=20→ob' c=upd (upd ob2 2 (.box (qC (m.next w.heat t)))) 18 (.box tc) c)→WtB ob' m b d k kind at_ ⟨m.next w.heat t,t,rd⟩ tc:=fun ob' hk=>
  ⟨by rw [hk 2 (by omega),y00 (by decide),upd_same],by rw [hk 3 (by omega),y00 (by decide),y00 (by decide)];exact g3,by rw [hk 15 (by omega),y00 (by decide),y00 (by decide)];exact g15,by rw [hk 18 (by omega),upd_same],by rw [hk 20 (by omega),y00 (by decide),y00 (by decide)];exact g20,tq⟩
 rcases hO with ⟨rfl,rfl⟩ | ⟨id,ver,es,rfl,hid,hidn,hM⟩
 ·simp only [go_sem,wPut,Fn.y1w,h1,gw,o3w,ROOM,add1,wk,nxa,e1,f2,f3,f15,f18,fw,e20,k1,k2,k3,k4,e2,l3,l9,l13,l16,l18,l19,l20,l24,l53,l54,l55,g2,g15,g18,et,↓tsub,tlen,↓lput,↓p0,↓p3,l6,c2,c2',c18',c2b,c18b,c15,c18,c20,t2,t15,t18,k5] at hr
  rw [hr0,←hr]
  refine ⟨_,_,_,_,_,rfl, ?_,fin _ fun c hc=> ?_,.inr ⟨nx+26,0,[tc++qC (m.next w.heat t)],rfl,upd_same _ _ _, ?_,⟨hmo,trivial⟩⟩⟩
  ·omega
  ·rw [y00 (by omega),y00 (by omega)]
  ·omega
 ·have n2:id≠2:=fun e=>by rw [e,q2] at hid;cases hid
  have n18:id≠18:=fun e=>by rw [e,q18] at hid;cases hid
  have n20:id≠20:=fun e=>by rw [e,q20] at hid;cases hid
  have hid2:ob2 id=some (.row 6 es ver):=by
   by_cases hlt:id<22
   ·exact (old id hlt n20).trans hid
   ·exact (oldr id (by omega) hidn).trans hid
  have rid:∀y z,rowAt (upd (upd ob2 2 y) 18 z) id ver=some (6,es):=fun y z=>by
   rw [y4z n18,y4z n2]
   exact y46 hid2
  have kr:∀k ob y,rowAt (upd ob (nx+k) y) id ver=rowAt ob id ver:=fun k ob y=>y4z (by omega)
  have b1:(es.length==es.length)=true:=by simp
  have hel:es.length=i:=by rw [hM.len,hos]
  have w9:(es.length+1)*112≤140737488355328:=by omega
  simp only [go_sem,wPut,Fn.y1w,h1,gw,o3w,ROOM,add1,wk,nxa,e1,f2,f3,f15,f18,fw,e20,k1,k2,k3,k4,e2,l3,l9,l13,l16,l18,l19,l20,l24,l53,l54,l55,g2,g15,g18,et,↓tsub,tlen,↓lput,↓p0,↓p3,l6,c2,c2',c18',c2b,c18b,c15,c18,c20,t2,t15,t18,k5,rid,kr,b1,w9] at hr
  rw [hr0,←hr]
  refine ⟨_,_,_,_,_,rfl, ?_,fin _ fun c hc=> ?_,.inr ⟨id,ver+1,es++[tc++qC (m.next w.heat t)], ?_,upd_same _ _ _, ?_,hM.snoc hmo⟩⟩
  ·omega
  rotate_left
  ·rw [List.length_append];rfl
  ·omega
  have n3:c≠id:=fun e=>by
   subst e
   rcases hc with rfl | rfl | rfl | rfl | rfl
   ·exact n2 rfl
   ·rw [q3] at hid;cases hid
   ·rw [q15] at hid;cases hid
   ·exact n18 rfl
   ·exact n20 rfl
  rw [y00 n3,y00 (by omega)]
end Go.Ev
namespace Go.Ev
def CLe (F F':Caller):Prop:=∀c args s r,F c args s=some r→F' c args s=some r
theorem yiu {F F':Caller} (h:CLe F F') {f:FuncId} {args:List SV} {ob:Nat→Option AObj} {fz:Nat→Nat} {e:Eff} (he:callV F f args ob fz=some e):callV F' f args ob fz=some e:=by
 unfold callV at he ⊢
 cases h1:mapFz (frzS ob) fz args with
 | none=>rw [h1] at he;cases he
 | some p=>
  obtain ⟨fz',args'⟩:=p
  rw [h1] at he
  simp only at he ⊢
  cases h2:F (.fn f) args' Sto.empty with
  | none=>rw [h2] at he;cases he
  | some q=>
   rw [h _ _ _ _ h2]
   rw [h2] at he
   exact he
theorem ysm {F F':Caller} (h:CLe F F') {d:Bool} {rb id:Nat} {st:St} {o:AOp} {e:Eff} (he:evOp F d rb id st o=some e):evOp F' d rb id st o=some e:=by
 cases o with
 | call byref f args=>
  simp only [evOp] at he ⊢
  cases byref with
  | true=>
   simp only [cond_true] at he ⊢
   cases h2:F (.fn f) (args.map (·.ev st.sl)) ⟨st.ob,st.fz,st.nx⟩ with
   | none=>rw [h2] at he;cases he
   | some q=>rw [h _ _ _ _ h2];rw [h2] at he;exact he
  | false=>exact yiu h he
 | callv x args=>
  simp only [evOp] at he ⊢
  split at he
  ·exact yiu h he
  ·rename_i f first caps hne hx
   cases h2:F (.fn f) (first.map .one++args.map (·.ev st.sl)++caps.map .one) ⟨st.ob,st.fz,st.nx⟩ with
   | none=>rw [h2] at he;cases he
   | some q=>rw [h _ _ _ _ h2];rw [h2] at he;exact he
  ·rename_i l hx
   cases h2:F (.rnd l) (args.map (·.ev st.sl)) ⟨st.ob,st.fz,st.nx⟩ with
   | none=>rw [h2] at he;cases he
   | some q=>rw [h _ _ _ _ h2];rw [h2] at he;exact he
  ·cases he
 | _=>exact he
theorem yco {F F':Caller} (h:CLe F F') {d:Bool} {rb i:Nat} {st st':St} {o:AOper} (he:evO F d rb i o st=some st'):evO F' d rb i o st=some st':=by
 unfold evO at he ⊢
 split at he
 ·cases hl:limOk st.sl o.op o.lim with
  | false=>rw [hl] at he;cases he
  | true=>
   rw [hl] at he
   simp only [cond_true] at he ⊢
   cases h2:evOp F d rb (rb+i) st o.op with
   | none=>rw [h2] at he;cases he
   | some q=>rw [ysm h h2];rw [h2] at he;exact he
 ·exact he
 ·cases he
theorem yd5 {F F':Caller} (h:CLe F F') {d:Bool} {rb:Nat}:∀{ops:List AOper} {i:Nat} {st st':St},evOps F d rb i ops st=some st'→evOps F' d rb i ops st=some st'
 | [],i,st,st',he=>he
 | o::r,i,st,st',he=>by
  unfold evOps at he ⊢
  cases h2:evO F d rb i o st with
  | none=>rw [h2] at he;cases he
  | some q=>rw [yco h h2];rw [h2] at he;exact yd5 h he
theorem yh1 {F F':Caller} (h:CLe F F') {rb:Nat} {aos:List AOper}:∀{pm:List (Nat×List (Nat×Opd))} {st st':St},evP F rb aos pm st=some st'→evP F' rb aos pm st=some st'
 | [],st,st',he=>he
 |(j,ks)::r,st,st',he=>by
  unfold evP at he ⊢
  cases hj:aos[j]? with
  | none=>rw [hj] at he;cases he
  | some o=>
   rw [hj] at he
   simp only at he ⊢
   cases h2:evO F true rb j o st with
   | none=>rw [h2] at he;cases he
   | some q=>
    rw [yco h h2]
    rw [h2] at he
    simp only at he ⊢
    cases hk:keepOk st q ks with
    | false=>rw [hk] at he;cases he
    | true=>rw [hk] at he;exact yh1 h he
theorem ycm {b b':St→Option (Ex×St)} (h:∀st r,b st=some r→b' st=some r):∀{k k':Nat} {st:St} {r:Ex×St},k≤k'→loopN b k st=some r→loopN b' k' st=some r
 | 0,k',st,r,hk,he=>by cases he
 | k+1,0,st,r,hk,he=>by omega
 | k+1,k'+1,st,r,hk,he=>by
  unfold loopN at he ⊢
  cases h2:b st with
  | none=>rw [h2] at he;cases he
  | some q=>
   rw [h _ _ h2]
   rw [h2] at he
   obtain ⟨e,st'⟩:=q
   cases e with
   | nrm=>exact ycm h (by omega) he
   | ext id=>exact he
   | ret=>exact he
theorem y62 {F F':Caller} (h:CLe F F') {fuel fuel':Nat} (hf:fuel≤fuel'):∀(a:ACode) {st:St} {r:Ex×St},evC F fuel a st=some r→evC F' fuel' a st=some r
 | .skip,st,r,he=>he
 | .reg d ops na ks,st,r,he=>by
  unfold evC at he ⊢
  cases h2:evOps F d st.nx 0 ops { st with nx:=st.nx+na } with
  | none=>rw [h2] at he;cases he
  | some q=>rw [yd5 h h2];rw [h2] at he;exact he
 | .regp ops pm na ks,st,r,he=>by
  unfold evC at he ⊢
  cases h2:evP F st.nx ops pm { st with nx:=st.nx+na } with
  | none=>rw [h2] at he;cases he
  | some q=>rw [yh1 h h2];rw [h2] at he;exact he
 | .seq a b,st,r,he=>by
  unfold evC at he ⊢
  cases h2:evC F fuel a st with
  | none=>rw [h2] at he;cases he
  | some q=>
   rw [y62 h hf a h2]
   rw [h2] at he
   obtain ⟨e,st'⟩:=q
   cases e with
   | nrm=>exact y62 h hf b he
   | ext id=>exact he
   | ret=>exact he
 | .cond c a b,st,r,he=>by
  unfold evC at he ⊢
  cases h2:isBool (c.ev st.sl) with
  | none=>rw [h2] at he;cases he
  | some t=>
   rw [h2] at he
   cases t with
   | true=>exact y62 h hf a he
   | false=>exact y62 h hf b he
 | .block id a,st,r,he=>by
  unfold evC at he ⊢
  cases h2:evC F fuel a st with
  | none=>rw [h2] at he;cases he
  | some q=>rw [y62 h hf a h2];rw [h2] at he;exact he
 | .loop a,st,r,he=>by
  unfold evC at he ⊢
  exact ycm (fun st r hr=>y62 h hf a hr) hf he
 | .exit id,st,r,he=>he
 | .ret,st,r,he=>he
 | .rangeF g ps asg body,st,r,he=>by
  unfold evC at he ⊢
  split at he
  ·rename_i f first caps hg
   cases h2:F (.fn f) (first.map .one++[.one (.yld (st.nx+1))]++caps.map .one) ⟨upd (upd st.ob st.nx .dfr) (st.nx+1) (.loop ⟨st.sl,ps,asg,body,.ready,none⟩),st.fz,st.nx+2⟩ with
   | none=>rw [h2] at he;cases he
   | some q=>rw [h _ _ _ _ h2];rw [h2] at he;exact he
  ·cases he
theorem ym8 (E:Env):∀n,CLe (evF E n) (evF E (n+1))
 | 0=>fun c args s r h=>by cases c<;>cases h
 | n+1=>fun c args s r h=>by
  have ih:=ym8 E n
  have hC:∀(a:ACode) (st:St) (r:Ex×St),evC (evF E n) n a st=some r→evC (evF E (n+1)) (n+1) a st=some r:=fun a st r hr=>y62 ih (Nat.le_succ n) a hr
  cases c with
  | fn f=>
   rw [evF] at h ⊢
   cases hE:E f with
   | none=>rw [hE] at h;cases h
   | some fn=>
    rw [hE] at h
    simp only at h ⊢
    cases h2:evC (evF E n) n fn.code { sl:=env (ofArgs 0 args),ob:=s.ob,fz:=s.fz,nx:=s.nx } with
    | none=>rw [h2] at h;cases h
    | some q=>rw [hC _ _ _ h2];rw [h2] at h;exact h
  | rnd l=>
   rw [evF] at h ⊢
   split at h
   ·rename_i lr hl
    cases hb:(Nat.beq args.length lr.ps.length&&naOk lr.asg&&naOk lr.body) with
    | false=>rw [hb] at h;cases h
    | true=>
     rw [hb] at h
     simp only [cond_true] at h ⊢
     cases h2:evC (evF E n) n lr.asg { sl:=setPs lr.ps args lr.sl,ob:=s.ob,fz:=s.fz,nx:=s.nx } with
     | none=>rw [h2] at h;cases h
     | some q=>
      rw [hC _ _ _ h2]
      rw [h2] at h
      obtain ⟨e,st⟩:=q
      cases e with
      | ext id=>cases h
      | ret=>cases h
      | nrm=>
       simp only at h ⊢
       split at h
       ·rename_i r1 hr1
        split at h
        ·rename_i hst
         cases h3:evC (evF E n) n lr.body { st with ob:=upd st.ob l (.loop { r1 with st:=.busy }) } with
         | none=>rw [h3] at h;cases h
         | some q=>rw [hC _ _ _ h3];rw [h3] at h;exact h
        ·cases h
       ·cases h
   ·cases h
theorem y6x (E:Env) {n m:Nat} (h:n≤m):CLe (evF E n) (evF E m):=by
 induction h with
 | refl=>exact fun c args s r h=>h
 | step _ ih=>exact fun c args s r h=>ym8 E _ c args s r (ih c args s r h)
theorem yos {E:Env} {n m:Nat} (h:n≤m) {f:FuncId} {args:List SV} {r:SV} (he:evV E n f args=some r):evV E m f args=some r:=by
 unfold evV at he ⊢
 cases h2:evF E n (.fn f) args Sto.empty with
 | none=>rw [h2] at he;cases he
 | some q=>rw [y6x E h _ _ _ _ h2];rw [h2] at he;exact he
end Go.Ev
namespace Go.Ev
abbrev Orc:=FuncId→List SV→Option SV
def callO (O:Orc) (F:Caller) (f:FuncId) (args:List SV) (ob:Nat→Option AObj) (fz:Nat→Nat):Option Eff:=
 match mapFz (frzS ob) fz args with
 | some (fz',args')=>match O f args' with
  | some r=>some (.fzd fz' r)
  | none=>match F (.fn f) args' Sto.empty with
   | some (r,s)=>match frzR s.ob s.fz r with
    | some (_,r')=>some (.fzd fz' r')
    | none=>none
   | none=>none
 | none=>none
def orOp (O:Orc) (F:Caller) (draw:Bool) (rb id:Nat) (st:St) (op:AOp):Option Eff:=match op with
 | .call false f args=>callO O F f (args.map (·.ev st.sl)) st.ob st.fz
 | .callv x args=>match x.ev st.sl with
  | .one (.fn f [] [])=>callO O F f (args.map (·.ev st.sl)) st.ob st.fz
  | _=>evOp F draw rb id st (.callv x args)
 | op=>evOp F draw rb id st op
def orO (O:Orc) (F:Caller) (draw:Bool) (rb i:Nat) (o:AOper) (st:St):Option St:=
 match wants st.sl o.guard with
 | some true=>bif limOk st.sl o.op o.lim then
   (match orOp O F draw rb (rb+i) st o.op with
    | some e=>some (e.apply st (rb+i) o.dst)
    | none=>none)
  else none
 | some false=>some { st with sl:=putS st.sl o.dst SV.undef }
 | none=>none
def orOps (O:Orc) (F:Caller) (draw:Bool) (rb:Nat):Nat→List AOper→St→Option St
 | _,[],st=>some st
 | i,o::r,st=>match orO O F draw rb i o st with
  | some st'=>orOps O F draw rb (i+1) r st'
  | none=>none
def orP (O:Orc) (F:Caller) (rb:Nat) (aos:List AOper):List (Nat×List (Nat×Opd))→St→Option St
 | [],st=>some st
 |(j,ks)::r,st=>match aos[j]? with
  | some o=>match orO O F true rb j o st with
   | some st'=>bif keepOk st st' ks then orP O F rb aos r st' else none
   | none=>none
  | none=>none
def orC (O:Orc) (F:Caller) (fuel:Nat):ACode→St→Option (Ex×St)
 | .skip,st=>some (.nrm,st)
 | .reg draw ops na ks,st=>match orOps O F draw st.nx 0 ops { st with nx:=st.nx+na } with
  | some st'=>some (.nrm,{ st' with sl:=keep ks st'.sl })
  | none=>none
 | .regp ops pm na ks,st=>match orP O F st.nx ops pm { st with nx:=st.nx+na } with
  | some st'=>some (.nrm,{ st' with sl:=keep ks st'.sl })
  | none=>none
 | .seq a b,st=>match orC O F fuel a st with
  | some (.nrm,st')=>orC O F fuel b st'
  | some (e,st')=>some (e,st')
  | none=>none
 | .cond c a b,st=>match isBool (c.ev st.sl) with
  | some t=>bif t then orC O F fuel a st else orC O F fuel b st
  | none=>none
 | .block id a,st=>match orC O F fuel a st with
  | some (.ext id',st')=>bif Nat.beq id' id then some (.nrm,st') else some (.ext id',st')
  | r=>r
 | .loop a,st=>loopN (orC O F fuel a) fuel st
 | .exit id,st=>some (.ext id,st)
 | .ret,st=>some (.ret,st)
 | .rangeF g ps asg body,st=>none
def orF (E:Env) (O:Orc):(n:Nat)→Caller
 | 0,_,_,_=>none
 | n+1,.fn f,args,s=>match E f with
  | some fn=>match orC O (orF E O n) n fn.code { sl:=env (ofArgs 0 args),ob:=s.ob,fz:=s.fz,nx:=s.nx } with
   | some (.nrm,st) | some (.ret,st)=>match resAll st fn.res with
    | some v=>some (v,⟨shut s.ob st.ob,st.fz,st.nx⟩)
    | none=>none
   | _=>none
  | none=>none
 | n+1,.rnd l,args,s=>none
def orV (E:Env) (O:Orc) (n:Nat) (f:FuncId) (args:List SV):Option SV:=
 match orF E O n (.fn f) args Sto.empty with
 | some (r,s)=>match frzR s.ob s.fz r with
  | some (_,r')=>some r'
  | none=>none
 | none=>none
def OrcOk (E:Env) (O:Orc):Prop:=∀f args r,O f args=some r→∃n,evV E n f args=some r
def Sim (E:Env) (F:Caller):Prop:=∀c args s r,F c args s=some r→∃m,evF E m c args s=some r
section
variable {E:Env} {O:Orc} {F:Caller}
theorem yee (hO:OrcOk E O) (hF:Sim E F) {f:FuncId} {args:List SV} {ob:Nat→Option AObj} {fz:Nat→Nat} {e:Eff} (h:callO O F f args ob fz=some e):∃m,callV (evF E m) f args ob fz=some e:=by
 unfold callO at h
 unfold callV
 cases h1:mapFz (frzS ob) fz args with
 | none=>rw [h1] at h;cases h
 | some p=>
  obtain ⟨fz',args'⟩:=p
  rw [h1] at h
  simp only at h ⊢
  cases h2:O f args' with
  | some r=>
   rw [h2] at h
   obtain ⟨n,hn⟩:=hO f args' r h2
   refine ⟨n, ?_⟩
   unfold evV at hn
   cases h3:evF E n (.fn f) args' Sto.empty with
   | none=>rw [h3] at hn;cases hn
   | some q=>
    rw [h3] at hn
    simp only at hn ⊢
    cases h4:frzR q.2.ob q.2.fz q.1 with
    | none=>rw [h4] at hn;cases hn
    | some z=>
     rw [h4] at hn
     cases hn
     exact h
  | none=>
   rw [h2] at h
   simp only at h
   cases h3:F (.fn f) args' Sto.empty with
   | none=>rw [h3] at h;cases h
   | some q=>
    obtain ⟨m,hm⟩:=hF _ _ _ _ h3
    rw [h3] at h
    exact ⟨m,by rw [hm];exact h⟩
theorem yor (hF:Sim E F) {d:Bool} {rb id:Nat} {st:St} {o:AOp} {e:Eff} (he:evOp F d rb id st o=some e):∃m,evOp (evF E m) d rb id st o=some e:=by
 cases o with
 | call byref f args=>
  simp only [evOp] at he ⊢
  cases byref with
  | true=>
   simp only [cond_true] at he ⊢
   cases h2:F (.fn f) (args.map (·.ev st.sl)) ⟨st.ob,st.fz,st.nx⟩ with
   | none=>rw [h2] at he;cases he
   | some q=>
    obtain ⟨m,hm⟩:=hF _ _ _ _ h2
    exact ⟨m,by rw [hm];rw [h2] at he;exact he⟩
  | false=>
   simp only [cond_false] at he ⊢
   exact callV_sim he
 | callv x args=>
  simp only [evOp] at he ⊢
  split at he
  ·exact callV_sim he
  ·rename_i f first caps hne hx
   cases h2:F (.fn f) (first.map .one++args.map (·.ev st.sl)++caps.map .one) ⟨st.ob,st.fz,st.nx⟩ with
   | none=>rw [h2] at he;cases he
   | some q=>
    obtain ⟨m,hm⟩:=hF _ _ _ _ h2
    refine ⟨m, ?_⟩
    rw [hm];rw [h2] at he;exact he
  ·rename_i l hx
   cases h2:F (.rnd l) (args.map (·.ev st.sl)) ⟨st.ob,st.fz,st.nx⟩ with
   | none=>rw [h2] at he;cases he
   | some q=>
    obtain ⟨m,hm⟩:=hF _ _ _ _ h2
    exact ⟨m,by rw [hm];rw [h2] at he;exact he⟩
  ·cases he
 | _=>exact ⟨0,he⟩
where
 callV_sim {f:FuncId} {args:List SV} {ob:Nat→Option AObj} {fz:Nat→Nat} {e:Eff} (h:callV F f args ob fz=some e):∃m,callV (evF E m) f args ob fz=some e:=by
  have h':callO (fun _ _=>none) F f args ob fz=some e:=h
  exact yee (O:=fun _ _=>none) (fun _ _ _ h=>by cases h) hF h'
theorem yyb (hO:OrcOk E O) (hF:Sim E F) {d:Bool} {rb id:Nat} {st:St} {o:AOp} {e:Eff} (he:orOp O F d rb id st o=some e):∃m,evOp (evF E m) d rb id st o=some e:=by
 unfold orOp at he
 split at he
 ·obtain ⟨m,hm⟩:=yee hO hF he
  exact ⟨m,hm⟩
 ·rename_i x args
  split at he
  ·rename_i f hx
   obtain ⟨m,hm⟩:=yee hO hF he
   exact ⟨m,by simp only [evOp,hx];exact hm⟩
  ·exact yor hF he
 ·exact yor hF he
theorem yqo (hO:OrcOk E O) (hF:Sim E F) {d:Bool} {rb i:Nat} {o:AOper} {st st':St} (he:orO O F d rb i o st=some st'):∃m,evO (evF E m) d rb i o st=some st':=by
 unfold orO at he
 unfold evO
 cases hw:wants st.sl o.guard with
 | none=>rw [hw] at he;cases he
 | some b=>
 rw [hw] at he
 cases b with
 | true=>
  simp only at he ⊢
  cases hl:limOk st.sl o.op o.lim with
  | false=>rw [hl] at he;cases he
  | true=>
   rw [hl] at he
   simp only [cond_true] at he ⊢
   cases h2:orOp O F d rb (rb+i) st o.op with
   | none=>rw [h2] at he;cases he
   | some q=>
    obtain ⟨m,hm⟩:=yyb hO hF h2
    exact ⟨m,by rw [hm];rw [h2] at he;exact he⟩
 | false=>exact ⟨0,he⟩
theorem yjz (hO:OrcOk E O) (hF:Sim E F) {d:Bool} {rb:Nat}:∀{ops:List AOper} {i:Nat} {st st':St},orOps O F d rb i ops st=some st'→∃m,evOps (evF E m) d rb i ops st=some st'
 | [],i,st,st',he=>⟨0,he⟩
 | o::r,i,st,st',he=>by
  unfold orOps at he
  cases h2:orO O F d rb i o st with
  | none=>rw [h2] at he;cases he
  | some q=>
   rw [h2] at he
   obtain ⟨m1,h1⟩:=yqo hO hF h2
   obtain ⟨m2,h2⟩:=yjz hO hF he
   refine ⟨max m1 m2, ?_⟩
   unfold evOps
   rw [yco (y6x E (Nat.le_max_left m1 m2)) h1]
   exact yd5 (y6x E (Nat.le_max_right m1 m2)) h2
theorem yqr (hO:OrcOk E O) (hF:Sim E F) {rb:Nat} {aos:List AOper}:∀{pm:List (Nat×List (Nat×Opd))} {st st':St},orP O F rb aos pm st=some st'→∃m,evP (evF E m) rb aos pm st=some st'
 | [],st,st',he=>⟨0,he⟩
 |(j,ks)::r,st,st',he=>by
  unfold orP at he
  cases hj:aos[j]? with
  | none=>rw [hj] at he;cases he
  | some o=>
   rw [hj] at he
   simp only at he
   cases h2:orO O F true rb j o st with
   | none=>rw [h2] at he;cases he
   | some q=>
    rw [h2] at he
    simp only at he
    cases hk:keepOk st q ks with
    | false=>rw [hk] at he;cases he
    | true=>
     rw [hk] at he
     obtain ⟨m1,h1⟩:=yqo hO hF h2
     obtain ⟨m2,h2⟩:=yqr hO hF he
     refine ⟨max m1 m2, ?_⟩
     unfold evP
     simp only [hj,yco (y6x E (Nat.le_max_left m1 m2)) h1,hk,cond_true]
     exact yh1 (y6x E (Nat.le_max_right m1 m2)) h2
theorem yof {b:St→Option (Ex×St)} {a:ACode} (h:∀st r,b st=some r→∃m,evC (evF E m) m a st=some r):∀{k:Nat} {st:St} {r:Ex×St},loopN b k st=some r→∃m,loopN (evC (evF E m) m a) m st=some r
 | 0,st,r,he=>by cases he
 | k+1,st,r,he=>by
  unfold loopN at he
  cases h2:b st with
  | none=>rw [h2] at he;cases he
  | some q=>
   rw [h2] at he
   obtain ⟨m1,h1⟩:=h _ _ h2
   obtain ⟨e,st'⟩:=q
   cases e with
   | nrm=>
    obtain ⟨m2,h3⟩:=yof h he
    have l1:m1≤max m1 m2+1:=by omega
    have l2:m2≤max m1 m2+1:=by omega
    refine ⟨max m1 m2+1, ?_⟩
    rw [loopN,y62 (y6x E l1) l1 a h1]
    exact ycm (fun st r hr=>y62 (y6x E l2) l2 a hr) (by omega) h3
   | ext id=>exact ⟨m1+1,by rw [loopN,y62 (y6x E (Nat.le_succ m1)) (Nat.le_succ m1) a h1];exact he⟩
   | ret=>exact ⟨m1+1,by rw [loopN,y62 (y6x E (Nat.le_succ m1)) (Nat.le_succ m1) a h1];exact he⟩
theorem y98 (hO:OrcOk E O) (hF:Sim E F) {fuel:Nat}:∀(a:ACode) {st:St} {r:Ex×St},orC O F fuel a st=some r→∃m,evC (evF E m) m a st=some r
 | .skip,st,r,he=>⟨0,he⟩
 | .reg d ops na ks,st,r,he=>by
  unfold orC at he
  cases h2:orOps O F d st.nx 0 ops { st with nx:=st.nx+na } with
  | none=>rw [h2] at he;cases he
  | some q=>
   rw [h2] at he
   obtain ⟨m,hm⟩:=yjz hO hF h2
   exact ⟨m,by unfold evC;rw [hm];exact he⟩
 | .regp ops pm na ks,st,r,he=>by
  unfold orC at he
  cases h2:orP O F st.nx ops pm { st with nx:=st.nx+na } with
  | none=>rw [h2] at he;cases he
  | some q=>
   rw [h2] at he
   obtain ⟨m,hm⟩:=yqr hO hF h2
   exact ⟨m,by unfold evC;rw [hm];exact he⟩
 | .seq a b,st,r,he=>by
  unfold orC at he
  cases h2:orC O F fuel a st with
  | none=>rw [h2] at he;cases he
  | some q=>
   rw [h2] at he
   obtain ⟨m1,h1⟩:=y98 hO hF a h2
   obtain ⟨e,st'⟩:=q
   cases e with
   | nrm=>
    obtain ⟨m2,h3⟩:=y98 hO hF b he
    refine ⟨max m1 m2, ?_⟩
    unfold evC
    rw [y62 (y6x E (Nat.le_max_left m1 m2)) (Nat.le_max_left m1 m2) a h1]
    exact y62 (y6x E (Nat.le_max_right m1 m2)) (Nat.le_max_right m1 m2) b h3
   | ext id=>exact ⟨m1,by unfold evC;rw [h1];exact he⟩
   | ret=>exact ⟨m1,by unfold evC;rw [h1];exact he⟩
 | .cond c a b,st,r,he=>by
  unfold orC at he
  cases h2:isBool (c.ev st.sl) with
  | none=>rw [h2] at he;cases he
  | some t=>
   rw [h2] at he
   cases t with
   | true=>
    obtain ⟨m,hm⟩:=y98 hO hF a he
    exact ⟨m,by unfold evC;rw [h2];exact hm⟩
   | false=>
    obtain ⟨m,hm⟩:=y98 hO hF b he
    exact ⟨m,by unfold evC;rw [h2];exact hm⟩
 | .block id a,st,r,he=>by
  unfold orC at he
  cases h2:orC O F fuel a st with
  | none=>rw [h2] at he;cases he
  | some q=>
   rw [h2] at he
   obtain ⟨m,hm⟩:=y98 hO hF a h2
   exact ⟨m,by unfold evC;rw [hm];exact he⟩
 | .loop a,st,r,he=>by
  unfold orC at he
  obtain ⟨m,hm⟩:=yof (fun st r hr=>y98 hO hF a hr) he
  exact ⟨m,by unfold evC;exact hm⟩
 | .exit id,st,r,he=>⟨0,he⟩
 | .ret,st,r,he=>⟨0,he⟩
 | .rangeF g ps asg body,st,r,he=>by cases he
end
theorem yq7 {E:Env} {O:Orc} (hO:OrcOk E O):∀n,Sim E (orF E O n)
 | 0=>fun c args s r h=>by cases c<;>cases h
 | n+1=>fun c args s r h=>by
  have ih:=yq7 hO n
  cases c with
  | fn f=>
   rw [orF] at h
   cases hE:E f with
   | none=>rw [hE] at h;cases h
   | some fn=>
    rw [hE] at h
    simp only at h
    cases h2:orC O (orF E O n) n fn.code { sl:=env (ofArgs 0 args),ob:=s.ob,fz:=s.fz,nx:=s.nx } with
    | none=>rw [h2] at h;cases h
    | some q=>
     rw [h2] at h
     obtain ⟨m,hm⟩:=y98 hO ih fn.code h2
     refine ⟨m+1, ?_⟩
     rw [evF,hE]
     simp only
     rw [hm]
     exact h
  | rnd l=>cases h
theorem ysn {E:Env} {O:Orc} (hO:OrcOk E O) {n:Nat} {f:FuncId} {args:List SV} {r:SV} (h:orV E O n f args=some r):∃m,evV E m f args=some r:=by
 unfold orV at h
 cases h2:orF E O n (.fn f) args Sto.empty with
 | none=>rw [h2] at h;cases h
 | some q=>
  obtain ⟨m,hm⟩:=yq7 hO n _ _ _ _ h2
  exact ⟨m,by unfold evV;rw [hm];rw [h2] at h;exact h⟩
end Go.Ev
namespace Go.Ev
open Go.Dig
def digO:Nat→Nat→Option (List Nat)
 | 0,_=>none
 | k+1,n=>bif Nat.beq n 0 then some [] else match digO k (n / 4294967296) with
  | some l=>some (n%4294967296::l)
  | none=>none
theorem yje:∀(k n:Nat) (l:List Nat),digO k n=some l→l=digs B32 n
 | 0,n,l,h=>by cases h
 | k+1,n,l,h=>by
  unfold digO at h
  cases hn:Nat.beq n 0 with
  | true=>
   rw [hn] at h
   cases h
   rw [Nat.eq_of_beq_eq_true hn,digs_zero]
  | false=>
   rw [hn] at h
   simp only [cond_false] at h
   cases h2:digO k (n / 4294967296) with
   | none=>rw [h2] at h;cases h
   | some l'=>
    rw [h2] at h
    cases h
    have h0:n≠0:=fun e=>by rw [e] at hn;cases hn
    rw [y6n (by decide) h0,yje k _ _ h2]
def valE:List (List AV)→Option Nat
 | []=>some 0
 | [.int .u32 (.ofNat n)]::r=>match valE r with
  | some v=>some (n+4294967296*v)
  | none=>none
 | _=>none
def eqE:List (List AV)→List Nat→Bool
 | [],[]=>true
 | [.int .u32 (.ofNat n)]::r,d::s=>Nat.beq n d&&eqE r s
 | _,_=>false
theorem y11e:∀(es:List (List AV)) (l:List Nat),eqE es l=true→es=natE l:=by
 intro es l
 induction es generalizing l with
 | nil=>
  intro h
  cases l with
  | nil=>rfl
  | cons=>cases h
 | cons e r ih=>
  intro h
  unfold eqE at h
  split at h
  ·rename_i h1;cases h1
  ·rename_i n r' d s h1
   cases h1
   simp only [Bool.and_eq_true,Nat.beq_eq] at h
   rw [ih s h.2,h.1]
   rfl
  ·cases h
def rdN (v:AV):Option Nat:=match v with
 | .sl false es=>match valE es with
  | some n=>match digO 300 n with
   | some l=>bif eqE es l then some n else none
   | none=>none
  | none=>none
 | _=>none
theorem yse {v:AV} {n:Nat} (h:rdN v=some n):v=natV n:=by
 unfold rdN at h
 split at h
 ·split at h
  ·split at h
   ·rename_i es n' _ l hl
    rw [Bool.cond_eq_ite] at h
    split at h
    ·rename_i he
     cases h
     rw [y11e _ _ he,yje _ _ _ hl]
     rfl
    ·cases h
   ·cases h
  ·cases h
 ·cases h
def BIG:Nat:=2^1000
theorem y12e:BIG=2^1000:=by unfold BIG;rfl
theorem ypu {a b:Nat} (h:Nat.blt a b=true):a<b:=Nat.le_of_ble_eq_true h
def rdQ (x:SV):Option (Int×Nat):=match x with
 | .agg [.bool neg,a,b]=>match rdN a,rdN b with
  | some n,some d=>bif Nat.beq (Nat.gcd n (d+1)) 1&&(!neg || !Nat.beq n 0)&&Nat.blt n BIG&&Nat.blt (d+1) BIG then some (bif neg then-(n:Int) else (n:Int),d+1) else none
  | _,_=>none
 | _=>none
theorem ynp {x:SV} {z:Int} {d:Nat} (h:rdQ x=some (z,d)):∃q:Rat,x=qV q∧q.num=z∧q.den=d∧SmQ 1000 q:=by
 unfold rdQ at h
 split at h
 ·rename_i neg a b
  split at h
  ·rename_i n d' ha hb
   rw [Bool.cond_eq_ite] at h
   split at h
   ·rename_i hc
    simp only [Bool.and_eq_true,Bool.or_eq_true,Nat.beq_eq] at hc
    obtain ⟨⟨⟨h1,h2⟩,h3⟩,h4⟩:=hc
    have h3:=ypu h3
    have h4:=ypu h4
    rw [y12e] at h3 h4
    cases h
    have hab:(bif neg then-(n:Int) else (n:Int)).natAbs=n:=by cases neg<;>simp
    refine ⟨⟨bif neg then-(n:Int) else (n:Int),d'+1,by omega,by rw [hab];exact h1⟩, ?_,rfl,rfl,⟨?_,h4⟩⟩
    ·rw [yse ha,yse hb]
     unfold qV qC
     simp only [hab,Nat.add_sub_cancel]
     have:neg=decide ((bif neg then-(n:Int) else (n:Int))<0):=by
      cases neg with
      | false=>simp
      | true=>
       simp only [Bool.not_true,Bool.false_eq_true,Bool.not_eq_true',false_or] at h2
       have:n≠0:=fun e=>by rw [e] at h2;cases h2
       simp only [cond_true]
       exact (decide_eq_true (by omega)).symm
     rw [←this]
    ·show (bif neg then-(n:Int) else (n:Int)).natAbs<_
     rw [hab];exact h3
   ·cases h
  ·cases h
 ·cases h
def wrN (n:Nat):Option AV:=match digO 300 n with
 | some l=>some (.sl false (natE l))
 | none=>none
theorem ytb {n:Nat} {v:AV} (h:wrN n=some v):v=natV n:=by
 unfold wrN at h
 split at h
 ·rename_i l hl
  cases h
  rw [yje _ _ _ hl]
  rfl
 ·cases h
def wrQ (z:Int) (d:Nat):Option SV:=match wrN z.natAbs,wrN (d-1) with
 | some a,some b=>some (.agg [.bool (decide (z<0)),a,b])
 | _,_=>none
theorem yi2 {q:Rat} {z:Int} {d:Nat} {v:SV} (hz:q.num=z) (hd:q.den=d) (h:wrQ z d=some v):v=qV q:=by
 subst hz hd
 unfold wrQ at h
 split at h
 ·rename_i a b ha hb
  cases h
  rw [ytb ha,ytb hb]
  rfl
 ·cases h
def wrF (z:Int) (d:Nat):Option SV:=bif Nat.beq d 0 then none else wrQ (sgn (decide (z<0)) (z.natAbs / Nat.gcd z.natAbs d)) (d / Nat.gcd z.natAbs d)
theorem yis {z:Int} {d:Nat} {v:SV} (hd:d≠0) (h:wrF z d=some v):v=qV (Rat.normalize z d hd):=by
 unfold wrF at h
 cases hb:Nat.beq d 0 with
 | true=>rw [hb] at h;cases h
 | false=>
  rw [hb] at h
  obtain ⟨h1,h2⟩:=ycr z d hd
  exact yi2 h1 h2 h
def one2 (args:List SV) (f:Int→Nat→Int→Nat→Option SV):Option SV:=match args with
 | [x,y]=>match rdQ x,rdQ y with
  | some (a,c),some (b,d)=>f a c b d
  | _,_=>none
 | _=>none
def one1 (args:List SV) (f:Int→Nat→Option SV):Option SV:=match args with
 | [x]=>match rdQ x with
  | some (a,c)=>f a c
  | none=>none
 | _=>none
theorem yc5 {args:List SV} {f:Int→Nat→Int→Nat→Option SV} {r:SV} (h:one2 args f=some r):∃p q:Rat,args=[qV p,qV q]∧SmQ 1000 p∧SmQ 1000 q∧f p.num p.den q.num q.den=some r:=by
 unfold one2 at h
 split at h
 ·split at h
  ·rename_i hx hy
   obtain ⟨p,rfl,p1,p2,p3⟩:=ynp hx
   obtain ⟨q,rfl,q1,q2,q3⟩:=ynp hy
   exact ⟨p,q,rfl,p3,q3,by rw [p1,p2,q1,q2];exact h⟩
  ·cases h
 ·cases h
theorem yjq {args:List SV} {f:Int→Nat→Option SV} {r:SV} (h:one1 args f=some r):∃p:Rat,args=[qV p]∧SmQ 1000 p∧f p.num p.den=some r:=by
 unfold one1 at h
 split at h
 ·split at h
  ·rename_i hx
   obtain ⟨p,rfl,p1,p2,p3⟩:=ynp hx
   exact ⟨p,rfl,p3,by rw [p1,p2];exact h⟩
  ·cases h
 ·cases h
def oInt (args:List SV):Option SV:=match args with
 | [.one (.int .i64 z)]=>bif decide (-9223372036854775808≤z)&&decide (z<9223372036854775808) then wrQ z 1 else none
 | _=>none
theorem yyz {args:List SV} {r:SV} (h:oInt args=some r):∃z:Int,args=[.one (.int .i64 z)]∧-9223372036854775808≤z∧z<9223372036854775808∧wrQ z 1=some r:=by
 unfold oInt at h
 split at h
 ·rename_i z
  by_cases h1:-9223372036854775808≤z
  ·by_cases h2:z<9223372036854775808
   ·rw [decide_eq_true h1,decide_eq_true h2] at h
    exact ⟨z,rfl,h1,h2,h⟩
   ·rw [decide_eq_false h2,Bool.and_false] at h
    cases h
  ·rw [decide_eq_false h1,Bool.false_and] at h
   cases h
 ·cases h
def orcQ:Orc:=fun f args=>
 bif Nat.beq f Id.y0a then one2 args fun a c b d=>wrF (a*b) (c*d) else
 bif Nat.beq f Id.y0l then one2 args fun a c b d=>wrF (a*d+b*c) (c*d) else
 bif Nat.beq f Id.y1r then one2 args fun a c b d=>wrF (a*d-b*c) (c*d) else
 bif Nat.beq f Id.y0j then one1 args fun a c=>some (.one (.int .i64 (signI a))) else
 bif Nat.beq f Id.y10 then one1 args fun a c=>wrQ (-a) c else
 bif Nat.beq f Id.y1t then one2 args fun a c b d=>some (.one (.int .i64 (cmpZ (a*d) (b*c)))) else
 bif Nat.beq f Id.y0u then oInt args else
 bif Nat.beq f Id.y37 then one2 args fun a c b d=>bif decide (b=0) then none else match wrF (sgn (decide (a<0) !=decide (b<0)) (a.natAbs*d)) (c*b.natAbs) with
  | some v=>some (.tup [v,.one (.int .i64 0)])
  | none=>none else
 bif Nat.beq f Id.y56 then one1 args fun a c=>wrQ (a.natAbs:Int) c else none
theorem yi7 (a b:Rat):a.den*b.den≠0:=Nat.mul_ne_zero a.den_nz b.den_nz
theorem yzv (p:Rat):(absQ p).num=(p.num.natAbs:Int):=by
 unfold absQ
 split
 ·rw [Rat.neg_num];omega
 ·omega
theorem y103 (p:Rat):(absQ p).den=p.den:=by
 unfold absQ
 split
 ·exact Rat.neg_den p
 ·rfl
theorem y10b:OrcOk E orcQ:=by
 intro f args r h
 unfold orcQ at h
 have cs:∀{i:FuncId} {x y:Option SV},(bif Nat.beq f i then x else y)=some r→(f=i∧x=some r)∨y=some r:=by
  intro i x y h
  cases hb:Nat.beq f i with
  | true=>rw [hb] at h;exact .inl ⟨Nat.eq_of_beq_eq_true hb,h⟩
  | false=>rw [hb] at h;exact .inr h
 rcases cs h with ⟨rfl,h⟩ | h
 ·obtain ⟨p,q,rfl,hp,hq,h⟩:=yc5 h
  rw [yis (yi7 p q) h,←Rat.mul_def]
  exact ⟨_,yjn p q hp hq (by decide) (Nat.le_refl _)⟩
 rcases cs h with ⟨rfl,h⟩ | h
 ·obtain ⟨p,q,rfl,hp,hq,h⟩:=yc5 h
  rw [yis (yi7 p q) h,←Rat.add_def]
  exact ⟨_,yjo p q hp hq (by decide) (Nat.le_refl _)⟩
 rcases cs h with ⟨rfl,h⟩ | h
 ·obtain ⟨p,q,rfl,hp,hq,h⟩:=yc5 h
  rw [yis (yi7 p q) h]
  have e:Rat.normalize (p.num*(q.den:Int)-q.num*(p.den:Int)) (p.den*q.den) (yi7 p q)=p-q:=by
   rw [Rat.sub_eq_add_neg,Rat.add_def]
   simp only [Rat.neg_num,Rat.neg_den,Int.neg_mul,Int.sub_eq_add_neg]
  rw [e]
  exact ⟨_,yqe p q hp hq (by decide) (Nat.le_refl _)⟩
 rcases cs h with ⟨rfl,h⟩ | h
 ·obtain ⟨p,rfl,hp,h⟩:=yjq h
  cases h
  exact ⟨_,ygb p 0⟩
 rcases cs h with ⟨rfl,h⟩ | h
 ·obtain ⟨p,rfl,hp,h⟩:=yjq h
  rw [yi2 (q:=-p) (Rat.neg_num p) (Rat.neg_den p) h]
  exact ⟨_,yj4 p 0⟩
 rcases cs h with ⟨rfl,h⟩ | h
 ·obtain ⟨p,q,rfl,hp,hq,h⟩:=yc5 h
  cases h
  exact ⟨_,yey p q hp hq (by decide) (Nat.le_refl _)⟩
 rcases cs h with ⟨rfl,h⟩ | h
 ·obtain ⟨z,rfl,h1,h2,h⟩:=yyz h
  rw [yi2 (q:=Rat.ofInt z) rfl rfl h]
  exact ⟨_,yql z h1 h2 (Nat.le_refl _)⟩
 rcases cs h with ⟨rfl,h⟩ | h
 ·obtain ⟨p,q,rfl,hp,hq,h⟩:=yc5 h
  cases hb:decide (q.num=0) with
  | true=>rw [hb] at h;cases h
  | false=>
   rw [hb] at h
   have h0:q.num≠0:=of_decide_eq_false hb
   simp only [cond_false] at h
   split at h
   ·rename_i v hv
    cases h
    have hd:p.den*q.num.natAbs≠0:=Nat.mul_ne_zero p.den_nz (by omega)
    rw [yis hd hv,yg9 p q h0 hd]
    exact ⟨_,ypz p q h0 hp hq (by decide) (Nat.le_refl _)⟩
   ·cases h
 rcases cs h with ⟨rfl,h⟩ | h
 ·obtain ⟨p,rfl,hp,h⟩:=yjq h
  rw [yi2 (yzv p) (y103 p) h]
  exact ⟨_,yz3 p 0⟩
 cases h
end Go.Ev
namespace Go.Ev
set_option maxRecDepth 100000 in
theorem yuz:orV E orcQ 200 Id.y0v []=some (.one (.bool true)):=by kernel_rfl
theorem awake_ends:Ends Id.y0v [] (.one (.bool true)):=by
 obtain ⟨m,hm⟩:=ysn y10b yuz
 exact ⟨m,fun n hn=>yos hn hm⟩
theorem yil:Calling Id.y0v [] (.one (.bool true)):=awake_ends.call fun x h=>by cases h
end Go.Ev
namespace Go.Ev
set_option maxRecDepth 100000 in
theorem ysd (m:Mt) (ms:MtS m) (t0:0≤m.T) (b:Int) (d k kind:Nat) (hd:d≤16) (hk:k≤64) (at_:Int) (ha:0≤at_) (ha':at_<9223372036854775808) (ws:List (List AV)) (o3w:okSz 3 ws=true) (hlen:ws.length≤20):
  ∀(r:List Rat) (i:Nat) (w:Wt) (Z:Nat),ws.drop i=r.map qC→HtS Z w.heat→Z+1670*r.length≤60000→SmQ 64000 w.read→TqS (256+66) w.last→(∀x∈r,SmQ 256 x)→i+r.length=ws.length→
   (∀o∈m.watch d k kind at_ (i:Int) w r,SmQ 64000 o.heat∧SmQ 512 o.last)∧
   ∀lc,∃N,∀n,N≤n→∀(ob:Nat→Option AObj) (fz:Nat→Nat) (nx:Nat) (x:AV) (os:List Wt) (X:List (Nat×SV)),22≤nx→WtB ob m b d k kind at_ w lc→OutW ob nx x os→os.length=i→∀M,r.length<M→
   ∃ob' fz' nx' x' X',loopN (evC (evF E n) n Fn.y1w) M ⟨env (watS d x ws i X),ob,fz,nx⟩=some (.ext 1,⟨env (watS d x' ws ws.length X'),ob',fz',nx'⟩)∧OutW ob' nx' x' (os++m.watch d k kind at_ (i:Int) w r)
 | [],i,w,Z,hdr,hH,hZ,hR,hL,hx,hi=>by
  rw [List.length_nil,Nat.add_zero] at hi
  refine ⟨fun o ho=>(List.not_mem_nil ho).elim,fun lc=>⟨0,fun n hn ob fz nx x os X hnx B hO hos M hM=> ?_⟩⟩
  obtain ⟨M,rfl⟩:∃q,M=q+1:=⟨M-1,by omega⟩
  subst hi
  have lt:(((ws.length:Nat):Int)<((ws.length:Nat):Int))=False:=by simp
  refine ⟨ob,fz,nx,x,[(56,.one (.bool false))],y09 ?_,by unfold Mt.watch;rw [List.append_nil];exact hO⟩
  unfold watS
  simp only [go_sem,Fn.y1w,lt]
 | want::r,i,w,Z,hdr,hH,hZ,hR,hL,hx,hi=>by
  rw [List.length_cons] at hi hZ
  have gw:ws[i]? =some (qC want):=by
   have:=congrArg (fun l=>l[0]?) hdr
   simpa using this
  have hd':ws.drop (i+1)=r.map qC:=by
   have:=congrArg (fun l=>l.drop 1) hdr
   simpa using this
  have hw:=hx want (by simp)
  have h5:Z≤64000:=by omega
  have h6:Z+(4*256+2*(256+66)+2)≤64000:=by omega
  have h7:Z+(4*256+2*(256+66)+2)+1670*r.length≤60000:=by omega
  have hh:SmQ 64000 w.heat:=hH.sm.mono h5
  have q1:=yam (d:=d) (h:=Mt.rd kind at_ (i:Int) w) hk ms.t t0
  have q2:=yqf (d:=d) (kind:=kind) (at_:=at_) (i:=(i:Int)) hk ms.t t0 hw hL
  have q3:=HtS.next (m:=m) ms.s ms.h ms.c hH q2
  have q4:SmQ 64000 (Mt.rd kind at_ (i:Int) w):=by unfold Mt.rd;split<;>assumption
  have ei:((i:Nat):Int)+1=((i+1:Nat):Int):=rfl
  obtain ⟨r1,r2⟩:=ysd m ms t0 b d k kind hd hk at_ ha ha' ws o3w hlen r (i+1) (m.step d k kind at_ (i:Int) w want) _ hd' q3 h7 q4 q2 (fun y hy=>hx y (by simp [hy])) (by omega)
  refine ⟨fun o ho=> ?_,fun lc=> ?_⟩
  ·unfold Mt.watch at ho
   rw [ei] at ho
   rcases List.mem_cons.1 ho with rfl | ho
   ·exact ⟨q3.sm.mono h6,q2.sm.mono (by decide)⟩
   ·exact r1 o ho
  ·obtain ⟨N1,k1⟩:=yzm m ms b d k kind hd hk at_ ha ha' w want ws i gw o3w (by omega) (by omega) hh hR hw (q1.sm.mono (by decide)) (q2.sm.mono (by decide))
   have tq2:=q2
   obtain ⟨N2,k2⟩:=r2 (qC (m.step d k kind at_ (i:Int) w want).last)
   obtain ⟨N3,k3⟩:=r2 [.bool false,.nils,.nils]
   refine ⟨N1+N2+N3,fun n hn ob fz nx x os X hnx B hO hos M hM=> ?_⟩
   rw [List.length_cons] at hM
   obtain ⟨M,rfl⟩:∃q,M=q+1:=⟨M-1,by omega⟩
   obtain ⟨ob',fz',nx',x',lc',e1,e2,e3,e4⟩:=k1 n (by omega) ob fz nx x os lc X hnx B hO hos
   have hos':(os++[m.step d k kind at_ (i:Int) w want]).length=i+1:=by rw [List.length_append,hos];rfl
   have k':∃ob2 fz2 nx2 x2 X2,loopN (evC (evF E n) n Fn.y1w) M ⟨env (watS d x' ws (i+1) []),ob',fz',nx'⟩=some (.ext 1,⟨env (watS d x2 ws ws.length X2),ob2,fz2,nx2⟩)∧OutW ob2 nx2 x2 ((os++[m.step d k kind at_ (i:Int) w want])++m.watch d k kind at_ ((i+1:Nat):Int) (m.step d k kind at_ (i:Int) w want) r):=by
    rcases e3.lq with hq | ⟨-,hq⟩
    ·subst hq;exact k2 n (by omega) ob' fz' nx' x' _ [] (by omega) e3 e4 hos' M (by omega)
    ·subst hq;exact k3 n (by omega) ob' fz' nx' x' _ [] (by omega) e3 e4 hos' M (by omega)
   obtain ⟨ob2,fz2,nx2,x2,X2,f1,f2⟩:=k'
   refine ⟨ob2,fz2,nx2,x2,X2,by rw [y0c e1];exact f1, ?_⟩
   unfold Mt.watch
   rw [ei]
   rw [List.append_assoc] at f2
   exact f2
def WatchE (T H C M s h:Rat) (d k:Int) (kind:Nat) (at_:Int) (n:Nat):Int:=
 if errG T H C M s h d k=0 then (if n>256 then 5 else if kind>3∨at_<0 then 2 else 0) else errG T H C M s h d k
def watchR (T H C M s h:Rat) (d k:Int) (kind:Nat) (at_:Int) (ws:List Rat):List Wt:=
 if WatchE T H C M s h d k kind at_ ws.length=0 then (Mt.mk T H C M s).watch d.toNat k.toNat kind at_ 0 ⟨h,0,h⟩ ws else []
theorem yp3 {T H C M s h:Rat} {d k:Int} {kind:Nat} {at_:Int} {n:Nat} (e:WatchE T H C M s h d k kind at_ n=0):errG T H C M s h d k=0∧n≤256∧kind≤3∧0≤at_:=by
 unfold WatchE at e
 by_cases c:errG T H C M s h d k=0
 ·rw [if_pos c] at e
  by_cases c2:n>256
  ·rw [if_pos c2] at e;cases e
  ·rw [if_neg c2] at e
   by_cases c3:kind>3∨at_<0
   ·rw [if_pos c3] at e;cases e
   ·exact ⟨c,by omega,by omega,by omega⟩
 ·rw [if_neg c] at e;exact absurd e c
set_option maxRecDepth 100000 in
theorem yr7 (b:Int) (T H C M s h:Rat) (d k:Int) (kind:Nat) (at_:Int) (ws:List Rat) (sT:SmQ 256 T) (sH:SmQ 256 H) (sC:SmQ 256 C) (sM:SmQ 256 M) (ss:SmQ 256 s) (sh:SmQ 256 h) (sw:∀w∈ws,SmQ 256 w) (hlen:ws.length≤256→ws.length≤20) (hlen2:ws.length<2^40) (ha':at_<9223372036854775808):
  (∀o∈watchR T H C M s h d k kind at_ ws,SmQ 64000 o.heat∧SmQ 512 o.last)∧
  Ends Id.y1a [.agg (mC b T H C M),.agg (qC s),.agg (qC h),.one (.int .i64 d),.one (.int .i64 k),.one (.sl false (ws.map qC)),.agg [.int .u8 (kind:Int),.int .i64 at_]]
   (.tup [.one (.sl false ((watchR T H C M s h d k kind at_ ws).map Wt.c)),.one (.int .i64 (WatchE T H C M s h d k kind at_ ws.length))]):=by
 obtain ⟨N1,h1⟩:=cGovern b T H C M s h d k sC sM ss sh (by decide)
 unfold watchR
 by_cases c1:errG T H C M s h d k=0
 ·have eg:govC b T H C M s h d k=gC b T H C M s d k:=if_pos c1
  rw [eg,c1] at h1
  obtain ⟨t0,t1,t2,t3,t4,t5,t6,t7,d0,d1,k0,k1⟩:=yek c1
  obtain ⟨dn,rfl⟩:∃q:Nat,d=(q:Int):=⟨d.toNat,by omega⟩
  obtain ⟨kn,rfl⟩:∃q:Nat,k=(q:Int):=⟨k.toNat,by omega⟩
  have e0:((0:Int) !=0)=false:=rfl
  by_cases c3:ws.length>256
  ·have eE:WatchE T H C M s h dn kn kind at_ ws.length=5:=by unfold WatchE;rw [if_pos c1,if_pos c3]
   rw [eE,if_neg (by decide)]
   refine ⟨fun o ho=>(List.not_mem_nil ho).elim,.of N1 fun {n} hn=> ?_⟩
   have h1:=h1 n (by omega)
   have f3:(((ws.length:Nat):Int)>256)=True:=by simp only [eq_iff_iff,iff_true];omega
   rw [y04 y80]
   simp only [go_sem,Fn.y1a,h1,e0,List.length_map,f3]
  ·have f3:(((ws.length:Nat):Int)>256)=False:=by simp only [eq_iff_iff,iff_false];omega
   by_cases c4:kind>3∨at_<0
   ·have eE:WatchE T H C M s h dn kn kind at_ ws.length=2:=by unfold WatchE;rw [if_pos c1,if_neg c3,if_pos c4]
    rw [eE,if_neg (by decide)]
    refine ⟨fun o ho=>(List.not_mem_nil ho).elim,.of N1 fun {n} hn=> ?_⟩
    have h1:=h1 n (by omega)
    rw [y04 y80]
    by_cases a1:kind>3
    ·have g1:(((kind:Nat):Int)>3)=True:=by simp only [eq_iff_iff,iff_true];omega
     simp only [go_sem,Fn.y1a,h1,e0,List.length_map,f3,g1]
    ·have g1:(((kind:Nat):Int)>3)=False:=by simp only [eq_iff_iff,iff_false];omega
     have g2:(at_<0)=True:=by simp only [eq_iff_iff,iff_true];omega
     simp only [go_sem,Fn.y1a,h1,e0,List.length_map,f3,g1,g2]
   ·have eE:WatchE T H C M s h dn kn kind at_ ws.length=0:=by unfold WatchE;rw [if_pos c1,if_neg c3,if_neg c4]
    rw [eE,if_pos rfl]
    have g1:(((kind:Nat):Int)>3)=False:=by simp only [eq_iff_iff,iff_false];omega
    have g2:(at_<0)=False:=by simp only [eq_iff_iff,iff_false];omega
    have hl20:=hlen (by omega)
    have hsd:HtS 256 (Wt.mk h 0 h).heat:=HtS.of sh
    obtain ⟨r1,r2⟩:=ysd ⟨T,H,C,M,s⟩ ⟨sT,sH,sC,sM,ss⟩ t0 b dn kn kind (by omega) (by omega) at_ (by omega) ha' (ws.map qC) (yar yoi ws) (by rw [List.length_map];exact hl20) ws 0 ⟨h,0,h⟩ 256 rfl hsd (by omega) (sh.mono (by decide)) (TqS.zero (by decide)) sw (by simp)
    obtain ⟨N3,h3⟩:=r2 [.bool false,.nils,.nils]
    refine ⟨r1,.of (N1+N3+ws.length+1) fun {n} hn=> ?_⟩
    have h1:=h1 n (by omega)
    rw [Int.toNat_natCast,Int.toNat_natCast]
    have key:∀(ob:Nat→Option AObj),WtB ob ⟨T,H,C,M,s⟩ b dn kn kind at_ ⟨h,0,h⟩ [.bool false,.nils,.nils]→
      finV [.tmp 14,.tmp 15] (thenC (evF E n) n (tailAt 7 Fn.y1a.code) (blkC 1 (loopN (evC (evF E n) n Fn.y1w) n ⟨env (watS dn .nils (ws.map qC) 0 []),ob,fz0,22⟩)))=some (.tup [.one (.sl false (((Mt.mk T H C M s).watch dn kn kind at_ 0 ⟨h,0,h⟩ ws).map Wt.c)),.one (.int .i64 0)]):=by
     intro ob B
     obtain ⟨ob',fz',nx',x',X',f1,f2⟩:=h3 n (by omega) ob fz0 22 .nils [] [] (by decide) B (.inl ⟨rfl,rfl⟩) rfl n (by omega)
     obtain ⟨g,hg⟩:=f2.frz
     rw [f1,y7a,if_pos rfl,y4j]
     rw [List.nil_append] at hg
     have hg:∀fz,frzS ob' fz (.one x')=some (g fz,.one (.sl false (((Mt.mk T H C M s).watch dn kn kind at_ 0 ⟨h,0,h⟩ ws).map Wt.c))):=hg
     unfold watS
     simp only [go_sem,tailAt,Fn.y1a,hg]
    rw [y04 y80,show Fn.y1a.code=cutAt 7 Fn.y1a.code (tailAt 7 Fn.y1a.code) from rfl]
    generalize tailAt 7 Fn.y1a.code=T' at key ⊢
    unfold watS at key
    simp only [List.length_map] at key
    simp only [go_sem,cutAt,Fn.y1a,h1,e0,List.length_map,f3,g1,g2]
    refine key _ ?_
    exact ⟨rfl,rfl,rfl,rfl,rfl,.inr ⟨rfl,rfl⟩⟩
 ·have eE:WatchE T H C M s h d k kind at_ ws.length=errG T H C M s h d k:=by unfold WatchE;rw [if_neg c1]
  have eg:govC b T H C M s h d k=gC 0 0 0 0 0 0 0 0:=if_neg c1
  rw [eE,if_neg c1]
  rw [eg] at h1
  refine ⟨fun o ho=>(List.not_mem_nil ho).elim,.of N1 fun {n} hn=> ?_⟩
  have h1:=h1 n (by omega)
  have e0:(errG T H C M s h d k !=0)=true:=by simp [c1]
  generalize errG T H C M s h d k=er at h1 e0
  rw [y04 y80]
  simp only [go_sem,Fn.y1a,h1,e0]
theorem y112 (o:Wt):sub o.c 0 3=some (qC o.last):=rfl
theorem y10d (o:Wt):sub o.c 3 3=some (qC o.heat):=rfl
theorem Wt.len (o:Wt):o.c.length=6:=rfl
attribute [go_sem ↓] y112 y10d Wt.len
end Go.Ev
namespace Go.Ev
open Go.Dig
section
variable {n:Nat} {ob:Nat→Option AObj} {fz:Nat→Nat} {nx:Nat} {L:List (Nat×SV)} {d k kind a i:Nat} {ws:List (List AV)} {h o:AV} {m:Mt}
theorem y10e (x y z w a b c d:AV) (q:Rat):put (x::y::z::w::[a,b,c,d]) 4 (rC q)=some (x::y::z::w::rC q):=by
 have:=y8v (X:=[x,y,z,w]) (l:=[a,b,c,d]) (K:=4) rfl 0 (rC q)
 rw [yv6] at this
 exact this
theorem yyp {hs:List Rat} {hv:Nat} {es:List (List AV)} {heat heat' v:Rat} {tc:List AV} (hL:RwE L d k ws kind a h o i) (B:RwB ob nx m h o hs hv es) {q:Nat} (l24:env L 24=.one (.box q 0)) (hq:ob q=some (.box tc)) (hvt:RW v tc) (hqn:q<nx) (hq6:6≤q) (hqo:∀id ver,o=.rsl id ver 8 0 es.length false→id≠q) (hnow:hs[i]? =some heat) (hlen:hs.length<2^20) (hlen2:es.length<2^20)
  (o8:Ev.okSz 8 es=true) (k1:∀ob fz,callV (evF E n) Id.y2i [.agg (rmC m.T m.H m.C m.M),.agg (rC m.s),.agg (rC heat),.agg tc] ob fz=some (.fzd fz (.agg (rC heat')))):
  ∃L' ob' h' o' hv',evC (evF E n) n (tailAt 10 rwIn) ⟨env L,ob,fz,nx⟩=some (.nrm,⟨env L',ob',fz,nx+22⟩)∧RwE L' d k ws kind a h' o' i∧RwB ob' (nx+22) m h' o' (hs++[heat']) hv' (es++[tc++rC heat']):=by
 obtain ⟨e3,e4,e5,e6,e7,e8,e9,e17,e18,e19⟩:=hL
 obtain ⟨o0,o1,o5,rfl,n6,out⟩:=B
 obtain ⟨x,y,z,w,rfl⟩:=hvt.cells4
 have nxa:∀a b:Nat,nx+a+b=nx+(a+b):=fun a b=>Nat.add_assoc nx a b
 have g0:∀c:Nat,(0=nx+c)=False:=fun c=>by simp only [eq_iff_iff,iff_false];omega
 have g1:∀c:Nat,(1=nx+c)=False:=fun c=>by simp only [eq_iff_iff,iff_false];omega
 have g5:∀c:Nat,(5=nx+c)=False:=fun c=>by simp only [eq_iff_iff,iff_false];omega
 have g5':∀c:Nat,(nx+c=5)=False:=fun c=>by simp only [eq_iff_iff,iff_false];omega
 have gq:∀c:Nat,(q=nx+c)=False:=fun c=>by simp only [eq_iff_iff,iff_false];omega
 have q5:(q=5)=False:=by simp only [eq_iff_iff,iff_false];omega
 have l0:(0<nx)=True:=by simp only [eq_iff_iff,iff_true];omega
 have l1:(1<nx)=True:=by simp only [eq_iff_iff,iff_true];omega
 have l5:(5<nx)=True:=by simp only [eq_iff_iff,iff_true];omega
 have lq:(q<nx)=True:=by simp only [eq_iff_iff,iff_true];omega
 have r5:rowAt ob 5 hv=some (4,hs.map rC):=y46 o5
 have r5':∀c ob y ver,rowAt (upd ob (nx+c) y) 5 ver=rowAt ob 5 ver:=fun c ob y ver=>y4z (by omega)
 have ok4:=yjp hs
 have gi:(hs.map rC)[i]? =some (rC heat):=by rw [List.getElem?_map,hnow];rfl
 have hil:i<hs.length:=(List.getElem?_eq_some_iff.1 hnow).1
 have ble1:Nat.ble (0+hs.length) (hs.map rC).length=true:=by simp
 have li:((i:Nat)<hs.length)=True:=by simp only [eq_iff_iff,iff_true];omega
 have b1:(hs.length==hs.length)=true:=by simp
 have b2:(es.length==es.length)=true:=by simp
 have w1:(hs.length+1)*64≤140737488355328:=by omega
 have w2:(es.length+1)*128≤140737488355328:=by omega
 have hml:(hs.map rC).length=hs.length:=List.length_map _
 have m1:∀c ob y,upd ob 5 y (nx+c)=ob (nx+c):=fun c ob y=>y00 (by omega)
 have p8:∀z1 z2 z3 z4 z5 z6 z7 z8:AV,put [z1,z2,z3,z4,z5,z6,z7,z8] 0 [x,y,z,w]=some [x,y,z,w,z5,z6,z7,z8]:=fun _ _ _ _ _ _ _ _=>rfl
 have p84:∀z5 z6 z7 z8:AV,put [x,y,z,w,z5,z6,z7,z8] 4 (rC heat')=some (x::y::z::w::rC heat'):=fun z5 z6 z7 z8=>y10e x y z w z5 z6 z7 z8 heat'
 have len8:(x::y::z::w::rC heat').length=8:=by simp [y5q]
 obtain ⟨r,hr0⟩:∃r,evC (evF E n) n (tailAt 10 rwIn) ⟨env L,ob,fz,nx⟩=r:=⟨_,rfl⟩
 have hr:=hr0
 unfold rwIn Fn.y06 at hr
 rcases out with ⟨rfl,rfl⟩ | ⟨id,ver,rfl,hid,h6,h7⟩
 ·simp only [tailAt,go_sem,e3,e4,e5,e6,e7,e8,e9,e17,e18,e19,l24,o0,o1,hq,r5,r5',ok4,gi,ble1,li,g0,g1,g5,g5',gq,q5,l0,l1,l5,lq,k1,b1,w1,hml,m1,↓p8,↓p84,↓len8,nxa,ROOM,okSz] at hr
  rw [hr0,←hr]
  refine ⟨_,_,_,_,hv+1,rfl,⟨rfl,rfl,rfl,rfl,rfl,rfl,rfl,rfl,rfl,rfl⟩,⟨?_, ?_, ?_, ?_,by omega,.inr ⟨nx+20,0,rfl,upd_same _ _ _,by omega,by omega⟩⟩⟩
  ·repeat rw [y00 (by omega)]
   exact o0
  ·repeat rw [y00 (by omega)]
   exact o1
  ·rw [y00 (by omega),y00 (by omega),upd_same,List.map_append];rfl
  ·rw [List.length_append];rfl
 ·have hne:=hqo id ver rfl
  have gi5:(id=5)=False:=by simp only [eq_iff_iff,iff_false];omega
  have g5i:(5=id)=False:=by simp only [eq_iff_iff,iff_false];omega
  have gqi:(q=id)=False:=by simp only [eq_iff_iff,iff_false];exact Ne.symm hne
  have gi0:(0=id)=False:=by simp only [eq_iff_iff,iff_false];omega
  have gi1:(1=id)=False:=by simp only [eq_iff_iff,iff_false];omega
  have gni:∀c:Nat,(nx+c=id)=False:=fun c=>by simp only [eq_iff_iff,iff_false];omega
  have gin:∀c:Nat,(id=nx+c)=False:=fun c=>by simp only [eq_iff_iff,iff_false];omega
  have r8:rowAt ob id ver=some (8,es):=y46 hid
  have r8':∀c ob y ver,rowAt (upd ob (nx+c) y) id ver=rowAt ob id ver:=fun c ob y ver=>y4z (by omega)
  have r85:∀ob y ver,rowAt (upd ob 5 y) id ver=rowAt ob id ver:=fun ob y ver=>y4z (by omega)
  have m2:∀c ob y,upd ob id y (nx+c)=ob (nx+c):=fun c ob y=>y00 (by omega)
  simp only [tailAt,go_sem,e3,e4,e5,e6,e7,e8,e9,e17,e18,e19,l24,o0,o1,hq,r5,r5',r8,r8',r85,ok4,o8,gi,ble1,li,g0,g1,g5,g5',gq,q5,gi5,g5i,gqi,gi0,gi1,gni,gin,l0,l1,l5,lq,k1,b1,b2,w1,w2,hml,m1,m2,↓p8,↓p84,↓len8,nxa,ROOM,okSz] at hr
  rw [hr0,←hr]
  refine ⟨_,_,_,_,hv+1,rfl,⟨rfl,rfl,rfl,rfl,rfl,rfl,rfl,rfl,rfl,rfl⟩,⟨?_, ?_, ?_, ?_,by omega,.inr ⟨id,ver+1,by rw [List.length_append];rfl,upd_same _ _ _,by omega,by omega⟩⟩⟩
  ·repeat rw [y00 (by omega)]
   exact o0
  ·repeat rw [y00 (by omega)]
   exact o1
  ·rw [y00 (by omega),y00 (by omega),upd_same,List.map_append];rfl
  ·rw [List.length_append];rfl
def rwA:ACode:=match Fn.y06 with | .seq a _=>a | _=>.skip
def rwZ:ACode:=match Fn.y06 with | .seq _ (.seq _ z)=>z | _=>.skip
theorem rw_L0:Fn.y06=.seq rwA (.seq (.block 1 rwIn) rwZ):=rfl
theorem yyf (hL:RwE L d k ws kind a h o i) (hi:i<ws.length):∃L',evC (evF E n) n rwA ⟨env L,ob,fz,nx⟩=some (.nrm,⟨env L',ob,fz,nx⟩)∧RwE L' d k ws kind a h o i:=by
 obtain ⟨e3,e4,e5,e6,e7,e8,e9,e17,e18,e19⟩:=hL
 have lt:(((i:Nat):Int)<((ws.length:Nat):Int))=True:=by simp only [eq_iff_iff,iff_true];omega
 unfold rwA Fn.y06
 simp only [go_sem,e3,e4,e5,e6,e7,e8,e9,e17,e18,e19,lt]
 exact ⟨_,rfl,⟨rfl,rfl,rfl,rfl,rfl,rfl,rfl,rfl,rfl,rfl⟩⟩
theorem yz5 (hL:RwE L d k ws kind a h o i) (hi:i=ws.length):∃L',evC (evF E n) n Fn.y06 ⟨env L,ob,fz,nx⟩=some (.ext 0,⟨env L',ob,fz,nx⟩)∧RwE L' d k ws kind a h o i:=by
 obtain ⟨e3,e4,e5,e6,e7,e8,e9,e17,e18,e19⟩:=hL
 have lt:(((i:Nat):Int)<((ws.length:Nat):Int))=False:=by simp only [eq_iff_iff,iff_false];omega
 unfold Fn.y06
 simp only [go_sem,e3,e4,e5,e6,e7,e8,e9,e17,e18,e19,lt]
 exact ⟨_,rfl,⟨rfl,rfl,rfl,rfl,rfl,rfl,rfl,rfl,rfl,rfl⟩⟩
theorem y120 (hL:RwE L d k ws kind a h o i) (hi:i<2^20):∃L',evC (evF E n) n rwZ ⟨env L,ob,fz,nx⟩=some (.nrm,⟨env L',ob,fz,nx⟩)∧RwE L' d k ws kind a h o (i+1):=by
 obtain ⟨e3,e4,e5,e6,e7,e8,e9,e17,e18,e19⟩:=hL
 have wk:IntKind.i64.wrap ((i+1:Nat):Int)=((i+1:Nat):Int):=wi64 (by omega)
 unfold rwZ Fn.y06
 simp only [go_sem,e3,e4,e5,e6,e7,e8,e9,e17,e18,e19,add1,wk]
 exact ⟨_,rfl,⟨rfl,rfl,rfl,rfl,rfl,rfl,rfl,rfl,rfl,rfl⟩⟩
end
theorem yrn {q:Rat} {f:FuncId} {A:List AV→List SV} {r:SV} (h:∀c,RW q c→Calling f (A c) r):∃N,∀c,RW q c→∀n,N≤n→∀(ob:Nat→Option AObj) (fz:Nat→Nat),callV (evF E n) f (A c) ob fz=some (.fzd fz r):=by
 obtain ⟨N1,h1⟩:=h _ (.self q)
 by_cases c:q=0
 ·obtain ⟨N2,h2⟩:=h [.bool false,.sl false [],.bool false,.sl false []] (.inl (.inr ⟨c,rfl⟩))
  obtain ⟨N3,h3⟩:=h [.bool false,.nils,.bool false,.nils] (.inr ⟨c,rfl⟩)
  refine ⟨N1+N2+N3,fun x hx n hn=> ?_⟩
  rcases hx with (rfl | ⟨_,rfl⟩) | ⟨_,rfl⟩
  ·exact h1 n (by omega)
  ·exact h2 n (by omega)
  ·exact h3 n (by omega)
 ·refine ⟨N1,fun x hx n hn=> ?_⟩
  rcases hx with (rfl | ⟨e,_⟩) | ⟨e,_⟩
  ·exact h1 n hn
  ·exact absurd e c
  ·exact absurd e c
theorem y13h {m:Mt} {d k kind:Nat} {at_ i:Int} {w:Wt} (h:WInv m d k kind at_ i w):0≤rrd d kind at_ i w.heat (if i≤at_ then w.heat else w.read)∧rrd d kind at_ i w.heat (if i≤at_ then w.heat else w.read)≤m.M:=by
 unfold rrd
 by_cases c:kind=3∧at_≤i∧i-at_<(d:Int)
 ·rw [if_pos c]
  by_cases c2:i≤at_
  ·rw [if_pos c2];exact ⟨h.h0,h.h1⟩
  ·rw [if_neg c2]
   have:=h.blind c.1 (by omega) (by omega)
   exact ⟨this.1,this.2.1⟩
 ·rw [if_neg c];exact ⟨h.h0,h.h1⟩
theorem yw4 (m:Mt) (ok:m.Ok) (ms:MtS m) (d k kind a:Nat) (hd:d≤16) (hk:k≤64) (hk3:kind≤3) (h0:Rat) (w:Wt) (want:Rat) (ws:List (List AV)) (i:Nat) (gw:ws[i]? =some (rC want)) (o4w:okSz 4 ws=true) (hi:i<ws.length) (hlen:ws.length<2^20-1)
  (hI:WInv m d k kind (a:Int) (i:Int) w) (sh:SmQ 64000 w.heat) (sr:SmQ 64000 w.read) (sw:SmQ 256 want) (stq:TqS (256+66) (m.tq d k kind (a:Int) (i:Int) w want)):
  ∃N,∀n,N≤n→∀(ob:Nat→Option AObj) (fz:Nat→Nat) (nx:Nat) (L:List (Nat×SV)) (h o:AV) (hv:Nat) (es:List (List AV)) (os:List Wt),RwE L d k ws kind a h o i→RwB ob nx m h o (h0::os.map Wt.heat) hv es→WtRs os es→RelW h0 d kind (a:Int) i w os→
   ∃L' ob' nx' h' o' hv' es',evC (evF E n) n Fn.y06 ⟨env L,ob,fz,nx⟩=some (.nrm,⟨env L',ob',fz,nx'⟩)∧RwE L' d k ws kind a h' o' (i+1)∧
    RwB ob' nx' m h' o' (h0::(os++[m.step d k kind (a:Int) (i:Int) w want]).map Wt.heat) hv' es'∧WtRs (os++[m.step d k kind (a:Int) (i:Int) w want]) es':=by
 obtain ⟨hat,hhat⟩:∃hat,hat=if (i:Int)≤(a:Int) then w.heat else w.read:=⟨_,rfl⟩
 have hro:=y13h hI
 have hrtq:=y12g m d k kind (a:Int) (i:Int) w want hk3
 rw [←hhat] at hro hrtq
 have shat:SmQ 64000 hat:=by rw [hhat];split<;>assumption
 have srd:SmQ 64000 (rrd d kind (a:Int) (i:Int) w.heat hat):=by unfold rrd;split<;>assumption
 obtain ⟨N1,k1⟩:=cRAllowed m ok ms d k hd hk (rrd d kind (a:Int) (i:Int) w.heat hat) hro.1 hro.2 srd
 have stop:=(yam (m:=m) (d:=d) (h:=rrd d kind (a:Int) (i:Int) w.heat hat) hk ms.t ok.t).sm
 obtain ⟨top,htop⟩:∃top,top=m.top d k (rrd d kind (a:Int) (i:Int) w.heat hat):=⟨_,rfl⟩
 rw [←htop] at k1 stop
 have st1:SmQ (256+66) (if top<want then top else want):=by split;exact stop;exact sw.mono (by decide)
 obtain ⟨N2,k2⟩:=y9m (RW.self want) (RW.self top) sw stop (by decide)
 obtain ⟨N3,k3⟩:=yu6 (RW.self top) stop (by decide)
 obtain ⟨N4,k4⟩:=y9m (RW.self (if top<want then top else want)) (RW.self (-top)) st1 stop.neg (by decide)
 obtain ⟨N5,k5⟩:=yrn (q:=m.tq d k kind (a:Int) (i:Int) w want) (A:=fun c=>[.agg (rmC m.T m.H m.C m.M),.agg (rC m.s),.agg (rC w.heat),.agg c]) fun c hc=>yhd m w.heat (m.tq d k kind (a:Int) (i:Int) w want) hc ms.h ms.c ms.s sh stq.sm (by decide) (by decide) (by decide)
 refine ⟨N1+N2+N3+N4+N5,fun n hn ob fz nx L h o hv es os hL B hW R=> ?_⟩
 have k1:=k1 n (by omega)
 have k2:=k2 n (by omega)
 have k3:=k3 n (by omega)
 have k4:=k4 n (by omega)
 have hnow:=R.now
 have hlo:=R.len
 have hes:=hW.len
 obtain ⟨L1,s1,E1⟩:=yyf (n:=n) (ob:=ob) (fz:=fz) (nx:=nx) hL hi
 obtain ⟨L2,s2,E2,f20,f21⟩:=yy8 (n:=n) (ob:=ob) (fz:=fz) (nx:=nx) E1 (by omega)
 obtain ⟨L3,ob3,s3,E3,f20,f21,f22,p22,old3⟩:=y10o (n:=n) (fz:=fz) (heat:=w.heat) (hat:=hat) E2 B f20 f21 hnow (fun c1 c2=>by
  have:=R.blind c1 (by omega)
  rw [←hhat] at this
  simpa using this)
 have B3:=B.old old3 (nx':=nx+6) (by omega)
 obtain ⟨L4,ob4,s4,E4,f20,f21,f23,f24,p23,p24,old4⟩:=y13j (n:=n) (fz:=fz) E3 B3 f20 f21 f22 p22 (by omega) k1 gw o4w
 obtain ⟨L5,ob5,s5,E5,f20,f21,f24,p24,old5⟩:=y132 (n:=n) (fz:=fz) (nx:=nx+6+14) E4 f20 f21 f23 f24 p23 p24 (by omega) (by omega) (by omega) k2 k3 k4
 have old5':∀id,id<nx→ob5 id=ob id:=fun id hid=>by rw [old5 _ (by omega),old4 _ (by omega),old3 _ hid]
 have B5:=B.old old5' (nx':=nx+6+14) (by omega)
 have hqo:∀id ver,o=.rsl id ver 8 0 es.length false→id≠nx+6+12:=by
  intro id ver ho
  rcases B.out with ⟨_,h1⟩ | ⟨id',ver',h1,_,_,h7⟩
  ·rw [h1] at ho;cases ho
  ·rw [h1] at ho
   injection ho with e1
   omega
 obtain ⟨L6,ob6,v,tc,s6,E6,f20,f21,f24,p24,hv1,v1,v2,v3,old6⟩:=yx5 (n:=n) (fz:=fz) E5 B5 f20 f21 f24 p24 hqo (by omega) hW hlo (by omega)
 obtain ⟨L7,ob7,tc',s7,E7,f24,p24,hv2,old7⟩:=yzj (n:=n) (fz:=fz) (nx:=nx+6+14) E6 f20 f21 f24 p24 hv1
 have hval:(if (kind=1∧a≤i)∨(0<kind∧a≤i∧d≤i-a) then 0 else v)=m.tq d k kind (a:Int) (i:Int) w want:=by
  rw [←hrtq]
  unfold Mt.rtq
  by_cases c1:(kind=1∧a≤i)∨(0<kind∧a≤i∧d≤i-a)
  ·rw [if_pos c1,if_pos (by omega)]
  ·rw [if_neg c1,if_neg (by omega)]
   by_cases c2:kind=2∧a≤i
   ·rw [if_pos (by omega)]
    rcases R.stuck c2.1 (by omega) (by omega) with ⟨q1,q2⟩ | ⟨q1,q2⟩
    ·rw [q2];exact v2 c2.1 c2.2 (by omega)
    ·refine v3 c2.1 c2.2 (by omega) _ ?_
     rw [show ((a:Int)-1).toNat=a-1 by omega] at q2
     exact q2
   ·rw [if_neg (by omega),←htop];exact v1 c2
 rw [hval] at hv2
 have old7':∀id,id<nx→ob7 id=ob id:=fun id hid=>by rw [old7 _ (by omega),old6 _ (by omega),old5' _ hid]
 have B7:=B.old old7' (nx':=nx+6+14) (by omega)
 have k5:=k5 tc' hv2 n (by omega)
 have n6:=B.nx6
 obtain ⟨L8,ob8,h',o',hv',s8,E8,B8⟩:=yyp (n:=n) (fz:=fz) E7 B7 f24 p24 hv2 (by omega) (by omega) hqo hnow (by rw [List.length_cons,List.length_map];omega) (by omega) hW.okSz k5
 obtain ⟨L9,s9,E9⟩:=y120 (n:=n) (ob:=ob8) (fz:=fz) (nx:=nx+6+14+22) E8 (by omega)
 refine ⟨L9,ob8,nx+6+14+22,h',o',hv',_, ?_,E9, ?_,hW.snoc ⟨tc',hv2,rfl⟩⟩
 ·rw [rw_L0,x_seq,s1,y4j,x_seq,yj8,y10l,s2,s3,s4,s5,s6,s7,s8,ygm,y4j,s9]
 ·rw [List.map_append,←List.cons_append];exact B8
theorem yps (m:Mt) (ok:m.Ok) (ms:MtS m) (d k kind a:Nat) (hd:d≤16) (hk:k≤64) (hk3:kind≤3) (h0:Rat) (ws:List (List AV)) (o4w:okSz 4 ws=true) (hlen:ws.length≤20):
  ∀(r:List Rat) (i:Nat) (w:Wt) (Z:Nat),ws.drop i=r.map rC→HtS Z w.heat→Z+1670*r.length≤60000→SmQ 64000 w.read→TqS (256+66) w.last→(∀x∈r,SmQ 256 x)→i+r.length=ws.length→WInv m d k kind (a:Int) (i:Int) w→
  ∃N,∀n,N≤n→∀(ob:Nat→Option AObj) (fz:Nat→Nat) (nx:Nat) (L:List (Nat×SV)) (h o:AV) (hv:Nat) (es:List (List AV)) (os:List Wt),RwE L d k ws kind a h o i→RwB ob nx m h o (h0::os.map Wt.heat) hv es→WtRs os es→RelW h0 d kind (a:Int) i w os→∀M,r.length<M→
   ∃L' ob' nx' h' o' hv' es',loopN (evC (evF E n) n Fn.y06) M ⟨env L,ob,fz,nx⟩=some (.ext 0,⟨env L',ob',fz,nx'⟩)∧RwE L' d k ws kind a h' o' ws.length∧
    RwB ob' nx' m h' o' (h0::(os++m.watch d k kind (a:Int) (i:Int) w r).map Wt.heat) hv' es'∧WtRs (os++m.watch d k kind (a:Int) (i:Int) w r) es'
 | [],i,w,Z,hdr,hH,hZ,hR,hl,hx,hi,hI=>by
  rw [List.length_nil,Nat.add_zero] at hi
  subst hi
  refine ⟨0,fun n hn ob fz nx L h o hv es os hL B hW R M hM=> ?_⟩
  obtain ⟨M,rfl⟩:∃q,M=q+1:=⟨M-1,by omega⟩
  obtain ⟨L',s,E'⟩:=yz5 (n:=n) (ob:=ob) (fz:=fz) (nx:=nx) hL rfl
  refine ⟨L',ob,nx,h,o,hv,es,y09 s,E', ?_, ?_⟩
  ·unfold Mt.watch;rw [List.append_nil];exact B
  ·unfold Mt.watch;rw [List.append_nil];exact hW
 | want::r,i,w,Z,hdr,hH,hZ,hR,hl,hx,hi,hI=>by
  rw [List.length_cons] at hi hZ
  have gw:ws[i]? =some (rC want):=by
   have:=congrArg (fun l=>l[0]?) hdr
   simpa using this
  have hd':ws.drop (i+1)=r.map rC:=by
   have:=congrArg (fun l=>l.drop 1) hdr
   simpa using this
  have hw:=hx want (by simp)
  have h5:Z≤64000:=by omega
  have h7:Z+(4*256+2*(256+66)+2)+1670*r.length≤60000:=by omega
  have hh:SmQ 64000 w.heat:=hH.sm.mono h5
  have q2:=yqf (d:=d) (kind:=kind) (at_:=(a:Int)) (i:=(i:Int)) hk ms.t ok.t hw hl
  have q3:=HtS.next (m:=m) ms.s ms.h ms.c hH q2
  have q4:SmQ 64000 (Mt.rd kind (a:Int) (i:Int) w):=by unfold Mt.rd;split<;>assumption
  have ei:((i:Nat):Int)+1=((i+1:Nat):Int):=rfl
  have hI':=hI.step ok hk3 want
  obtain ⟨N1,k1⟩:=yw4 m ok ms d k kind a hd hk hk3 h0 w want ws i gw o4w (by omega) (by omega) hI hh hR hw q2
  obtain ⟨N2,k2⟩:=yps m ok ms d k kind a hd hk hk3 h0 ws o4w hlen r (i+1) (m.step d k kind (a:Int) (i:Int) w want) _ hd' q3 h7 q4 q2 (fun y hy=>hx y (by simp [hy])) (by omega) hI'
  refine ⟨N1+N2,fun n hn ob fz nx L h o hv es os hL B hW R M hM=> ?_⟩
  rw [List.length_cons] at hM
  obtain ⟨M,rfl⟩:∃q,M=q+1:=⟨M-1,by omega⟩
  obtain ⟨L1,ob1,nx1,h1,o1,hv1,es1,s1,E1,B1,W1⟩:=k1 n (by omega) ob fz nx L h o hv es os hL B hW R
  have R1:=R.step (m:=m) (k:=k) (by omega) hk3 want
  obtain ⟨L2,ob2,nx2,h2,o2,hv2,es2,s2,E2,B2,W2⟩:=k2 n (by omega) ob1 fz nx1 L1 h1 o1 hv1 es1 _ E1 B1 W1 R1 M (by omega)
  refine ⟨L2,ob2,nx2,h2,o2,hv2,es2,by rw [y0c s1];exact s2,E2, ?_, ?_⟩
  ·unfold Mt.watch;rw [ei];rw [List.append_assoc] at B2;exact B2
  ·unfold Mt.watch;rw [ei];rw [List.append_assoc] at W2;exact W2
def WtQ (o:Wt) (e:List AV):Prop:=∃tc,RQ o.last tc∧e=tc++rC o.heat
def WtQs:List Wt→List (List AV)→Prop
 | [],[]=>True
 | o::r,e::s=>WtQ o e∧WtQs r s
 | _,_=>False
theorem WtQs.len:∀{ms:List Wt} {es:List (List AV)},WtQs ms es→es.length=ms.length
 | [],[],_=>rfl
 | _::r,_::s,h=>by rw [List.length_cons,List.length_cons,WtQs.len h.2]
theorem WtR.frz {o:Wt} {e:List AV} (h:WtR o e) (ob:Nat→Option AObj) (k:Nat):∃e2,WtQ o e2∧∀fz,mapFz (Ev.frz ob (k+1)) fz e=some (fz,e2):=by
 obtain ⟨tc,hw,rfl⟩:=h
 have hr:∀fz,mapFz (Ev.frz ob (k+1)) fz (rC o.heat)=some (fz,rC o.heat):=fun fz=>y60 _ fun x hx=>(CanL.r o.heat x hx).frz ob k fz
 rcases hw with hq | ⟨h0,rfl⟩
 ·refine ⟨tc++rC o.heat,⟨tc,hq,rfl⟩,fun fz=>y60 _ fun x hx=> ?_⟩
  rcases List.mem_append.1 hx with hx | hx
  ·have hc:=hq.can
   cases hc with
   | agg _ hc=>exact (hc x hx).frz ob k fz
  ·exact (CanL.r o.heat x hx).frz ob k fz
 ·refine ⟨[.bool false,.sl false [],.bool false,.sl false []]++rC o.heat,⟨_,.inr ⟨h0,rfl⟩,rfl⟩, ?_⟩
  exact y5f (fun fz=>rfl) (y5f (fun fz=>rfl) (y5f (fun fz=>rfl) (y5f (fun fz=>rfl) hr)))
theorem WtRs.frz (ob:Nat→Option AObj) (k:Nat):∀{ms:List Wt} {es:List (List AV)},WtRs ms es→∃es2,WtQs ms es2∧∀fz,mapFz (mapFz (Ev.frz ob (k+1))) fz es=some (fz,es2)
 | [],[],_=>⟨[],trivial,fun fz=>rfl⟩
 | _::r,_::s,h=>by
  obtain ⟨e2,h1,h2⟩:=h.1.frz ob k
  obtain ⟨s2,h3,h4⟩:=WtRs.frz ob k h.2
  exact ⟨e2::s2,⟨h1,h3⟩,y5f h2 h4⟩
theorem RwB.frz {ob:Nat→Option AObj} {nx:Nat} {m:Mt} {h o:AV} {hs:List Rat} {hv:Nat} {es:List (List AV)} {os:List Wt} (B:RwB ob nx m h o hs hv es) (hW:WtRs os es):∃es2,WtQs os es2∧∃g:(Nat→Nat)→(Nat→Nat),∀fz,frzS ob fz (.one o)=some (g fz,.one (.sl false es2)):=by
 obtain ⟨es2,hq,hm⟩:=hW.frz ob 6
 refine ⟨es2,hq, ?_⟩
 rcases B.out with ⟨rfl,rfl⟩ | ⟨id,ver,rfl,hid,h6,h7⟩
 ·have:=hm (fun _=>0)
  simp only [mapFz,Option.some.injEq,Prod.mk.injEq] at this
  rw [←this.2]
  exact ⟨fun fz=>fz,fun fz=>rfl⟩
 ·refine ⟨fun fz=>raise fz id (0+es.length),fun fz=> ?_⟩
  have hb:Nat.ble (0+es.length) es.length=true:=by simp
  have h1:Ev.frz ob DEPTH fz (.rsl id ver 8 0 es.length false)=some (raise fz id (0+es.length),.sl false es2):=by
   rw [show DEPTH=6+1+1 from rfl,y94,y46 hid]
   simp only [hb,cond_true,List.drop_zero,List.take_length]
   rw [hm]
  simp only [frzS,h1]
set_option maxRecDepth 100000 in
theorem yr2 (m:Mt) (ok:m.Ok) (ms:MtS m) (d k kind a:Nat) (hd:d≤16) (hk:k≤64) (hk3:kind≤3) (h0:Rat) (g0:0≤h0) (g1:h0≤m.M) (sh:SmQ 256 h0) (ws:List Rat) (hlen:ws.length≤20) (sw:∀x∈ws,SmQ 256 x):
  ∃N,∀n,N≤n→∃es2,WtQs (m.watch d k kind (a:Int) 0 ⟨h0,0,h0⟩ ws) es2∧
   evV E (n+1) Id.y0x [.agg (rmC m.T m.H m.C m.M),.agg (rC m.s),.agg (rC h0),.one (.int .i64 (d:Int)),.one (.int .i64 (k:Int)),.one (.sl false (ws.map rC)),.one (.int .u8 (kind:Int)),.one (.int .i64 (a:Int))]=some (.one (.sl false es2)):=by
 obtain ⟨N,hN⟩:=yps m ok ms d k kind a hd hk hk3 h0 (ws.map rC) (yjp ws) (by rw [List.length_map];exact hlen) ws 0 ⟨h0,0,h0⟩ 256 rfl (.of sh) (by omega) (sh.mono (by decide)) (TqS.zero (by omega)) sw (by simp) (ypf ok (by omega) g0 g1)
 refine ⟨N+ws.length+1,fun n hn=> ?_⟩
 have key:∀(ob:Nat→Option AObj) (L:List (Nat×SV)),RwE L d k (ws.map rC) kind a (.rsl 5 0 4 0 1 false) .nils 0→RwB ob 7 m (.rsl 5 0 4 0 1 false) .nils [h0] 0 []→
   ∃es2,WtQs (m.watch d k kind (a:Int) 0 ⟨h0,0,h0⟩ ws) es2∧finV [.tmp 16] (thenC (evF E n) n (tailAt 4 Fn.y0x.code) (blkC 0 (loopN (evC (evF E n) n Fn.y06) n ⟨env L,ob,fz0,7⟩)))=some (.one (.sl false es2)):=by
  intro ob L hL B
  obtain ⟨L',ob',nx',h',o',hv',es',f1,E',B',W'⟩:=hN n (by omega) ob fz0 7 L _ _ 0 [] [] hL B trivial (RelW.start (by omega)) n (by omega)
  rw [List.nil_append] at B' W'
  obtain ⟨es2,hq,g,hf⟩:=B'.frz W'
  refine ⟨es2,hq, ?_⟩
  obtain ⟨e3,e4,e5,e6,e7,e8,e9,e17,e18,e19⟩:=E'
  rw [f1,y7a,if_pos rfl,y4j]
  simp only [go_sem,tailAt,Fn.y0x,e3,e4,e5,e6,e7,e8,e9,e17,e18,e19,hf]
 rw [y04 ye5,show Fn.y0x.code=cutAt 4 Fn.y0x.code (tailAt 4 Fn.y0x.code) from rfl]
 generalize tailAt 4 Fn.y0x.code=T' at key ⊢
 simp only [go_sem,cutAt,Fn.y0x]
 exact key _ _ ⟨rfl,rfl,rfl,rfl,rfl,rfl,rfl,rfl,rfl,rfl⟩ ⟨rfl,rfl,rfl,rfl,by decide,.inl ⟨rfl,rfl⟩⟩
theorem ypj (m:Mt) (ok:m.Ok) (ms:MtS m) (d k kind a:Nat) (hd:d≤16) (hk:k≤64) (hk3:kind≤3) (h0:Rat) (g0:0≤h0) (g1:h0≤m.M) (sh:SmQ 256 h0) (ws:List Rat) (hlen:ws.length≤20) (sw:∀x∈ws,SmQ 256 x):
  ∃es2,WtQs (m.watch d k kind (a:Int) 0 ⟨h0,0,h0⟩ ws) es2∧
   Ends Id.y0x [.agg (rmC m.T m.H m.C m.M),.agg (rC m.s),.agg (rC h0),.one (.int .i64 (d:Int)),.one (.int .i64 (k:Int)),.one (.sl false (ws.map rC)),.one (.int .u8 (kind:Int)),.one (.int .i64 (a:Int))] (.one (.sl false es2)):=by
 obtain ⟨N,hN⟩:=yr2 m ok ms d k kind a hd hk hk3 h0 g0 g1 sh ws hlen sw
 obtain ⟨es2,h1,h2⟩:=hN N (Nat.le_refl _)
 exact ⟨es2,h1,N+1,fun n hn=>yos hn h2⟩
end Go.Ev
namespace Go.Ev
open Go.Dig
def byteE (ds:List Nat):List (List AV):=ds.map fun (d:Nat)=>[AV.int .u8 d]
theorem y9n (ds:List Nat):(byteE ds).length=ds.length:=by simp [byteE]
theorem yv4 (ds:List Nat) (k:Nat):(byteE ds)[k]? =(ds[k]?).map fun (d:Nat)=>[AV.int .u8 d]:=by simp [byteE]
theorem yvd (ds:List Nat) (k d:Nat):(byteE ds).set k [AV.int .u8 d]=byteE (ds.set k d):=by simp [byteE,List.map_set]
theorem yi0 (o:List Nat) (d:Nat):byteE o++[[AV.int .u8 (d:Int)]]=byteE (o++[d]):=by simp [byteE]
attribute [go_sem] y9n yv4 yvd
theorem ypv {ob:Nat→Option AObj} {id:Nat} {o:AObj} (h:ob id=some o):upd ob id o=ob:=by
 funext k
 by_cases e:k=id
 ·subst e;rw [upd_same,h]
 ·rw [y00 e]
section
variable {F:Caller} {fuel:Nat} {fz:Nat→Nat} {nx:Nat}
set_option maxRecDepth 100000 in
theorem yxl {id ver T:Nat} (hid:id<nx) (hfz:fz id=0) (o:List Nat) (hT:o.length=T) (hT2:T<2^60):∀(m i j:Nat),i+j+1=T→j≤m→∀(ob:Nat→Option AObj) (o':List Nat) (X:List (Nat×SV)),o'.length=T→ob id=some (.row 1 (byteE o') ver)→(∀k,k<T→o'[k]? =if k<i∨j<k then o[T-1-k]? else o[k]?)→∀N,m<N→
  ∃X',loopN (evC F fuel Fn.y3y) N ⟨env ((0,.one (.rsl id ver 1 0 T false))::(2,.one (.int .i64 (i:Int)))::(3,.one (.int .i64 (j:Int)))::X),ob,fz,nx⟩=
   some (.ext 0,⟨env ((0,.one (.rsl id ver 1 0 T false))::X'),upd ob id (.row 1 (byteE o.reverse) ver),fz,nx⟩):=by
 intro m
 induction m with
 | zero=>
  intro i j hij hjm ob o' X hol hob hinv N hN
  obtain ⟨N,rfl⟩:∃k,N=k+1:=⟨N-1,by omega⟩
  have hr:o'=o.reverse:=by
   apply List.ext_getElem?
   intro k
   by_cases hk:k<T
   ·rw [hinv k hk,List.getElem?_reverse (by omega),hT]
    split
    ·rfl
    ·rw [show T-1-k=k by omega]
   ·rw [List.getElem?_eq_none (by omega),List.getElem?_eq_none (by rw [List.length_reverse];omega)]
  have hlt:(((i:Nat):Int)<((j:Nat):Int))=False:=by simp;omega
  refine ⟨[(2,.one (.int .i64 (i:Int))),(3,.one (.int .i64 (j:Int))),(9,.one (.bool false))],y09 ?_⟩
  rw [←hr,ypv hob]
  simp only [go_sem,Fn.y3y,hlt]
 | succ m ih=>
  intro i j hij hjm ob o' X hol hob hinv N hN
  obtain ⟨N,rfl⟩:∃k,N=k+1:=⟨N-1,by omega⟩
  by_cases hlt':i<j
  ·have hlt:(((i:Nat):Int)<((j:Nat):Int))=True:=by simp;omega
   obtain ⟨x,gi⟩:∃x,o'[i]? =some x:=⟨o'[i],by simp⟩
   obtain ⟨y,gj⟩:∃y,o'[j]? =some y:=⟨o'[j],by simp⟩
   have w1:IntKind.i64.wrap ((i+1:Nat):Int)=((i+1:Nat):Int):=wi64 (by omega)
   have w2:IntKind.i64.wrap (((j:Nat):Int)-1)=((j-1:Nat):Int):=by rw [wrap_i64 (by omega)];omega
   have li:(i<T)=True:=by simp;omega
   have lj:(j<T)=True:=by simp;omega
   have lid:∀k,(id<nx+k)=True:=fun k=>by simp only [eq_iff_iff,iff_true];omega
   have lid0:(id<nx)=True:=by simp only [eq_iff_iff,iff_true];omega
   have hrow:rowAt ob id ver=some (1,byteE o'):=y46 hob
   have hset:(o'.set i y).length=T:=by simp [hol]
   have gj2:(o'.set i y)[j]? =some y:=by rw [List.getElem?_set_ne (by omega)];exact gj
   have hst:evC F fuel Fn.y3y ⟨env ((0,.one (.rsl id ver 1 0 T false))::(2,.one (.int .i64 (i:Int)))::(3,.one (.int .i64 (j:Int)))::X),ob,fz,nx⟩=
     some (.nrm,⟨env [(0,.one (.rsl id ver 1 0 T false)),(2,.one (.int .i64 ((i+1:Nat):Int))),(3,.one (.int .i64 ((j-1:Nat):Int)))],upd (upd ob id (.row 1 (byteE (o'.set i y)) ver)) id (.row 1 (byteE ((o'.set i y).set j x)) ver),fz,nx⟩):=by
    simp only [go_sem,Fn.y3y,hlt,hob,hrow,gi,gj,gj2,li,lj,lid,lid0,hfz,hol,hset,add1,w1,w2]
   rw [y0c hst]
   obtain ⟨X',hX⟩:=ih (i+1) (j-1) (by omega) (by omega) (upd (upd ob id (.row 1 (byteE (o'.set i y)) ver)) id (.row 1 (byteE ((o'.set i y).set j x)) ver)) ((o'.set i y).set j x) [] (by simp [hol]) (upd_same _ _ _) (fun k hk=>by
    have q:=hinv k hk
    have qi:=hinv i (by omega)
    have qj:=hinv j (by omega)
    rw [if_neg (by omega)] at qi qj
    by_cases e1:k=j
    ·subst e1
     rw [List.getElem?_set_self (by simp;omega),if_pos (by omega),show T-1-k=i by omega,←qi,gi]
    ·rw [List.getElem?_set_ne (by omega)]
     by_cases e2:k=i
     ·subst e2
      rw [List.getElem?_set_self (by omega),if_pos (by omega),show T-1-k=j by omega,←qj,gj]
     ·rw [List.getElem?_set_ne (by omega),q]
      by_cases e3:k<i∨j<k
      ·rw [if_pos e3,if_pos (by omega)]
      ·rw [if_neg e3,if_neg (by omega)]) N (by omega)
   exact ⟨X',by rw [hX,yjm,yjm]⟩
  ·have hr:o'=o.reverse:=by
    apply List.ext_getElem?
    intro k
    by_cases hk:k<T
    ·rw [hinv k hk,List.getElem?_reverse (by omega),hT]
     split
     ·rfl
     ·rw [show T-1-k=k by omega]
    ·rw [List.getElem?_eq_none (by omega),List.getElem?_eq_none (by rw [List.length_reverse];omega)]
   have hlt:(((i:Nat):Int)<((j:Nat):Int))=False:=by simp;omega
   refine ⟨[(2,.one (.int .i64 (i:Int))),(3,.one (.int .i64 (j:Int))),(9,.one (.bool false))],y09 ?_⟩
   rw [←hr,ypv hob]
   simp only [go_sem,Fn.y3y,hlt]
end
theorem yzs {n id ver:Nat} {ob:Nat→Option AObj} {fz:Nat→Nat} {nx:Nat} (hid:id<nx) (hfz:fz id=0) (o:List Nat) (h1:1≤o.length) (h2:o.length<2^60) (hob:ob id=some (.row 1 (byteE o) ver)) (hn:o.length+1≤n):
  evF E (n+1) (.fn Id.y1b) [.one (.rsl id ver 1 0 o.length false)] ⟨ob,fz,nx⟩=some (.tup [],⟨upd ob id (.row 1 (byteE o.reverse) ver),fz,nx⟩):=by
 rw [ya8 y9r]
 obtain ⟨X',hX⟩:=yxl (F:=evF E n) (fuel:=n) (nx:=nx) hid hfz o rfl h2 (o.length-1) 0 (o.length-1) (by omega) (Nat.le_refl _) ob o [] rfl hob (fun k hk=>by
  rw [if_neg (by omega)]) n (by omega)
 have w1:IntKind.i64.wrap (((o.length:Nat):Int)-1)=((o.length-1:Nat):Int):=by rw [wrap_i64 (by omega)];omega
 rw [show ((0:Nat):Int)=0 from rfl] at hX
 simp only [go_sem,Fn.y1b,w1,hX,yoo]
end Go.Ev
namespace Go.Ev
open Go.Dig
def padD:Nat→Nat→List Nat
 | 0,_=>[]
 | k+1,d=>d%10::padD k (d / 10)
theorem ynl {q:Nat} (hq:q≠0):∀(k d:Nat),d<10^k→digs 10 (d+10^k*q)=padD k d++digs 10 q
 | 0,d,h=>by
  have:d=0:=by simpa using h
  subst this
  simp [padD]
 | k+1,d,h=>by
  have hp:0<10^(k+1)*q:=Nat.mul_pos (Nat.pow_pos (by decide)) (Nat.pos_of_ne_zero hq)
  rw [y6n (by decide) (by omega)]
  have e:10^(k+1)*q=10*(10^k*q):=by rw [Nat.pow_succ];rw [Nat.mul_comm (10^k) 10,Nat.mul_assoc]
  have e1:(d+10^(k+1)*q)%10=d%10:=by omega
  have e2:(d+10^(k+1)*q) / 10=d / 10+10^k*q:=by omega
  rw [e1,e2,ynl hq k (d / 10) (by rw [Nat.pow_succ] at h;omega)]
  rfl
def chD (ds:List Nat):List Nat:=ds.map (48+·)
theorem yzy (a b:List Nat):chD (a++b)=chD a++chD b:=by simp [chD]
def tailD (q k d:Nat):List Nat:=if q≠0 then padD k d else digs 10 d
theorem yr6 {q k d:Nat} (h:q≠0∨d≠0):tailD q (k+1) d=d%10::tailD q k (d / 10):=by
 unfold tailD
 by_cases hq:q≠0
 ·rw [if_pos hq,if_pos hq];rfl
 ·rw [if_neg hq,if_neg hq,y6n (by decide) (by omega)]
theorem yty (a:Nat):tailD (a / 1000000000) 9 (a%1000000000)++digs 10 (a / 1000000000)=digs 10 a:=by
 unfold tailD
 have e:a%1000000000+1000000000*(a / 1000000000)=a:=Nat.mod_add_div a 1000000000
 by_cases hq:a / 1000000000≠0
 ·rw [if_pos hq,←ynl hq 9 _ (by show _<1000000000;omega)]
  rw [show (10:Nat)^9=1000000000 from rfl,e]
 ·rw [if_neg hq]
  have h0:a / 1000000000=0:=by omega
  rw [h0,digs_zero,List.append_nil,Nat.mod_eq_of_lt (by omega)]
section
variable {F:Caller} {fuel:Nat} {fz:Nat→Nat}
set_option maxRecDepth 100000 in
theorem yu1 {ob:Nat→Option AObj} {nx:Nat} (q d i:Nat) (hi:i<9) (hqd:q≠0∨d≠0) (hd:d<10^9) (x:AV) (o:List Nat) (ho:o.length<2^40) (hx:OutE 1 ob nx x (byteE o)) (X:List (Nat×SV)):∃ob' nx' x',
  evC F fuel Fn.y1d ⟨env ((3,.one x)::(4,.one (natV q))::(6,.one (.int .u64 (d:Int)))::(7,.one (.int .i64 (i:Int)))::X),ob,fz,nx⟩=
   some (.nrm,⟨env [(3,.one x'),(4,.one (natV q)),(6,.one (.int .u64 ((d / 10:Nat):Int))),(7,.one (.int .i64 ((i+1:Nat):Int)))],ob',fz,nx'⟩)∧nx≤nx'∧OutE 1 ob' nx' x' (byteE (o++[48+d%10])):=by
 have hd9:d<1000000000:=hd
 have h1:(((i:Nat):Int)<9)=True:=by simp;omega
 have wk:IntKind.i64.wrap ((i+1:Nat):Int)=((i+1:Nat):Int):=wi64 (by omega)
 have t10:((10:Int)=0)=False:=by simp
 have m1:((d:Nat):Int).tmod 10=((d%10:Nat):Int):=by rw [Int.tmod_eq_emod_of_nonneg (by omega)];omega
 have m2:IntKind.u64.wrap (48+((d%10:Nat):Int))=((48+d%10:Nat):Int):=by
  have:(48+((d%10:Nat):Int))=((48+d%10:Nat):Int):=by omega
  rw [this,IntKind.wrap_u64];omega
 have m3:IntKind.u8.wrap ((48+d%10:Nat):Int)=((48+d%10:Nat):Int):=by rw [IntKind.wrap_u8];omega
 have m4:IntKind.u64.wrap (((d:Nat):Int).tdiv 10)=((d / 10:Nat):Int):=by
  rw [Int.tdiv_eq_ediv_of_nonneg (by omega)]
  have:((d:Nat):Int) / 10=((d / 10:Nat):Int):=by omega
  rw [this,IntKind.wrap_u64];omega
 have gd:(((d:Nat):Int)>0)=(d≠0):=by rw [eq_iff_iff];omega
 have gq:(((digs B32 q).length:Int)>0)=(q≠0):=by
  by_cases h0:q=0
  ·subst h0;rw [digs_zero];simp
  ·have:=y4c (B:=B32) (by decide) h0
   have:(digs B32 q).length≠0:=fun e=>this (List.length_eq_zero_iff.1 e)
   simp only [eq_iff_iff,ne_eq,h0,not_false_eq_true,iff_true];omega
 have one8:[[AV.int .u8 ((48+d%10:Nat):Int)]]=byteE [48+d%10]:=rfl
 unfold natV at*
 have key:∀(gq':((digs B32 q).length:Int)>0∨True),∃ob' nx' x',
  evC F fuel Fn.y1d ⟨env ((3,.one x)::(4,.one (.sl false (natE (digs B32 q))))::(6,.one (.int .u64 (d:Int)))::(7,.one (.int .i64 (i:Int)))::X),ob,fz,nx⟩=
   some (.nrm,⟨env [(3,.one x'),(4,.one (.sl false (natE (digs B32 q)))),(6,.one (.int .u64 ((d / 10:Nat):Int))),(7,.one (.int .i64 ((i+1:Nat):Int)))],ob',fz,nx'⟩)∧nx≤nx'∧OutE 1 ob' nx' x' (byteE (o++[48+d%10])):=by
  intro _
  by_cases hq:q≠0
  ·have gq1:(((digs B32 q).length:Int)>0)=True:=by rw [gq];simp [hq]
   rcases hx with ⟨he,rfl⟩ | ⟨a,va,rfl,h2,h3⟩
   ·have ho0:o=[]:=by simpa [byteE] using he
    subst ho0
    obtain ⟨r,hr0⟩:∃r,evC F fuel Fn.y1d ⟨env ((3,.one .nils)::(4,.one (.sl false (natE (digs B32 q))))::(6,.one (.int .u64 (d:Int)))::(7,.one (.int .i64 (i:Int)))::X),ob,fz,nx⟩=r:=⟨_,rfl⟩
    have hr:=hr0
    simp only [go_sem,Fn.y1d,y4n,h1,gq1,gd,t10,m1,m2,m3,m4,okSz,ROOM,Nat.reduceBEq,add1,wk] at hr
    rw [hr0,←hr]
    exact ⟨_,_,_,rfl,by omega,.inr ⟨_,0,rfl,upd_same _ _ _,by omega⟩⟩
   ·have hrow:∀k y,rowAt (upd ob (nx+k) y) a va=some (1,byteE o):=fun k y=>(y4z (by omega)).trans (y46 h2)
    have w1:(o.length+1)*1≤140737488355328:=by omega
    obtain ⟨r,hr0⟩:∃r,evC F fuel Fn.y1d ⟨env ((3,.one (.rsl a va 1 0 (byteE o).length false))::(4,.one (.sl false (natE (digs B32 q))))::(6,.one (.int .u64 (d:Int)))::(7,.one (.int .i64 (i:Int)))::X),ob,fz,nx⟩=r:=⟨_,rfl⟩
    have hr:=hr0
    simp only [go_sem,Fn.y1d,y4n,h1,gq1,gd,t10,m1,m2,m3,m4,okSz,ROOM,Nat.reduceBEq,hrow,w1,beq_self_eq_true,add1,wk] at hr
    rw [hr0,←hr]
    refine ⟨_,_,_,rfl,by omega,.inr ⟨a,va+1, ?_, ?_,by omega⟩⟩
    ·rw [y9n,List.length_append];rfl
    ·rw [←yi0];exact upd_same _ _ _
  ·have hd0:(d≠0)=True:=by rw [eq_iff_iff];simp;omega
   have gq1:(((digs B32 q).length:Int)>0)=False:=by rw [gq];simp [hq]
   rcases hx with ⟨he,rfl⟩ | ⟨a,va,rfl,h2,h3⟩
   ·have ho0:o=[]:=by simpa [byteE] using he
    subst ho0
    obtain ⟨r,hr0⟩:∃r,evC F fuel Fn.y1d ⟨env ((3,.one .nils)::(4,.one (.sl false (natE (digs B32 q))))::(6,.one (.int .u64 (d:Int)))::(7,.one (.int .i64 (i:Int)))::X),ob,fz,nx⟩=r:=⟨_,rfl⟩
    have hr:=hr0
    simp only [go_sem,Fn.y1d,y4n,h1,gq1,gd,hd0,t10,m1,m2,m3,m4,okSz,ROOM,Nat.reduceBEq,add1,wk] at hr
    rw [hr0,←hr]
    exact ⟨_,_,_,rfl,by omega,.inr ⟨_,0,rfl,upd_same _ _ _,by omega⟩⟩
   ·have hrow:∀k y,rowAt (upd ob (nx+k) y) a va=some (1,byteE o):=fun k y=>(y4z (by omega)).trans (y46 h2)
    have w1:(o.length+1)*1≤140737488355328:=by omega
    obtain ⟨r,hr0⟩:∃r,evC F fuel Fn.y1d ⟨env ((3,.one (.rsl a va 1 0 (byteE o).length false))::(4,.one (.sl false (natE (digs B32 q))))::(6,.one (.int .u64 (d:Int)))::(7,.one (.int .i64 (i:Int)))::X),ob,fz,nx⟩=r:=⟨_,rfl⟩
    have hr:=hr0
    simp only [go_sem,Fn.y1d,y4n,h1,gq1,gd,hd0,t10,m1,m2,m3,m4,okSz,ROOM,Nat.reduceBEq,hrow,w1,beq_self_eq_true,add1,wk] at hr
    rw [hr0,←hr]
    refine ⟨_,_,_,rfl,by omega,.inr ⟨a,va+1, ?_, ?_,by omega⟩⟩
    ·rw [y9n,List.length_append];rfl
    ·rw [←yi0];exact upd_same _ _ _
 exact key (.inr trivial)
end
end Go.Ev
namespace Go.Ev
open Go.Dig
def strB (l:List Nat):ByteArray:=byteStr (l.map fun (d:Nat)=>(d:Int))
theorem yfw:∀l:List Nat,bytesOf (byteE l)=some (l.map fun (d:Nat)=>(d:Int))
 | []=>rfl
 | d::r=>by
  have ih:=yfw r
  show (match byteOf [AV.int .u8 (d:Int)],bytesOf (byteE r) with
   | some n,some l=>some (n::l)
   | _,_=>none)=_
  rw [ih];rfl
theorem yd0:∀(k d:Nat),(padD k d).length=k
 | 0,_=>rfl
 | k+1,d=>by unfold padD;rw [List.length_cons,yd0 k]
def decL (a:Nat):List Nat:=if a=0 then [48] else (chD (digs 10 a)).reverse
section
variable {fz:Nat→Nat}
set_option maxRecDepth 100000 in
theorem yt1 {F:Caller} {fuel:Nat} (q:Nat):∀(m i d:Nat),i+m=9→d<10^m→∀(ob:Nat→Option AObj) (nx:Nat) (x:AV) (o:List Nat) (X:List (Nat×SV)),o.length+m<2^40→OutE 1 ob nx x (byteE o)→∀N,m<N→
  ∃ob' nx' x' X',loopN (evC F fuel Fn.y1d) N ⟨env ((3,.one x)::(4,.one (natV q))::(6,.one (.int .u64 (d:Int)))::(7,.one (.int .i64 (i:Int)))::X),ob,fz,nx⟩=
   some (.ext 2,⟨env ((3,.one x')::(4,.one (natV q))::X'),ob',fz,nx'⟩)∧nx≤nx'∧OutE 1 ob' nx' x' (byteE (o++chD (tailD q m d))):=by
 intro m
 induction m with
 | zero=>
  intro i d hi hd ob nx x o X ho hx N hN
  obtain ⟨N,rfl⟩:∃k,N=k+1:=⟨N-1,by omega⟩
  have h1:(((i:Nat):Int)<9)=False:=by simp;omega
  have h0:d=0:=by simpa using hd
  have e:tailD q 0 d=[]:=by
   unfold tailD
   rw [h0,digs_zero]
   split<;>rfl
  rw [e]
  refine ⟨ob,nx,x,[(6,.one (.int .u64 (d:Int))),(7,.one (.int .i64 (i:Int))),(31,.one (.bool false))],y09 ?_,Nat.le_refl _,by simpa [chD] using hx⟩
  simp only [go_sem,Fn.y1d,h1]
 | succ m ih=>
  intro i d hi hd ob nx x o X ho hx N hN
  obtain ⟨N,rfl⟩:∃k,N=k+1:=⟨N-1,by omega⟩
  by_cases hqd:q≠0∨d≠0
  ·have hd9:d<10^9:=Nat.lt_of_lt_of_le hd (Nat.pow_le_pow_right (by decide) (by omega))
   obtain ⟨ob1,nx1,x1,hst,g1,g2⟩:=yu1 (F:=F) (fuel:=fuel) (fz:=fz) q d i (by omega) hqd hd9 x o (by omega) hx X
   obtain ⟨ob',nx',x',X',k1,k2,k3⟩:=ih (i+1) (d / 10) (by omega) (by rw [Nat.pow_succ] at hd;omega) ob1 nx1 x1 (o++[48+d%10]) [] (by rw [List.length_append];simp;omega) g2 N (by omega)
   refine ⟨ob',nx',x',X',by rw [y0c hst];exact k1,by omega, ?_⟩
   rw [yr6 hqd]
   have:o++chD (d%10::tailD q m (d / 10))=o++[48+d%10]++chD (tailD q m (d / 10)):=by simp [chD]
   rw [this];exact k3
  ·have hq0:q=0:=by omega
   have hd0:d=0:=by omega
   subst hq0 hd0
   have h1:(((i:Nat):Int)<9)=True:=by simp;omega
   have e:tailD 0 (m+1) 0=[]:=by unfold tailD;rw [if_neg (by simp),digs_zero]
   rw [e]
   have hq:(((digs B32 0).length:Int)>0)=False:=by rw [digs_zero];simp
   have hd:(((0:Nat):Int)>0)=False:=by simp
   refine ⟨ob,nx,x,[(6,.one (.int .u64 ((0:Nat):Int))),(7,.one (.int .i64 (i:Int))),(31,.one (.bool false))],y09 ?_,Nat.le_refl _,by simpa [chD] using hx⟩
   unfold natV
   simp only [go_sem,Fn.y1d,y4n,h1,hq,hd]
set_option maxRecDepth 100000 in
theorem yur {n:Nat}:∀(k a:Nat),a<2^k→k+30≤n→k<2^36→∀(ob:Nat→Option AObj) (nx:Nat) (x:AV) (o:List Nat) (X:List (Nat×SV)),o.length+9*k<2^39+(2^39-1)→OutE 1 ob nx x (byteE o)→∀N,k<N→
  ∃ob' nx' x' X',loopN (evC (evF E n) n Fn.y5a) N ⟨env ((0,.one (natV a))::(3,.one x)::X),ob,fz,nx⟩=
   some (.ext 0,⟨env ((0,.one (natV 0))::(3,.one x')::X'),ob',fz,nx'⟩)∧nx≤nx'∧OutE 1 ob' nx' x' (byteE (o++chD (digs 10 a))):=by
 intro k
 induction k with
 | zero=>
  intro a ha hn hk ob nx x o X ho hx N hN
  obtain ⟨N,rfl⟩:∃k,N=k+1:=⟨N-1,by omega⟩
  have h0:a=0:=by simpa using ha
  subst h0
  have hq:(((digs B32 0).length:Int)>0)=False:=by rw [digs_zero];simp
  refine ⟨ob,nx,x,[(13,.one (.bool false))],y09 ?_,Nat.le_refl _,by rw [digs_zero];simpa [chD] using hx⟩
  unfold natV
  simp only [go_sem,Fn.y5a,y4n,hq]
 | succ k ih=>
  intro a ha hn hk ob nx x o X ho hx N hN
  obtain ⟨N,rfl⟩:∃k,N=k+1:=⟨N-1,by omega⟩
  by_cases h0:a=0
  ·subst h0
   have hq:(((digs B32 0).length:Int)>0)=False:=by rw [digs_zero];simp
   refine ⟨ob,nx,x,[(13,.one (.bool false))],y09 ?_,Nat.le_refl _,by rw [digs_zero];simpa [chD] using hx⟩
   unfold natV
   simp only [go_sem,Fn.y5a,y4n,hq]
  ·have hq:(((digs B32 a).length:Int)>0)=True:=by
    have:=y4c (B:=B32) (by decide) h0
    have:(digs B32 a).length≠0:=fun e=>this (List.length_eq_zero_iff.1 e)
    simp;omega
   have hla:=y4a ha
   have hlr:dlen B32 (a%1000000000)≤2:=y58 (by decide) (by
    have h1:a%1000000000<1000000000:=Nat.mod_lt _ (by decide)
    have h2:(1000000000:Nat)≤B32^2:=by decide
    omega)
   obtain ⟨n,rfl⟩:∃j,n=j+1:=⟨n-1,by omega⟩
   have k1:=y01 (yk8 a 1000000000 (by decide) (by decide) (by omega) (n:=n) (by omega)) (can2 (y0d _) (y0y _ _))
   have k2:=y01 (ye6 (a%1000000000) hlr (n:=n) (by omega)) (can1 (y0d _))
   have hd:a%1000000000<10^9:=Nat.mod_lt _ (by decide)
   obtain ⟨ob1,nx1,x1,X1,q1,q2,q3⟩:=yt1 (F:=evF E (n+1)) (fuel:=n+1) (fz:=fz) (a / 1000000000) 9 0 (a%1000000000) rfl hd ob nx x o [] (by omega) hx (n+1) (by omega)
   have z0:((0:Nat):Int)=0:=rfl
   have z1:((1000000000:Nat):Int)=1000000000:=rfl
   rw [z0] at q1
   rw [z1] at k1
   have hlt:a / 1000000000<2^k:=by rw [Nat.pow_succ] at ha;omega
   have tl:(chD (tailD (a / 1000000000) 9 (a%1000000000))).length≤9:=by
    unfold chD tailD
    rw [List.length_map]
    split
    ·rw [yd0];exact Nat.le_refl _
    ·exact y58 (B:=10) (by decide) hd
   obtain ⟨ob',nx',x',X',r1,r2,r3⟩:=ih (a / 1000000000) hlt (by omega) (by omega) ob1 nx1 x1 (o++chD (tailD (a / 1000000000) 9 (a%1000000000))) [] (by rw [List.length_append];omega) q3 N (by omega)
   have hst:evC (evF E (n+1)) (n+1) Fn.y5a ⟨env ((0,.one (natV a))::(3,.one x)::X),ob,fz,nx⟩=some (.nrm,⟨env [(0,.one (natV (a / 1000000000))),(3,.one x1)],ob1,fz,nx1⟩):=by
    unfold natV at k1 k2 q1 ⊢
    simp only [go_sem,Fn.y5a,y4n,hq,k1,k2,q1]
   refine ⟨ob',nx',x',X',by rw [y0c hst];exact r1,by omega, ?_⟩
   have e:=yty a
   have:o++chD (digs 10 a)=o++chD (tailD (a / 1000000000) 9 (a%1000000000))++chD (digs 10 (a / 1000000000)):=by rw [←e,yzy,List.append_assoc]
   rw [this];exact r3
end
theorem y74 (ob:Nat→Option AObj) (fz:Nat→Nat) (b:ByteArray):frzS ob fz (.one (.str b))=some (fz,.one (.str b)):=Eq.trans rfl rfl
theorem ycq {a:Nat} (h:a≠0):decL a=(chD (digs 10 a)).reverse:=by unfold decL;rw [if_neg h]
theorem yg0 {x S:Nat} (h:x<2^S):(digs 10 x).length≤S:=by
 have h2:x<10^S:=Nat.lt_of_lt_of_le h (Nat.pow_le_pow_left (by decide) S)
 exact y58 (B:=10) (by decide) h2
set_option maxRecDepth 100000 in
theorem yg8 (a:Nat) {S:Nat} (ha:a<2^S) (hS:S<2^35) {n:Nat} (hn:2*S+40≤n):evV E (n+1) Id.y29 [.one (natV a)]=some (.one (.str (strB (decL a)))):=by
 rw [y04 yde]
 by_cases h0:a=0
 ·subst h0
  have hq:(((digs B32 0).length:Int)==0)=true:=by rw [digs_zero];rfl
  have e:strB (decL 0)=⟨#[48]⟩:=by rfl
  rw [e]
  unfold natV
  simp only [go_sem,Fn.y29,y4n,hq,y74]
 ·have hq:(((digs B32 a).length:Int)==0)=false:=by
   have:=y4c (B:=B32) (by decide) h0
   have:(digs B32 a).length≠0:=fun e=>this (List.length_eq_zero_iff.1 e)
   simp only [beq_eq_false_iff_ne,ne_eq];omega
  rw [ycq h0]
  obtain ⟨ob',nx',x',X',hloop,g1,g2⟩:=yur (fz:=fz0) (n:=n) S a ha (by omega) (by omega) ob0 0 .nils [] [] (by simp;omega) (.inl ⟨rfl,rfl⟩) n (by omega)
  rw [List.nil_append] at g2
  have hl10:=yg0 ha
  have hne:digs 10 a≠[]:=y4c (by decide) h0
  have hlen:(chD (digs 10 a)).length=(digs 10 a).length:=by simp [chD]
  have hpos:0<(digs 10 a).length:=List.length_pos_iff.2 hne
  generalize hD:chD (digs 10 a)=D at*
  rcases g2 with ⟨he,-⟩ | ⟨id,ver,rfl,hob,hid⟩
  ·have:D=[]:=by simpa [byteE] using he
   rw [this] at hlen;simp at hlen;omega
  ·obtain ⟨n,rfl⟩:∃j,n=j+1:=⟨n-1,by omega⟩
   have hrev:=yzs (n:=n) (fz:=fz0) hid rfl D (by omega) (by omega) hob (by omega)
   have hrow:=y46 (upd_same ob' id (.row 1 (byteE D.reverse) ver))
   have hle:(D.length≤D.reverse.length)=True:=by rw [List.length_reverse];simp
   have htk:(byteE D.reverse).take D.length=byteE D.reverse:=List.take_of_length_le (by rw [y9n,List.length_reverse];exact Nat.le_refl _)
   have hby:=yfw D.reverse
   rw [y9n] at hloop
   unfold natV at hloop ⊢
   generalize upd ob' id (.row 1 (byteE D.reverse) ver)=obR at hrev hrow
   simp only [go_sem,Fn.y29,y4n,hq,hloop,hrev,hrow,hle,htk,hby,beq_self_eq_true,y74]
   rfl
end Go.Ev
namespace Go.Ev
open Go.Dig
theorem yir:∀(l:List Int) (s:ByteArray),(l.foldl (fun r n=>r.push (UInt8.ofNat n.toNat)) s).data=s.data++(l.map fun n=>UInt8.ofNat n.toNat).toArray
 | [],s=>by simp
 | n::r,s=>by
  rw [List.foldl_cons,yir r]
  simp [ByteArray.push]
theorem y7j (l:List Nat):(strB l).data=(l.map fun d=>UInt8.ofNat d).toArray:=by
 unfold strB byteStr
 rw [yir]
 simp [ByteArray.empty,ByteArray.emptyWithCapacity]
 rfl
theorem yxa (a b:List Nat):strB (a++b)=strB a++strB b:=by
 apply ByteArray.ext
 rw [ByteArray.data_append,y7j,y7j,y7j]
 simp
def txtL (q:Rat):List Nat:=(if q.num<0 then 45::decL q.num.natAbs else decL q.num.natAbs)++(if q.den=1 then [] else 47::decL q.den)
theorem yb9 (l:List Nat):(strB l).size=l.length:=by
 show (strB l).data.size=_
 rw [y7j];simp
theorem ycd {a S:Nat} (h:a<2^S):(decL a).length≤S+1:=by
 unfold decL
 split
 ·simp
 ·rw [List.length_reverse]
  have:=yg0 h
  simp only [chD,List.length_map];omega
theorem y8l (a b:List Nat) (h:a.length+b.length<2^60):binS .add (strB a) (strB b)=some (.str (strB (a++b))):=by
 have hmax:IntKind.i64.max=9223372036854775807:=rfl
 show (if (((strB a).size+(strB b).size:Nat):Int)>IntKind.i64.max then none else some (AV.str (strB a++strB b)))=_
 rw [yb9,yb9,if_neg (by rw [hmax];omega),yxa]
theorem yt6 (a:ByteArray):binS .eql a a=some (.bool true):=by
 show some (AV.bool (a.toList==a.toList))=_
 rw [beq_self_eq_true]
set_option maxRecDepth 100000 in
theorem ywl (q:Rat) {S:Nat} (h:SmQ S q) (hS:S<2^34) {n:Nat} (hn:2*S+100≤n):evV E (n+1) Id.y3p [qV q]=some (.one (.str (strB (txtL q)))):=by
 rw [y04 yji]
 obtain ⟨n,rfl⟩:∃j,n=j+1:=⟨n-1,by omega⟩
 have k1:=y01 (yg8 q.num.natAbs h.num (by omega) (n:=n) (by omega)) (can1 (y0d _))
 have k2:=y01 (yg8 q.den h.den (by omega) (n:=n) (by omega)) (can1 (y0d _))
 have k3:=y7m q h.den (by omega) (n:=n+1) (by omega)
 have hpos:=q.den_pos
 have s1:=ycd h.num
 have s2:=ycd h.den
 have g1:binS .add ⟨#[45]⟩ (strB (decL q.num.natAbs))=some (.str (strB (45::decL q.num.natAbs))):=y8l [45] _ (by simp;omega)
 have g2:binS .add ⟨#[47]⟩ (strB (decL q.den))=some (.str (strB (47::decL q.den))):=y8l [47] _ (by simp;omega)
 have g3:∀l:List Nat,l.length≤S+2→binS .add (strB l) (strB (47::decL q.den))=some (.str (strB (l++47::decL q.den))):=fun l hl=>y8l l _ (by simp;omega)
 have gd:(((digs B32 (q.den-1)).length:Int)>0)=(q.den≠1):=by
  by_cases h0:q.den=1
  ·rw [h0,Nat.sub_self,digs_zero];simp
  ·have:=y4c (B:=B32) (n:=q.den-1) (by decide) (by omega)
   have:(digs B32 (q.den-1)).length≠0:=fun e=>this (List.length_eq_zero_iff.1 e)
   simp only [eq_iff_iff,ne_eq,h0,not_false_eq_true,iff_true];omega
 unfold txtL
 unfold qV qC at k3 ⊢
 generalize hd1:decL q.num.natAbs=D at*
 generalize hd2:decL q.den=D2 at*
 unfold natV at k1 k2 k3 ⊢
 by_cases hn:q.num<0
 ·have g3:=g3 (45::D) (by simp;omega)
  rw [decide_eq_true hn,if_pos hn] at*
  by_cases h1:q.den=1
  ·have gd':(((digs B32 (q.den-1)).length:Int)>0)=False:=by rw [gd];simp [h1]
   rw [if_pos h1,List.append_nil]
   simp only [go_sem,Fn.y3p,y4n,k1,g1,gd',y74]
  ·have gd':(((digs B32 (q.den-1)).length:Int)>0)=True:=by rw [gd];simp [h1]
   rw [if_neg h1]
   simp only [go_sem,Fn.y3p,y4n,k1,k2,k3,g1,g2,g3,gd',y74]
 ·have g3:=g3 D (by omega)
  rw [decide_eq_false hn,if_neg hn] at*
  by_cases h1:q.den=1
  ·have gd':(((digs B32 (q.den-1)).length:Int)>0)=False:=by rw [gd];simp [h1]
   rw [if_pos h1,List.append_nil]
   simp only [go_sem,Fn.y3p,y4n,k1,gd',y74]
  ·have gd':(((digs B32 (q.den-1)).length:Int)>0)=True:=by rw [gd];simp [h1]
   rw [if_neg h1]
   simp only [go_sem,Fn.y3p,y4n,k1,k2,k3,g2,g3,gd',y74]
end Go.Ev
namespace Go.Ev
open Go.Dig
theorem y10i (c:Nat) (h:c<10):(⟨#[48,49,50,51,52,53,54,55,56,57]⟩:ByteArray).extract c (c+1)=strB [48+c]:=by
 match c,h with
 | 0,_=>rfl
 | 1,_=>rfl
 | 2,_=>rfl
 | 3,_=>rfl
 | 4,_=>rfl
 | 5,_=>rfl
 | 6,_=>rfl
 | 7,_=>rfl
 | 8,_=>rfl
 | 9,_=>rfl
theorem yvf (a:Nat) (l:List Nat):(strB (a::l)).extract 1 (l.length+1)=strB l:=by
 apply ByteArray.ext
 rw [ByteArray.data_extract,y7j,y7j]
 simp
 exact List.take_of_length_le (by simp)
theorem yuh (a:Nat) (l:List Nat):(strB (a::l))[0]? =some (UInt8.ofNat a):=by
 have h:0<(strB (a::l)).size:=by rw [yb9];simp
 rw [getElem?_pos _ 0 h]
 congr 1
 show (strB (a::l)).data[0]'h=_
 simp only [y7j]
 simp
section
variable {F:Caller} {fuel:Nat} {fz:Nat→Nat} {ob:Nat→Option AObj} {nx:Nat}
set_option maxRecDepth 100000 in
theorem zt_L0 (y1 y4:SV):∀(m k d:Nat) (s:List Nat) (X:List (Nat×SV)),k+m=4→d<10000→s.length+m<2^50→∀N,m<N→
  ∃X',loopN (evC F fuel Fn.y5w) N ⟨env ((1,y1)::(3,.one (.str (strB s)))::(4,y4)::(5,.one (.int .i64 (d:Int)))::(6,.one (.int .i64 (k:Int)))::X),ob,fz,nx⟩=
   some (.ext 2,⟨env ((1,y1)::(3,.one (.str (strB ((chD (padD m d)).reverse++s))))::(4,y4)::X'),ob,fz,nx⟩)
 | 0,k,d,s,X,hk,hd,hs,N,hN=>by
  obtain ⟨N,rfl⟩:∃k,N=k+1:=⟨N-1,by omega⟩
  have h1:(((k:Nat):Int)<4)=False:=by simp;omega
  refine ⟨[(5,.one (.int .i64 (d:Int))),(6,.one (.int .i64 (k:Int))),(24,.one (.bool false))],y09 ?_⟩
  simp only [go_sem,Fn.y5w,h1,padD,chD,List.map_nil,List.reverse_nil,List.nil_append]
 | m+1,k,d,s,X,hk,hd,hs,N,hN=>by
  obtain ⟨N,rfl⟩:∃k,N=k+1:=⟨N-1,by omega⟩
  have h1:(((k:Nat):Int)<4)=True:=by simp;omega
  have wk:IntKind.i64.wrap ((k+1:Nat):Int)=((k+1:Nat):Int):=wi64 (by omega)
  have t10:((10:Int)=0)=False:=by simp
  have m1:((d:Nat):Int).tmod 10=((d%10:Nat):Int):=by rw [Int.tmod_eq_emod_of_nonneg (by omega)];omega
  have m4:IntKind.i64.wrap (((d:Nat):Int).tdiv 10)=((d / 10:Nat):Int):=by
   rw [Int.tdiv_eq_ediv_of_nonneg (by omega)]
   have:((d:Nat):Int) / 10=((d / 10:Nat):Int):=by omega
   rw [this,wrap_i64 (by omega)]
  have hc:d%10<10:=Nat.mod_lt _ (by decide)
  have e:(chD (padD (m+1) d)).reverse++s=(chD (padD m (d / 10))).reverse++((48+d%10)::s):=by
   have:padD (m+1) d=d%10::padD m (d / 10):=rfl
   rw [this]
   simp [chD]
  rw [e]
  generalize hcc:d%10=c at*
  have w1:IntKind.i64.wrap ((c+1:Nat):Int)=((c+1:Nat):Int):=wi64 (by omega)
  have hx:=y10i c hc
  have hadd:=y8l [48+c] s (by simp;omega)
  have b1:(c≤c+1)=True:=by simp
  have b2:(c+1≤10)=True:=by simp;omega
  have sz:(⟨#[48,49,50,51,52,53,54,55,56,57]⟩:ByteArray).size=10:=rfl
  have hst:evC F fuel Fn.y5w ⟨env ((1,y1)::(3,.one (.str (strB s)))::(4,y4)::(5,.one (.int .i64 (d:Int)))::(6,.one (.int .i64 (k:Int)))::X),ob,fz,nx⟩=
    some (.nrm,⟨env [(1,y1),(3,.one (.str (strB ((48+c)::s)))),(4,y4),(5,.one (.int .i64 ((d / 10:Nat):Int))),(6,.one (.int .i64 ((k+1:Nat):Int)))],ob,fz,nx⟩):=by
   simp only [go_sem,Fn.y5w,h1,t10,m1,m4,add1,w1,b1,b2,sz,hx,hadd,wk]
  rw [y0c hst]
  exact zt_L0 y1 y4 m (k+1) (d / 10) ((48+c)::s) [] (by omega) (by omega) (by simp;omega) N (by omega)
set_option maxRecDepth 100000 in
theorem zt_L2 (y1:SV):∀(m:Nat) (D:List Nat) (X:List (Nat×SV)),D.length=m→(∀d∈D,d<10)→trim D≠[]→D.length<2^50→∀N,m<N→
  ∃X',loopN (evC F fuel Fn.y5x) N ⟨env ((1,y1)::(3,.one (.str (strB (chD D).reverse)))::X),ob,fz,nx⟩=
   some (.ext 4,⟨env ((1,y1)::(3,.one (.str (strB (chD (trim D)).reverse)))::X'),ob,fz,nx⟩):=by
 intro m
 induction m with
 | zero=>
  intro D X hm hd ht hl N hN
  have:D=[]:=List.eq_nil_of_length_eq_zero hm
  subst this
  exact absurd rfl ht
 | succ m ih=>
  intro D X hm hd ht hl N hN
  obtain ⟨N,rfl⟩:∃k,N=k+1:=⟨N-1,by omega⟩
  obtain ⟨l,x,rfl⟩:∃l x,D=l++[x]:=by
   rcases List.eq_nil_or_concat D with h | ⟨l,x,h⟩
   ·rw [h] at hm;simp at hm
   ·exact ⟨l,x,by simpa using h⟩
  have hx:x<10:=hd x (by simp)
  have hrev:(chD (l++[x])).reverse=(48+x)::(chD l).reverse:=by simp [chD]
  have hh:=yuh (48+x) (chD l).reverse
  have hn:((UInt8.ofNat (48+x)).toNat:Int)=((48+x:Nat):Int):=by
   rw [UInt8.toNat_ofNat'];omega
  have nz:Ev.natOf 0=some 0:=rfl
  by_cases h0:x=0
  ·subst h0
   have hb:(((48+0:Nat):Int)==48)=true:=rfl
   have hll:(chD l).reverse.length=l.length:=by simp [chD]
   have ht1:=yvf (48+0) (chD l).reverse
   have hsz:(strB ((48+0)::(chD l).reverse)).size=(chD l).reverse.length+1:=by rw [yb9];rfl
   have nz1:Ev.natOf 1=some 1:=rfl
   have b1:(1≤(chD l).reverse.length+1)=True:=by simp
   have hst:evC F fuel Fn.y5x ⟨env ((1,y1)::(3,.one (.str (strB (chD (l++[0])).reverse)))::X),ob,fz,nx⟩=
     some (.nrm,⟨env [(1,y1),(3,.one (.str (strB (chD l).reverse)))],ob,fz,nx⟩):=by
    rw [hrev]
    generalize (chD l).reverse=R at*
    simp only [go_sem,Fn.y5x,nz,hh,hn,hb,nz1,hsz,b1,ht1]
   rw [y0c hst,y63]
   rw [y63] at ht
   exact ih l [] (by simpa using hm) (fun d hd'=>hd d (by simp [hd'])) ht (by simp at hl;omega) N (by omega)
  ·rw [y7z h0]
   have hb:(((48+x:Nat):Int)==48)=false:=by simp;omega
   refine ⟨[(39,.one (.bool false))],y09 ?_⟩
   rw [hrev]
   simp only [go_sem,Fn.y5x,nz,hh,hn,hb]
end
end Go.Ev
namespace Go.Ev
open Go.Dig
section
variable {F:Caller} {fuel:Nat} {fz:Nat→Nat} {ob:Nat→Option AObj} {nx:Nat}
def ztP (ds:List Nat):List Nat:=(chD (ds.flatMap (padD 4))).reverse
theorem yvo (ds:List Nat) (d:Nat):ztP (ds++[d])=(chD (padD 4 d)).reverse++ztP ds:=by
 unfold ztP
 rw [List.flatMap_append]
 simp [chD]
theorem yqu (ds:List Nat):(ztP ds).length=4*ds.length:=by
 unfold ztP chD
 rw [List.length_reverse,List.length_map]
 induction ds with
 | nil=>rfl
 | cons d r ih=>rw [List.flatMap_cons,List.length_append,ih,yd0,List.length_cons];omega
set_option maxRecDepth 100000 in
theorem zt_L1 {sg:AV} (ds:List Nat) (hds:∀d∈ds,d<BT) (hl:ds.length<2^40) (hob:ob 0=some (.box [sg,.sl false (intE ds)])) (hf:5≤fuel):∀(m i:Nat) (X:List (Nat×SV)),i+m=ds.length→∀N,m<N→
  ∃X',loopN (evC F fuel Fn.y5y) N ⟨env ((1,.one (.box 0 0))::(3,.one (.str (strB (ztP (ds.take i)))))::(4,.one (.int .i64 (i:Int)))::X),ob,fz,nx⟩=
   some (.ext 0,⟨env ((1,.one (.box 0 0))::(3,.one (.str (strB (ztP ds))))::X'),ob,fz,nx⟩)
 | 0,i,X,hi,N,hN=>by
  obtain ⟨N,rfl⟩:∃k,N=k+1:=⟨N-1,by omega⟩
  have hi':i=ds.length:=by omega
  subst hi'
  rw [List.take_length]
  have h1:(((ds.length:Nat):Int)<((ds.length:Nat):Int))=False:=by simp
  refine ⟨[(4,.one (.int .i64 (ds.length:Int))),(15,.one (.bool false))],y09 ?_⟩
  simp only [go_sem,Fn.y5y,hob,y92,h1]
 | m+1,i,X,hi,N,hN=>by
  obtain ⟨N,rfl⟩:∃k,N=k+1:=⟨N-1,by omega⟩
  have hil:i<ds.length:=by omega
  have h1:(((i:Nat):Int)<((ds.length:Nat):Int))=True:=by simp;omega
  have wk:IntKind.i64.wrap ((i+1:Nat):Int)=((i+1:Nat):Int):=wi64 (by omega)
  have gd:ds[i]? =some ds[i]:=by simp
  have hd:ds[i]<10000:=hds _ (by simp)
  have td:ds.take (i+1)=ds.take i++[ds[i]]:=by rw [List.take_add_one,gd];rfl
  have okz:okSz 1 (intE ds)=true:=yk5 ds
  have ih:=zt_L1 ds hds hl hob hf m (i+1) [] (by omega) N (by omega)
  rw [td,yvo] at ih
  have hlen:(ztP (ds.take i)).length+4<2^50:=by rw [yqu,List.length_take];omega
  generalize ds[i]=d at*
  obtain ⟨X',hX⟩:=zt_L0 (F:=F) (fuel:=fuel) (fz:=fz) (ob:=ob) (nx:=nx) (.one (.box 0 0)) (.one (.int .i64 (i:Int))) 4 0 d (ztP (ds.take i)) [] rfl hd hlen fuel hf
  have z0:((0:Nat):Int)=0:=rfl
  rw [z0] at hX
  generalize ztP (ds.take i)=s at*
  generalize (chD (padD 4 d)).reverse++s=s' at*
  have hst:evC F fuel Fn.y5y ⟨env ((1,.one (.box 0 0))::(3,.one (.str (strB s)))::(4,.one (.int .i64 (i:Int)))::X),ob,fz,nx⟩=
    some (.nrm,⟨env [(1,.one (.box 0 0)),(3,.one (.str (strB s'))),(4,.one (.int .i64 ((i+1:Nat):Int)))],ob,fz,nx⟩):=by
   simp only [go_sem,Fn.y5y,hob,y92,ymx,gd,okz,h1,hX,add1,wk]
  rw [y0c hst]
  exact ih
end
theorem yj9:∀(k d:Nat),∀x∈padD k d,x<10
 | 0,d,x,h=>by cases h
 | k+1,d,x,h=>by
  rcases List.mem_cons.1 h with rfl | h
  ·omega
  ·exact yj9 k _ x h
theorem yq8:∀(k d:Nat),d<10^k→val 10 (padD k d)=d
 | 0,d,h=>by
  have:d=0:=by simpa using h
  rw [this];rfl
 | k+1,d,h=>by
  show d%10+10*val 10 (padD k (d / 10))=d
  rw [yq8 k (d / 10) (by rw [Nat.pow_succ] at h;omega)];omega
theorem yoh:∀(ds:List Nat),(∀d∈ds,d<BT)→val 10 (ds.flatMap (padD 4))=val BT ds
 | [],h=>rfl
 | d::r,h=>by
  have hd:d<10^4:=h d (by simp)
  rw [List.flatMap_cons,y8d,yq8 4 d hd,yd0,yoh r fun x hx=>h x (by simp [hx])]
  rfl
theorem ysh (ds:List Nat) (h:∀d∈ds,d<BT):trim (ds.flatMap (padD 4))=digs 10 (val BT ds):=by
 rw [ya2 (show 2≤10 by decide) _ (fun x hx=>by
  obtain ⟨d,_,hd⟩:=List.mem_flatMap.1 hx
  exact yj9 4 d x hd),yoh ds h]
def zL (z:Int):List Nat:=if z<0 then 45::decL z.natAbs else decL z.natAbs
set_option maxRecDepth 100000 in
theorem ykv (z:Int) (hz:dlen BT z.natAbs<2^38) {n:Nat} (hn:4*dlen BT z.natAbs+20≤n):evV E (n+1) Id.y23 [sV z]=some (.one (.str (strB (zL z)))):=by
 rw [y04 yef]
 unfold zL sV zC zD
 by_cases h0:z.natAbs=0
 ·have hz0:z=0:=by omega
  subst hz0
  have hq:(((digs BT (0:Int).natAbs).length:Int)==0)=true:=by rw [show (0:Int).natAbs=0 from rfl,digs_zero];rfl
  have e:strB (if (0:Int)<0 then 45::decL (0:Int).natAbs else decL (0:Int).natAbs)=⟨#[48]⟩:=by rfl
  rw [e]
  simp only [go_sem,Fn.y23,y92,hq,y74]
 ·have hq:(((digs BT z.natAbs).length:Int)==0)=false:=by
   have:=y4c BT2 h0
   have:(digs BT z.natAbs).length≠0:=fun e=>this (List.length_eq_zero_iff.1 e)
   simp only [beq_eq_false_iff_ne,ne_eq];omega
  rw [ycq h0]
  unfold dlen at hz hn
  obtain ⟨ob1,hob1⟩:∃o,o=upd ob0 0 (.box [.bool (decide (z<0)),.sl false (intE (digs BT z.natAbs))]):=⟨_,rfl⟩
  have o0:ob1 0=some (.box [.bool (decide (z<0)),.sl false (intE (digs BT z.natAbs))]):=by rw [hob1];exact upd_same _ _ _
  obtain ⟨X1,k1⟩:=zt_L1 (F:=evF E n) (fuel:=n) (fz:=fz0) (ob:=ob1) (nx:=2) (digs BT z.natAbs) (y1o BT2 _) (by omega) o0 (by omega) (digs BT z.natAbs).length 0 [] (by omega) n (by omega)
  have hft:=ysh (digs BT z.natAbs) (y1o BT2 _)
  rw [y14 BT2] at hft
  have hne:digs 10 z.natAbs≠[]:=y4c (by decide) h0
  have hfl:((digs BT z.natAbs).flatMap (padD 4)).length=4*(digs BT z.natAbs).length:=by
   have:=yqu (digs BT z.natAbs)
   unfold ztP chD at this
   simpa using this
  obtain ⟨X2,k2⟩:=zt_L2 (F:=evF E n) (fuel:=n) (fz:=fz0) (ob:=ob1) (nx:=2) (.one (.box 0 0)) ((digs BT z.natAbs).flatMap (padD 4)).length ((digs BT z.natAbs).flatMap (padD 4)) X1 rfl (fun x hx=>by
   obtain ⟨d,_,hd⟩:=List.mem_flatMap.1 hx
   exact yj9 4 d x hd) (by rw [hft];exact hne) (by omega) n (by omega)
  have e0:strB (ztP ((digs BT z.natAbs).take 0))=⟨#[]⟩:=rfl
  have z0:((0:Nat):Int)=0:=rfl
  rw [e0,z0] at k1
  rw [hft] at k2
  have eP:ztP (digs BT z.natAbs)=(chD ((digs BT z.natAbs).flatMap (padD 4))).reverse:=rfl
  rw [eP] at k1
  have hl10:(digs 10 z.natAbs).length≤4*(digs BT z.natAbs).length:=by
   rw [←hft,←hfl];exact ybr _
  have hadd:=y8l [45] (chD (digs 10 z.natAbs)).reverse (by simp [chD];omega)
  have hadd:binS .add ⟨#[45]⟩ (strB (chD (digs 10 z.natAbs)).reverse)=some (.str (strB (45::(chD (digs 10 z.natAbs)).reverse))):=hadd
  generalize (chD (digs 10 z.natAbs)).reverse=R at*
  generalize (chD ((digs BT z.natAbs).flatMap (padD 4))).reverse=R2 at*
  by_cases hneg:z<0
  ·rw [if_pos hneg]
   rw [decide_eq_true hneg] at o0 hob1 ⊢
   simp only [go_sem,Fn.y23,y92,hq,←hob1,k1,k2,o0,hadd,y74]
  ·rw [if_neg hneg]
   rw [decide_eq_false hneg] at o0 hob1 ⊢
   simp only [go_sem,Fn.y23,y92,hq,←hob1,k1,k2,o0,y74]
end Go.Ev
namespace Go.Ev
open Go.Dig
theorem ypk (l:List Nat):(strB l).toList=l.map fun d=>UInt8.ofNat d:=by
 rw [ByteArray.toList_eq,y7j]
theorem yxr (a:Nat):(((decL a).map fun d=>UInt8.ofNat d)=[49])↔a=1:=by
 constructor
 ·intro h
  by_cases h0:a=0
  ·subst h0;exact absurd h (by decide)
  ·rw [ycq h0] at h
   have hl:(digs 10 a).length=1:=by
    have:=congrArg List.length h
    simpa [chD] using this
   obtain ⟨d,hd⟩:∃d,digs 10 a=[d]:=List.length_eq_one_iff.1 hl
   have hlt:d<10:=y1o (show 2≤10 by decide) a d (by rw [hd];simp)
   have hv:=y14 (show 2≤10 by decide) a
   rw [hd] at hv h
   have hv:d=a:=by simpa [val] using hv
   have h1:UInt8.ofNat (48+d)=49:=by simpa [chD] using h
   have h2:=congrArg UInt8.toNat h1
   rw [UInt8.toNat_ofNat'] at h2
   have h3:(49:UInt8).toNat=49:=rfl
   rw [h3] at h2
   omega
 ·rintro rfl
  have:decL 1=[49]:=by
   rw [ycq (by decide),y6n (by decide) (by decide),digs_zero];rfl
  rw [this];rfl
theorem y107 (a:Nat):binS .eql (strB (decL a)) ⟨#[49]⟩=some (.bool (decide (a=1))):=by
 show some (AV.bool ((strB (decL a)).toList==(⟨#[49]⟩:ByteArray).toList))=_
 have h1:(⟨#[49]⟩:ByteArray).toList=[49]:=by rw [ByteArray.toList_eq]
 rw [h1,ypk]
 congr 2
 rw [Bool.eq_iff_iff,beq_iff_eq,decide_eq_true_iff,yxr]
set_option maxRecDepth 100000 in
theorem ysl (q:Rat) {ca:List AV} (hq:RQ q ca) {S:Nat} (h:SmQ S q) (hS:S<2^34) {n:Nat} (hn:4*S+100≤n):evV E (n+1) Id.y3d [.agg ca]=some (.one (.str (strB (txtL q)))):=by
 rw [y04 yfh]
 obtain ⟨n,rfl⟩:∃j,n=j+1:=⟨n-1,by omega⟩
 have na:=y0i h.num
 have da:=y0i h.den
 have k1:=y01 (ykv q.num (by omega) (n:=n) (by omega)) (can1 (y1g _))
 have k2:=rdn hq (by omega) (n:=n+1) (by omega)
 have k3:=y01 (ykv (q.den:Int) (by rw [Int.natAbs_natCast];omega) (n:=n) (by rw [Int.natAbs_natCast];omega)) (can1 (y1g _))
 have s1:=ycd h.num
 have s2:=ycd h.den
 have ez:zL (q.den:Int)=decL q.den:=by unfold zL;rw [if_neg (by omega),Int.natAbs_natCast]
 rw [ez] at k3
 have ezl:(zL q.num).length≤S+2:=by
  unfold zL
  split
  ·rw [List.length_cons];omega
  ·omega
 have g1:binS .add (strB (zL q.num)) ⟨#[47]⟩=some (.str (strB (zL q.num++[47]))):=y8l _ [47] (by simp;omega)
 have g2:=y8l (zL q.num++[47]) (decL q.den) (by simp;omega)
 have g3:=y107 q.den
 have et:txtL q=zL q.num++(if q.den=1 then [] else 47::decL q.den):=rfl
 rw [et]
 obtain ⟨e,y,rfl⟩:=hq.cells
 generalize zL q.num=A at*
 generalize decL q.den=B at*
 unfold sV zC at k1 k2 k3
 rw [Int.natAbs_natCast] at k2 k3
 unfold zD at k1 k2 k3 ⊢
 by_cases h1:q.den=1
 ·rw [decide_eq_true h1] at g3
  rw [if_pos h1,List.append_nil]
  simp only [go_sem,Fn.y3d,k1,k2,k3,g3,y74]
 ·rw [decide_eq_false h1] at g3
  rw [if_neg h1,show A++47::B=A++[47]++B by simp]
  simp only [go_sem,Fn.y3d,k1,k2,k3,g1,g2,g3,y74]
theorem yvt (q:Rat) {ca:List AV} (hq:RQ q ca) {S:Nat} (h:SmQ S q) (hS:S<2^34) {n:Nat} (hn:4*S+110≤n):evV E (n+1) Id.y1y [qV q,.agg ca]=some (.one (.bool true)):=by
 rw [y04 yfe]
 obtain ⟨n,rfl⟩:∃j,n=j+1:=⟨n-1,by omega⟩
 have k1:=y01 (ywl q h hS (n:=n) (by omega)) (can1 (y1j _))
 have k2:=y01 (ysl q hq h hS (n:=n) (by omega)) (can1 hq.can)
 have k3:=yt6 (strB (txtL q))
 obtain ⟨e,y,rfl⟩:=hq.cells
 obtain ⟨a1,a2,a3,ea,-,-,-⟩:=yw3 q
 unfold qV at k1 ⊢
 rw [ea] at k1 ⊢
 unfold zD at k2 ⊢
 simp only [go_sem,Fn.y1y,k1,k2,k3]
end Go.Ev
