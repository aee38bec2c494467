import Derived.Test.YtclakmennjjomaaGreatP4
import Derived.Test.YtclakmennjjomaaGreatP3
set_option linter.all false
namespace Go.Ev
abbrev Orc:=FuncId→List SV→Option SV
def callO (O:Orc) (F:Caller) (f:FuncId) (args:List SV) (ob:Nat→Option AObj) (fz:Nat→Nat):Option Eff:=
 match mapFz (frzS ob) fz args with
 | some (fz',args')=>match O f args' with
  | some r=>some (.fzd fz' r)
  | none=>match F (.fn f) args' Sto.empty with
   | some (r,s)=>match frzR s.ob s.fz r with
    | some (_,r')=>some (.fzd fz' r')
    | none=>none
   | none=>none
 | none=>none
def orOp (O:Orc) (F:Caller) (draw:Bool) (rb id:Nat) (st:St) (op:AOp):Option Eff:=match op with
 | .call false f args=>callO O F f (args.map (·.ev st.sl)) st.ob st.fz
 | .callv x args=>match x.ev st.sl with
  | .one (.fn f [] [])=>callO O F f (args.map (·.ev st.sl)) st.ob st.fz
  | _=>evOp F draw rb id st (.callv x args)
 | op=>evOp F draw rb id st op
def orO (O:Orc) (F:Caller) (draw:Bool) (rb i:Nat) (o:AOper) (st:St):Option St:=
 match wants st.sl o.guard with
 | some true=>bif limOk st.sl o.op o.lim then
   (match orOp O F draw rb (rb+i) st o.op with
    | some e=>some (e.apply st (rb+i) o.dst)
    | none=>none)
  else none
 | some false=>some { st with sl:=putS st.sl o.dst SV.undef }
 | none=>none
def orOps (O:Orc) (F:Caller) (draw:Bool) (rb:Nat):Nat→List AOper→St→Option St
 | _,[],st=>some st
 | i,o::r,st=>match orO O F draw rb i o st with
  | some st'=>orOps O F draw rb (i+1) r st'
  | none=>none
def orP (O:Orc) (F:Caller) (rb:Nat) (aos:List AOper):List (Nat×List (Nat×Opd))→St→Option St
 | [],st=>some st
 |(j,ks)::r,st=>match aos[j]? with
  | some o=>match orO O F true rb j o st with
   | some st'=>bif keepOk st st' ks then orP O F rb aos r st' else none
   | none=>none
  | none=>none
def orC (O:Orc) (F:Caller) (fuel:Nat):ACode→St→Option (Ex×St)
 | .skip,st=>some (.nrm,st)
 | .reg draw ops na ks,st=>match orOps O F draw st.nx 0 ops { st with nx:=st.nx+na } with
  | some st'=>some (.nrm,{ st' with sl:=keep ks st'.sl })
  | none=>none
 | .regp ops pm na ks,st=>match orP O F st.nx ops pm { st with nx:=st.nx+na } with
  | some st'=>some (.nrm,{ st' with sl:=keep ks st'.sl })
  | none=>none
 | .seq a b,st=>match orC O F fuel a st with
  | some (.nrm,st')=>orC O F fuel b st'
  | some (e,st')=>some (e,st')
  | none=>none
 | .cond c a b,st=>match isBool (c.ev st.sl) with
  | some t=>bif t then orC O F fuel a st else orC O F fuel b st
  | none=>none
 | .block id a,st=>match orC O F fuel a st with
  | some (.ext id',st')=>bif Nat.beq id' id then some (.nrm,st') else some (.ext id',st')
  | r=>r
 | .loop a,st=>loopN (orC O F fuel a) fuel st
 | .exit id,st=>some (.ext id,st)
 | .ret,st=>some (.ret,st)
 | .rangeF g ps asg body,st=>none
def orF (E:Env) (O:Orc):(n:Nat)→Caller
 | 0,_,_,_=>none
 | n+1,.fn f,args,s=>match E f with
  | some fn=>match orC O (orF E O n) n fn.code { sl:=env (ofArgs 0 args),ob:=s.ob,fz:=s.fz,nx:=s.nx } with
   | some (.nrm,st) | some (.ret,st)=>match resAll st fn.res with
    | some v=>some (v,⟨shut s.ob st.ob,st.fz,st.nx⟩)
    | none=>none
   | _=>none
  | none=>none
 | n+1,.rnd l,args,s=>none
def orV (E:Env) (O:Orc) (n:Nat) (f:FuncId) (args:List SV):Option SV:=
 match orF E O n (.fn f) args Sto.empty with
 | some (r,s)=>match frzR s.ob s.fz r with
  | some (_,r')=>some r'
  | none=>none
 | none=>none
def OrcOk (E:Env) (O:Orc):Prop:=∀f args r,O f args=some r→∃n,evV E n f args=some r
def Sim (E:Env) (F:Caller):Prop:=∀c args s r,F c args s=some r→∃m,evF E m c args s=some r
section
variable {E:Env} {O:Orc} {F:Caller}
theorem yc6 (hO:OrcOk E O) (hF:Sim E F) {f:FuncId} {args:List SV} {ob:Nat→Option AObj} {fz:Nat→Nat} {e:Eff} (h:callO O F f args ob fz=some e):∃m,callV (evF E m) f args ob fz=some e:=by
 unfold callO at h
 unfold callV
 cases h1:mapFz (frzS ob) fz args with
 | none=>rw [h1] at h;cases h
 | some p=>
  obtain ⟨fz',args'⟩:=p
  rw [h1] at h
  simp only at h ⊢
  cases h2:O f args' with
  | some r=>
   rw [h2] at h
   obtain ⟨n,hn⟩:=hO f args' r h2
   refine ⟨n, ?_⟩
   unfold evV at hn
   cases h3:evF E n (.fn f) args' Sto.empty with
   | none=>rw [h3] at hn;cases hn
   | some q=>
    rw [h3] at hn
    simp only at hn ⊢
    cases h4:frzR q.2.ob q.2.fz q.1 with
    | none=>rw [h4] at hn;cases hn
    | some z=>
     rw [h4] at hn
     cases hn
     exact h
  | none=>
   rw [h2] at h
   simp only at h
   cases h3:F (.fn f) args' Sto.empty with
   | none=>rw [h3] at h;cases h
   | some q=>
    obtain ⟨m,hm⟩:=hF _ _ _ _ h3
    rw [h3] at h
    exact ⟨m,by rw [hm];exact h⟩
theorem yjz (hF:Sim E F) {d:Bool} {rb id:Nat} {st:St} {o:AOp} {e:Eff} (he:evOp F d rb id st o=some e):∃m,evOp (evF E m) d rb id st o=some e:=by
 cases o with
 | call byref f args=>
  simp only [evOp] at he ⊢
  cases byref with
  | true=>
   simp only [cond_true] at he ⊢
   cases h2:F (.fn f) (args.map (·.ev st.sl)) ⟨st.ob,st.fz,st.nx⟩ with
   | none=>rw [h2] at he;cases he
   | some q=>
    obtain ⟨m,hm⟩:=hF _ _ _ _ h2
    exact ⟨m,by rw [hm];rw [h2] at he;exact he⟩
  | false=>
   simp only [cond_false] at he ⊢
   exact callV_sim he
 | callv x args=>
  simp only [evOp] at he ⊢
  split at he
  ·exact callV_sim he
  ·rename_i f first caps hne hx
   cases h2:F (.fn f) (first.map .one++args.map (·.ev st.sl)++caps.map .one) ⟨st.ob,st.fz,st.nx⟩ with
   | none=>rw [h2] at he;cases he
   | some q=>
    obtain ⟨m,hm⟩:=hF _ _ _ _ h2
    refine ⟨m, ?_⟩
    rw [hm];rw [h2] at he;exact he
  ·rename_i l hx
   cases h2:F (.rnd l) (args.map (·.ev st.sl)) ⟨st.ob,st.fz,st.nx⟩ with
   | none=>rw [h2] at he;cases he
   | some q=>
    obtain ⟨m,hm⟩:=hF _ _ _ _ h2
    exact ⟨m,by rw [hm];rw [h2] at he;exact he⟩
  ·cases he
 | _=>exact ⟨0,he⟩
where
 callV_sim {f:FuncId} {args:List SV} {ob:Nat→Option AObj} {fz:Nat→Nat} {e:Eff} (h:callV F f args ob fz=some e):∃m,callV (evF E m) f args ob fz=some e:=by
  have h':callO (fun _ _=>none) F f args ob fz=some e:=h
  exact yc6 (O:=fun _ _=>none) (fun _ _ _ h=>by cases h) hF h'
theorem ytb (hO:OrcOk E O) (hF:Sim E F) {d:Bool} {rb id:Nat} {st:St} {o:AOp} {e:Eff} (he:orOp O F d rb id st o=some e):∃m,evOp (evF E m) d rb id st o=some e:=by
 unfold orOp at he
 split at he
 ·obtain ⟨m,hm⟩:=yc6 hO hF he
  exact ⟨m,hm⟩
 ·rename_i x args
  split at he
  ·rename_i f hx
   obtain ⟨m,hm⟩:=yc6 hO hF he
   exact ⟨m,by simp only [evOp,hx];exact hm⟩
  ·exact yjz hF he
 ·exact yjz hF he
theorem ymd (hO:OrcOk E O) (hF:Sim E F) {d:Bool} {rb i:Nat} {o:AOper} {st st':St} (he:orO O F d rb i o st=some st'):∃m,evO (evF E m) d rb i o st=some st':=by
 unfold orO at he
 unfold evO
 cases hw:wants st.sl o.guard with
 | none=>rw [hw] at he;cases he
 | some b=>
 rw [hw] at he
 cases b with
 | true=>
  simp only at he ⊢
  cases hl:limOk st.sl o.op o.lim with
  | false=>rw [hl] at he;cases he
  | true=>
   rw [hl] at he
   simp only [cond_true] at he ⊢
   cases h2:orOp O F d rb (rb+i) st o.op with
   | none=>rw [h2] at he;cases he
   | some q=>
    obtain ⟨m,hm⟩:=ytb hO hF h2
    exact ⟨m,by rw [hm];rw [h2] at he;exact he⟩
 | false=>exact ⟨0,he⟩
theorem yhc (hO:OrcOk E O) (hF:Sim E F) {d:Bool} {rb:Nat}:∀{ops:List AOper} {i:Nat} {st st':St},orOps O F d rb i ops st=some st'→∃m,evOps (evF E m) d rb i ops st=some st'
 | [],i,st,st',he=>⟨0,he⟩
 | o::r,i,st,st',he=>by
  unfold orOps at he
  cases h2:orO O F d rb i o st with
  | none=>rw [h2] at he;cases he
  | some q=>
   rw [h2] at he
   obtain ⟨m1,h1⟩:=ymd hO hF h2
   obtain ⟨m2,h2⟩:=yhc hO hF he
   refine ⟨max m1 m2, ?_⟩
   unfold evOps
   rw [yah (y5m E (Nat.le_max_left m1 m2)) h1]
   exact yan (y5m E (Nat.le_max_right m1 m2)) h2
theorem ymp (hO:OrcOk E O) (hF:Sim E F) {rb:Nat} {aos:List AOper}:∀{pm:List (Nat×List (Nat×Opd))} {st st':St},orP O F rb aos pm st=some st'→∃m,evP (evF E m) rb aos pm st=some st'
 | [],st,st',he=>⟨0,he⟩
 |(j,ks)::r,st,st',he=>by
  unfold orP at he
  cases hj:aos[j]? with
  | none=>rw [hj] at he;cases he
  | some o=>
   rw [hj] at he
   simp only at he
   cases h2:orO O F true rb j o st with
   | none=>rw [h2] at he;cases he
   | some q=>
    rw [h2] at he
    simp only at he
    cases hk:keepOk st q ks with
    | false=>rw [hk] at he;cases he
    | true=>
     rw [hk] at he
     obtain ⟨m1,h1⟩:=ymd hO hF h2
     obtain ⟨m2,h2⟩:=ymp hO hF he
     refine ⟨max m1 m2, ?_⟩
     unfold evP
     simp only [hj,yah (y5m E (Nat.le_max_left m1 m2)) h1,hk,cond_true]
     exact ye7 (y5m E (Nat.le_max_right m1 m2)) h2
theorem yj2 {b:St→Option (Ex×St)} {a:ACode} (h:∀st r,b st=some r→∃m,evC (evF E m) m a st=some r):∀{k:Nat} {st:St} {r:Ex×St},loopN b k st=some r→∃m,loopN (evC (evF E m) m a) m st=some r
 | 0,st,r,he=>by cases he
 | k+1,st,r,he=>by
  unfold loopN at he
  cases h2:b st with
  | none=>rw [h2] at he;cases he
  | some q=>
   rw [h2] at he
   obtain ⟨m1,h1⟩:=h _ _ h2
   obtain ⟨e,st'⟩:=q
   cases e with
   | nrm=>
    obtain ⟨m2,h3⟩:=yj2 h he
    have l1:m1≤max m1 m2+1:=by omega
    have l2:m2≤max m1 m2+1:=by omega
    refine ⟨max m1 m2+1, ?_⟩
    rw [loopN,y4r (y5m E l1) l1 a h1]
    exact yax (fun st r hr=>y4r (y5m E l2) l2 a hr) (by omega) h3
   | ext id=>exact ⟨m1+1,by rw [loopN,y4r (y5m E (Nat.le_succ m1)) (Nat.le_succ m1) a h1];exact he⟩
   | ret=>exact ⟨m1+1,by rw [loopN,y4r (y5m E (Nat.le_succ m1)) (Nat.le_succ m1) a h1];exact he⟩
theorem y7u (hO:OrcOk E O) (hF:Sim E F) {fuel:Nat}:∀(a:ACode) {st:St} {r:Ex×St},orC O F fuel a st=some r→∃m,evC (evF E m) m a st=some r
 | .skip,st,r,he=>⟨0,he⟩
 | .reg d ops na ks,st,r,he=>by
  unfold orC at he
  cases h2:orOps O F d st.nx 0 ops { st with nx:=st.nx+na } with
  | none=>rw [h2] at he;cases he
  | some q=>
   rw [h2] at he
   obtain ⟨m,hm⟩:=yhc hO hF h2
   exact ⟨m,by unfold evC;rw [hm];exact he⟩
 | .regp ops pm na ks,st,r,he=>by
  unfold orC at he
  cases h2:orP O F st.nx ops pm { st with nx:=st.nx+na } with
  | none=>rw [h2] at he;cases he
  | some q=>
   rw [h2] at he
   obtain ⟨m,hm⟩:=ymp hO hF h2
   exact ⟨m,by unfold evC;rw [hm];exact he⟩
 | .seq a b,st,r,he=>by
  unfold orC at he
  cases h2:orC O F fuel a st with
  | none=>rw [h2] at he;cases he
  | some q=>
   rw [h2] at he
   obtain ⟨m1,h1⟩:=y7u hO hF a h2
   obtain ⟨e,st'⟩:=q
   cases e with
   | nrm=>
    obtain ⟨m2,h3⟩:=y7u hO hF b he
    refine ⟨max m1 m2, ?_⟩
    unfold evC
    rw [y4r (y5m E (Nat.le_max_left m1 m2)) (Nat.le_max_left m1 m2) a h1]
    exact y4r (y5m E (Nat.le_max_right m1 m2)) (Nat.le_max_right m1 m2) b h3
   | ext id=>exact ⟨m1,by unfold evC;rw [h1];exact he⟩
   | ret=>exact ⟨m1,by unfold evC;rw [h1];exact he⟩
 | .cond c a b,st,r,he=>by
  unfold orC at he
  cases h2:isBool (c.ev st.sl) with
  | none=>rw [h2] at he;cases he
  | some t=>
   rw [h2] at he
   cases t with
   | true=>
    obtain ⟨m,hm⟩:=y7u hO hF a he
    exact ⟨m,by unfold evC;rw [h2];exact hm⟩
   | false=>
    obtain ⟨m,hm⟩:=y7u hO hF b he
    exact ⟨m,by unfold evC;rw [h2];exact hm⟩
 | .block id a,st,r,he=>by
  unfold orC at he
  cases h2:orC O F fuel a st with
  | none=>rw [h2] at he;cases he
  | some q=>
   rw [h2] at he
   obtain ⟨m,hm⟩:=y7u hO hF a h2
   exact ⟨m,by unfold evC;rw [hm];exact he⟩
 | .loop a,st,r,he=>by
  unfold orC at he
  obtain ⟨m,hm⟩:=yj2 (fun st r hr=>y7u hO hF a hr) he
  exact ⟨m,by unfold evC;exact hm⟩
 | .exit id,st,r,he=>⟨0,he⟩
 | .ret,st,r,he=>⟨0,he⟩
 | .rangeF g ps asg body,st,r,he=>by cases he
end
theorem ylz {E:Env} {O:Orc} (hO:OrcOk E O):∀n,Sim E (orF E O n)
 | 0=>fun c args s r h=>by cases c<;>cases h
 | n+1=>fun c args s r h=>by
  have ih:=ylz hO n
  cases c with
  | fn f=>
   rw [orF] at h
   cases hE:E f with
   | none=>rw [hE] at h;cases h
   | some fn=>
    rw [hE] at h
    simp only at h
    cases h2:orC O (orF E O n) n fn.code { sl:=env (ofArgs 0 args),ob:=s.ob,fz:=s.fz,nx:=s.nx } with
    | none=>rw [h2] at h;cases h
    | some q=>
     rw [h2] at h
     obtain ⟨m,hm⟩:=y7u hO ih fn.code h2
     refine ⟨m+1, ?_⟩
     rw [evF,hE]
     simp only
     rw [hm]
     exact h
  | rnd l=>cases h
theorem yqx {E:Env} {O:Orc} (hO:OrcOk E O) {n:Nat} {f:FuncId} {args:List SV} {r:SV} (h:orV E O n f args=some r):∃m,evV E m f args=some r:=by
 unfold orV at h
 cases h2:orF E O n (.fn f) args Sto.empty with
 | none=>rw [h2] at h;cases h
 | some q=>
  obtain ⟨m,hm⟩:=ylz hO n _ _ _ _ h2
  exact ⟨m,by unfold evV;rw [hm];rw [h2] at h;exact h⟩
end Go.Ev
namespace Go.Ev
open Go.Dig
def digO:Nat→Nat→Option (List Nat)
 | 0,_=>none
 | k+1,n=>bif Nat.beq n 0 then some [] else match digO k (n / 4294967296) with
  | some l=>some (n%4294967296::l)
  | none=>none
theorem yh4:∀(k n:Nat) (l:List Nat),digO k n=some l→l=digs B32 n
 | 0,n,l,h=>by cases h
 | k+1,n,l,h=>by
  unfold digO at h
  cases hn:Nat.beq n 0 with
  | true=>
   rw [hn] at h
   cases h
   rw [Nat.eq_of_beq_eq_true hn,digs_zero]
  | false=>
   rw [hn] at h
   simp only [cond_false] at h
   cases h2:digO k (n / 4294967296) with
   | none=>rw [h2] at h;cases h
   | some l'=>
    rw [h2] at h
    cases h
    have h0:n≠0:=fun e=>by rw [e] at hn;cases hn
    rw [y65 (by decide) h0,yh4 k _ _ h2]
def valE:List (List AV)→Option Nat
 | []=>some 0
 | [.int .u32 (.ofNat n)]::r=>match valE r with
  | some v=>some (n+4294967296*v)
  | none=>none
 | _=>none
def eqE:List (List AV)→List Nat→Bool
 | [],[]=>true
 | [.int .u32 (.ofNat n)]::r,d::s=>Nat.beq n d&&eqE r s
 | _,_=>false
theorem ywl:∀(es:List (List AV)) (l:List Nat),eqE es l=true→es=natE l:=by
 intro es l
 induction es generalizing l with
 | nil=>
  intro h
  cases l with
  | nil=>rfl
  | cons=>cases h
 | cons e r ih=>
  intro h
  unfold eqE at h
  split at h
  ·rename_i h1;cases h1
  ·rename_i n r' d s h1
   cases h1
   simp only [Bool.and_eq_true,Nat.beq_eq] at h
   rw [ih s h.2,h.1]
   rfl
  ·cases h
def rdN (v:AV):Option Nat:=match v with
 | .sl false es=>match valE es with
  | some n=>match digO 300 n with
   | some l=>bif eqE es l then some n else none
   | none=>none
  | none=>none
 | _=>none
theorem yr5 {v:AV} {n:Nat} (h:rdN v=some n):v=natV n:=by
 unfold rdN at h
 split at h
 ·split at h
  ·split at h
   ·rename_i es n' _ l hl
    rw [Bool.cond_eq_ite] at h
    split at h
    ·rename_i he
     cases h
     rw [ywl _ _ he,yh4 _ _ _ hl]
     rfl
    ·cases h
   ·cases h
  ·cases h
 ·cases h
def BIG:Nat:=2^1000
theorem yxq:BIG=2^1000:=by unfold BIG;rfl
theorem ymx {a b:Nat} (h:Nat.blt a b=true):a<b:=Nat.le_of_ble_eq_true h
def rdQ (x:SV):Option (Int×Nat):=match x with
 | .agg [.bool neg,a,b]=>match rdN a,rdN b with
  | some n,some d=>bif Nat.beq (Nat.gcd n (d+1)) 1&&(!neg || !Nat.beq n 0)&&Nat.blt n BIG&&Nat.blt (d+1) BIG then some (bif neg then-(n:Int) else (n:Int),d+1) else none
  | _,_=>none
 | _=>none
theorem ykx {x:SV} {z:Int} {d:Nat} (h:rdQ x=some (z,d)):∃q:Rat,x=qV q∧q.num=z∧q.den=d∧SmQ 1000 q:=by
 unfold rdQ at h
 split at h
 ·rename_i neg a b
  split at h
  ·rename_i n d' ha hb
   rw [Bool.cond_eq_ite] at h
   split at h
   ·rename_i hc
    simp only [Bool.and_eq_true,Bool.or_eq_true,Nat.beq_eq] at hc
    obtain ⟨⟨⟨h1,h2⟩,h3⟩,h4⟩:=hc
    have h3:=ymx h3
    have h4:=ymx h4
    rw [yxq] at h3 h4
    cases h
    have hab:(bif neg then-(n:Int) else (n:Int)).natAbs=n:=by cases neg<;>simp
    refine ⟨⟨bif neg then-(n:Int) else (n:Int),d'+1,by omega,by rw [hab];exact h1⟩, ?_,rfl,rfl,⟨?_,h4⟩⟩
    ·rw [yr5 ha,yr5 hb]
     unfold qV qC
     simp only [hab,Nat.add_sub_cancel]
     have:neg=decide ((bif neg then-(n:Int) else (n:Int))<0):=by
      cases neg with
      | false=>simp
      | true=>
       simp only [Bool.not_true,Bool.false_eq_true,Bool.not_eq_true',false_or] at h2
       have:n≠0:=fun e=>by rw [e] at h2;cases h2
       simp only [cond_true]
       exact (decide_eq_true (by omega)).symm
     rw [←this]
    ·show (bif neg then-(n:Int) else (n:Int)).natAbs<_
     rw [hab];exact h3
   ·cases h
  ·cases h
 ·cases h
def wrN (n:Nat):Option AV:=match digO 300 n with
 | some l=>some (.sl false (natE l))
 | none=>none
theorem yoo {n:Nat} {v:AV} (h:wrN n=some v):v=natV n:=by
 unfold wrN at h
 split at h
 ·rename_i l hl
  cases h
  rw [yh4 _ _ _ hl]
  rfl
 ·cases h
def wrQ (z:Int) (d:Nat):Option SV:=match wrN z.natAbs,wrN (d-1) with
 | some a,some b=>some (.agg [.bool (decide (z<0)),a,b])
 | _,_=>none
theorem yex {q:Rat} {z:Int} {d:Nat} {v:SV} (hz:q.num=z) (hd:q.den=d) (h:wrQ z d=some v):v=qV q:=by
 subst hz hd
 unfold wrQ at h
 split at h
 ·rename_i a b ha hb
  cases h
  rw [yoo ha,yoo hb]
  rfl
 ·cases h
def wrF (z:Int) (d:Nat):Option SV:=bif Nat.beq d 0 then none else wrQ (sgn (decide (z<0)) (z.natAbs / Nat.gcd z.natAbs d)) (d / Nat.gcd z.natAbs d)
theorem yf0 {z:Int} {d:Nat} {v:SV} (hd:d≠0) (h:wrF z d=some v):v=qV (Rat.normalize z d hd):=by
 unfold wrF at h
 cases hb:Nat.beq d 0 with
 | true=>rw [hb] at h;cases h
 | false=>
  rw [hb] at h
  obtain ⟨h1,h2⟩:=yav z d hd
  exact yex h1 h2 h
def one2 (args:List SV) (f:Int→Nat→Int→Nat→Option SV):Option SV:=match args with
 | [x,y]=>match rdQ x,rdQ y with
  | some (a,c),some (b,d)=>f a c b d
  | _,_=>none
 | _=>none
def one1 (args:List SV) (f:Int→Nat→Option SV):Option SV:=match args with
 | [x]=>match rdQ x with
  | some (a,c)=>f a c
  | none=>none
 | _=>none
theorem ya8 {args:List SV} {f:Int→Nat→Int→Nat→Option SV} {r:SV} (h:one2 args f=some r):∃p q:Rat,args=[qV p,qV q]∧SmQ 1000 p∧SmQ 1000 q∧f p.num p.den q.num q.den=some r:=by
 unfold one2 at h
 split at h
 ·split at h
  ·rename_i hx hy
   obtain ⟨p,rfl,p1,p2,p3⟩:=ykx hx
   obtain ⟨q,rfl,q1,q2,q3⟩:=ykx hy
   exact ⟨p,q,rfl,p3,q3,by rw [p1,p2,q1,q2];exact h⟩
  ·cases h
 ·cases h
theorem yh2 {args:List SV} {f:Int→Nat→Option SV} {r:SV} (h:one1 args f=some r):∃p:Rat,args=[qV p]∧SmQ 1000 p∧f p.num p.den=some r:=by
 unfold one1 at h
 split at h
 ·split at h
  ·rename_i hx
   obtain ⟨p,rfl,p1,p2,p3⟩:=ykx hx
   exact ⟨p,rfl,p3,by rw [p1,p2];exact h⟩
  ·cases h
 ·cases h
def oInt (args:List SV):Option SV:=match args with
 | [.one (.int .i64 z)]=>bif decide (-9223372036854775808≤z)&&decide (z<9223372036854775808) then wrQ z 1 else none
 | _=>none
theorem yvd {args:List SV} {r:SV} (h:oInt args=some r):∃z:Int,args=[.one (.int .i64 z)]∧-9223372036854775808≤z∧z<9223372036854775808∧wrQ z 1=some r:=by
 unfold oInt at h
 split at h
 ·rename_i z
  by_cases h1:-9223372036854775808≤z
  ·by_cases h2:z<9223372036854775808
   ·rw [decide_eq_true h1,decide_eq_true h2] at h
    exact ⟨z,rfl,h1,h2,h⟩
   ·rw [decide_eq_false h2,Bool.and_false] at h
    cases h
  ·rw [decide_eq_false h1,Bool.false_and] at h
   cases h
 ·cases h
def orcQ:Orc:=fun f args=>
 bif Nat.beq f Id.y05 then one2 args fun a c b d=>wrF (a*b) (c*d) else
 bif Nat.beq f Id.y0a then one2 args fun a c b d=>wrF (a*d+b*c) (c*d) else
 bif Nat.beq f Id.y0u then one2 args fun a c b d=>wrF (a*d-b*c) (c*d) else
 bif Nat.beq f Id.y09 then one1 args fun a c=>some (.one (.int .i64 (signI a))) else
 bif Nat.beq f Id.y0p then one1 args fun a c=>wrQ (-a) c else
 bif Nat.beq f Id.y0s then one2 args fun a c b d=>some (.one (.int .i64 (cmpZ (a*d) (b*c)))) else
 bif Nat.beq f Id.y0m then oInt args else
 bif Nat.beq f Id.y3b then one2 args fun a c b d=>bif decide (b=0) then none else match wrF (sgn (decide (a<0) !=decide (b<0)) (a.natAbs*d)) (c*b.natAbs) with
  | some v=>some (.tup [v,.one (.int .i64 0)])
  | none=>none else
 bif Nat.beq f Id.y31 then one1 args fun a c=>wrQ (a.natAbs:Int) c else none
theorem yfs (a b:Rat):a.den*b.den≠0:=Nat.mul_ne_zero a.den_nz b.den_nz
theorem ytr (p:Rat):(absQ p).num=(p.num.natAbs:Int):=by
 unfold absQ
 split
 ·rw [Rat.neg_num];omega
 ·omega
theorem yve (p:Rat):(absQ p).den=p.den:=by
 unfold absQ
 split
 ·exact Rat.neg_den p
 ·rfl
theorem yv8:OrcOk E orcQ:=by
 intro f args r h
 unfold orcQ at h
 have cs:∀{i:FuncId} {x y:Option SV},(bif Nat.beq f i then x else y)=some r→(f=i∧x=some r)∨y=some r:=by
  intro i x y h
  cases hb:Nat.beq f i with
  | true=>rw [hb] at h;exact .inl ⟨Nat.eq_of_beq_eq_true hb,h⟩
  | false=>rw [hb] at h;exact .inr h
 rcases cs h with ⟨rfl,h⟩ | h
 ·obtain ⟨p,q,rfl,hp,hq,h⟩:=ya8 h
  rw [yf0 (yfs p q) h,←Rat.mul_def]
  exact ⟨_,ygw p q hp hq (by decide) (Nat.le_refl _)⟩
 rcases cs h with ⟨rfl,h⟩ | h
 ·obtain ⟨p,q,rfl,hp,hq,h⟩:=ya8 h
  rw [yf0 (yfs p q) h,←Rat.add_def]
  exact ⟨_,yh3 p q hp hq (by decide) (Nat.le_refl _)⟩
 rcases cs h with ⟨rfl,h⟩ | h
 ·obtain ⟨p,q,rfl,hp,hq,h⟩:=ya8 h
  rw [yf0 (yfs p q) h]
  have e:Rat.normalize (p.num*(q.den:Int)-q.num*(p.den:Int)) (p.den*q.den) (yfs p q)=p-q:=by
   rw [Rat.sub_eq_add_neg,Rat.add_def]
   simp only [Rat.neg_num,Rat.neg_den,Int.neg_mul,Int.sub_eq_add_neg]
  rw [e]
  exact ⟨_,ymg p q hp hq (by decide) (Nat.le_refl _)⟩
 rcases cs h with ⟨rfl,h⟩ | h
 ·obtain ⟨p,rfl,hp,h⟩:=yh2 h
  cases h
  exact ⟨_,yes p 0⟩
 rcases cs h with ⟨rfl,h⟩ | h
 ·obtain ⟨p,rfl,hp,h⟩:=yh2 h
  rw [yex (q:=-p) (Rat.neg_num p) (Rat.neg_den p) h]
  exact ⟨_,ygn p 0⟩
 rcases cs h with ⟨rfl,h⟩ | h
 ·obtain ⟨p,q,rfl,hp,hq,h⟩:=ya8 h
  cases h
  exact ⟨_,ycx p q hp hq (by decide) (Nat.le_refl _)⟩
 rcases cs h with ⟨rfl,h⟩ | h
 ·obtain ⟨z,rfl,h1,h2,h⟩:=yvd h
  rw [yex (q:=Rat.ofInt z) rfl rfl h]
  exact ⟨_,ylw z h1 h2 (Nat.le_refl _)⟩
 rcases cs h with ⟨rfl,h⟩ | h
 ·obtain ⟨p,q,rfl,hp,hq,h⟩:=ya8 h
  cases hb:decide (q.num=0) with
  | true=>rw [hb] at h;cases h
  | false=>
   rw [hb] at h
   have h0:q.num≠0:=of_decide_eq_false hb
   simp only [cond_false] at h
   split at h
   ·rename_i v hv
    cases h
    have hd:p.den*q.num.natAbs≠0:=Nat.mul_ne_zero p.den_nz (by omega)
    rw [yf0 hd hv,yel p q h0 hd]
    exact ⟨_,ymo p q h0 hp hq (by decide) (Nat.le_refl _)⟩
   ·cases h
 rcases cs h with ⟨rfl,h⟩ | h
 ·obtain ⟨p,rfl,hp,h⟩:=yh2 h
  rw [yex (ytr p) (yve p) h]
  exact ⟨_,ymh p 0⟩
 cases h
end Go.Ev
namespace Go.Ev
set_option maxRecDepth 100000 in
theorem ypo:orV E orcQ 200 Id.y1h []=some (.one (.bool true)):=by kernel_rfl
theorem awake_ends:Ends Id.y1h [] (.one (.bool true)):=by
 obtain ⟨m,hm⟩:=yqx yv8 ypo
 exact ⟨m,fun n hn=>ysu hn hm⟩
theorem ynx:Calling Id.y1h [] (.one (.bool true)):=awake_ends.call fun x h=>by cases h
end Go.Ev
namespace Go.Ev
theorem Jt.sub18 (j:Jt):sub j.c 18 1=some [.int .i64 j.d]:=by
 unfold Jt.c
 simp only [go_sem]
theorem Jt.sub19 (j:Jt):sub j.c 0 19=some j.c:=by have:=y8r (l:=[]) j.len;rwa [List.append_nil] at this
theorem yuf (j:Jt) (ob:Nat→Option AObj) (fz:Nat→Nat):frzS ob fz (.agg j.c)=some (fz,.agg j.c):=(CanS.agg _ (ym5 j)).frz ob fz
structure JOb (ob:Nat→Option AObj) (j:Jt):Prop where
 o0:ob 0=some (.box j.c)
 o13:ob 13=some (.box (qC j.low.q++(qC j.high.q++(qC j.most.q++qC j.step.q))))
 o14:ob 14=some (.box (qC j.place.q))
 o15:ob 15=some (.box (qC j.speed.q))
theorem JOb.old {ob ob':Nat→Option AObj} {j:Jt} {nx:Nat} (h:JOb ob j) (hn:16≤nx) (ho:∀id,id<nx→ob' id=ob id):JOb ob' j:=
 ⟨(ho 0 (by omega)).trans h.o0,(ho 13 (by omega)).trans h.o13,(ho 14 (by omega)).trans h.o14,(ho 15 (by omega)).trans h.o15⟩
attribute [go_sem ↓] Jt.sub19 yuf Jt.sub18
theorem Jt.sizes (j:Jt):SmQ 256 j.low.q∧SmQ 256 j.high.q∧SmQ 256 j.most.q∧SmQ 256 j.step.q∧SmQ 256 j.place.q∧SmQ 256 j.speed.q:=⟨j.low.qS,j.high.qS,j.most.qS,j.step.qS,j.place.qS,j.speed.qS⟩
end Go.Ev
namespace Go.Ev
def DriveE (l h m s p v:Rat) (d at_ lng:Int) (n:Nat):Int:=
 if errR l h m s d=0 then (if safeQ l h m s p v d=true then (if n>256 then 5 else if at_<0∨lng<0∨lng>d then 2 else 0) else 13) else errR l h m s d
theorem yli {l h m s p v:Rat} {d at_ lng:Int} {n:Nat} (e:DriveE l h m s p v d at_ lng n=0):errR l h m s d=0∧safeQ l h m s p v d=true∧n≤256∧0≤at_∧0≤lng∧lng≤d:=by
 unfold DriveE at e
 by_cases c:errR l h m s d=0
 ·rw [if_pos c] at e
  by_cases c2:safeQ l h m s p v d=true
  ·rw [if_pos c2] at e
   by_cases c3:n>256
   ·rw [if_pos c3] at e;cases e
   ·rw [if_neg c3] at e
    by_cases c4:at_<0∨lng<0∨lng>d
    ·rw [if_pos c4] at e;cases e
    ·exact ⟨c,c2,by omega,by omega,by omega,by omega⟩
  ·rw [if_neg c2] at e;cases e
 ·rw [if_neg c] at e;exact absurd e c
def driveR (l h m s p v:Rat) (d at_ lng:Int) (ws:List Rat):List Mo:=if DriveE l h m s p v d at_ lng ws.length=0 then driveQ l h m s d at_ lng 0 p v ws else []
set_option maxRecDepth 100000 in
theorem yev (l h m s p v:Rat) (d at_ lng:Int) (ws:List Rat) (sl:SmQ 256 l) (sh:SmQ 256 h) (sm:SmQ 256 m) (ss:SmQ 256 s) (sp:SmQ 256 p) (sv:SmQ 256 v) (sw:∀w∈ws,SmQ 256 w) (hlen:ws.length≤256→ws.length≤40) (hlen2:ws.length<2^40) (ha':at_<9223372036854775808):
  (∀o∈driveR l h m s p v d at_ lng ws,SmQ 6300000 o.a∧SmQ 200000 o.v∧SmQ 200000 o.p)∧
  Ends Id.y0q [.agg (qC l++(qC h++(qC m++qC s))),.agg (qC p),.agg (qC v),.one (.sl false (ws.map qC)),.one (.int .i64 d),.agg [.int .i64 at_,.int .i64 lng]] (.tup [.one (.sl false ((driveR l h m s p v d at_ lng ws).map Mo.c)),.one (.int .i64 (DriveE l h m s p v d at_ lng ws.length))]):=by
 obtain ⟨N1,h1⟩:=cCheckR l h m s d sl sh (by decide)
 unfold driveR
 by_cases c1:errR l h m s d=0
 ·obtain ⟨_,e1,e2,e3,e4⟩:=ycl c1
  obtain ⟨N2,h2⟩:=cSafe l h m s p v d sl sh sm ss sp sv (ykn e2 e1) e3 e4 (by decide)
  have e0:((0:Int) !=0)=false:=rfl
  rw [c1] at h1
  by_cases c2:safeQ l h m s p v d=true
  ·rw [c2] at h2
   by_cases c3:ws.length>256
   ·have eE:DriveE l h m s p v d at_ lng ws.length=5:=by unfold DriveE;rw [if_pos c1,if_pos c2,if_pos c3]
    rw [eE,if_neg (by decide)]
    refine ⟨fun o ho=>(List.not_mem_nil ho).elim,.of (N1+N2) fun {n} hn=> ?_⟩
    have h1:=h1 n (by omega)
    have h2:=h2 n (by omega)
    have f3:(((ws.length:Nat):Int)>256)=True:=by simp only [eq_iff_iff,iff_true];omega
    rw [y04 y5u]
    simp only [go_sem,Fn.y0q,h1,h2,e0,List.length_map,f3]
   ·have f3:(((ws.length:Nat):Int)>256)=False:=by simp only [eq_iff_iff,iff_false];omega
    by_cases c4:at_<0∨lng<0∨lng>d
    ·have eE:DriveE l h m s p v d at_ lng ws.length=2:=by unfold DriveE;rw [if_pos c1,if_pos c2,if_neg c3,if_pos c4]
     rw [eE,if_neg (by decide)]
     refine ⟨fun o ho=>(List.not_mem_nil ho).elim,.of (N1+N2) fun {n} hn=> ?_⟩
     have h1:=h1 n (by omega)
     have h2:=h2 n (by omega)
     rw [y04 y5u]
     by_cases a1:at_<0
     ·have g1:(at_<0)=True:=by simp only [eq_iff_iff,iff_true];exact a1
      simp only [go_sem,Fn.y0q,h1,h2,e0,List.length_map,f3,g1]
     ·have g1:(at_<0)=False:=by simp only [eq_iff_iff,iff_false];exact a1
      by_cases a2:lng<0
      ·have g2:(lng<0)=True:=by simp only [eq_iff_iff,iff_true];exact a2
       simp only [go_sem,Fn.y0q,h1,h2,e0,List.length_map,f3,g1,g2]
      ·have g2:(lng<0)=False:=by simp only [eq_iff_iff,iff_false];exact a2
       have g3:(lng>d)=True:=by simp only [eq_iff_iff,iff_true];omega
       simp only [go_sem,Fn.y0q,h1,h2,e0,List.length_map,f3,g1,g2,g3]
    ·have eE:DriveE l h m s p v d at_ lng ws.length=0:=by unfold DriveE;rw [if_pos c1,if_pos c2,if_neg c3,if_neg c4]
     rw [eE,if_pos rfl]
     have g1:(at_<0)=False:=by simp only [eq_iff_iff,iff_false];omega
     have g2:(lng<0)=False:=by simp only [eq_iff_iff,iff_false];omega
     have g3:(lng>d)=False:=by simp only [eq_iff_iff,iff_false];omega
     have hl40:=hlen (by omega)
     have hlook:safeQ l h m s p v (lookQ d at_ lng ((0:Nat):Int))=true:=by
      have:lookQ d at_ lng ((0:Nat):Int)=d:=if_pos (.inr (by omega))
      rw [this];exact c2
     obtain ⟨r1,N3,h3⟩:=yjx l h m s d at_ lng sl sh sm ss (y8j e2) (y8j e1) e3 e4 (by omega) ha' (by omega) (by omega) (ws.map qC) (yec ypk ws) (by rw [List.length_map];exact hl40) ws 0 p v 512 rfl (PvS.start sp sv) (by omega)
      hlook sw (by simp)
     refine ⟨r1,.of (N1+N2+N3+ws.length+1) fun {n} hn=> ?_⟩
     have h1:=h1 n (by omega)
     have h2:=h2 n (by omega)
     have key:∀(ob:Nat→Option AObj),DrvB ob l h m s p v at_ lng→
       finV [.tmp 12,.tmp 13] (thenC (evF E n) n (tailAt 4 Fn.y0q.code) (blkC 1 (loopN (evC (evF E n) n Fn.y1i) n ⟨env (drvS d .nils (ws.map qC) 0 []),ob,fz0,6⟩)))=some (.tup [.one (.sl false ((driveQ l h m s d at_ lng 0 p v ws).map Mo.c)),.one (.int .i64 0)]):=by
      intro ob B
      obtain ⟨ob',nx',x',X',f1,f2⟩:=h3 n (by omega) ob 6 .nils [] [] (by decide) B (.inl ⟨rfl,rfl⟩) rfl n (by omega)
      obtain ⟨g,hg⟩:=f2.frz
      rw [f1,y7l,if_pos rfl,y7b]
      rw [List.nil_append] at hg
      have hg:∀fz,frzS ob' fz (.one x')=some (g fz,.one (.sl false ((driveQ l h m s d at_ lng 0 p v ws).map Mo.c))):=hg
      unfold drvS
      simp only [go_sem,tailAt,Fn.y0q,hg]
     rw [y04 y5u,show Fn.y0q.code=cutAt 4 Fn.y0q.code (tailAt 4 Fn.y0q.code) from rfl]
     generalize tailAt 4 Fn.y0q.code=T at key ⊢
     unfold drvS at key
     simp only [List.length_map] at key
     simp only [go_sem,cutAt,Fn.y0q,h1,h2,e0,List.length_map,f3,g1,g2,g3]
     refine key _ ?_
     exact ⟨rfl,rfl,rfl,rfl⟩
  ·have c2':safeQ l h m s p v d=false:=by simpa using c2
   rw [c2'] at h2
   have eE:DriveE l h m s p v d at_ lng ws.length=13:=by unfold DriveE;rw [if_pos c1,if_neg c2]
   rw [eE,if_neg (by decide)]
   refine ⟨fun o ho=>(List.not_mem_nil ho).elim,.of (N1+N2) fun {n} hn=> ?_⟩
   have h1:=h1 n (by omega)
   have h2:=h2 n (by omega)
   rw [y04 y5u]
   simp only [go_sem,Fn.y0q,h1,h2,e0]
 ·have eE:DriveE l h m s p v d at_ lng ws.length=errR l h m s d:=by unfold DriveE;rw [if_neg c1]
  rw [eE,if_neg c1]
  refine ⟨fun o ho=>(List.not_mem_nil ho).elim,.of N1 fun {n} hn=> ?_⟩
  have h1:=h1 n (by omega)
  have e0:(errR l h m s d !=0)=true:=by simp [c1]
  generalize errR l h m s d=er at h1 e0
  rw [y04 y5u]
  simp only [go_sem,Fn.y0q,h1,e0]
theorem cDrive (l h m s p v:Rat) (d at_ lng:Int) (ws:List Rat) (sl:SmQ 256 l) (sh:SmQ 256 h) (sm:SmQ 256 m) (ss:SmQ 256 s) (sp:SmQ 256 p) (sv:SmQ 256 v) (sw:∀w∈ws,SmQ 256 w) (hlen:ws.length≤256→ws.length≤40) (hlen2:ws.length<2^40) (ha':at_<9223372036854775808):
  Calling Id.y0q [.agg (qC l++(qC h++(qC m++qC s))),.agg (qC p),.agg (qC v),.one (.sl false (ws.map qC)),.one (.int .i64 d),.agg [.int .i64 at_,.int .i64 lng]] (.tup [.one (.sl false ((driveR l h m s p v d at_ lng ws).map Mo.c)),.one (.int .i64 (DriveE l h m s p v d at_ lng ws.length))]):=
 (yev l h m s p v d at_ lng ws sl sh sm ss sp sv sw hlen hlen2 ha').2.call fun x hx=>by
  simp only [List.mem_cons,List.not_mem_nil,or_false] at hx
  rcases hx with rfl | rfl | rfl | rfl | rfl | rfl
  ·exact y6u _ _ _ _
  ·exact y1a _
  ·exact y1a _
  ·exact .one _ (.sl _)
  ·exact .one _ (.int _ _)
  ·exact .agg _ (CanL.cons (.int _ _) (CanL.cons (.int _ _) CanL.nil))
def slowB (v w c:Rat):Bool:=if cmpQ (absQ v) c≤0 then signI w.num==0 else cmpQ (absQ w) (absQ v-c)==0&&signI w.num==signI v.num
theorem yoi (v w c:Rat) {S:Nat} (hv:SmQ S v) (hw:SmQ S w) (hc:SmQ S c) (hS:S<2^30):Ends Id.y19 [.agg (qC v),.agg (qC w),.agg (qC c)] (.one (.bool (slowB v w c))):=by
 obtain ⟨N1,h1⟩:=cAbs v
 obtain ⟨N2,h2⟩:=cCmp (absQ v) c (SmQ.abs hv) hc (by omega)
 obtain ⟨N3,h3⟩:=cSign w
 obtain ⟨N4,h4⟩:=cAbs w
 obtain ⟨N5,h5⟩:=cSub (absQ v) c (SmQ.abs hv) hc (by omega)
 obtain ⟨N6,h6⟩:=cCmp (absQ w) (absQ v-c) (SmQ.abs hw) ((SmQ.abs hv).sub hc) (by omega)
 obtain ⟨N7,h7⟩:=cSign v
 refine .of (N1+N2+N3+N4+N5+N6+N7) fun {n} hn=> ?_
 have h1:=h1 n (by omega)
 have h2:=h2 n (by omega)
 have h3:=h3 n (by omega)
 have h4:=h4 n (by omega)
 have h5:=h5 n (by omega)
 have h6:=h6 n (by omega)
 have h7:=h7 n (by omega)
 rw [y04 ybl]
 unfold slowB
 by_cases c1:cmpQ (absQ v) c≤0
 ·have e1:(cmpQ (absQ v) c≤0)=True:=by simp only [eq_iff_iff,iff_true];exact c1
  rw [if_pos c1]
  simp only [go_sem,Fn.y19,h1,h2,h3,e1]
 ·have e1:(cmpQ (absQ v) c≤0)=False:=by simp only [eq_iff_iff,iff_false];exact c1
  rw [if_neg c1]
  cases c2:(cmpQ (absQ w) (absQ v-c)==0) with
  | true=>simp only [go_sem,Fn.y19,h1,h2,h3,h4,h5,h6,h7,e1,c2]
  | false=>simp only [go_sem,Fn.y19,h1,h2,h3,h4,h5,h6,h7,e1,c2]
theorem cSlow (v w c:Rat) {S:Nat} (hv:SmQ S v) (hw:SmQ S w) (hc:SmQ S c) (hS:S<2^30):Calling Id.y19 [.agg (qC v),.agg (qC w),.agg (qC c)] (.one (.bool (slowB v w c))):=
 (yoi v w c hv hw hc hS).call fun x hx=>by
  simp only [List.mem_cons,List.not_mem_nil,or_false] at hx
  rcases hx with rfl | rfl | rfl<;>exact y1a _
theorem ysj {v w c:Rat} (h:slowQ v w c):slowB v w c=true:=by
 unfold slowQ at h
 unfold slowB
 simp only [y8p]
 by_cases c1:absQ v≤c
 ·rw [if_pos c1] at h ⊢
  rw [h];rfl
 ·rw [if_neg c1] at h ⊢
  obtain ⟨h1,h2,h3⟩:=h
  have e1:cmpQ (absQ w) (absQ v-c)=0:=by rw [ytu];exact h1
  have e2:signI w.num=signI v.num:=by
   have a1:=yfj w
   have a2:=yfj v
   have a3:=yco w
   have a4:=yco v
   rw [eq_iff_iff] at a1 a2 a3 a4
   unfold signI
   rw [←a1,←a2] at h3
   rw [←a3,←a4] at h2
   (repeat split)<;>omega
  rw [e1,e2]
  simp
end Go.Ev
namespace Go.Ev
theorem yu1 (o:Mo):sub o.c 0 3=some (qC o.a):=rfl
theorem yvl (o:Mo):sub o.c 3 3=some (qC o.v):=rfl
theorem yu9 (o:Mo):sub o.c 6 3=some (qC o.p):=rfl
theorem Mo.len (o:Mo):o.c.length=9:=rfl
attribute [go_sem ↓] yu1 yvl yu9 Mo.len
def StopOk (l h m s:Rat) (d at_ lng:Int):Int→Rat→List Mo→Prop
 | i,v,[]=>True
 | i,v,o::r=>l≤o.p∧o.p≤h∧-m≤o.a∧o.a≤m∧(lng=0∨i<at_→safeQ l h m s o.p o.v d=true)∧(¬(lng=0∨i<at_)→lng≤i-at_→slowQ v o.v (s*m))∧StopOk l h m s d at_ lng (i+1) o.v r
theorem yjd {l h m s:Rat} {d at_ lng:Int} (hs:0<s) (hm:0<m) (hd:0≤d) (h1:0≤lng) (h2:lng≤d):∀(ws:List Rat) (i:Int) (p v:Rat),safeQ l h m s p v (lookQ d at_ lng i)=true→StopOk l h m s d at_ lng i v (driveQ l h m s d at_ lng i p v ws)
 | [],i,p,v,hsafe=>trivial
 | w::r,i,p,v,hsafe=>by
  obtain ⟨k1,k2,k3,k4,k5,k6,k7⟩:=mo_ok (w:=w) hs hm hd h1 h2 hsafe
  exact ⟨k2,k3,k4,k5,k6,k7,yjd hs hm hd h1 h2 r (i+1) _ _ k1⟩
def stpS (X:List (Nat×SV)) (ws os:List (List AV)) (i:Nat):List (Nat×SV):=
 (3,.one (.box 0 0))::(5,.one (.box 1 0))::(7,.one (.box 12 0))::(13,.one (.sl false ws))::(15,.one (.sl false os))::(17,.one (.box 30 0))::(18,.one (.box 31 0))::(19,.one (.int .i64 (i:Int)))::X
structure StpB (ob:Nat→Option AObj) (j:Jt) (at_ lng:Int) (v:Rat):Prop where
 o0:ob 0=some (.box j.c)
 o1:ob 1=some (.box [.int .i64 at_,.int .i64 lng])
 o12:ob 12=some (.box (qC j.low.q++(qC j.high.q++(qC j.most.q++qC j.step.q))))
 o30:ob 30=some (.box (qC v))
 o31:ob 31=some (.box (qC (j.step.q*j.most.q)))
set_option maxRecDepth 100000 in
theorem yk0 (j:Jt) (e:errR j.low.q j.high.q j.most.q j.step.q j.d=0) (at_ lng:Int) (ha:0≤at_) (ha':at_<9223372036854775808) (ws:List (List AV)) (os:List (List AV)) (oz:okSz 9 os=true) (hlen:os.length<2^20):
  ∀(r:List Mo) (i:Nat) (v:Rat),os.drop i=r.map Mo.c→(∀o∈r,SmQ 6300000 o.a∧SmQ 200000 o.v∧SmQ 200000 o.p)→SmQ 200000 v→StopOk j.low.q j.high.q j.most.q j.step.q j.d at_ lng (i:Int) v r→i+r.length=os.length→
  ∃N,∀n,N≤n→∀(ob:Nat→Option AObj) (X:List (Nat×SV)),StpB ob j at_ lng v→∀M,r.length<M→
   ∃ob' X',loopN (evC (evF E n) n Fn.y22) M ⟨env (stpS X ws os i),ob,fz0,34⟩=some (.ext 0,⟨env (stpS X' ws os os.length),ob',fz0,34⟩)
 | [],i,v,hd,hr,hv,hok,hi=>by
  rw [List.length_nil,Nat.add_zero] at hi
  refine ⟨0,fun n hn ob X B M hM=> ?_⟩
  obtain ⟨M,rfl⟩:∃q,M=q+1:=⟨M-1,by omega⟩
  subst hi
  have lt:(((os.length:Nat):Int)<((os.length:Nat):Int))=False:=by simp
  refine ⟨ob,[(63,.one (.bool false))],y0j ?_⟩
  unfold stpS
  simp only [go_sem,Fn.y22,lt]
 | o::r,i,v,hd,hr,hv,hok,hi=>by
  rw [List.length_cons] at hi
  have go:os[i]? =some o.c:=by
   have:=congrArg (fun l=>l[0]?) hd
   simpa using this
  have hd':os.drop (i+1)=r.map Mo.c:=by
   have:=congrArg (fun l=>l.drop 1) hd
   simpa using this
  obtain ⟨b1,b2,b3,b4,b5,b6,b7⟩:=hok
  obtain ⟨sa,sv,sp⟩:=hr o (by simp)
  obtain ⟨s1,s2,s3,s4,s5,s6⟩:=j.sizes
  have S2:∀{q:Rat},SmQ 256 q→SmQ 200000 q:=fun h=>h.mono (by decide)
  obtain ⟨N1,k1⟩:=cCmp o.p j.low.q sp s1 (by decide)
  obtain ⟨N2,k2⟩:=cCmp o.p j.high.q sp s2 (by decide)
  obtain ⟨N3,k3⟩:=cAbs o.a
  obtain ⟨N4,k4⟩:=cCmp (absQ o.a) j.most.q (SmQ.abs sa) s3 (by decide)
  obtain ⟨N5,k5⟩:=cSafeC j.low.q j.high.q j.most.q j.step.q o.p o.v j.d (S2 s1) (S2 s2) (S2 s3) (S2 s4) sp sv (by decide) e
  obtain ⟨N6,k6⟩:=cSlow v o.v (j.step.q*j.most.q) hv sv ((s4.mul s3).mono (by decide)) (by decide)
  have ei:((i:Nat):Int)+1=((i+1:Nat):Int):=rfl
  rw [ei] at b7
  obtain ⟨N7,k7⟩:=yk0 j e at_ lng ha ha' ws os oz hlen r (i+1) o.v hd' (fun x hx=>hr x (by simp [hx])) sv b7 (by omega)
  refine ⟨N1+N2+N3+N4+N5+N6+N7,fun n hn ob X B M hM=> ?_⟩
  rw [List.length_cons] at hM
  obtain ⟨M,rfl⟩:∃q,M=q+1:=⟨M-1,by omega⟩
  have k1:=k1 n (by omega)
  have k2:=k2 n (by omega)
  have k3:=k3 n (by omega)
  have k4:=k4 n (by omega)
  have k5:=k5 n (by omega)
  have k6:=k6 n (by omega)
  obtain ⟨o0,o1,o12,o30,o31⟩:=B
  obtain ⟨ob',X',f1⟩:=k7 n (by omega) (upd ob 30 (.box (qC o.v))) [] ⟨by rw [y00 (by decide)];exact o0,by rw [y00 (by decide)];exact o1,by rw [y00 (by decide)];exact o12,by rw [upd_same],by rw [y00 (by decide)];exact o31⟩ M (by omega)
  refine ⟨ob',X', ?_⟩
  rw [←f1]
  refine y0l ?_
  have lt:(((i:Nat):Int)<((os.length:Nat):Int))=True:=by simp;omega
  have wk:IntKind.i64.wrap ((i+1:Nat):Int)=((i+1:Nat):Int):=wi64 (by omega)
  have w1:IntKind.i64.wrap ((i:Int)-at_)=(i:Int)-at_:=wrap_i64 (by omega)
  have c1:(cmpQ o.p j.low.q<0)=False:=by rw [ygp,eq_iff_iff,iff_false];exact Rat.not_lt.2 b1
  have c2:(cmpQ o.p j.high.q>0)=False:=by rw [y7s,eq_iff_iff,iff_false];exact Rat.not_lt.2 b2
  have c3:(cmpQ (absQ o.a) j.most.q>0)=False:=by rw [y7s,ymf,eq_iff_iff,iff_false];refine Rat.not_lt.2 ?_;split<;>grind
  have s18:=j.sub18
  have e0:((0:Int) !=0)=false:=rfl
  unfold stpS
  by_cases l0:lng=0
  ·have q0:(lng==0)=true:=by simp [l0]
   rw [b5 (.inl l0)] at k5
   simp only [go_sem,Fn.y22,lt,go,oz,o0,o1,o12,o30,o31,↓s18,k1,k2,k3,k4,k5,c1,c2,c3,q0,e0,add1,wk]
  ·have q0:(lng==0)=false:=by simp [l0]
   by_cases l1:(i:Int)<at_
   ·have q1:((i:Int)<at_)=True:=by simp only [eq_iff_iff,iff_true];exact l1
    rw [b5 (.inr l1)] at k5
    simp only [go_sem,Fn.y22,lt,go,oz,o0,o1,o12,o30,o31,↓s18,k1,k2,k3,k4,k5,c1,c2,c3,q0,q1,e0,add1,wk]
   ·have q1:((i:Int)<at_)=False:=by simp only [eq_iff_iff,iff_false];exact l1
    by_cases l2:(i:Int)-at_≥lng
    ·have q2:((i:Int)-at_≥lng)=True:=by simp only [eq_iff_iff,iff_true];exact l2
     have hsl:=ysj (b6 (by simp only [not_or];exact ⟨l0,l1⟩) l2)
     rw [hsl] at k6
     simp only [go_sem,Fn.y22,lt,go,oz,o0,o1,o12,o30,o31,↓s18,k1,k2,k3,k4,k6,c1,c2,c3,q0,q1,q2,w1,e0,add1,wk]
    ·have q2:((i:Int)-at_≥lng)=False:=by simp only [eq_iff_iff,iff_false];exact l2
     simp only [go_sem,Fn.y22,lt,go,oz,o0,o1,o12,o30,o31,↓s18,k1,k2,k3,k4,c1,c2,c3,q0,q1,q2,w1,e0,add1,wk]
set_option maxRecDepth 100000 in
theorem yll (j:Jt) (l:List Num) (hl:l.length<2^20) (at_ lng:Int) (ha':at_<9223372036854775808):Ends Id.y07 [.agg j.c,.one (.sl false (l.map Num.c)),.agg [.int .i64 at_,.int .i64 lng]] (.one (.bool true)):=by
 obtain ⟨s1,s2,s3,s4,s5,s6⟩:=j.sizes
 obtain ⟨N1,h1⟩:=cJoint j
 obtain ⟨N2,h2⟩:=ynx
 by_cases c0:l.length>40
 ·refine .of (N1+N2) fun {n} hn=> ?_
  have h1:=h1 n (by omega)
  have h2:=h2 n (by omega)
  have f0:(((l.length:Nat):Int)>40)=True:=by simp only [eq_iff_iff,iff_true];omega
  rw [y04 y5g]
  simp only [go_sem,Fn.y07,h1,h2,List.length_map,f0]
 ·have f0:(((l.length:Nat):Int)>40)=False:=by simp only [eq_iff_iff,iff_false];omega
  obtain ⟨N3,h3⟩:=cList l hl
  obtain ⟨ws,hws⟩:∃ws:List Rat,ws=l.map Num.q:=⟨_,rfl⟩
  have hm:(l.map fun s=>qC s.q)=ws.map qC:=by rw [hws,List.map_map];rfl
  have hlw:ws.length=l.length:=by rw [hws,List.length_map]
  rw [hm] at h3
  obtain ⟨N4,h4⟩:=cDrive j.low.q j.high.q j.most.q j.step.q j.place.q j.speed.q j.d at_ lng ws s1 s2 s3 s4 s5 s6 (fun w hw=>by rw [hws] at hw;obtain ⟨x,-,rfl⟩:=List.mem_map.1 hw;exact x.qS) (fun _=>by omega) (by omega) ha'
  have hsz:=(yev j.low.q j.high.q j.most.q j.step.q j.place.q j.speed.q j.d at_ lng ws s1 s2 s3 s4 s5 s6 (fun w hw=>by rw [hws] at hw;obtain ⟨x,-,rfl⟩:=List.mem_map.1 hw;exact x.qS) (fun _=>by omega) (by omega) ha').1
  by_cases c1:DriveE j.low.q j.high.q j.most.q j.step.q j.place.q j.speed.q j.d at_ lng ws.length=0
  ·obtain ⟨er,hsafe,g1,g2,g3,g4⟩:=yli c1
   obtain ⟨_,e1,e2,e3,e4⟩:=ycl er
   have eR:driveR j.low.q j.high.q j.most.q j.step.q j.place.q j.speed.q j.d at_ lng ws=driveQ j.low.q j.high.q j.most.q j.step.q j.d at_ lng 0 j.place.q j.speed.q ws:=if_pos c1
   have hok:=yjd (at_:=at_) (y8j e2) (y8j e1) e3 g3 g4 ws 0 j.place.q j.speed.q (by
    have:lookQ j.d at_ lng 0=j.d:=if_pos (.inr g2)
    rw [this];exact hsafe)
   rw [eR,c1] at h4
   rw [eR] at hsz
   have hdl:=yi2 j.low.q j.high.q j.most.q j.step.q j.d at_ lng ws 0 j.place.q j.speed.q
   generalize driveQ j.low.q j.high.q j.most.q j.step.q j.d at_ lng 0 j.place.q j.speed.q ws=os at h4 hsz hok hdl
   obtain ⟨N5,h5⟩:=yk0 j er at_ lng g2 ha' (ws.map qC) (os.map Mo.c) (yec Mo.len os) (by rw [List.length_map];omega) os 0 j.speed.q rfl hsz (s6.mono (by decide)) hok (by simp)
   obtain ⟨N6,h6⟩:=cMul j.step.q j.most.q s4 s3 (by decide)
   refine .of (N1+N2+N3+N4+N5+N6+os.length+1) fun {n} hn=> ?_
   have h1:=h1 n (by omega)
   have h2:=h2 n (by omega)
   have h3:=h3 n (by omega)
   have h4:=h4 n (by omega)
   have h6:=h6 n (by omega)
   have e0:((0:Int) !=0)=false:=rfl
   have key:∀(ob:Nat→Option AObj),StpB ob j at_ lng j.speed.q→finV [.tmp 6] (thenC (evF E n) n (tailAt 8 Fn.y07.code) (blkC 0 (loopN (evC (evF E n) n Fn.y22) n ⟨env (stpS [] (ws.map qC) (os.map Mo.c) 0),ob,fz0,34⟩)))=some (.one (.bool true)):=by
    intro ob B
    obtain ⟨ob',X',f1⟩:=h5 n (by omega) ob [] B n (by omega)
    rw [f1,y7l,if_pos rfl,y7b]
    have eq:((((os.map Mo.c).length:Nat):Int)==(((ws.map qC).length:Nat):Int))=true:=by simp [hdl]
    unfold stpS
    simp only [go_sem,tailAt,Fn.y07,eq,h2]
   rw [y04 y5g,show Fn.y07.code=cutAt 8 Fn.y07.code (tailAt 8 Fn.y07.code) from rfl]
   generalize tailAt 8 Fn.y07.code=T at key ⊢
   unfold stpS at key
   simp only [go_sem,cutAt,Fn.y07,h1,List.length_map,f0,h3,h4,h6,e0]
   refine key _ ?_
   exact ⟨rfl,rfl,rfl,rfl,rfl⟩
  ·refine .of (N1+N2+N3+N4) fun {n} hn=> ?_
   have h1:=h1 n (by omega)
   have h2:=h2 n (by omega)
   have h3:=h3 n (by omega)
   have h4:=h4 n (by omega)
   have e':(DriveE j.low.q j.high.q j.most.q j.step.q j.place.q j.speed.q j.d at_ lng ws.length !=0)=true:=by simp [c1]
   generalize DriveE j.low.q j.high.q j.most.q j.step.q j.place.q j.speed.q j.d at_ lng ws.length=er at h4 e'
   rw [y04 y5g]
   simp only [go_sem,Fn.y07,h1,h2,h3,h4,List.length_map,f0,e']
end Go.Ev
