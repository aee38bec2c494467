import Derived.Test.YtclakmennjjomaaGreatP1
import Derived.Test.YtclakmennjjomaaGreatP3
import Derived.Test.YtclakmennjjomaaGreatP4
set_option linter.all false
namespace Go.Ev
def CLe (F F':Caller):Prop:=∀c args s r,F c args s=some r→F' c args s=some r
theorem yfk {F F':Caller} (h:CLe F F') {f:FuncId} {args:List SV} {ob:Nat→Option AObj} {fz:Nat→Nat} {e:Eff} (he:callV F f args ob fz=some e):callV F' f args ob fz=some e:=by
 unfold callV at he ⊢
 cases h1:mapFz (frzS ob) fz args with
 | none=>rw [h1] at he;cases he
 | some p=>
  obtain ⟨fz',args'⟩:=p
  rw [h1] at he
  simp only at he ⊢
  cases h2:F (.fn f) args' Sto.empty with
  | none=>rw [h2] at he;cases he
  | some q=>
   rw [h _ _ _ _ h2]
   rw [h2] at he
   exact he
theorem yot {F F':Caller} (h:CLe F F') {d:Bool} {rb id:Nat} {st:St} {o:AOp} {e:Eff} (he:evOp F d rb id st o=some e):evOp F' d rb id st o=some e:=by
 cases o with
 | call byref f args=>
  simp only [evOp] at he ⊢
  cases byref with
  | true=>
   simp only [cond_true] at he ⊢
   cases h2:F (.fn f) (args.map (·.ev st.sl)) ⟨st.ob,st.fz,st.nx⟩ with
   | none=>rw [h2] at he;cases he
   | some q=>rw [h _ _ _ _ h2];rw [h2] at he;exact he
  | false=>exact yfk h he
 | callv x args=>
  simp only [evOp] at he ⊢
  split at he
  ·exact yfk h he
  ·rename_i f first caps hne hx
   cases h2:F (.fn f) (first.map .one++args.map (·.ev st.sl)++caps.map .one) ⟨st.ob,st.fz,st.nx⟩ with
   | none=>rw [h2] at he;cases he
   | some q=>rw [h _ _ _ _ h2];rw [h2] at he;exact he
  ·rename_i l hx
   cases h2:F (.rnd l) (args.map (·.ev st.sl)) ⟨st.ob,st.fz,st.nx⟩ with
   | none=>rw [h2] at he;cases he
   | some q=>rw [h _ _ _ _ h2];rw [h2] at he;exact he
  ·cases he
 | _=>exact he
theorem yaf {F F':Caller} (h:CLe F F') {d:Bool} {rb i:Nat} {st st':St} {o:AOper} (he:evO F d rb i o st=some st'):evO F' d rb i o st=some st':=by
 unfold evO at he ⊢
 split at he
 ·cases hl:limOk st.sl o.op o.lim with
  | false=>rw [hl] at he;cases he
  | true=>
   rw [hl] at he
   simp only [cond_true] at he ⊢
   cases h2:evOp F d rb (rb+i) st o.op with
   | none=>rw [h2] at he;cases he
   | some q=>rw [yot h h2];rw [h2] at he;exact he
 ·exact he
 ·cases he
theorem yav {F F':Caller} (h:CLe F F') {d:Bool} {rb:Nat}:∀{ops:List AOper} {i:Nat} {st st':St},evOps F d rb i ops st=some st'→evOps F' d rb i ops st=some st'
 | [],i,st,st',he=>he
 | o::r,i,st,st',he=>by
  unfold evOps at he ⊢
  cases h2:evO F d rb i o st with
  | none=>rw [h2] at he;cases he
  | some q=>rw [yaf h h2];rw [h2] at he;exact yav h he
theorem ydm {F F':Caller} (h:CLe F F') {rb:Nat} {aos:List AOper}:∀{pm:List (Nat×List (Nat×Opd))} {st st':St},evP F rb aos pm st=some st'→evP F' rb aos pm st=some st'
 | [],st,st',he=>he
 |(j,ks)::r,st,st',he=>by
  unfold evP at he ⊢
  cases hj:aos[j]? with
  | none=>rw [hj] at he;cases he
  | some o=>
   rw [hj] at he
   simp only at he ⊢
   cases h2:evO F true rb j o st with
   | none=>rw [h2] at he;cases he
   | some q=>
    rw [yaf h h2]
    rw [h2] at he
    simp only at he ⊢
    cases hk:keepOk st q ks with
    | false=>rw [hk] at he;cases he
    | true=>rw [hk] at he;exact ydm h he
theorem yai {b b':St→Option (Ex×St)} (h:∀st r,b st=some r→b' st=some r):∀{k k':Nat} {st:St} {r:Ex×St},k≤k'→loopN b k st=some r→loopN b' k' st=some r
 | 0,k',st,r,hk,he=>by cases he
 | k+1,0,st,r,hk,he=>by omega
 | k+1,k'+1,st,r,hk,he=>by
  unfold loopN at he ⊢
  cases h2:b st with
  | none=>rw [h2] at he;cases he
  | some q=>
   rw [h _ _ h2]
   rw [h2] at he
   obtain ⟨e,st'⟩:=q
   cases e with
   | nrm=>exact yai h (by omega) he
   | ext id=>exact he
   | ret=>exact he
theorem y4o {F F':Caller} (h:CLe F F') {fuel fuel':Nat} (hf:fuel≤fuel'):∀(a:ACode) {st:St} {r:Ex×St},evC F fuel a st=some r→evC F' fuel' a st=some r
 | .skip,st,r,he=>he
 | .reg d ops na ks,st,r,he=>by
  unfold evC at he ⊢
  cases h2:evOps F d st.nx 0 ops { st with nx:=st.nx+na } with
  | none=>rw [h2] at he;cases he
  | some q=>rw [yav h h2];rw [h2] at he;exact he
 | .regp ops pm na ks,st,r,he=>by
  unfold evC at he ⊢
  cases h2:evP F st.nx ops pm { st with nx:=st.nx+na } with
  | none=>rw [h2] at he;cases he
  | some q=>rw [ydm h h2];rw [h2] at he;exact he
 | .seq a b,st,r,he=>by
  unfold evC at he ⊢
  cases h2:evC F fuel a st with
  | none=>rw [h2] at he;cases he
  | some q=>
   rw [y4o h hf a h2]
   rw [h2] at he
   obtain ⟨e,st'⟩:=q
   cases e with
   | nrm=>exact y4o h hf b he
   | ext id=>exact he
   | ret=>exact he
 | .cond c a b,st,r,he=>by
  unfold evC at he ⊢
  cases h2:isBool (c.ev st.sl) with
  | none=>rw [h2] at he;cases he
  | some t=>
   rw [h2] at he
   cases t with
   | true=>exact y4o h hf a he
   | false=>exact y4o h hf b he
 | .block id a,st,r,he=>by
  unfold evC at he ⊢
  cases h2:evC F fuel a st with
  | none=>rw [h2] at he;cases he
  | some q=>rw [y4o h hf a h2];rw [h2] at he;exact he
 | .loop a,st,r,he=>by
  unfold evC at he ⊢
  exact yai (fun st r hr=>y4o h hf a hr) hf he
 | .exit id,st,r,he=>he
 | .ret,st,r,he=>he
 | .rangeF g ps asg body,st,r,he=>by
  unfold evC at he ⊢
  split at he
  ·rename_i f first caps hg
   cases h2:F (.fn f) (first.map .one++[.one (.yld (st.nx+1))]++caps.map .one) ⟨upd (upd st.ob st.nx .dfr) (st.nx+1) (.loop ⟨st.sl,ps,asg,body,.ready,none⟩),st.fz,st.nx+2⟩ with
   | none=>rw [h2] at he;cases he
   | some q=>rw [h _ _ _ _ h2];rw [h2] at he;exact he
  ·cases he
theorem yk4 (E:Env):∀n,CLe (evF E n) (evF E (n+1))
 | 0=>fun c args s r h=>by cases c<;>cases h
 | n+1=>fun c args s r h=>by
  have ih:=yk4 E n
  have hC:∀(a:ACode) (st:St) (r:Ex×St),evC (evF E n) n a st=some r→evC (evF E (n+1)) (n+1) a st=some r:=fun a st r hr=>y4o ih (Nat.le_succ n) a hr
  cases c with
  | fn f=>
   rw [evF] at h ⊢
   cases hE:E f with
   | none=>rw [hE] at h;cases h
   | some fn=>
    rw [hE] at h
    simp only at h ⊢
    cases h2:evC (evF E n) n fn.code { sl:=env (ofArgs 0 args),ob:=s.ob,fz:=s.fz,nx:=s.nx } with
    | none=>rw [h2] at h;cases h
    | some q=>rw [hC _ _ _ h2];rw [h2] at h;exact h
  | rnd l=>
   rw [evF] at h ⊢
   split at h
   ·rename_i lr hl
    cases hb:(Nat.beq args.length lr.ps.length&&naOk lr.asg&&naOk lr.body) with
    | false=>rw [hb] at h;cases h
    | true=>
     rw [hb] at h
     simp only [cond_true] at h ⊢
     cases h2:evC (evF E n) n lr.asg { sl:=setPs lr.ps args lr.sl,ob:=s.ob,fz:=s.fz,nx:=s.nx } with
     | none=>rw [h2] at h;cases h
     | some q=>
      rw [hC _ _ _ h2]
      rw [h2] at h
      obtain ⟨e,st⟩:=q
      cases e with
      | ext id=>cases h
      | ret=>cases h
      | nrm=>
       simp only at h ⊢
       split at h
       ·rename_i r1 hr1
        split at h
        ·rename_i hst
         cases h3:evC (evF E n) n lr.body { st with ob:=upd st.ob l (.loop { r1 with st:=.busy }) } with
         | none=>rw [h3] at h;cases h
         | some q=>rw [hC _ _ _ h3];rw [h3] at h;exact h
        ·cases h
       ·cases h
   ·cases h
theorem y5j (E:Env) {n m:Nat} (h:n≤m):CLe (evF E n) (evF E m):=by
 induction h with
 | refl=>exact fun c args s r h=>h
 | step _ ih=>exact fun c args s r h=>yk4 E _ c args s r (ih c args s r h)
theorem yry {E:Env} {n m:Nat} (h:n≤m) {f:FuncId} {args:List SV} {r:SV} (he:evV E n f args=some r):evV E m f args=some r:=by
 unfold evV at he ⊢
 cases h2:evF E n (.fn f) args Sto.empty with
 | none=>rw [h2] at he;cases he
 | some q=>rw [y5j E h _ _ _ _ h2];rw [h2] at he;exact he
end Go.Ev
namespace Go.Ev
abbrev Orc:=FuncId→List SV→Option SV
def callO (O:Orc) (F:Caller) (f:FuncId) (args:List SV) (ob:Nat→Option AObj) (fz:Nat→Nat):Option Eff:=
 match mapFz (frzS ob) fz args with
 | some (fz',args')=>match O f args' with
  | some r=>some (.fzd fz' r)
  | none=>match F (.fn f) args' Sto.empty with
   | some (r,s)=>match frzR s.ob s.fz r with
    | some (_,r')=>some (.fzd fz' r')
    | none=>none
   | none=>none
 | none=>none
def orOp (O:Orc) (F:Caller) (draw:Bool) (rb id:Nat) (st:St) (op:AOp):Option Eff:=match op with
 | .call false f args=>callO O F f (args.map (·.ev st.sl)) st.ob st.fz
 | .callv x args=>match x.ev st.sl with
  | .one (.fn f [] [])=>callO O F f (args.map (·.ev st.sl)) st.ob st.fz
  | _=>evOp F draw rb id st (.callv x args)
 | op=>evOp F draw rb id st op
def orO (O:Orc) (F:Caller) (draw:Bool) (rb i:Nat) (o:AOper) (st:St):Option St:=
 match wants st.sl o.guard with
 | some true=>bif limOk st.sl o.op o.lim then
   (match orOp O F draw rb (rb+i) st o.op with
    | some e=>some (e.apply st (rb+i) o.dst)
    | none=>none)
  else none
 | some false=>some { st with sl:=putS st.sl o.dst SV.undef }
 | none=>none
def orOps (O:Orc) (F:Caller) (draw:Bool) (rb:Nat):Nat→List AOper→St→Option St
 | _,[],st=>some st
 | i,o::r,st=>match orO O F draw rb i o st with
  | some st'=>orOps O F draw rb (i+1) r st'
  | none=>none
def orP (O:Orc) (F:Caller) (rb:Nat) (aos:List AOper):List (Nat×List (Nat×Opd))→St→Option St
 | [],st=>some st
 |(j,ks)::r,st=>match aos[j]? with
  | some o=>match orO O F true rb j o st with
   | some st'=>bif keepOk st st' ks then orP O F rb aos r st' else none
   | none=>none
  | none=>none
def orC (O:Orc) (F:Caller) (fuel:Nat):ACode→St→Option (Ex×St)
 | .skip,st=>some (.nrm,st)
 | .reg draw ops na ks,st=>match orOps O F draw st.nx 0 ops { st with nx:=st.nx+na } with
  | some st'=>some (.nrm,{ st' with sl:=keep ks st'.sl })
  | none=>none
 | .regp ops pm na ks,st=>match orP O F st.nx ops pm { st with nx:=st.nx+na } with
  | some st'=>some (.nrm,{ st' with sl:=keep ks st'.sl })
  | none=>none
 | .seq a b,st=>match orC O F fuel a st with
  | some (.nrm,st')=>orC O F fuel b st'
  | some (e,st')=>some (e,st')
  | none=>none
 | .cond c a b,st=>match isBool (c.ev st.sl) with
  | some t=>bif t then orC O F fuel a st else orC O F fuel b st
  | none=>none
 | .block id a,st=>match orC O F fuel a st with
  | some (.ext id',st')=>bif Nat.beq id' id then some (.nrm,st') else some (.ext id',st')
  | r=>r
 | .loop a,st=>loopN (orC O F fuel a) fuel st
 | .exit id,st=>some (.ext id,st)
 | .ret,st=>some (.ret,st)
 | .rangeF g ps asg body,st=>none
def orF (E:Env) (O:Orc):(n:Nat)→Caller
 | 0,_,_,_=>none
 | n+1,.fn f,args,s=>match E f with
  | some fn=>match orC O (orF E O n) n fn.code { sl:=env (ofArgs 0 args),ob:=s.ob,fz:=s.fz,nx:=s.nx } with
   | some (.nrm,st) | some (.ret,st)=>match resAll st fn.res with
    | some v=>some (v,⟨shut s.ob st.ob,st.fz,st.nx⟩)
    | none=>none
   | _=>none
  | none=>none
 | n+1,.rnd l,args,s=>none
def orV (E:Env) (O:Orc) (n:Nat) (f:FuncId) (args:List SV):Option SV:=
 match orF E O n (.fn f) args Sto.empty with
 | some (r,s)=>match frzR s.ob s.fz r with
  | some (_,r')=>some r'
  | none=>none
 | none=>none
def OrcOk (E:Env) (O:Orc):Prop:=∀f args r,O f args=some r→∃n,evV E n f args=some r
def Sim (E:Env) (F:Caller):Prop:=∀c args s r,F c args s=some r→∃m,evF E m c args s=some r
section
variable {E:Env} {O:Orc} {F:Caller}
theorem ybt (hO:OrcOk E O) (hF:Sim E F) {f:FuncId} {args:List SV} {ob:Nat→Option AObj} {fz:Nat→Nat} {e:Eff} (h:callO O F f args ob fz=some e):∃m,callV (evF E m) f args ob fz=some e:=by
 unfold callO at h
 unfold callV
 cases h1:mapFz (frzS ob) fz args with
 | none=>rw [h1] at h;cases h
 | some p=>
  obtain ⟨fz',args'⟩:=p
  rw [h1] at h
  simp only at h ⊢
  cases h2:O f args' with
  | some r=>
   rw [h2] at h
   obtain ⟨n,hn⟩:=hO f args' r h2
   refine ⟨n, ?_⟩
   unfold evV at hn
   cases h3:evF E n (.fn f) args' Sto.empty with
   | none=>rw [h3] at hn;cases hn
   | some q=>
    rw [h3] at hn
    simp only at hn ⊢
    cases h4:frzR q.2.ob q.2.fz q.1 with
    | none=>rw [h4] at hn;cases hn
    | some z=>
     rw [h4] at hn
     cases hn
     exact h
  | none=>
   rw [h2] at h
   simp only at h
   cases h3:F (.fn f) args' Sto.empty with
   | none=>rw [h3] at h;cases h
   | some q=>
    obtain ⟨m,hm⟩:=hF _ _ _ _ h3
    rw [h3] at h
    exact ⟨m,by rw [hm];exact h⟩
theorem yj6 (hF:Sim E F) {d:Bool} {rb id:Nat} {st:St} {o:AOp} {e:Eff} (he:evOp F d rb id st o=some e):∃m,evOp (evF E m) d rb id st o=some e:=by
 cases o with
 | call byref f args=>
  simp only [evOp] at he ⊢
  cases byref with
  | true=>
   simp only [cond_true] at he ⊢
   cases h2:F (.fn f) (args.map (·.ev st.sl)) ⟨st.ob,st.fz,st.nx⟩ with
   | none=>rw [h2] at he;cases he
   | some q=>
    obtain ⟨m,hm⟩:=hF _ _ _ _ h2
    exact ⟨m,by rw [hm];rw [h2] at he;exact he⟩
  | false=>
   simp only [cond_false] at he ⊢
   exact callV_sim he
 | callv x args=>
  simp only [evOp] at he ⊢
  split at he
  ·exact callV_sim he
  ·rename_i f first caps hne hx
   cases h2:F (.fn f) (first.map .one++args.map (·.ev st.sl)++caps.map .one) ⟨st.ob,st.fz,st.nx⟩ with
   | none=>rw [h2] at he;cases he
   | some q=>
    obtain ⟨m,hm⟩:=hF _ _ _ _ h2
    refine ⟨m, ?_⟩
    rw [hm];rw [h2] at he;exact he
  ·rename_i l hx
   cases h2:F (.rnd l) (args.map (·.ev st.sl)) ⟨st.ob,st.fz,st.nx⟩ with
   | none=>rw [h2] at he;cases he
   | some q=>
    obtain ⟨m,hm⟩:=hF _ _ _ _ h2
    exact ⟨m,by rw [hm];rw [h2] at he;exact he⟩
  ·cases he
 | _=>exact ⟨0,he⟩
where
 callV_sim {f:FuncId} {args:List SV} {ob:Nat→Option AObj} {fz:Nat→Nat} {e:Eff} (h:callV F f args ob fz=some e):∃m,callV (evF E m) f args ob fz=some e:=by
  have h':callO (fun _ _=>none) F f args ob fz=some e:=h
  exact ybt (O:=fun _ _=>none) (fun _ _ _ h=>by cases h) hF h'
theorem yqd (hO:OrcOk E O) (hF:Sim E F) {d:Bool} {rb id:Nat} {st:St} {o:AOp} {e:Eff} (he:orOp O F d rb id st o=some e):∃m,evOp (evF E m) d rb id st o=some e:=by
 unfold orOp at he
 split at he
 ·obtain ⟨m,hm⟩:=ybt hO hF he
  exact ⟨m,hm⟩
 ·rename_i x args
  split at he
  ·rename_i f hx
   obtain ⟨m,hm⟩:=ybt hO hF he
   exact ⟨m,by simp only [evOp,hx];exact hm⟩
  ·exact yj6 hF he
 ·exact yj6 hF he
theorem yla (hO:OrcOk E O) (hF:Sim E F) {d:Bool} {rb i:Nat} {o:AOper} {st st':St} (he:orO O F d rb i o st=some st'):∃m,evO (evF E m) d rb i o st=some st':=by
 unfold orO at he
 unfold evO
 cases hw:wants st.sl o.guard with
 | none=>rw [hw] at he;cases he
 | some b=>
 rw [hw] at he
 cases b with
 | true=>
  simp only at he ⊢
  cases hl:limOk st.sl o.op o.lim with
  | false=>rw [hl] at he;cases he
  | true=>
   rw [hl] at he
   simp only [cond_true] at he ⊢
   cases h2:orOp O F d rb (rb+i) st o.op with
   | none=>rw [h2] at he;cases he
   | some q=>
    obtain ⟨m,hm⟩:=yqd hO hF h2
    exact ⟨m,by rw [hm];rw [h2] at he;exact he⟩
 | false=>exact ⟨0,he⟩
theorem yh4 (hO:OrcOk E O) (hF:Sim E F) {d:Bool} {rb:Nat}:∀{ops:List AOper} {i:Nat} {st st':St},orOps O F d rb i ops st=some st'→∃m,evOps (evF E m) d rb i ops st=some st'
 | [],i,st,st',he=>⟨0,he⟩
 | o::r,i,st,st',he=>by
  unfold orOps at he
  cases h2:orO O F d rb i o st with
  | none=>rw [h2] at he;cases he
  | some q=>
   rw [h2] at he
   obtain ⟨m1,h1⟩:=yla hO hF h2
   obtain ⟨m2,h2⟩:=yh4 hO hF he
   refine ⟨max m1 m2, ?_⟩
   unfold evOps
   rw [yaf (y5j E (Nat.le_max_left m1 m2)) h1]
   exact yav (y5j E (Nat.le_max_right m1 m2)) h2
theorem ym2 (hO:OrcOk E O) (hF:Sim E F) {rb:Nat} {aos:List AOper}:∀{pm:List (Nat×List (Nat×Opd))} {st st':St},orP O F rb aos pm st=some st'→∃m,evP (evF E m) rb aos pm st=some st'
 | [],st,st',he=>⟨0,he⟩
 |(j,ks)::r,st,st',he=>by
  unfold orP at he
  cases hj:aos[j]? with
  | none=>rw [hj] at he;cases he
  | some o=>
   rw [hj] at he
   simp only at he
   cases h2:orO O F true rb j o st with
   | none=>rw [h2] at he;cases he
   | some q=>
    rw [h2] at he
    simp only at he
    cases hk:keepOk st q ks with
    | false=>rw [hk] at he;cases he
    | true=>
     rw [hk] at he
     obtain ⟨m1,h1⟩:=yla hO hF h2
     obtain ⟨m2,h2⟩:=ym2 hO hF he
     refine ⟨max m1 m2, ?_⟩
     unfold evP
     simp only [hj,yaf (y5j E (Nat.le_max_left m1 m2)) h1,hk,cond_true]
     exact ydm (y5j E (Nat.le_max_right m1 m2)) h2
theorem yib {b:St→Option (Ex×St)} {a:ACode} (h:∀st r,b st=some r→∃m,evC (evF E m) m a st=some r):∀{k:Nat} {st:St} {r:Ex×St},loopN b k st=some r→∃m,loopN (evC (evF E m) m a) m st=some r
 | 0,st,r,he=>by cases he
 | k+1,st,r,he=>by
  unfold loopN at he
  cases h2:b st with
  | none=>rw [h2] at he;cases he
  | some q=>
   rw [h2] at he
   obtain ⟨m1,h1⟩:=h _ _ h2
   obtain ⟨e,st'⟩:=q
   cases e with
   | nrm=>
    obtain ⟨m2,h3⟩:=yib h he
    have l1:m1≤max m1 m2+1:=by omega
    have l2:m2≤max m1 m2+1:=by omega
    refine ⟨max m1 m2+1, ?_⟩
    rw [loopN,y4o (y5j E l1) l1 a h1]
    exact yai (fun st r hr=>y4o (y5j E l2) l2 a hr) (by omega) h3
   | ext id=>exact ⟨m1+1,by rw [loopN,y4o (y5j E (Nat.le_succ m1)) (Nat.le_succ m1) a h1];exact he⟩
   | ret=>exact ⟨m1+1,by rw [loopN,y4o (y5j E (Nat.le_succ m1)) (Nat.le_succ m1) a h1];exact he⟩
theorem y7h (hO:OrcOk E O) (hF:Sim E F) {fuel:Nat}:∀(a:ACode) {st:St} {r:Ex×St},orC O F fuel a st=some r→∃m,evC (evF E m) m a st=some r
 | .skip,st,r,he=>⟨0,he⟩
 | .reg d ops na ks,st,r,he=>by
  unfold orC at he
  cases h2:orOps O F d st.nx 0 ops { st with nx:=st.nx+na } with
  | none=>rw [h2] at he;cases he
  | some q=>
   rw [h2] at he
   obtain ⟨m,hm⟩:=yh4 hO hF h2
   exact ⟨m,by unfold evC;rw [hm];exact he⟩
 | .regp ops pm na ks,st,r,he=>by
  unfold orC at he
  cases h2:orP O F st.nx ops pm { st with nx:=st.nx+na } with
  | none=>rw [h2] at he;cases he
  | some q=>
   rw [h2] at he
   obtain ⟨m,hm⟩:=ym2 hO hF h2
   exact ⟨m,by unfold evC;rw [hm];exact he⟩
 | .seq a b,st,r,he=>by
  unfold orC at he
  cases h2:orC O F fuel a st with
  | none=>rw [h2] at he;cases he
  | some q=>
   rw [h2] at he
   obtain ⟨m1,h1⟩:=y7h hO hF a h2
   obtain ⟨e,st'⟩:=q
   cases e with
   | nrm=>
    obtain ⟨m2,h3⟩:=y7h hO hF b he
    refine ⟨max m1 m2, ?_⟩
    unfold evC
    rw [y4o (y5j E (Nat.le_max_left m1 m2)) (Nat.le_max_left m1 m2) a h1]
    exact y4o (y5j E (Nat.le_max_right m1 m2)) (Nat.le_max_right m1 m2) b h3
   | ext id=>exact ⟨m1,by unfold evC;rw [h1];exact he⟩
   | ret=>exact ⟨m1,by unfold evC;rw [h1];exact he⟩
 | .cond c a b,st,r,he=>by
  unfold orC at he
  cases h2:isBool (c.ev st.sl) with
  | none=>rw [h2] at he;cases he
  | some t=>
   rw [h2] at he
   cases t with
   | true=>
    obtain ⟨m,hm⟩:=y7h hO hF a he
    exact ⟨m,by unfold evC;rw [h2];exact hm⟩
   | false=>
    obtain ⟨m,hm⟩:=y7h hO hF b he
    exact ⟨m,by unfold evC;rw [h2];exact hm⟩
 | .block id a,st,r,he=>by
  unfold orC at he
  cases h2:orC O F fuel a st with
  | none=>rw [h2] at he;cases he
  | some q=>
   rw [h2] at he
   obtain ⟨m,hm⟩:=y7h hO hF a h2
   exact ⟨m,by unfold evC;rw [hm];exact he⟩
 | .loop a,st,r,he=>by
  unfold orC at he
  obtain ⟨m,hm⟩:=yib (fun st r hr=>y7h hO hF a hr) he
  exact ⟨m,by unfold evC;exact hm⟩
 | .exit id,st,r,he=>⟨0,he⟩
 | .ret,st,r,he=>⟨0,he⟩
 | .rangeF g ps asg body,st,r,he=>by cases he
end
theorem ym6 {E:Env} {O:Orc} (hO:OrcOk E O):∀n,Sim E (orF E O n)
 | 0=>fun c args s r h=>by cases c<;>cases h
 | n+1=>fun c args s r h=>by
  have ih:=ym6 hO n
  cases c with
  | fn f=>
   rw [orF] at h
   cases hE:E f with
   | none=>rw [hE] at h;cases h
   | some fn=>
    rw [hE] at h
    simp only at h
    cases h2:orC O (orF E O n) n fn.code { sl:=env (ofArgs 0 args),ob:=s.ob,fz:=s.fz,nx:=s.nx } with
    | none=>rw [h2] at h;cases h
    | some q=>
     rw [h2] at h
     obtain ⟨m,hm⟩:=y7h hO ih fn.code h2
     refine ⟨m+1, ?_⟩
     rw [evF,hE]
     simp only
     rw [hm]
     exact h
  | rnd l=>cases h
theorem ynt {E:Env} {O:Orc} (hO:OrcOk E O) {n:Nat} {f:FuncId} {args:List SV} {r:SV} (h:orV E O n f args=some r):∃m,evV E m f args=some r:=by
 unfold orV at h
 cases h2:orF E O n (.fn f) args Sto.empty with
 | none=>rw [h2] at h;cases h
 | some q=>
  obtain ⟨m,hm⟩:=ym6 hO n _ _ _ _ h2
  exact ⟨m,by unfold evV;rw [hm];rw [h2] at h;exact h⟩
end Go.Ev
namespace Go.Ev
open Go.Dig
def digO:Nat→Nat→Option (List Nat)
 | 0,_=>none
 | k+1,n=>bif Nat.beq n 0 then some [] else match digO k (n / 4294967296) with
  | some l=>some (n%4294967296::l)
  | none=>none
theorem yfz:∀(k n:Nat) (l:List Nat),digO k n=some l→l=digs B32 n
 | 0,n,l,h=>by cases h
 | k+1,n,l,h=>by
  unfold digO at h
  cases hn:Nat.beq n 0 with
  | true=>
   rw [hn] at h
   cases h
   rw [Nat.eq_of_beq_eq_true hn,digs_zero]
  | false=>
   rw [hn] at h
   simp only [cond_false] at h
   cases h2:digO k (n / 4294967296) with
   | none=>rw [h2] at h;cases h
   | some l'=>
    rw [h2] at h
    cases h
    have h0:n≠0:=fun e=>by rw [e] at hn;cases hn
    rw [y66 (by decide) h0,yfz k _ _ h2]
def valE:List (List AV)→Option Nat
 | []=>some 0
 | [.int .u32 (.ofNat n)]::r=>match valE r with
  | some v=>some (n+4294967296*v)
  | none=>none
 | _=>none
def eqE:List (List AV)→List Nat→Bool
 | [],[]=>true
 | [.int .u32 (.ofNat n)]::r,d::s=>Nat.beq n d&&eqE r s
 | _,_=>false
theorem yvs:∀(es:List (List AV)) (l:List Nat),eqE es l=true→es=natE l:=by
 intro es l
 induction es generalizing l with
 | nil=>
  intro h
  cases l with
  | nil=>rfl
  | cons=>cases h
 | cons e r ih=>
  intro h
  unfold eqE at h
  split at h
  ·rename_i h1;cases h1
  ·rename_i n r' d s h1
   cases h1
   simp only [Bool.and_eq_true,Nat.beq_eq] at h
   rw [ih s h.2,h.1]
   rfl
  ·cases h
def rdN (v:AV):Option Nat:=match v with
 | .sl false es=>match valE es with
  | some n=>match digO 300 n with
   | some l=>bif eqE es l then some n else none
   | none=>none
  | none=>none
 | _=>none
theorem yni {v:AV} {n:Nat} (h:rdN v=some n):v=natV n:=by
 unfold rdN at h
 split at h
 ·split at h
  ·split at h
   ·rename_i es n' _ l hl
    rw [Bool.cond_eq_ite] at h
    split at h
    ·rename_i he
     cases h
     rw [yvs _ _ he,yfz _ _ _ hl]
     rfl
    ·cases h
   ·cases h
  ·cases h
 ·cases h
def BIG:Nat:=2^1000
theorem ywv:BIG=2^1000:=by unfold BIG;rfl
theorem yle {a b:Nat} (h:Nat.blt a b=true):a<b:=Nat.le_of_ble_eq_true h
def rdQ (x:SV):Option (Int×Nat):=match x with
 | .agg [.bool neg,a,b]=>match rdN a,rdN b with
  | some n,some d=>bif Nat.beq (Nat.gcd n (d+1)) 1&&(!neg || !Nat.beq n 0)&&Nat.blt n BIG&&Nat.blt (d+1) BIG then some (bif neg then-(n:Int) else (n:Int),d+1) else none
  | _,_=>none
 | _=>none
theorem yiv {x:SV} {z:Int} {d:Nat} (h:rdQ x=some (z,d)):∃q:Rat,x=qV q∧q.num=z∧q.den=d∧SmQ 1000 q:=by
 unfold rdQ at h
 split at h
 ·rename_i neg a b
  split at h
  ·rename_i n d' ha hb
   rw [Bool.cond_eq_ite] at h
   split at h
   ·rename_i hc
    simp only [Bool.and_eq_true,Bool.or_eq_true,Nat.beq_eq] at hc
    obtain ⟨⟨⟨h1,h2⟩,h3⟩,h4⟩:=hc
    have h3:=yle h3
    have h4:=yle h4
    rw [ywv] at h3 h4
    cases h
    have hab:(bif neg then-(n:Int) else (n:Int)).natAbs=n:=by cases neg<;>simp
    refine ⟨⟨bif neg then-(n:Int) else (n:Int),d'+1,by omega,by rw [hab];exact h1⟩, ?_,rfl,rfl,⟨?_,h4⟩⟩
    ·rw [yni ha,yni hb]
     unfold qV qC
     simp only [hab,Nat.add_sub_cancel]
     have:neg=decide ((bif neg then-(n:Int) else (n:Int))<0):=by
      cases neg with
      | false=>simp
      | true=>
       simp only [Bool.not_true,Bool.false_eq_true,Bool.not_eq_true',false_or] at h2
       have:n≠0:=fun e=>by rw [e] at h2;cases h2
       simp only [cond_true]
       exact (decide_eq_true (by omega)).symm
     rw [←this]
    ·show (bif neg then-(n:Int) else (n:Int)).natAbs<_
     rw [hab];exact h3
   ·cases h
  ·cases h
 ·cases h
def wrN (n:Nat):Option AV:=match digO 300 n with
 | some l=>some (.sl false (natE l))
 | none=>none
theorem ypg {n:Nat} {v:AV} (h:wrN n=some v):v=natV n:=by
 unfold wrN at h
 split at h
 ·rename_i l hl
  cases h
  rw [yfz _ _ _ hl]
  rfl
 ·cases h
def wrQ (z:Int) (d:Nat):Option SV:=match wrN z.natAbs,wrN (d-1) with
 | some a,some b=>some (.agg [.bool (decide (z<0)),a,b])
 | _,_=>none
theorem yez {q:Rat} {z:Int} {d:Nat} {v:SV} (hz:q.num=z) (hd:q.den=d) (h:wrQ z d=some v):v=qV q:=by
 subst hz hd
 unfold wrQ at h
 split at h
 ·rename_i a b ha hb
  cases h
  rw [ypg ha,ypg hb]
  rfl
 ·cases h
def wrF (z:Int) (d:Nat):Option SV:=bif Nat.beq d 0 then none else wrQ (sgn (decide (z<0)) (z.natAbs / Nat.gcd z.natAbs d)) (d / Nat.gcd z.natAbs d)
theorem yf3 {z:Int} {d:Nat} {v:SV} (hd:d≠0) (h:wrF z d=some v):v=qV (Rat.normalize z d hd):=by
 unfold wrF at h
 cases hb:Nat.beq d 0 with
 | true=>rw [hb] at h;cases h
 | false=>
  rw [hb] at h
  obtain ⟨h1,h2⟩:=yab z d hd
  exact yez h1 h2 h
def one2 (args:List SV) (f:Int→Nat→Int→Nat→Option SV):Option SV:=match args with
 | [x,y]=>match rdQ x,rdQ y with
  | some (a,c),some (b,d)=>f a c b d
  | _,_=>none
 | _=>none
def one1 (args:List SV) (f:Int→Nat→Option SV):Option SV:=match args with
 | [x]=>match rdQ x with
  | some (a,c)=>f a c
  | none=>none
 | _=>none
theorem y9y {args:List SV} {f:Int→Nat→Int→Nat→Option SV} {r:SV} (h:one2 args f=some r):∃p q:Rat,args=[qV p,qV q]∧SmQ 1000 p∧SmQ 1000 q∧f p.num p.den q.num q.den=some r:=by
 unfold one2 at h
 split at h
 ·split at h
  ·rename_i hx hy
   obtain ⟨p,rfl,p1,p2,p3⟩:=yiv hx
   obtain ⟨q,rfl,q1,q2,q3⟩:=yiv hy
   exact ⟨p,q,rfl,p3,q3,by rw [p1,p2,q1,q2];exact h⟩
  ·cases h
 ·cases h
theorem ygc {args:List SV} {f:Int→Nat→Option SV} {r:SV} (h:one1 args f=some r):∃p:Rat,args=[qV p]∧SmQ 1000 p∧f p.num p.den=some r:=by
 unfold one1 at h
 split at h
 ·split at h
  ·rename_i hx
   obtain ⟨p,rfl,p1,p2,p3⟩:=yiv hx
   exact ⟨p,rfl,p3,by rw [p1,p2];exact h⟩
  ·cases h
 ·cases h
def oInt (args:List SV):Option SV:=match args with
 | [.one (.int .i64 z)]=>bif decide (-9223372036854775808≤z)&&decide (z<9223372036854775808) then wrQ z 1 else none
 | _=>none
theorem ytg {args:List SV} {r:SV} (h:oInt args=some r):∃z:Int,args=[.one (.int .i64 z)]∧-9223372036854775808≤z∧z<9223372036854775808∧wrQ z 1=some r:=by
 unfold oInt at h
 split at h
 ·rename_i z
  by_cases h1:-9223372036854775808≤z
  ·by_cases h2:z<9223372036854775808
   ·rw [decide_eq_true h1,decide_eq_true h2] at h
    exact ⟨z,rfl,h1,h2,h⟩
   ·rw [decide_eq_false h2,Bool.and_false] at h
    cases h
  ·rw [decide_eq_false h1,Bool.false_and] at h
   cases h
 ·cases h
def orcQ:Orc:=fun f args=>
 bif Nat.beq f Id.y06 then one2 args fun a c b d=>wrF (a*b) (c*d) else
 bif Nat.beq f Id.y0d then one2 args fun a c b d=>wrF (a*d+b*c) (c*d) else
 bif Nat.beq f Id.y10 then one2 args fun a c b d=>wrF (a*d-b*c) (c*d) else
 bif Nat.beq f Id.y0c then one1 args fun a c=>some (.one (.int .i64 (signI a))) else
 bif Nat.beq f Id.y0q then one1 args fun a c=>wrQ (-a) c else
 bif Nat.beq f Id.y0w then one2 args fun a c b d=>some (.one (.int .i64 (cmpZ (a*d) (b*c)))) else
 bif Nat.beq f Id.y0k then oInt args else
 bif Nat.beq f Id.y2c then one2 args fun a c b d=>bif decide (b=0) then none else match wrF (sgn (decide (a<0) !=decide (b<0)) (a.natAbs*d)) (c*b.natAbs) with
  | some v=>some (.tup [v,.one (.int .i64 0)])
  | none=>none else
 bif Nat.beq f Id.y3k then one1 args fun a c=>wrQ (a.natAbs:Int) c else none
theorem yfo (a b:Rat):a.den*b.den≠0:=Nat.mul_ne_zero a.den_nz b.den_nz
theorem yt8 (p:Rat):(absQ p).num=(p.num.natAbs:Int):=by
 unfold absQ
 split
 ·rw [Rat.neg_num];omega
 ·omega
theorem ytd (p:Rat):(absQ p).den=p.den:=by
 unfold absQ
 split
 ·exact Rat.neg_den p
 ·rfl
theorem yu1:OrcOk E orcQ:=by
 intro f args r h
 unfold orcQ at h
 have cs:∀{i:FuncId} {x y:Option SV},(bif Nat.beq f i then x else y)=some r→(f=i∧x=some r)∨y=some r:=by
  intro i x y h
  cases hb:Nat.beq f i with
  | true=>rw [hb] at h;exact .inl ⟨Nat.eq_of_beq_eq_true hb,h⟩
  | false=>rw [hb] at h;exact .inr h
 rcases cs h with ⟨rfl,h⟩ | h
 ·obtain ⟨p,q,rfl,hp,hq,h⟩:=y9y h
  rw [yf3 (yfo p q) h,←Rat.mul_def]
  exact ⟨_,yg0 p q hp hq (by decide) (Nat.le_refl _)⟩
 rcases cs h with ⟨rfl,h⟩ | h
 ·obtain ⟨p,q,rfl,hp,hq,h⟩:=y9y h
  rw [yf3 (yfo p q) h,←Rat.add_def]
  exact ⟨_,ygd p q hp hq (by decide) (Nat.le_refl _)⟩
 rcases cs h with ⟨rfl,h⟩ | h
 ·obtain ⟨p,q,rfl,hp,hq,h⟩:=y9y h
  rw [yf3 (yfo p q) h]
  have e:Rat.normalize (p.num*(q.den:Int)-q.num*(p.den:Int)) (p.den*q.den) (yfo p q)=p-q:=by
   rw [Rat.sub_eq_add_neg,Rat.add_def]
   simp only [Rat.neg_num,Rat.neg_den,Int.neg_mul,Int.sub_eq_add_neg]
  rw [e]
  exact ⟨_,ylh p q hp hq (by decide) (Nat.le_refl _)⟩
 rcases cs h with ⟨rfl,h⟩ | h
 ·obtain ⟨p,rfl,hp,h⟩:=ygc h
  cases h
  exact ⟨_,ydi p 0⟩
 rcases cs h with ⟨rfl,h⟩ | h
 ·obtain ⟨p,rfl,hp,h⟩:=ygc h
  rw [yez (q:=-p) (Rat.neg_num p) (Rat.neg_den p) h]
  exact ⟨_,yg9 p 0⟩
 rcases cs h with ⟨rfl,h⟩ | h
 ·obtain ⟨p,q,rfl,hp,hq,h⟩:=y9y h
  cases h
  exact ⟨_,yci p q hp hq (by decide) (Nat.le_refl _)⟩
 rcases cs h with ⟨rfl,h⟩ | h
 ·obtain ⟨z,rfl,h1,h2,h⟩:=ytg h
  rw [yez (q:=Rat.ofInt z) rfl rfl h]
  exact ⟨_,ylp z h1 h2 (Nat.le_refl _)⟩
 rcases cs h with ⟨rfl,h⟩ | h
 ·obtain ⟨p,q,rfl,hp,hq,h⟩:=y9y h
  cases hb:decide (q.num=0) with
  | true=>rw [hb] at h;cases h
  | false=>
   rw [hb] at h
   have h0:q.num≠0:=of_decide_eq_false hb
   simp only [cond_false] at h
   split at h
   ·rename_i v hv
    cases h
    have hd:p.den*q.num.natAbs≠0:=Nat.mul_ne_zero p.den_nz (by omega)
    rw [yf3 hd hv,ye9 p q h0 hd]
    exact ⟨_,yl8 p q h0 hp hq (by decide) (Nat.le_refl _)⟩
   ·cases h
 rcases cs h with ⟨rfl,h⟩ | h
 ·obtain ⟨p,rfl,hp,h⟩:=ygc h
  rw [yez (yt8 p) (ytd p) h]
  exact ⟨_,ylk p 0⟩
 cases h
end Go.Ev
namespace Go.Ev
set_option maxRecDepth 100000 in
theorem yp9:orV E orcQ 200 Id.y1c []=some (.one (.bool true)):=by kernel_rfl
theorem awake_ends:Ends Id.y1c [] (.one (.bool true)):=by
 obtain ⟨m,hm⟩:=ynt yu1 yp9
 exact ⟨m,fun n hn=>yry hn hm⟩
theorem ymp:Calling Id.y1c [] (.one (.bool true)):=awake_ends.call fun x h=>by cases h
end Go.Ev
namespace Go.Ev
set_option maxRecDepth 100000 in
theorem ynq (m:Mt) (ms:MtS m) (t0:0≤m.T) (b:Int) (d k kind:Nat) (hd:d≤16) (hk:k≤64) (at_:Int) (ha:0≤at_) (ha':at_<9223372036854775808) (ws:List (List AV)) (o3w:okSz 3 ws=true) (hlen:ws.length≤20):
  ∀(r:List Rat) (i:Nat) (w:Wt) (Z:Nat),ws.drop i=r.map qC→HtS Z w.heat→Z+1670*r.length≤60000→SmQ 64000 w.read→TqS (256+66) w.last→(∀x∈r,SmQ 256 x)→i+r.length=ws.length→
   (∀o∈m.watch d k kind at_ (i:Int) w r,SmQ 64000 o.heat∧SmQ 512 o.last)∧
   ∀lc,∃N,∀n,N≤n→∀(ob:Nat→Option AObj) (fz:Nat→Nat) (nx:Nat) (x:AV) (os:List Wt) (X:List (Nat×SV)),22≤nx→WtB ob m b d k kind at_ w lc→OutW ob nx x os→os.length=i→∀M,r.length<M→
   ∃ob' fz' nx' x' X',loopN (evC (evF E n) n Fn.y16) M ⟨env (watS d x ws i X),ob,fz,nx⟩=some (.ext 1,⟨env (watS d x' ws ws.length X'),ob',fz',nx'⟩)∧OutW ob' nx' x' (os++m.watch d k kind at_ (i:Int) w r)
 | [],i,w,Z,hdr,hH,hZ,hR,hL,hx,hi=>by
  rw [List.length_nil,Nat.add_zero] at hi
  refine ⟨fun o ho=>(List.not_mem_nil ho).elim,fun lc=>⟨0,fun n hn ob fz nx x os X hnx B hO hos M hM=> ?_⟩⟩
  obtain ⟨M,rfl⟩:∃q,M=q+1:=⟨M-1,by omega⟩
  subst hi
  have lt:(((ws.length:Nat):Int)<((ws.length:Nat):Int))=False:=by simp
  refine ⟨ob,fz,nx,x,[(56,.one (.bool false))],y0n ?_,by unfold Mt.watch;rw [List.append_nil];exact hO⟩
  unfold watS
  simp only [go_sem,Fn.y16,lt]
 | want::r,i,w,Z,hdr,hH,hZ,hR,hL,hx,hi=>by
  rw [List.length_cons] at hi hZ
  have gw:ws[i]? =some (qC want):=by
   have:=congrArg (fun l=>l[0]?) hdr
   simpa using this
  have hd':ws.drop (i+1)=r.map qC:=by
   have:=congrArg (fun l=>l.drop 1) hdr
   simpa using this
  have hw:=hx want (by simp)
  have h5:Z≤64000:=by omega
  have h6:Z+(4*256+2*(256+66)+2)≤64000:=by omega
  have h7:Z+(4*256+2*(256+66)+2)+1670*r.length≤60000:=by omega
  have hh:SmQ 64000 w.heat:=hH.sm.mono h5
  have q1:=ye8 (d:=d) (h:=Mt.rd kind at_ (i:Int) w) hk ms.t t0
  have q2:=yuc (d:=d) (kind:=kind) (at_:=at_) (i:=(i:Int)) hk ms.t t0 hw hL
  have q3:=HtS.next (m:=m) ms.s ms.h ms.c hH q2
  have q4:SmQ 64000 (Mt.rd kind at_ (i:Int) w):=by unfold Mt.rd;split<;>assumption
  have ei:((i:Nat):Int)+1=((i+1:Nat):Int):=rfl
  obtain ⟨r1,r2⟩:=ynq m ms t0 b d k kind hd hk at_ ha ha' ws o3w hlen r (i+1) (m.step d k kind at_ (i:Int) w want) _ hd' q3 h7 q4 q2 (fun y hy=>hx y (by simp [hy])) (by omega)
  refine ⟨fun o ho=> ?_,fun lc=> ?_⟩
  ·unfold Mt.watch at ho
   rw [ei] at ho
   rcases List.mem_cons.1 ho with rfl | ho
   ·exact ⟨q3.sm.mono h6,q2.sm.mono (by decide)⟩
   ·exact r1 o ho
  ·obtain ⟨N1,k1⟩:=ysx m ms b d k kind hd hk at_ ha ha' w want ws i gw o3w (by omega) (by omega) hh hR hw (q1.sm.mono (by decide)) (q2.sm.mono (by decide))
   have tq2:=q2
   obtain ⟨N2,k2⟩:=r2 (qC (m.step d k kind at_ (i:Int) w want).last)
   obtain ⟨N3,k3⟩:=r2 [.bool false,.nils,.nils]
   refine ⟨N1+N2+N3,fun n hn ob fz nx x os X hnx B hO hos M hM=> ?_⟩
   rw [List.length_cons] at hM
   obtain ⟨M,rfl⟩:∃q,M=q+1:=⟨M-1,by omega⟩
   obtain ⟨ob',fz',nx',x',lc',e1,e2,e3,e4⟩:=k1 n (by omega) ob fz nx x os lc X hnx B hO hos
   have hos':(os++[m.step d k kind at_ (i:Int) w want]).length=i+1:=by rw [List.length_append,hos];rfl
   have k':∃ob2 fz2 nx2 x2 X2,loopN (evC (evF E n) n Fn.y16) M ⟨env (watS d x' ws (i+1) []),ob',fz',nx'⟩=some (.ext 1,⟨env (watS d x2 ws ws.length X2),ob2,fz2,nx2⟩)∧OutW ob2 nx2 x2 ((os++[m.step d k kind at_ (i:Int) w want])++m.watch d k kind at_ ((i+1:Nat):Int) (m.step d k kind at_ (i:Int) w want) r):=by
    rcases e3.lq with hq | ⟨-,hq⟩
    ·subst hq;exact k2 n (by omega) ob' fz' nx' x' _ [] (by omega) e3 e4 hos' M (by omega)
    ·subst hq;exact k3 n (by omega) ob' fz' nx' x' _ [] (by omega) e3 e4 hos' M (by omega)
   obtain ⟨ob2,fz2,nx2,x2,X2,f1,f2⟩:=k'
   refine ⟨ob2,fz2,nx2,x2,X2,by rw [y0o e1];exact f1, ?_⟩
   unfold Mt.watch
   rw [ei]
   rw [List.append_assoc] at f2
   exact f2
def WatchE (T H C M s h:Rat) (d k:Int) (kind:Nat) (at_:Int) (n:Nat):Int:=
 if errG T H C M s h d k=0 then (if n>256 then 5 else if kind>3∨at_<0 then 2 else 0) else errG T H C M s h d k
def watchR (T H C M s h:Rat) (d k:Int) (kind:Nat) (at_:Int) (ws:List Rat):List Wt:=
 if WatchE T H C M s h d k kind at_ ws.length=0 then (Mt.mk T H C M s).watch d.toNat k.toNat kind at_ 0 ⟨h,0,h⟩ ws else []
theorem yki {T H C M s h:Rat} {d k:Int} {kind:Nat} {at_:Int} {n:Nat} (e:WatchE T H C M s h d k kind at_ n=0):errG T H C M s h d k=0∧n≤256∧kind≤3∧0≤at_:=by
 unfold WatchE at e
 by_cases c:errG T H C M s h d k=0
 ·rw [if_pos c] at e
  by_cases c2:n>256
  ·rw [if_pos c2] at e;cases e
  ·rw [if_neg c2] at e
   by_cases c3:kind>3∨at_<0
   ·rw [if_pos c3] at e;cases e
   ·exact ⟨c,by omega,by omega,by omega⟩
 ·rw [if_neg c] at e;exact absurd e c
set_option maxRecDepth 100000 in
theorem yel (b:Int) (T H C M s h:Rat) (d k:Int) (kind:Nat) (at_:Int) (ws:List Rat) (sT:SmQ 256 T) (sH:SmQ 256 H) (sC:SmQ 256 C) (sM:SmQ 256 M) (ss:SmQ 256 s) (sh:SmQ 256 h) (sw:∀w∈ws,SmQ 256 w) (hlen:ws.length≤256→ws.length≤20) (hlen2:ws.length<2^40) (ha':at_<9223372036854775808):
  (∀o∈watchR T H C M s h d k kind at_ ws,SmQ 64000 o.heat∧SmQ 512 o.last)∧
  Ends Id.y0s [.agg (mC b T H C M),.agg (qC s),.agg (qC h),.one (.int .i64 d),.one (.int .i64 k),.one (.sl false (ws.map qC)),.agg [.int .u8 (kind:Int),.int .i64 at_]]
   (.tup [.one (.sl false ((watchR T H C M s h d k kind at_ ws).map Wt.c)),.one (.int .i64 (WatchE T H C M s h d k kind at_ ws.length))]):=by
 obtain ⟨N1,h1⟩:=cGovern b T H C M s h d k sC sM ss sh (by decide)
 unfold watchR
 by_cases c1:errG T H C M s h d k=0
 ·have eg:govC b T H C M s h d k=gC b T H C M s d k:=if_pos c1
  rw [eg,c1] at h1
  obtain ⟨t0,t1,t2,t3,t4,t5,t6,t7,d0,d1,k0,k1⟩:=yhd c1
  obtain ⟨dn,rfl⟩:∃q:Nat,d=(q:Int):=⟨d.toNat,by omega⟩
  obtain ⟨kn,rfl⟩:∃q:Nat,k=(q:Int):=⟨k.toNat,by omega⟩
  have e0:((0:Int) !=0)=false:=rfl
  by_cases c3:ws.length>256
  ·have eE:WatchE T H C M s h dn kn kind at_ ws.length=5:=by unfold WatchE;rw [if_pos c1,if_pos c3]
   rw [eE,if_neg (by decide)]
   refine ⟨fun o ho=>(List.not_mem_nil ho).elim,.of N1 fun {n} hn=> ?_⟩
   have h1:=h1 n (by omega)
   have f3:(((ws.length:Nat):Int)>256)=True:=by simp only [eq_iff_iff,iff_true];omega
   rw [y04 y6f]
   simp only [go_sem,Fn.y0s,h1,e0,List.length_map,f3]
  ·have f3:(((ws.length:Nat):Int)>256)=False:=by simp only [eq_iff_iff,iff_false];omega
   by_cases c4:kind>3∨at_<0
   ·have eE:WatchE T H C M s h dn kn kind at_ ws.length=2:=by unfold WatchE;rw [if_pos c1,if_neg c3,if_pos c4]
    rw [eE,if_neg (by decide)]
    refine ⟨fun o ho=>(List.not_mem_nil ho).elim,.of N1 fun {n} hn=> ?_⟩
    have h1:=h1 n (by omega)
    rw [y04 y6f]
    by_cases a1:kind>3
    ·have g1:(((kind:Nat):Int)>3)=True:=by simp only [eq_iff_iff,iff_true];omega
     simp only [go_sem,Fn.y0s,h1,e0,List.length_map,f3,g1]
    ·have g1:(((kind:Nat):Int)>3)=False:=by simp only [eq_iff_iff,iff_false];omega
     have g2:(at_<0)=True:=by simp only [eq_iff_iff,iff_true];omega
     simp only [go_sem,Fn.y0s,h1,e0,List.length_map,f3,g1,g2]
   ·have eE:WatchE T H C M s h dn kn kind at_ ws.length=0:=by unfold WatchE;rw [if_pos c1,if_neg c3,if_neg c4]
    rw [eE,if_pos rfl]
    have g1:(((kind:Nat):Int)>3)=False:=by simp only [eq_iff_iff,iff_false];omega
    have g2:(at_<0)=False:=by simp only [eq_iff_iff,iff_false];omega
    have hl20:=hlen (by omega)
    have hsd:HtS 256 (Wt.mk h 0 h).heat:=HtS.of sh
    obtain ⟨r1,r2⟩:=ynq ⟨T,H,C,M,s⟩ ⟨sT,sH,sC,sM,ss⟩ t0 b dn kn kind (by omega) (by omega) at_ (by omega) ha' (ws.map qC) (ye5 ypf ws) (by rw [List.length_map];exact hl20) ws 0 ⟨h,0,h⟩ 256 rfl hsd (by omega) (sh.mono (by decide)) (TqS.zero (by decide)) sw (by simp)
    obtain ⟨N3,h3⟩:=r2 [.bool false,.nils,.nils]
    refine ⟨r1,.of (N1+N3+ws.length+1) fun {n} hn=> ?_⟩
    have h1:=h1 n (by omega)
    rw [Int.toNat_natCast,Int.toNat_natCast]
    have key:∀(ob:Nat→Option AObj),WtB ob ⟨T,H,C,M,s⟩ b dn kn kind at_ ⟨h,0,h⟩ [.bool false,.nils,.nils]→
      finV [.tmp 14,.tmp 15] (thenC (evF E n) n (tailAt 7 Fn.y0s.code) (blkC 1 (loopN (evC (evF E n) n Fn.y16) n ⟨env (watS dn .nils (ws.map qC) 0 []),ob,fz0,22⟩)))=some (.tup [.one (.sl false (((Mt.mk T H C M s).watch dn kn kind at_ 0 ⟨h,0,h⟩ ws).map Wt.c)),.one (.int .i64 0)]):=by
     intro ob B
     obtain ⟨ob',fz',nx',x',X',f1,f2⟩:=h3 n (by omega) ob fz0 22 .nils [] [] (by decide) B (.inl ⟨rfl,rfl⟩) rfl n (by omega)
     obtain ⟨g,hg⟩:=f2.frz
     rw [f1,y8w,if_pos rfl,y82]
     rw [List.nil_append] at hg
     have hg:∀fz,frzS ob' fz (.one x')=some (g fz,.one (.sl false (((Mt.mk T H C M s).watch dn kn kind at_ 0 ⟨h,0,h⟩ ws).map Wt.c))):=hg
     unfold watS
     simp only [go_sem,tailAt,Fn.y0s,hg]
    rw [y04 y6f,show Fn.y0s.code=cutAt 7 Fn.y0s.code (tailAt 7 Fn.y0s.code) from rfl]
    generalize tailAt 7 Fn.y0s.code=T' at key ⊢
    unfold watS at key
    simp only [List.length_map] at key
    simp only [go_sem,cutAt,Fn.y0s,h1,e0,List.length_map,f3,g1,g2]
    refine key _ ?_
    exact ⟨rfl,rfl,rfl,rfl,rfl,.inr ⟨rfl,rfl⟩⟩
 ·have eE:WatchE T H C M s h d k kind at_ ws.length=errG T H C M s h d k:=by unfold WatchE;rw [if_neg c1]
  have eg:govC b T H C M s h d k=gC 0 0 0 0 0 0 0 0:=if_neg c1
  rw [eE,if_neg c1]
  rw [eg] at h1
  refine ⟨fun o ho=>(List.not_mem_nil ho).elim,.of N1 fun {n} hn=> ?_⟩
  have h1:=h1 n (by omega)
  have e0:(errG T H C M s h d k !=0)=true:=by simp [c1]
  generalize errG T H C M s h d k=er at h1 e0
  rw [y04 y6f]
  simp only [go_sem,Fn.y0s,h1,e0]
theorem cWatch (b:Int) (T H C M s h:Rat) (d k:Int) (kind:Nat) (at_:Int) (ws:List Rat) (sT:SmQ 256 T) (sH:SmQ 256 H) (sC:SmQ 256 C) (sM:SmQ 256 M) (ss:SmQ 256 s) (sh:SmQ 256 h) (sw:∀w∈ws,SmQ 256 w) (hlen:ws.length≤256→ws.length≤20) (hlen2:ws.length<2^40) (ha':at_<9223372036854775808):
  Calling Id.y0s [.agg (mC b T H C M),.agg (qC s),.agg (qC h),.one (.int .i64 d),.one (.int .i64 k),.one (.sl false (ws.map qC)),.agg [.int .u8 (kind:Int),.int .i64 at_]]
   (.tup [.one (.sl false ((watchR T H C M s h d k kind at_ ws).map Wt.c)),.one (.int .i64 (WatchE T H C M s h d k kind at_ ws.length))]):=
 (yel b T H C M s h d k kind at_ ws sT sH sC sM ss sh sw hlen hlen2 ha').2.call fun x hx=>by
  simp only [List.mem_cons,List.not_mem_nil,or_false] at hx
  rcases hx with rfl | rfl | rfl | rfl | rfl | rfl | rfl
  ·exact .agg _ (yff _ _ _ _ _)
  ·exact y13 _
  ·exact y13 _
  ·exact .one _ (.int _ _)
  ·exact .one _ (.int _ _)
  ·exact .one _ (.sl _)
  ·exact .agg _ (CanL.cons (.int _ _) (CanL.cons (.int _ _) CanL.nil))
theorem yts (o:Wt):sub o.c 0 3=some (qC o.last):=rfl
theorem yv0 (o:Wt):sub o.c 3 3=some (qC o.heat):=rfl
theorem Wt.len (o:Wt):o.c.length=6:=rfl
attribute [go_sem ↓] yts yv0 Wt.len
def htsS (X:List (Nat×SV)) (os:List (List AV)) (i:Nat):List (Nat×SV):=(7,.one (.box 12 0))::(15,.one (.sl false os))::(17,.one (.int .i64 (i:Int)))::X
set_option maxRecDepth 100000 in
theorem yim (b:Int) (T H C M:Rat) (sT:SmQ 256 T) (sM:SmQ 256 M) (os:List (List AV)) (oz:okSz 6 os=true) (hlen:os.length<2^20):
  ∀(r:List Wt) (i:Nat),os.drop i=r.map Wt.c→(∀o∈r,SmQ 64000 o.heat∧SmQ 512 o.last)→(∀o∈r,0≤o.heat∧o.heat≤M∧-T≤o.last∧o.last≤T)→i+r.length=os.length→
  ∃N,∀n,N≤n→∀(ob:Nat→Option AObj) (X:List (Nat×SV)),ob 12=some (.box (mC b T H C M))→∀Q,r.length<Q→
   ∃X',loopN (evC (evF E n) n Fn.y3n) Q ⟨env (htsS X os i),ob,fz0,24⟩=some (.ext 0,⟨env (htsS X' os os.length),ob,fz0,24⟩)
 | [],i,hd,hr,hok,hi=>by
  rw [List.length_nil,Nat.add_zero] at hi
  refine ⟨0,fun n hn ob X B Q hQ=> ?_⟩
  obtain ⟨Q,rfl⟩:∃q,Q=q+1:=⟨Q-1,by omega⟩
  subst hi
  have lt:(((os.length:Nat):Int)<((os.length:Nat):Int))=False:=by simp
  refine ⟨[(60,.one (.bool false))],y0n ?_⟩
  unfold htsS
  simp only [go_sem,Fn.y3n,lt]
 | o::r,i,hd,hr,hok,hi=>by
  rw [List.length_cons] at hi
  have go:os[i]? =some o.c:=by
   have:=congrArg (fun l=>l[0]?) hd
   simpa using this
  have hd':os.drop (i+1)=r.map Wt.c:=by
   have:=congrArg (fun l=>l.drop 1) hd
   simpa using this
  obtain ⟨b1,b2,b3,b4⟩:=hok o (by simp)
  obtain ⟨sh,sl⟩:=hr o (by simp)
  obtain ⟨N1,k1⟩:=cCmp o.heat M sh sM (by decide)
  obtain ⟨N2,k2⟩:=cSign o.heat
  obtain ⟨N3,k3⟩:=cAbs o.last
  obtain ⟨N4,k4⟩:=cCmp (absQ o.last) T (SmQ.abs sl) sT (by decide)
  obtain ⟨N7,k7⟩:=yim b T H C M sT sM os oz hlen r (i+1) hd' (fun x hx=>hr x (by simp [hx])) (fun x hx=>hok x (by simp [hx])) (by omega)
  refine ⟨N1+N2+N3+N4+N7,fun n hn ob X B Q hQ=> ?_⟩
  rw [List.length_cons] at hQ
  obtain ⟨Q,rfl⟩:∃q,Q=q+1:=⟨Q-1,by omega⟩
  have k1:=k1 n (by omega)
  have k2:=k2 n (by omega)
  have k3:=k3 n (by omega)
  have k4:=k4 n (by omega)
  obtain ⟨X',f1⟩:=k7 n (by omega) ob [] B Q (by omega)
  refine ⟨X', ?_⟩
  rw [←f1]
  refine y0o ?_
  have lt:(((i:Nat):Int)<((os.length:Nat):Int))=True:=by simp;omega
  have wk:IntKind.i64.wrap ((i+1:Nat):Int)=((i+1:Nat):Int):=wi64 (by omega)
  have c1:(cmpQ o.heat M>0)=False:=by rw [y7d,eq_iff_iff,iff_false];exact Rat.not_lt.2 b2
  have c2:(signI o.heat.num<0)=False:=by rw [y68,eq_iff_iff,iff_false];exact Rat.not_lt.2 b1
  have c3:(cmpQ (absQ o.last) T>0)=False:=by rw [y7d,yu9,eq_iff_iff,iff_false];refine Rat.not_lt.2 ?_;split<;>grind
  unfold htsS
  simp only [go_sem,Fn.y3n,lt,go,oz,B,k1,k2,k3,k4,c1,c2,c3,add1,wk]
set_option maxRecDepth 100000 in
theorem yms (g:Eng) (l:List Num) (hl:l.length<2^20) (kind:Nat) (at_:Int) (ha':at_<9223372036854775808):Ends Id.y08 [.agg g.c,.one (.sl false (l.map Num.c)),.agg [.int .u8 (kind:Int),.int .i64 at_]] (.one (.bool true)):=by
 obtain ⟨N2,h2⟩:=ymp
 by_cases c0:l.length>20
 ·refine .of N2 fun {n} hn=> ?_
  have h2:=h2 n (by omega)
  have f0:(((l.length:Nat):Int)>20)=True:=by simp only [eq_iff_iff,iff_true];omega
  rw [y04 y5c]
  simp only [go_sem,Fn.y08,h2,List.length_map,f0]
 ·have f0:(((l.length:Nat):Int)>20)=False:=by simp only [eq_iff_iff,iff_false];omega
  obtain ⟨N1,h1⟩:=cEng g
  obtain ⟨N3,h3⟩:=cList l hl
  obtain ⟨ws,hws⟩:∃ws:List Rat,ws=l.map Num.q:=⟨_,rfl⟩
  have hm:(l.map fun s=>qC s.q)=ws.map qC:=by rw [hws,List.map_map];rfl
  have hlw:ws.length=l.length:=by rw [hws,List.length_map]
  rw [hm] at h3
  have hsw:∀w∈ws,SmQ 256 w:=fun w hw=>by rw [hws] at hw;obtain ⟨x,-,rfl⟩:=List.mem_map.1 hw;exact x.qS
  obtain ⟨N4,h4⟩:=cWatch 1 g.torque.q g.heating.q g.cooling.q g.most.q g.step.q g.heat.q g.d g.k kind at_ ws g.torque.qS g.heating.qS g.cooling.qS g.most.qS g.step.qS g.heat.qS hsw (fun _=>by omega) (by omega) ha'
  have hsz:=(yel 1 g.torque.q g.heating.q g.cooling.q g.most.q g.step.q g.heat.q g.d g.k kind at_ ws g.torque.qS g.heating.qS g.cooling.qS g.most.qS g.step.qS g.heat.qS hsw (fun _=>by omega) (by omega) ha').1
  by_cases c1:WatchE g.torque.q g.heating.q g.cooling.q g.most.q g.step.q g.heat.q g.d g.k kind at_ ws.length=0
  ·obtain ⟨er,g1,g2,g3⟩:=yki c1
   obtain ⟨t0,t1,t2,t3,t4,t5,t6,t7,d0,d1,k0,k1⟩:=yhd er
   have eR:watchR g.torque.q g.heating.q g.cooling.q g.most.q g.step.q g.heat.q g.d g.k kind at_ ws=(Mt.mk g.torque.q g.heating.q g.cooling.q g.most.q g.step.q).watch g.d.toNat g.k.toNat kind at_ 0 ⟨g.heat.q,0,g.heat.q⟩ ws:=if_pos c1
   have ok:(Mt.mk g.torque.q g.heating.q g.cooling.q g.most.q g.step.q).Ok:=⟨t0,t1,t2,t3,t4,t5⟩
   have hok:=yfm ok (d:=g.d.toNat) (k:=g.k.toNat) (at_:=at_) g2 ws 0 ⟨g.heat.q,0,g.heat.q⟩ (ykv ok g3 t6 t7)
   rw [eR,c1] at h4
   rw [eR] at hsz
   have hdl:=ygn (Mt.mk g.torque.q g.heating.q g.cooling.q g.most.q g.step.q) g.d.toNat g.k.toNat kind at_ ws 0 ⟨g.heat.q,0,g.heat.q⟩
   generalize (Mt.mk g.torque.q g.heating.q g.cooling.q g.most.q g.step.q).watch g.d.toNat g.k.toNat kind at_ 0 ⟨g.heat.q,0,g.heat.q⟩ ws=os at h4 hsz hok hdl
   obtain ⟨N5,h5⟩:=yim 1 g.torque.q g.heating.q g.cooling.q g.most.q g.torque.qS g.most.qS (os.map Wt.c) (ye5 Wt.len os) (by rw [List.length_map];omega) os 0 rfl hsz hok (by simp)
   refine .of (N1+N2+N3+N4+N5+os.length+1) fun {n} hn=> ?_
   have h1:=h1 n (by omega)
   have h2:=h2 n (by omega)
   have h3:=h3 n (by omega)
   have h4:=h4 n (by omega)
   have e0:((0:Int) !=0)=false:=rfl
   have e1:(((os.length:Nat):Int) !=((ws.length:Nat):Int))=false:=by rw [hdl];simp
   have key:∀(ob:Nat→Option AObj),ob 12=some (.box (mC 1 g.torque.q g.heating.q g.cooling.q g.most.q))→finV [.tmp 6] (thenC (evF E n) n (tailAt 8 Fn.y08.code) (blkC 0 (loopN (evC (evF E n) n Fn.y3n) n ⟨env (htsS [] (os.map Wt.c) 0),ob,fz0,24⟩)))=some (.one (.bool true)):=by
    intro ob B
    obtain ⟨X',f1⟩:=h5 n (by omega) ob [] B n (by omega)
    rw [f1,y8w,if_pos rfl,y82]
    unfold htsS
    simp only [go_sem,tailAt,Fn.y08,h2]
   rw [y04 y5c,show Fn.y08.code=cutAt 8 Fn.y08.code (tailAt 8 Fn.y08.code) from rfl]
   generalize tailAt 8 Fn.y08.code=T' at key ⊢
   unfold htsS at key
   have pm:∀z0 z1 z2 z3 z4 z5 z6 z7 z8 z9 z10 z11 z12:AV,put [z0,z1,z2,z3,z4,z5,z6,z7,z8,z9,z10,z11,z12] 0 (mC 1 g.torque.q g.heating.q g.cooling.q g.most.q)=some (mC 1 g.torque.q g.heating.q g.cooling.q g.most.q):=fun _ _ _ _ _ _ _ _ _ _ _ _ _=>y60 rfl
   have pr:∀z0 z1 z2 z3 z4 z5 z6 z7 z8 z9 z10 z11 z12 z13 z14 z15 z16:AV,put [z0,z1,z2,z3,z4,z5,z6,z7,z8,z9,z10,z11,z12,z13,z14,z15,z16] 0 (rmC g.torque.q g.heating.q g.cooling.q g.most.q)=some (rmC g.torque.q g.heating.q g.cooling.q g.most.q):=fun _ _ _ _ _ _ _ _ _ _ _ _ _ _ _ _ _=>yj0 _ _ _ _ _ _ _ _ _ _ _ _ _ _ _ _ _ _ _ _ _
   have rl:(rmC g.torque.q g.heating.q g.cooling.q g.most.q).length=17:=yb9 _ _ _ _
   simp only [go_sem,cutAt,Fn.y08,h1,List.length_map,f0,h3,h4,e0,e1,↓pm,↓pr,↓rl]
   refine key _ rfl
  ·refine .of (N1+N2+N3+N4) fun {n} hn=> ?_
   have h1:=h1 n (by omega)
   have h2:=h2 n (by omega)
   have h3:=h3 n (by omega)
   have h4:=h4 n (by omega)
   have e':(WatchE g.torque.q g.heating.q g.cooling.q g.most.q g.step.q g.heat.q g.d g.k kind at_ ws.length !=0)=true:=by simp [c1]
   generalize WatchE g.torque.q g.heating.q g.cooling.q g.most.q g.step.q g.heat.q g.d g.k kind at_ ws.length=er at h4 e'
   have pm:∀z0 z1 z2 z3 z4 z5 z6 z7 z8 z9 z10 z11 z12:AV,put [z0,z1,z2,z3,z4,z5,z6,z7,z8,z9,z10,z11,z12] 0 (mC 1 g.torque.q g.heating.q g.cooling.q g.most.q)=some (mC 1 g.torque.q g.heating.q g.cooling.q g.most.q):=fun _ _ _ _ _ _ _ _ _ _ _ _ _=>y60 rfl
   have pr:∀z0 z1 z2 z3 z4 z5 z6 z7 z8 z9 z10 z11 z12 z13 z14 z15 z16:AV,put [z0,z1,z2,z3,z4,z5,z6,z7,z8,z9,z10,z11,z12,z13,z14,z15,z16] 0 (rmC g.torque.q g.heating.q g.cooling.q g.most.q)=some (rmC g.torque.q g.heating.q g.cooling.q g.most.q):=fun _ _ _ _ _ _ _ _ _ _ _ _ _ _ _ _ _=>yj0 _ _ _ _ _ _ _ _ _ _ _ _ _ _ _ _ _ _ _ _ _
   have rl:(rmC g.torque.q g.heating.q g.cooling.q g.most.q).length=17:=yb9 _ _ _ _
   rw [y04 y5c]
   simp only [go_sem,Fn.y08,h1,h2,h3,h4,List.length_map,f0,e',↓pm,↓pr,↓rl]
end Go.Ev
