/- Part of the proof of a law. -/
import Derived.ChangeCalls
import Derived.Test.YteniejlbjfigdaaGreatDoorV26
import Derived.Test.YteniejlbjfigdaaGreatDoorV27
import Derived.Test.YteniejlbjfigdaaGreatDoorV28
set_option linter.all false
set_option linter.unusedSimpArgs false
set_option linter.unusedSectionVars false
section
open Go Go.Proofs Aq
namespace Sh
def newer (r q:Row):Bool:=q.Entry.ID==r.Entry.ID&& decide (q.Entry.bU>r.Entry.bU)
theorem awi {l:List Row} {r:Row} (h:0≤r.Entry.bU):decide (r.Entry.bU<iV (lS [] l) r.Entry.ID)=l.any (newer r):=by
 cases hb:l.any (newer r) with
 |true=>
  obtain⟨q,hq,hn⟩:=List.any_eq_true.1 hb
  unfold newer at hn
  rw[Bool.and_eq_true,beq_iff_eq,decide_eq_true_eq] at hn
  have:=aij l [] q hq
  rw[hn.1] at this
  exact decide_eq_true (by omega)
 |false=>
  refine decide_eq_false fun hlt=> ?_
  rcases aik l [] r.Entry.ID with e| ⟨q,hq,h1,h2⟩
  ·have:iV ([]:List (Int×Int)) r.Entry.ID=0:=rfl
   omega
  ·rw[List.any_eq_false] at hb
   refine hb q hq ?_
   unfold newer
   rw[Bool.and_eq_true,beq_iff_eq,decide_eq_true_eq]
   exact⟨h1,by omega⟩
theorem awj {n:Nat} {b:Book} {i:Nat} {r:Row} (hx:b.Rows[i]? =some r) (hn:b.Rows.length<n) (hb:b.Rows.length<2^62):Em n (b,(i:Int))=some (!(b.Rows.any (newer r))):=by
 have key:∀(k j m:Nat),j+k=b.Rows.length→k<m→EX n b (i:Int) m (j:Int)=some (bif (b.Rows.drop j).any (newer r) then .inr false else .inl ()):=by
  intro k
  induction k with
  |zero=>
   intro j m hj hm
   obtain⟨m,rfl⟩:∃m',m=m'+1:=⟨m-1,by omega⟩
   rw[agO,eT (by omega),List.drop_eq_nil_of_le (by omega)];rfl
  |succ k ih=>
   intro j m hj hm
   obtain⟨m,rfl⟩:∃m',m=m'+1:=⟨m-1,by omega⟩
   have hlt:j<b.Rows.length:=by omega
   have hy:b.Rows[j]? =some b.Rows[j]:=List.getElem?_eq_getElem hlt
   have hd:=List.drop_eq_getElem_cons hlt
   rw[hd]
   generalize b.Rows[j]=q at hy⊢
   rw[agO,eD hy,dx (by omega),cond_true]
   refine bs (dw hy) (bs (dw hx) ?_)
   have hi:=ih (j+1) m (by omega) (by omega)
   rw[List.any_cons]
   unfold newer at hi⊢
   cases h1:(q.Entry.ID==r.Entry.ID) with
   |false=>rw[Bool.false_and,Bool.false_or];exact hi
   |true=>
    refine bT rfl (bs (dw hy) (bs (dw hx) ?_))
    cases h2:decide (q.Entry.bU>r.Entry.bU) with
    |true=>rfl
    |false=>rw[Bool.and_false,Bool.false_or];exact hi
 rw[ash]
 have h:=key b.Rows.length 0 n (by omega) hn
 rw[List.drop_zero] at h
 refine bs h ?_
 cases b.Rows.any (newer r)<;>rfl
abbrev LB (b:Book):Int→Int:=iV (lS [] b.Rows)
theorem aiR {n:Nat} {b:Book} {f:Int} {i:Nat} {r:Row} (hx:b.Rows[i]? =some r) (hn:b.Rows.length<n) (hb:b.Rows.length<2^62) (hv:0≤r.Entry.bU):wB n (b,(f,(i:Int)))=some (ji (LB b) f r):=by
 have hlt:=lM hx
 rw[Yl]
 refine bF (by rw[decide_eq_false (show¬((i:Nat):Int)<0 by omega),decide_eq_false (show¬((i:Nat):Int)≥((b.Rows.length:Nat):Int) by omega)];rfl) ?_
 refine bs (dw hx) ?_
 unfold ji
 rw[awi hv]
 cases h1:decide (r.dF≥1) with
 |false=>exact bs rfl (bs rfl rfl)
 |true=>
  refine bs (dw hx) ?_
  cases h2:decide (r.dF≤f) with
  |false=>exact bs rfl rfl
  |true=>exact bs (awj hx hn hb) (by rw[Bool.not_not];rfl)
theorem awk {n:Nat} {b:Book} {f:Int} {i:Nat} {r:Row} (hx:b.Rows[i]? =some r) (hn:b.Rows.length<n) (hb:b.Rows.length<2^62):yN n (b,(f,(i:Int)))=some (ji (LB b) f r):=by
 have hlt:=lM hx
 rw[Yn]
 refine bT (decide_eq_true (by omega)) (bT (decide_eq_true (by omega)) ?_)
 have hf:yF n (b,f)=some ((),(f,lS [] b.Rows)):=by
  rw[agt];exact bs (ail hn hb) rfl
 exact bs hf (bs (dw hx) (bs ain rfl))
theorem awl {n:Nat} {b:Book} {f i:Int} (hn:b.Rows.length<n) (hb:b.Rows.length<2^62) (hv:∀r∈b.Rows,0≤r.Entry.bU):∃t:Bool,yN n (b,(f,i))=some t∧wB n (b,(f,i))=some t:=by
 by_cases h0:0≤i
 ·by_cases h1:i< ((b.Rows.length:Nat):Int)
  ·obtain⟨k,rfl⟩:∃k:Nat,i=(k:Int):=⟨i.toNat,(Int.toNat_of_nonneg h0).symm⟩
   have hlt:k<b.Rows.length:=by omega
   have hx:b.Rows[k]? =some b.Rows[k]:=List.getElem?_eq_getElem hlt
   exact⟨_,awk hx hn hb,aiR hx hn hb (hv _ (List.getElem_mem hlt))⟩
  ·refine⟨false, ?_, ?_⟩
   ·rw[Yn];exact bT (decide_eq_true h0) (bF (decide_eq_false h1) rfl)
   ·rw[Yl]
    exact bT (by rw[decide_eq_false (show¬i<0 by omega),decide_eq_true (show i≥((b.Rows.length:Nat):Int) by omega)];rfl) rfl
 ·refine⟨false, ?_, ?_⟩
  ·rw[Yn];exact bF (decide_eq_false (show¬i≥0 by omega)) rfl
  ·rw[Yl]
   exact bT (by rw[decide_eq_true (show i<0 by omega)];rfl) rfl
def FL (r:Row):Prop:=pR r.Entry∧jF r.Entry.Vec r.Entry.aI∧1≤r.Entry.bU∧rI r.dF
theorem awm {n:Nat} {b:Book} {f:Int} (hn:2^20<n) (hb:b.Rows.length≤65536) (hr:∀r∈b.Rows,FL r) (h0:0≤f) (h1:f≤b.aH):
 wE n (b,f)=some (⟨⟨b.aF,b.aH,b.Day,b.dn,b.Rows.filter fun r=> !ji (LB b) f r⟩,(b.Rows.filter (ji (LB b) f)).map lT,0⟩:fF):=by
 rw[ag4]
 refine bF (by rw[decide_eq_false (show¬f<0 by omega),decide_eq_false (show¬f>b.aH by omega)];rfl) ?_
 have key:∀(k j m:Nat) (a:List Row) (g:List Gone),j+k=b.Rows.length→k<m→a.length≤j→g.length≤j→Fh n b f m ((j:Int),(b.aF.gq,(b.aF.iG,(b.aF.Defs,(b.aH,(b.Day,(b.dn,(a,(g,0)))))))))=
  some ((),(b.aF.gq,(b.aF.iG,(b.aF.Defs,(b.aH,(b.Day,(b.dn,(a++(b.Rows.drop j).filter (fun r=> !ji (LB b) f r),(g++((b.Rows.drop j).filter (ji (LB b) f)).map lT,0))))))))):=by
  intro k
  induction k with
  |zero=>
   intro j m a g hj hm ha hg
   obtain⟨m,rfl⟩:∃m',m=m'+1:=⟨m-1,by omega⟩
   rw[ag3,eT (by omega),List.drop_eq_nil_of_le (by omega)]
   simp
  |succ k ih=>
   intro j m a g hj hm ha hg
   obtain⟨m,rfl⟩:∃m',m=m'+1:=⟨m-1,by omega⟩
   have hlt:j<b.Rows.length:=by omega
   have hy:b.Rows[j]? =some b.Rows[j]:=List.getElem?_eq_getElem hlt
   have hq:=hr b.Rows[j] (List.getElem_mem hlt)
   rw[List.drop_eq_getElem_cons hlt]
   generalize b.Rows[j]=q at hy hq⊢
   obtain⟨q1,q2,q3,q4⟩:=hq
   rw[ag3,eD hy,dx (by omega),cond_true]
   refine bs (aiR hy (by omega) (by omega) (by omega)) ?_
   rw[List.filter_cons,List.filter_cons]
   cases hg':ji (LB b) f q with
   |true=>
    refine bT rfl (bs (dw hy) (bs (aiF q1 q2 hn) (gR (gN (by simp;omega) (by decide)) ?_)))
    have:=ih (j+1) m a (g++[lT q]) (by omega) (by omega) (by omega) (by rw[List.length_append,List.length_singleton];omega)
    rw[List.append_assoc] at this
    exact this
   |false=>
    refine bF rfl (bs (dw hy) (gR (gN (by simp;omega) (by decide)) ?_))
    have:=ih (j+1) m (a++[q]) g (by omega) (by omega) (by rw[List.length_append,List.length_singleton];omega) (by omega)
    rw[List.append_assoc] at this
    exact this
 have h:=key b.Rows.length 0 n [] [] (by omega) (by omega) (by simp) (by simp)
 rw[List.drop_zero,List.nil_append,List.nil_append] at h
 exact bs h rfl
theorem awn {n:Nat} {b:Book} {f:Int} (hn:2^20<n) (hb:b.Rows.length≤65536) (hr:∀r∈b.Rows,FL r) (h0:0≤f) (h1:f≤b.aH):
 uQ n (b,f)=some ((⟨b.aF,b.aH,b.Day,b.dn,b.Rows.filter fun r=> !ji (LB b) f r⟩:Book),((b.Rows.filter (ji (LB b) f)).map lT,(0:Int))):=by
 have h:=avi hn hb (fun r hr'=>(hr r hr').2.1) h0 h1
 have e:(b.Rows.filter (ji (LB b) f)).map (Ld n)=(b.Rows.filter (ji (LB b) f)).map lT:=by
  apply List.map_congr_left
  intro r hr'
  obtain⟨q1,q2,_⟩:=hr r (List.mem_filter.1 hr').1
  have h1:=aiE q1 q2 hn
  rw[aio q2 hn] at h1
  exact Option.some.inj h1
 rw[e] at h
 exact h
theorem aiS {n:Nat} {l:List Gone} (hn:l.length<n) (hb:l.length<2^62):yM n (l,l)=some true:=by
 rw[asA]
 refine bF (by simp) ?_
 have key:∀(k j m:Nat),j+k=l.length→k<m→KL n l l m (j:Int)=some (.inl ()):=by
  intro k
  induction k with
  |zero=>
   intro j m hj hm
   obtain⟨m,rfl⟩:∃m',m=m'+1:=⟨m-1,by omega⟩
   rw[ag7,eT (by omega)];rfl
  |succ k ih=>
   intro j m hj hm
   obtain⟨m,rfl⟩:∃m',m=m'+1:=⟨m-1,by omega⟩
   have hlt:j<l.length:=by omega
   have hy:l[j]? =some l[j]:=List.getElem?_eq_getElem hlt
   generalize l[j]=g at hy
   rw[ag7,eD hy,dx (by omega),cond_true]
   refine bs (dw hy) (bs (dw hy) ?_)
   have hs:=aiP g
   unfold SY at hs
   refine bF (by rw[hs];rfl) ?_
   exact ih (j+1) m (by omega) (by omega)
 exact bs (key l.length 0 n (by omega) hn) rfl
theorem aiT {n:Nat} {l:List Gone} (hn:2^20<n) (hl:l.length≤65536) (hr:∀g∈l,zm g):Bl n l=some (l.map tV)∧Bp n l=some (l.map tV):=by
 have k1:∀(k j m:Nat) (a:List au),j+k=l.length→k<m→a.length≤j→KM n l m (a,(j:Int))=some (a++(l.drop j).map tV):=by
  intro k
  induction k with
  |zero=>
   intro j m a hj hm ha
   obtain⟨m,rfl⟩:∃m',m=m'+1:=⟨m-1,by omega⟩
   rw[ag8,eT (by omega),List.drop_eq_nil_of_le (by omega),List.map_nil,List.append_nil];rfl
  |succ k ih=>
   intro j m a hj hm ha
   obtain⟨m,rfl⟩:∃m',m=m'+1:=⟨m-1,by omega⟩
   have hlt:j<l.length:=by omega
   have hy:l[j]? =some l[j]:=List.getElem?_eq_getElem hlt
   have hg:=hr _ (List.getElem_mem hlt)
   rw[List.drop_eq_getElem_cons hlt,List.map_cons]
   generalize l[j]=g at hy hg⊢
   rw[ag8,eD hy,dx (by omega),cond_true]
   have:=ih (j+1) m (a++[tV g]) (by omega) (by omega) (by rw[List.length_append,List.length_singleton];omega)
   rw[List.append_assoc] at this
   exact bs (dw hy) (bs (aiI hg hn) (gR (gN (by simp;omega) (by decide)) this))
 have k2:∀(k j m:Nat) (a:List au),j+k=l.length→k<m→a.length≤j→KN n l m (a,(j:Int))=some (a++(l.drop j).map tV):=by
  intro k
  induction k with
  |zero=>
   intro j m a hj hm ha
   obtain⟨m,rfl⟩:∃m',m=m'+1:=⟨m-1,by omega⟩
   rw[ag9,eT (by omega),List.drop_eq_nil_of_le (by omega),List.map_nil,List.append_nil];rfl
  |succ k ih=>
   intro j m a hj hm ha
   obtain⟨m,rfl⟩:∃m',m=m'+1:=⟨m-1,by omega⟩
   have hlt:j<l.length:=by omega
   have hy:l[j]? =some l[j]:=List.getElem?_eq_getElem hlt
   have hg:=hr _ (List.getElem_mem hlt)
   rw[List.drop_eq_getElem_cons hlt,List.map_cons]
   generalize l[j]=g at hy hg⊢
   rw[ag9,eD hy,dx (by omega),cond_true]
   have:=ih (j+1) m (a++[tV g]) (by omega) (by omega) (by rw[List.length_append,List.length_singleton];omega)
   rw[List.append_assoc] at this
   exact bs (dw hy) (bs (aiJ hg hn) (gR (gN (by simp;omega) (by decide)) this))
 constructor
 ·rw[asH];exact bs (k1 l.length 0 n [] (by omega) (by omega) (by simp)) (by rw[List.drop_zero];rfl)
 ·rw[asP];exact bs (k2 l.length 0 n [] (by omega) (by omega) (by simp)) (by rw[List.drop_zero];rfl)
theorem awo {n:Nat} {l:List Gone} {i:Int} (hn:2^20<n) (hl:l.length≤65536) (hr:∀g∈l,zm g):∃(p:List au) (e:Int),Bo n (l,i)=some (p,e)∧Bt n (l,i)=some (⟨p,e⟩:fA)∧p.length≤65536:=by
 obtain⟨h1,h2⟩:=aiT hn hl hr
 obtain⟨p,e,e1,e2,e3,e4,e5⟩:=av2 (n:=n) (l:=l.map tV) (i:=i) hn (by rw[List.length_map];exact hl)
 rw[List.length_map] at e3 e4
 refine⟨p,e, ?_, ?_,e5⟩
 ·rw[asO];exact bs h1 (bs e1 rfl)
 ·rw[asW]
  by_cases h:i<0∨i≥(l.length:Nat)
  ·obtain⟨rfl,rfl⟩:=e3 h
   refine bT ?_ rfl
   rcases h with h|h
   ·rw[decide_eq_true h];rfl
   ·rw[decide_eq_true h];cases decide (i<0)<;>rfl
  ·obtain rfl:=e4 h
   refine bF ?_ (bs h2 (bs e2 rfl))
   rw[decide_eq_false (fun q=>h (.inl q)),decide_eq_false (fun q=>h (.inr q))];rfl
theorem awp {n:Nat} {l:List Gone} (hn:2^20<n) (hl:l.length≤65536) (hr:∀g∈l,zm g):∃d:au,Bu n l=some d∧Bv n l=some d:=by
 obtain⟨h1,h2⟩:=aiT hn hl hr
 refine⟨rY n (l.map tV), ?_, ?_⟩
 ·rw[asX];exact bs h1 (bs (Zg hn (by rw[List.length_map];exact hl)) rfl)
 ·rw[asY];exact bs h2 (bs (Zh hn (by rw[List.length_map];exact hl)) rfl)
def FM (gy gG:au):Bool:=((gy.b0==gG.b0)&& ((gy.b1==gG.b1)&& ((gy.b2==gG.b2)&& ((gy.b3==gG.b3)&& ((gy.b4==gG.b4)&& ((gy.b5==gG.b5)&& ((gy.b6==gG.b6)&& ((gy.b7==gG.b7)&& ((gy.b8==gG.b8)&& ((gy.b9==gG.b9)&& ((gy.b10==gG.b10)&& ((gy.b11==gG.b11)&& ((gy.b12==gG.b12)&& ((gy.b13==gG.b13)&& ((gy.b14==gG.b14)&& ((gy.b15==gG.b15)&& true))))))))))))))))
theorem Zo (d:au):FM d d=true:=by unfold FM;simp
theorem aiU {r:Row} (h:FL r):zm (lT r):=by
 obtain⟨⟨⟨h1,h2,h3,h4,h5,h6,h7⟩,_,_⟩,_,_,h8⟩:=h
 exact⟨h1,h2,h7,h8⟩
theorem awq {n:Nat} {x4 x5:Int} {r6:Book×Bool} (hn:2^20<n) (hb:r6.1.Rows.length≤65536) (hr:∀r∈r6.1.Rows,FL r):BH n x4 x5 r6 n ([],(0:Int))=some (.inl (r6.1.Rows.map lT)):=by
 have key:∀(k j m:Nat) (a:List Gone),j+k=r6.1.Rows.length→k<m→a.length≤j→BH n x4 x5 r6 m (a,(j:Int))=some (.inl (a++(r6.1.Rows.drop j).map lT)):=by
  intro k
  induction k with
  |zero=>
   intro j m a hj hm ha
   obtain⟨m,rfl⟩:∃m',m=m'+1:=⟨m-1,by omega⟩
   rw[ahb,eT (by omega),List.drop_eq_nil_of_le (by omega),List.map_nil,List.append_nil];rfl
  |succ k ih=>
   intro j m a hj hm ha
   obtain⟨m,rfl⟩:∃m',m=m'+1:=⟨m-1,by omega⟩
   have hlt:j<r6.1.Rows.length:=by omega
   have hy:r6.1.Rows[j]? =some r6.1.Rows[j]:=List.getElem?_eq_getElem hlt
   have hg:=hr _ (List.getElem_mem hlt)
   rw[List.drop_eq_getElem_cons hlt,List.map_cons]
   generalize r6.1.Rows[j]=r at hy hg⊢
   have hgg:=aiU hg
   obtain⟨q1,q2,q3,q4⟩:=hg
   rw[ahb,eD hy,dx (by omega),cond_true]
   have:=ih (j+1) m (a++[lT r]) (by omega) (by omega) (by rw[List.length_append,List.length_singleton];omega)
   rw[List.append_assoc] at this
   refine bs (dw hy) (bs (aiF q1 q2 hn) (bs (dw hy) (bs (aiE q1 q2 hn) ?_)))
   have hs:=aiP (lT r)
   unfold SY at hs
   refine bT (by rw[hs];rfl) ?_
   refine bs (aiI hgg hn) (bs (aiJ hgg hn) ?_)
   have hd:=Zo (tV (lT r))
   unfold FM at hd
   refine bT (by rw[hd];rfl) ?_
   refine bs (asF n (lT r) x5) (bs (asG n (lT r) x5) ?_)
   refine bF (by simp) ?_
   exact gR (gN (by simp;omega) (by decide)) this
 have h:=key r6.1.Rows.length 0 n [] (by omega) (by omega) (by simp)
 rw[List.drop_zero,List.nil_append] at h
 exact h
theorem awr {n:Nat} {lK:List Gone} {p:List au} {e:Int} (hp:p.length≤65536) (hn:2^20<n):BJ n lK (p,e) (⟨p,e⟩:fA) n (0:Int)=some (.inl ()):=by
 have key:∀(k j m:Nat),j+k=p.length→k<m→BJ n lK (p,e) (⟨p,e⟩:fA) m (j:Int)=some (.inl ()):=by
  intro k
  induction k with
  |zero=>
   intro j m hj hm
   obtain⟨m,rfl⟩:∃m',m=m'+1:=⟨m-1,by omega⟩
   rw[ahc]
   exact bF (decide_eq_false (by show¬((j:Nat):Int)< ((p.length:Nat):Int);omega)) rfl
  |succ k ih=>
   intro j m hj hm
   obtain⟨m,rfl⟩:∃m',m=m'+1:=⟨m-1,by omega⟩
   have hlt:j<p.length:=by omega
   have hy:p[j]? =some p[j]:=List.getElem?_eq_getElem hlt
   generalize p[j]=d at hy
   rw[ahc,dx (by omega)]
   refine bT (decide_eq_true (by show ((j:Nat):Int)< ((p.length:Nat):Int);omega)) ?_
   refine bs (dw hy) (bs (dw hy) ?_)
   have hd:=Zo d
   unfold FM at hd
   refine bF (by rw[hd];rfl) ?_
   exact ih (j+1) m (by omega) (by omega)
 exact key p.length 0 n (by omega) (by omega)
end Sh
end
section
open Go Go.Proofs Aq
namespace Sh
set_option linter.unusedVariables false
theorem aiV {n:Nat} {x3 x4 x5:Int} {b:Book} {r8:Book×(List Gone)×Int} {r9:fF} (hn:2^20<n) (hrows:b.Rows.length≤65536) (hr:∀r∈b.Rows,FL r)
 (hF:uQ n (b,x3)=some r8) (hG:wE n (b,x3)=some r9) (h1:yL n (r8.1,r9.B)=some true) (h2:yM n (r8.2.1,r9.L)=some true) (h3:r8.2.2=r9.E):
 ((uQ n ((b,x3))).bind fun (r8:Book×(List Gone)×Int)=>
   (wE n ((b,x3))).bind fun (r9:fF)=>
   (yL n ((r8.1,r9.B))).bind fun (eB:Bool)=>
   bif !(!eB) then
    (yM n ((r8.2.1,r9.L))).bind fun (dR:Bool)=>
    bif !(!dR) then
     bif !(r8.2.2 !=r9.E) then
      (yN n ((b,(x3,x4)))).bind fun (gY:Bool)=>
      (wB n ((b,(x3,x4)))).bind fun (fH:Bool)=>
      bif !(gY==fH) then
       some false
      else
       (Ey n ((x3,(⟨(0:Int),x5⟩:Snapshot)))).bind fun (dL:Bool)=>
       bif !(dL==(decide (x5≥x3))) then
        some false
       else
        (BH n x4 x5 (b,true) n (([],(0:Int)))).bind fun (EM:(List Gone)⊕Bool)=>
        Sum.elim (fun (lK:List Gone)=>
         (Bo n ((lK,x4))).bind fun (pG:(List au)×Int)=>
         (Bt n ((lK,x4))).bind fun (pI:fA)=>
         bif bif pG.2 !=pI.E then true else (((pG.1.length:Nat):Int)) !=(((pI.L.length:Nat):Int)) then
          some false
         else
          (BJ n lK pG pI n ((0:Int))).bind fun (Yp:PUnit⊕Bool)=>
          Sum.elim (fun (q34:PUnit)=>
           (yE n (())).bind fun (BK:Bool)=>
           (jc BK (Bu n lK) ((⟨(0:Int),(0:Int),(0:Int),(0:Int),(0:Int),(0:Int),(0:Int),(0:Int),(0:Int),(0:Int),(0:Int),(0:Int),(0:Int),(0:Int),(0:Int),(0:Int)⟩:au))).bind fun (mq:au)=>
           (jc BK (Bv n lK) ((⟨(0:Int),(0:Int),(0:Int),(0:Int),(0:Int),(0:Int),(0:Int),(0:Int),(0:Int),(0:Int),(0:Int),(0:Int),(0:Int),(0:Int),(0:Int),(0:Int)⟩:au))).bind fun (mD:au)=>
           some (bif BK then FM mq mD else false))
           (fun (Yq:Bool)=>
            some Yq) Yp)
         (fun (Yr:Bool)=>
          some Yr) EM
     else
      some false
    else
     some false
   else
    some false)=some true:=by
 refine bs hF (bs hG (bs h1 (bT rfl (bs h2 (bT rfl (bT (by rw[h3];simp) ?_))))))
 obtain⟨t,t1,t2⟩:=awl (n:=n) (b:=b) (f:=x3) (i:=x4) (by omega) (by omega) (fun r h=>by have:=(hr r h).2.2.1;omega)
 refine bs t1 (bs t2 (bF (by simp) (bs (asB n x3 ⟨0,x5⟩) (bF (by simp) ?_))))
 refine bs (awq (r6:=(b,true)) hn hrows hr) ?_
 have hg:∀g∈b.Rows.map lT,zm g:=fun g hg=>by
  obtain⟨r,hr',rfl⟩:=List.mem_map.1 hg
  exact aiU (hr r hr')
 have hl:(b.Rows.map lT).length≤65536:=by rw[List.length_map];exact hrows
 obtain⟨p,e,p1,p2,p3⟩:=awo (n:=n) (i:=x4) hn hl hg
 obtain⟨d,d1,d2⟩:=awp hn hl hg
 refine sE (bs p1 (bs p2 (bF ?_ (bs (awr p3 hn) (sE (bs (ahv n) (bs (aiQ rfl d1) (bs (aiQ rfl d2) ?_))))))))
 ·show (bif e !=e then true else ((p.length:Nat):Int) !=((p.length:Nat):Int))=false
  simp
 ·show some (FM d d)=some true
  rw[Zo]
theorem awt {n:Nat} {s:aF} {l:List Event} {x3 x4 x5:Int} (hn:2^20<n) (hs:pJ s n) (hl:l.length<n) (hb:l.length<2^62) (he:∀e∈l,Si e n) (hr:∀e∈l,wW e):
 RG n (s,(l,(x3,(x4,x5))))=some true:=by
 rw[asZ]
 obtain⟨b,ok,hf,hbk⟩:=avg hn hs hl hb he
 cases ok with
 |false=>exact bs hf (bs (ahv n) rfl)
 |true=>
  refine bs hf (bF rfl ?_)
  have hbf:=hbk rfl
  have hrows:=hbf.rows
  have hcm:=hbf.commit
  have axh:=hbf.days
  have hdl:b.dn.length≤l.length:=by
   by_cases h:b.dn.length≤l.length
   ·exact h
   ·obtain⟨e,h1,_⟩:=hbf.ev l.length _ (List.getElem?_eq_getElem (by omega))
    rw[List.getElem?_eq_none (Nat.le_refl _)] at h1
    cases h1
  have hX:=awh hn hr hf
  have hrow:∀r∈b.Rows,FL r:=fun r h=>⟨(hX.row r h).1.1,(hbf.row r h).2.2.2.2.2,(hX.row r h).1.2.1,(hX.row r h).2⟩
  by_cases hfl:0≤x3∧x3≤b.aH
  ·have F1:=awn hn hrows hrow hfl.1 hfl.2
   have F2:=awm hn hrows hrow hfl.1 hfl.2
   have hS:=aiq (n:=n) (b:=⟨b.aF,b.aH,b.Day,b.dn,b.Rows.filter fun r=> !ji (LB b) x3 r⟩) (fun r h=>(hrow r (List.mem_filter.1 h).1).2.1) hn (Nat.le_trans (List.length_filter_le _ _) hrows) (by show b.dn.length<n;omega) (by show b.dn.length<2^62;omega)
   have hlen:((b.Rows.filter (ji (LB b) x3)).map lT).length≤65536:=by rw[List.length_map];exact Nat.le_trans (List.length_filter_le _ _) hrows
   have hG:=aiS (n:=n) (l:=(b.Rows.filter (ji (LB b) x3)).map lT) (by omega) (by omega)
   exact aiV hn hrows hrow F1 F2 hS hG rfl
  ·have hc:(bif decide (x3<0) then true else decide (x3>b.aH))=true:=by
    by_cases h:x3<0
    ·rw[decide_eq_true h];rfl
    ·rw[decide_eq_false h,decide_eq_true (show x3>b.aH by omega)];rfl
   have F1:uQ n (b,x3)=some (b,([],(9:Int))):=by rw[agN];exact bT hc rfl
   have F2:wE n (b,x3)=some (⟨b,[],9⟩:fF):=by rw[ag4];exact bT hc rfl
   have hS:=aiq (n:=n) (b:=b) (fun r h=>(hrow r h).2.1) hn hrows (by omega) (by omega)
   have hG:=aiS (n:=n) (l:=[]) (by simp;omega) (by simp)
   exact aiV hn hrows hrow F1 F2 hS hG rfl
end Sh
end
section
namespace Go.Proofs.YteniejlbjfigdaaGreatDoor.floors
open Go Go.ChangeShapes Go.WideShapes Go.ChangeAt Go.RowKit Aq Sh
set_option maxRecDepth 100000
theorem awu {l:List V} {v:V} (h:v∈l):jG v≤lN l:=by
 induction l with
 |nil=>cases h
 |cons x l ih=>
  rcases List.mem_cons.1 h with rfl|h
  ·show jG v≤jG v+lN l;omega
  ·have:=ih h
   show jG v≤jG x+lN l;omega
theorem Zp {α:Type} (f:α→V) {l:List α} {x:α} (h:x∈l):jG (f x)≤lN (l.map f):=awu (List.mem_map_of_mem h)
theorem Li {α:Type} (f:α→V) (hf:∀x,1≤jG (f x)) (l:List α):l.length≤lN (l.map f):=by
 induction l with
 |nil=>exact Nat.zero_le _
 |cons x l ih=>
  have:=hf x
  show l.length+1≤jG (f x)+lN (l.map f)
  omega
mutual
theorem awv:∀p:Sh.Pred,KQ p≤jG (Pred.vr p)
 | ⟨op,name,n,m,s,subs⟩=>by
   have:=aiW subs
   simp only[KQ,Pred.vr,jG,lN]
   omega
theorem aiW:∀l:List Sh.Pred,Fj l≤lN (Pred.vl l)
 | []=>Nat.zero_le _
 |p::l=>by
  have:=awv p
  have:=aiW l
  simp only[Fj,Pred.vl,lN]
  omega
end
theorem aiX (d:Def):d.Name.length+d.Words.length+1≤jG (Def.v d)∧∀w∈d.Words,w.length+1≤jG (Def.v d):=by
 have e:jG (Def.v d)=(d.Name.length+1)+(1+(1+(1+(lN (d.Words.map V.str)+1+0)))):=rfl
 have h1:=Li V.str (fun x=>by simp[jG]) d.Words
 refine⟨by omega,fun w hw=> ?_⟩
 have h2:=Zp V.str hw
 have h3:jG (V.str w)=w.length+1:=rfl
 omega
theorem aww {s:aF} {n k:Nat} (h:jG (aF.v s)≤k) (hk:k<n) (hk2:k<2^62):pJ s n:=by
 have e:jG (aF.v s)=1+(1+(lN (s.Defs.map Def.v)+1+0)):=rfl
 have h1:=Li Def.v (fun x=>by have:=(aiX x).1;omega) s.Defs
 refine⟨by omega,by omega,fun d hd=> ?_⟩
 have h2:=Zp Def.v hd
 have h3:=aiX d
 have h4:=h3.1
 refine⟨by omega,by omega,by omega,by omega,fun w hw=> ?_⟩
 have:=h3.2 w hw
 exact⟨by omega,by omega⟩
theorem aiY (e:Sh.Event):e.Vec.length+e.aI.length+1≤jG (Event.v e):=by
 have h1:=Li iv (fun x=>Nat.le_refl _) e.Vec
 have h2:=Li Attr.v (fun x=>by show 1≤(x.Name.length+1)+_;omega) e.aI
 obtain⟨m,hm⟩:∃m,jG (Event.v e)=1+(1+(1+(1+(1+(1+(1+(lN (e.Vec.map iv)+1+(lN (e.aI.map Attr.v)+1+m)))))))):=⟨_,rfl⟩
 omega
theorem awx {l:List Sh.Event} {n k:Nat} (h:lN (l.map Event.v)+1≤k) (hk:k<n) (hk2:k<2^62):l.length<n∧l.length<2^62∧∀e∈l,Si e n:=by
 have h1:=Li Event.v (fun x=>by have:=aiY x;omega) l
 refine⟨by omega,by omega,fun x hx=> ?_⟩
 have h2:=Zp Event.v hx
 have h3:=aiY x
 exact⟨by omega,by omega,by omega,by omega⟩
theorem zn {l:List V} {v:V} (h:v∈l):gZ v≤jN l:=by
 induction l with
 |nil=>cases h
 |cons x l ih=>
  rcases List.mem_cons.1 h with rfl|h
  ·show gZ v≤gZ v+jN l;omega
  ·have:=ih h
   show gZ v≤gZ x+jN l;omega
theorem S9 {n:Int} {b:Nat} (h:gZ (.int .i64 n)≤b) (hb:b<2^63):rI n:=by
 have h':1+Fu .i64 n≤b:=h
 have:=atx (k:=.i64) (n:=n) (by omega)
 have h1:(IntKind.i64).min= -(2^63):=rfl
 have h2:(IntKind.i64).max=2^63-1:=rfl
 rw[h1,h2] at this
 unfold rI;omega
theorem awy {a:Attr} {b:Nat} (h:gZ (Attr.v a)≤b) (hb:b<2^63):rI a.Kind∧rI a.N:=by
 have h':jN a.c≤b:=h
 exact⟨S9 (Nat.le_trans (zn (by simp[Attr.c])) h') hb,S9 (Nat.le_trans (zn (by simp[Attr.c])) h') hb⟩
theorem awz {e:Sh.Event} {b:Nat} (h:gZ (Event.v e)≤b) (hb:b<2^63):wW e:=by
 have h':jN e.c≤b:=h
 have sc:∀x,V.int .i64 x∈e.c→rI x:=fun x hx=>S9 (Nat.le_trans (zn hx) h') hb
 have vv:gZ (lv iv e.Vec)≤b:=Nat.le_trans (zn (by simp[Event.c])) h'
 have va:gZ (lv Attr.v e.aI)≤b:=Nat.le_trans (zn (by simp[Event.c])) h'
 have vv':jN (e.Vec.map iv)+1≤b:=vv
 have va':jN (e.aI.map Attr.v)+1≤b:=va
 refine⟨⟨sc _ (by simp[Event.c]),sc _ (by simp[Event.c]),sc _ (by simp[Event.c]),sc _ (by simp[Event.c]),sc _ (by simp[Event.c]),sc _ (by simp[Event.c])⟩,fun x hx=> ?_,fun a ha=> ?_⟩
 ·exact S9 (n:=x) (Nat.le_trans (zn (List.mem_map_of_mem (f:=iv) hx)) (by omega:jN (e.Vec.map iv)≤b)) hb
 ·exact awy (Nat.le_trans (zn (List.mem_map_of_mem (f:=Attr.v) ha)) (by omega:jN (e.aI.map Attr.v)≤b)) hb
theorem awC {l:List Sh.Event} {b:Nat} (h:jN (l.map Event.v)≤b) (hb:b<2^63):∀e∈l,wW e:=fun e he=>
 awz (Nat.le_trans (zn (List.mem_map_of_mem (f:=Event.v) he)) h) hb
end Go.Proofs.YteniejlbjfigdaaGreatDoor.floors
end
