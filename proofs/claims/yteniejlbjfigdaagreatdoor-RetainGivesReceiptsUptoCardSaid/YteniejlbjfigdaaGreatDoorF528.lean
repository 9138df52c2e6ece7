import Derived.Test.YteniejlbjfigdaaGreatDoorF527
set_option linter.all false
open Go.IntKind (wrap)
section
open Go Go.Proofs aR
namespace Sh
def yL (l:List Int)(c:Nat):Int:=if c=0 then 0 else l.getD (c-1) 0
theorem adi {l:List Int}{d:Int}{c:Nat}(h:c<=l.length):yL (l++[d]) c=yL l c:=by
 unfold yL;split
 .rfl
 .rw[mH,mH,KW RS]
theorem adj (l:List Int)(d:Int):yL (l++[d]) (l.length+1)=d:=by unfold yL;rw[if_neg RS,mH];simp
def alM (n:Nat)(c:Int)(r:Row):Prop:=(r.eB=0\/(1<=r.eB/\r.eB<=c))/\yI r.Entry n/\r.Entry.eu<=65538*c/\0<=r.Entry.eu
structure o8 (n:Nat)(s:aG)(b:Book):Prop where
 schema:b.aG=s
 commit:b.aN=((b.bn.length:Nat):Int)
 days:b.bn.length<=2^30
 rows:b.Rows.length<=65536
 row:∀r∈b.Rows,alM n b.aN r
 mono:∀c c':Nat,c<=c'->c'<=b.bn.length->yL b.bn c<=yL b.bn c'
 day:yL b.bn b.bn.length=b.Day
 UF:(b.Rows.map yK).Nodup
structure StepB (b:Book)(e:Event)(b':Book):Prop where
 commit:b'.aN=b.aN+1
 day:b'.Day=e.Day
 days:b'.bn=b.bn++[e.Day]
 rows:∃(f:Row->Row) (t:List Row),b'.Rows=b.Rows.map f++t/\∀r,Dd (b.aN+1) r (f r)
 ids:∀y∈b'.Rows,(∃x∈b.Rows,x.Entry.ID=y.Entry.ID)\/(e.Kind=1/\y.Entry.ID=e.ID)
def adk (b:Book)(e:Event)(b':Book):Prop:=∃t:List Row,b'.Rows=b.Rows++t/\∀y∈t,y.eB=0/\y.Entry.From=e.Until
def adl (e:Event):Prop:=(rI e.ID/\rI e.gK/\rI e.Day/\rI e.From/\rI e.Until)/\(∀x∈e.Vec,rI x)/\∀a∈e.aY,rI a.Kind/\rI a.N
theorem alN {c:Int}(h0:0<=c)(h:c<=2^30):rI c:=KQ
theorem Pq {a b:Int}(h:rI a)(g:rI b):rI (imax a b):=by unfold imax;split<;>assumption
theorem adn {a b:Int}(h:rI a)(g:rI b):rI (wO a b):=by unfold wO;split<;>assumption
def ado (e:Event)(n:Nat):Prop:=e.Vec.length<n/\e.Vec.length<2^62/\e.aY.length<n/\e.aY.length<2^62/\adl e
def zZ (e:Event)(n:Nat):Prop:=e.Vec.length<n/\e.Vec.length<2^62/\e.aY.length<n/\e.aY.length<2^62/\o7 e.Vec e.aY/\adl e
def vX (n:Nat)(s:aG)(b:Book)(e:Event)(r:bE):Prop:=o8 n s r.B/\(r.E=0->StepB b e r.B)
theorem xB {n:Nat}{s:aG}{b:Book}{e:Event}(h:o8 n s b){k:Int}(hk:k≠0):vX n s b e ⟨b,k⟩:=⟨h,fun h=>absurd h hk⟩
structure Br (b:Book)(e:Event):Prop where
 c:e.aN=b.aN+1
 c2:e.aN<=2^30
 d:b.Day<=e.Day
theorem zZ.entry {n:Nat}{e:Event}(he:zZ e n){i v o f r t c:Int}(h1:rI i)(h2:rI o)(h3:rI f)(h4:rI r)(h5:rI t)(h6:rI c):yI (⟨i,v,o,f,r,t,c,e.Vec,e.aY⟩:Entry) n:=⟨he.1,he.2.1,he.2.2.1,he.2.2.2.1,he.2.2.2.2.1,⟨h1,h2,h3,h4,h5,h6⟩,he.2.2.2.2.2.2⟩
theorem Br.rc {b:Book}{e:Event}(h:Br b e)(hb:0<=b.aN:=by omega):rI e.aN:=alN (by have:=h.c;omega) h.c2
theorem azO {n:Nat}{e:Event}{lV rows added:List Row}{v ver:Int}{k:Nat}(h:CI n e lV v k ver rows added)(hA:added=[]\/(∃x∈lV,x.Entry.ID=e.ID)\/e.Kind=1):∀y∈rows++added,(∃x∈lV,x.Entry.ID=y.Entry.ID)\/(e.Kind=1/\y.Entry.ID=e.ID):=by
 obtain⟨f,hf,hd⟩:=h.f;intro y hy;rcases qB.1 hy with hy|hy
 .rw[hf] at hy;obtain⟨x,hx,rfl⟩:=tH.1 hy;exact .inl ⟨x,hx,by rw[(hd x).entry]⟩
 .obtain⟨_,_,a3,_⟩:=h.add y hy;rcases hA with hA| ⟨x,hx,hA⟩|hA
  .rw[hA] at hy;cases hy
  .exact .inl ⟨x,hx,by rw[hA,a3]⟩
  .exact .inr ⟨hA,a3⟩
theorem azP {n:Nat}{s:aG}{b:Book}{e:Event}(hb:o8 n s b)(he:Br b e){v ver:Int}{k:Nat}{rows added:List Row}(h:CI n e b.Rows v k ver rows added)(hk:k<=65537)(hv0:v<=65538*b.aN)(hvp:0<=v)(hv:∀r∈b.Rows,r.Entry.ID=e.ID->r.Entry.eu<=v)(hlen:rows.length+added.length<=65536)(hA:added=[]\/(∃x∈b.Rows,x.Entry.ID=e.ID)\/e.Kind=1):vX n s b e ⟨⟨b.aG,e.aN,e.Day,([]++b.bn)++[e.Day],([]++rows)++added⟩,0⟩:=by
 obtain⟨f,hf,hd⟩:=h.f;have hcl:=hb.commit;have hc:=he.c;have hc2:=he.c2;have v2:=h.v2;rw[List.nil_append,List.nil_append];refine⟨⟨hb.schema,?_,?_,?_,fun r hr=>?_,fun c c' h1 h2=>?_,?_,?_⟩,fun _=>⟨hc,rfl,rfl,⟨f,added,by show rows++added=_;rw[hf],fun r=>by rw[<-hc];exact hd r⟩,azO h hA⟩⟩
 .show e.aN=_;rw[iP,List.length_singleton];omega
 .show (b.bn++[e.Day]).length<=_;rw[iP,List.length_singleton];omega
 .show (rows++added).length<=_;rw[iP];omega
 .have hr':r∈rows++added:=hr;show alM n e.aN r;rcases qB.1 hr' with hr'|hr'
  .rw[hf] at hr';obtain⟨x,hx,rfl⟩:=tH.1 hr';obtain⟨g1,g2,g3,g4⟩:=hb.row x hx;rcases hd x with h1| ⟨h1,h2⟩
   .rw[h1];exact⟨RS,g2,RS,g4⟩
   .rw[h2];exact⟨.inr ⟨by show 1<=e.aN;omega,yV _⟩,g2,by show x.Entry.eu<=_;omega,g4⟩
  .obtain⟨a1,a2,a3,a4,a5⟩:=h.add r hr';exact⟨.inl a1,a2,RS,RS⟩
 .have h2':c'<=b.bn.length+1:=by have:c'<=(b.bn++[e.Day]).length:=h2;rw[iP,List.length_singleton] at this;exact this
  show yL (b.bn++[e.Day]) c<=yL (b.bn++[e.Day]) c';by_cases q:c'<=b.bn.length
  .rw[adi q,adi (eO h1 q)];exact hb.mono c c' h1 q
  .obtain rfl:c'=b.bn.length+1:=RS
   rw[adj];by_cases q2:c<=b.bn.length
   .rw[adi q2];have g1:=hb.mono c b.bn.length q2 (mF _);have g2:=hb.day;have g3:=he.d;omega
   .obtain rfl:c=b.bn.length+1:=RS;rw[adj];exact yV _
 .show yL (b.bn++[e.Day]) (b.bn++[e.Day]).length=e.Day;rw[iP,List.length_singleton,adj]
 .show ((rows++added).map yK).Nodup;have hkey:rows.map yK=b.Rows.map yK:=by rw[hf,yT];refine BI fun r _=>?_;show yK (f r)=yK r;unfold yK;rw[(hd r).entry]
  rw[pF,hkey,List.nodup_append];refine⟨hb.UF,h.UF,fun a ha c hc'=>?_⟩;obtain⟨x,hx,rfl⟩:=tH.1 ha;obtain⟨y,hy,rfl⟩:=tH.1 hc';obtain⟨a1,a2,a3,a4,a5⟩:=h.add y hy;intro hk;have k1:=congrArg Prod.fst hk;have k2:=congrArg Prod.snd hk;simp only[yK] at k1 k2;have:=hv x hx (by rw[k1];exact a3);omega
theorem Pt {n:Nat}{s:aG}{b:Book}{e:Event}{l:List Row}{to:List dO}{more:Entry}(hn:2^20<n)(hs:rR s n)(hb:o8 n s b)(hl:l.length<=65536)(hlt:to.length=l.length)(hlr:∀r∈l,r∈b.Rows/\r.Entry.ID=e.ID)(hto:∀d∈to,rI d.from_/\rI d.to)(hm:yI more n/\(more.ID=0\/more.ID=e.ID))(he:Br b e)(hF:l≠[]\/e.Kind=1\/more.ID=0):∃r:bE,Bg n (b,(e,(l,(to,more))))=some r/\vX n s b e r/\(l=[]->r.E=0->∃t:List Row,r.B.Rows=b.Rows++t/\∀y∈t,y.eB=0/\y.Entry.From=more.From):=by
 have hA0:(∃x∈b.Rows,x.Entry.ID=e.ID)\/e.Kind=1\/(l=[]/\more.ID=0):=by
  cases l with
  |cons r l=>exact .inl ⟨r,hlr r (ji ..)⟩|nil=>
   rcases hF with h|h|h
   .exact absurd rfl h
   .exact .inr (.inl h)
   .exact .inr (.inr ⟨rfl,h⟩)
 have hcl:=hb.commit;have adp:=hb.rows;have hc:=he.c;have hc2:=he.c2;have hdl:b.bn.length<2^30:=RS
 have hc1:1<=e.aN:=RS
 obtain⟨v,hv,hv0,hv1,hv2⟩:=azM (n:=n) (b:=b) (id:=e.ID) (V:=65538*b.aN) RS RS (fun r hr=>(hb.row r hr).2.2.1) RS;obtain⟨⟨ver,rows,added⟩,h1,hI⟩:=azL (b:=b) (e:=e) (to:=to) (more:=more) (lV:=b.Rows) (v:=v) hn hl hlt (fun r hr=>⟨(hb.row r (hlr r hr).1).2.1,(hlr r hr).2⟩) hto (alN RS hc2) hc1 adp hv0 RS l.length 0 n v b.Rows [] RS RS ⟨⟨id,aB,fun r=>.inl rfl⟩,yV _,RS,aB,(fun r hr=>by cases hr),aB⟩;dsimp only at hI;have hrl:=hI.length;have hal:=hI.len;have v1:=hI.v1;have v2:=hI.v2;have hnil:l=[]->added=[]/\rows=b.Rows:=by intro e0;subst e0;obtain⟨m,rfl⟩:∃m,n=m+1:=⟨n-1,RS⟩;rw[ac4] at h1;have h1':some ((v,(b.Rows,([]:List Row))))=some (ver,(rows,added)):=h1;cases h1';exact⟨rfl,rfl⟩
 have fin:∀(sW:List Row)(k:Nat)(alO:Int),CI n e b.Rows v k alO rows sW->k<=65537->(l=[]->∀y∈sW,y.eB=0/\y.Entry.From=more.From)->(sW=[]\/(∃x∈b.Rows,x.Entry.ID=e.ID)\/e.Kind=1)->∃r:bE,(bif decide ((wrap .i64 ((rows.length:Int)+(((sW.length:Nat):Int))))> (65536:Int)) then some ((⟨b,(2:Int)⟩:bE))else bif cK (((0:Nat))+b.bn.length) 8 then bif cK ((([]++b.bn).length)+([e.Day].length)) 8 then bif cK (((0:Nat))+rows.length) 112 then bif cK ((([]++rows).length)+sW.length) 112 then some ((⟨(⟨b.aG,e.aN,e.Day,([]++b.bn)++[e.Day],([]++rows)++sW⟩:Book),(0:Int)⟩:bE))else none else none else none else none)=some r/\vX n s b e r/\(l=[]->r.E=0->∃t:List Row,r.B.Rows=b.Rows++t/\∀y∈t,y.eB=0/\y.Entry.From=more.From):=by
  intro sW k alO k1 k2 k3 k4;have hl':=k1.len;rw[Tg RS];refine kF (fun _=>kM ⟨xB hb aL,fun _ h=>absurd (show (2:Int)=0 from h) aL⟩) (fun hx=>?_);have hx':rows.length+sW.length<=65536:=by have:=of_decide_eq_false hx;omega
  refine Kv (Kv (Kv (Kv ?_ dP) dP) dP) dP;exact kM ⟨azP hb he k1 k2 hv1 hv0 hv2 hx' k4,fun h0 _=>⟨sW,by show ([]++rows)++sW=_;rw[List.nil_append,(hnil h0).2],k3 h0⟩⟩
 rw[ax1];refine fK ⟨v,hv,?_⟩;refine fK ⟨_,h1,?_⟩;dsimp only;have hw:wrap .i64 (ver+(1:Int))=ver+1:=iy RS RS;rw[hw];refine kF (fun hid=>?_) (fun _=>fin added l.length ver hI RS (fun h0 y hy=>by rw[(hnil h0).1] at hy;cases hy) (hA0.elim (fun h=>.inr (.inl h)) (fun h=>h.elim (fun h=>.inr (.inr h)) (fun h=>.inl (hnil h.1).1))));have azQ:more.ID=e.ID:=hm.2.resolve_left (by simpa using hid);obtain⟨er,her⟩:=alG (n:=n) (s:=b.aG) (e:=⟨more.ID,ver+(1:Int),more.gK,more.jF,more.From,more.To,more.fQ,more.Vec,more.aY⟩) (hb.schema.symm▸hs) hm.1;refine fK ⟨er,her,?_⟩;refine kF (fun h0=>kM ⟨xB hb Qf,fun _ h=>absurd h Qf⟩) (fun _=>?_);refine Kv ?_ dP;have:=fin (added++[(⟨(⟨more.ID,ver+(1:Int),more.gK,more.jF,more.From,more.To,more.fQ,more.Vec,more.aY⟩:Entry),(0:Int)⟩:Row)]) (l.length+1) (ver+1) (hI.push rfl hm.1 azQ rfl) RS (fun h0 y hy=>by rw[(hnil h0).1,List.nil_append,iZ] at hy;rw[hy];exact⟨rfl,rfl⟩) (hA0.elim (fun h=>.inr (.inl h)) (fun h=>h.elim (fun h=>.inr (.inr h)) (fun h=>absurd h.2 (by simpa using hid))));exact this
theorem azR {n:Nat}{s:aG}{b:Book}{e:Event}(hn:2^20<n)(hs:rR s n)(hb:o8 n s b)(he:zZ e n)(hv:Br b e)(hk1:e.Kind=1):∃r:bE,N7 n (b,e)=some r/\vX n s b e r/\(r.E=0->adk b e r.B):=by have hr:=hb.rows;obtain⟨h,hh⟩:=azz (n:=n) (b:=b) (d:=e.ID) RS RS;rw[ax2];refine fK ⟨h,hh,?_⟩;refine kF (fun _=>kM ⟨xB hb aL,fun h=>absurd (show (6:Int)=0 from h) aL⟩) (fun _=>?_);have hcl:=hb.commit;have hen:yI (⟨e.ID,(1:Int),e.gK,e.Day,e.Until,(1048577:Int),e.aN,e.Vec,e.aY⟩:Entry) n:=he.entry he.2.2.2.2.2.1.1 he.2.2.2.2.2.1.2.1 he.2.2.2.2.2.1.2.2.1 he.2.2.2.2.2.1.2.2.2.2 KQ hv.rc;obtain⟨er,her⟩:=alG (n:=n) (s:=b.aG) (e:=⟨e.ID,(1:Int),e.gK,e.Day,e.Until,(1048577:Int),e.aN,e.Vec,e.aY⟩) (hb.schema.symm▸hs) hen;refine fK ⟨er,her,?_⟩;refine kF (fun h0=>kM ⟨xB hb Qf,fun h=>absurd h Qf⟩) (fun _=>?_);obtain⟨r,h1,h2,h3⟩:=Pt (l:=[]) (to:=[]) (more:=⟨e.ID,(1:Int),e.gK,e.Day,e.Until,(1048577:Int),e.aN,e.Vec,e.aY⟩) hn hs hb aB rfl aB (fun d hd=>uR) ⟨hen,.inr rfl⟩ hv (.inr (.inl hk1));exact fK ⟨r,h1,kM ⟨h2,fun h=>h3 rfl h⟩⟩
theorem adq {n:Nat}{l:List Row}(h:l≠[])(hb:l.length<2^62):∃x:Row,x∈l/\Bh n l=some x.Entry.To:=by have hp:0<l.length:=uS.2 h;obtain⟨x,hx,hxm⟩:=Di (l:=l) (i:=l.length-1) RS;exact⟨x,hxm,by rw[ax4,ai5 hp hb];exact bs hx rfl⟩
theorem adr {L:Nat->List dO->Int->Option (List dO)}{l:List Row}(hl:l.length<=65536)(hs:∀m (i:Nat) (acc:List dO),i<l.length->acc.length=i->∃d:dO,(rI d.from_/\rI d.to)/\L (m+1) acc (i:Int)=L m (acc++[d]) ((i+1:Nat):Int))(hf:∀m acc,L (m+1) acc (l.length:Int)=some acc){n:Nat}(hn:l.length<n):∃to:List dO,L n [] (0:Int)=some to/\to.length=l.length/\∀d∈to,rI d.from_/\rI d.to:=by
 have key:∀(k i m:Nat)(acc:List dO),i+k=l.length->k<m->acc.length=i->(∀d∈acc,rI d.from_/\rI d.to)->∃to:List dO,L m acc (i:Int)=some to/\to.length=l.length/\∀d∈to,rI d.from_/\rI d.to:=by
  intro k;induction k with
  |zero=>
   intro i m acc hi hm ha hac;obtain⟨m,rfl⟩:∃m',m=m'+1:=⟨m-1,RS⟩;obtain rfl:i=l.length:=RS
   exact⟨acc,hf _ _,ha,hac⟩
  |succ k ih=>intro i m acc hi hm ha hac;obtain⟨m,rfl⟩:∃m',m=m'+1:=⟨m-1,RS⟩;obtain⟨d,hdr,hd⟩:=hs m i acc RS ha;rw[hd];exact ih (i+1) m _ RS RS (by simp[ha]) (fun y hy=>by rcases qB.1 hy with hy|hy;exact hac y hy;rw[iZ.1 hy];exact hdr)
 exact key l.length 0 n [] RS hn rfl (fun d hd=>uR)
theorem ads {n:Nat}(hn:2^20<n):yI (⟨(0:Int),(0:Int),(0:Int),(0:Int),(0:Int),(0:Int),(0:Int),[],[]⟩:Entry) n:=⟨dP,aB,dP,aB,⟨aB,aB,fun x hx=>absurd hx List.not_mem_nil⟩,⟨Gf,Gf,Gf,Gf,Gf,Gf⟩,fun x hx=>absurd hx List.not_mem_nil,fun x hx=>absurd hx List.not_mem_nil⟩
theorem azS {n:Nat}{s:aG}{b:Book}{e:Event}{l:List Row}(hn:2^20<n)(hs:rR s n)(hb:o8 n s b)(he:zZ e n)(hv:Br b e)(hne:l≠[])(hl:l.length<=65536)(hlr:∀r∈l,r∈b.Rows/\r.Entry.ID=e.ID):∃r:bE,Du n (b,(e,l))=some r/\vX n s b e r:=by
 have hp:0<l.length:=uS.2 hne;obtain⟨x,hx,hxm⟩:=Di (l:=l) (i:=0) hp;obtain⟨tr,htr,ht⟩:=adq (n:=n) hne RS;have hrow:∀r∈l,F8 r.Entry:=fun r hr=>(hb.row r (hlr r hr).1).2.1.2.2.2.2.2;have hcl:=hb.commit;obtain⟨t',ht'⟩:=Ku (c:= !(decide (e.From< (0:Int)))) (o:=Bh n l) (d:=(0:Int)) (fun _=>⟨tr.Entry.To,ht⟩);obtain⟨to,h1,h2,hto⟩:=adr (L:=fun m acc i=>FT n b e l x m (acc,i)) (n:=n) hl (fun m i acc hi ha=>by
  obtain⟨y,hy,hym⟩:=Di (l:=l) (i:=i) hi;refine⟨⟨y.Entry.From,wO y.Entry.To (imax (imax e.From x.Entry.From) y.Entry.From)⟩,⟨(hrow y hym).1.2.2.2.1,adn (hrow y hym).1.2.2.2.2.1 (Pq (Pq he.2.2.2.2.2.1.2.2.2.1 (hrow x hxm).1.2.2.2.1) (hrow y hym).1.2.2.2.1)⟩,?_⟩;show FT n b e l x (m+1) (acc,(i:Int))=_;rw[ak4,decide_eq_true RS,cond_true];refine bs hy ?_;rw[fU RS];exact Ti dP)
  (fun m acc=>by show FT n b e l x (m+1) (acc,(l.length:Int))=_;rw[ak4,FC];rfl) RS
 obtain⟨r,h3,h4,_⟩:=Pt (l:=l) (to:=to) (more:=⟨x.Entry.ID,x.Entry.eu,x.Entry.gK,x.Entry.jF,imax e.From x.Entry.From,tr.Entry.To,e.aN,e.Vec,e.aY⟩) hn hs hb hl h2 hlr hto ⟨he.entry (hrow x hxm).1.1 (hrow x hxm).1.2.1 (hrow x hxm).1.2.2.1 (Pq he.2.2.2.2.2.1.2.2.2.1 (hrow x hxm).1.2.2.2.1) (hrow tr htr).1.2.2.2.2.1 hv.rc,.inr (hlr x hxm).2⟩ hv (.inl hne);rw[ax5];refine fK ⟨x,hx,?_⟩;refine fK ⟨t',ht',?_⟩;refine kF (fun _=>kM (xB hb aL)) (fun _=>?_);refine fK ⟨to,h1,?_⟩;refine fK ⟨x,hx,?_⟩;refine fK ⟨tr.Entry.To,ht,?_⟩;exact fK ⟨r,h3,kM h4⟩
theorem azT {n:Nat}{s:aG}{b:Book}{e:Event}{l:List Row}(hn:2^20<n)(hs:rR s n)(hb:o8 n s b)(he:zZ e n)(hv:Br b e)(hne:l≠[])(hl:l.length<=65536)(hlr:∀r∈l,r∈b.Rows/\r.Entry.ID=e.ID):∃r:bE,Dv n (b,(e,l))=some r/\vX n s b e r:=by
 obtain⟨tr,htr,ht⟩:=adq (n:=n) hne RS;have hrow:∀r∈l,F8 r.Entry:=fun r hr=>(hb.row r (hlr r hr).1).2.1.2.2.2.2.2;have hcl:=hb.commit;obtain⟨to,h1,h2,hto⟩:=adr (L:=fun m acc i=>FU n b e l m (acc,i)) (n:=n) hl (fun m i acc hi ha=>by
  obtain⟨y,hy,hym⟩:=Di (l:=l) (i:=i) hi;refine⟨⟨y.Entry.From,wO y.Entry.To (imax e.From y.Entry.From)⟩,⟨(hrow y hym).1.2.2.2.1,adn (hrow y hym).1.2.2.2.2.1 (Pq he.2.2.2.2.2.1.2.2.2.1 (hrow y hym).1.2.2.2.1)⟩,?_⟩;show FU n b e l (m+1) (acc,(i:Int))=_;rw[ak5,decide_eq_true RS,cond_true];refine bs hy ?_;rw[fU RS];exact Ti dP)
  (fun m acc=>by show FU n b e l (m+1) (acc,(l.length:Int))=_;rw[ak5,FC];rfl) RS
 obtain⟨r,h3,h4,_⟩:=Pt (l:=l) (to:=to) hn hs hb hl h2 hlr hto ⟨ads hn,.inl rfl⟩ hv (.inl hne);rw[ax6];refine kF (fun _=>?_) (fun _=>kM (xB hb aL));refine fK ⟨tr.Entry.To,ht,?_⟩;refine kF (fun _=>kM (xB hb aL)) (fun _=>?_);refine fK ⟨to,h1,?_⟩;exact fK ⟨r,h3,kM h4⟩
theorem azU {n:Nat}{s:aG}{b:Book}{e:Event}{l:List Row}(hn:2^20<n)(hs:rR s n)(hb:o8 n s b)(he:zZ e n)(hv:Br b e)(hne:l≠[])(hl:l.length<=65536)(hlr:∀r∈l,r∈b.Rows/\r.Entry.ID=e.ID):∃r:bE,Dw n (b,(e,l))=some r/\vX n s b e r:=by
 have hp:0<l.length:=uS.2 hne;obtain⟨x,hx,hxm⟩:=Di (l:=l) (i:=0) hp;obtain⟨tr,htr,ht⟩:=adq (n:=n) hne RS;have hrow:∀r∈l,F8 r.Entry:=fun r hr=>(hb.row r (hlr r hr).1).2.1.2.2.2.2.2;have hcl:=hb.commit;obtain⟨to,h1,h2,hto⟩:=adr (L:=fun m acc i=>DW n b e l x m (acc,i)) (n:=n) hl (fun m i acc hi ha=>by
  obtain⟨y,hy,hym⟩:=Di (l:=l) (i:=i) hi;refine⟨bif bif (i:Int)==(0:Int) then decide (e.Until<x.Entry.From) else false then ⟨e.Until,y.Entry.To⟩ else ⟨imax y.Entry.From (wO e.Until y.Entry.To),y.Entry.To⟩,?_,?_⟩
  .cases (bif (i:Int)==(0:Int) then decide (e.Until<x.Entry.From) else false)
   .exact⟨Pq (hrow y hym).1.2.2.2.1 (adn he.2.2.2.2.2.1.2.2.2.2 (hrow y hym).1.2.2.2.2.1),(hrow y hym).1.2.2.2.2.1⟩
   .exact⟨he.2.2.2.2.2.1.2.2.2.2,(hrow y hym).1.2.2.2.2.1⟩
  show DW n b e l x (m+1) (acc,(i:Int))=_;rw[ak6,decide_eq_true RS,cond_true];refine bs hy ?_;cases (bif (i:Int)==(0:Int) then decide (e.Until<x.Entry.From) else false)
  .rw[cond_false,cond_false,fU RS];exact Ti dP
  .rw[cond_true,cond_true,fU RS];exact Ti dP)
  (fun m acc=>by show DW n b e l x (m+1) (acc,(l.length:Int))=_;rw[ak6,FC];rfl) RS
 obtain⟨r,h3,h4,_⟩:=Pt (l:=l) (to:=to) hn hs hb hl h2 hlr hto ⟨ads hn,.inl rfl⟩ hv (.inl hne);rw[ax7];refine fK ⟨x,hx,?_⟩;refine kF (fun _=>kM (xB hb aL)) (fun _=>?_);refine kF (fun _=>?_) (fun _=>kM (xB hb aL));refine fK ⟨tr.Entry.To,ht,?_⟩;refine kF (fun _=>kM (xB hb aL)) (fun _=>?_);refine fK ⟨to,h1,?_⟩;exact fK ⟨r,h3,kM h4⟩
theorem alP {n:Nat}{s:aG}{b:Book}{e:Event}(hn:2^20<n)(hs:rR s n)(hb:o8 n s b)(he:zZ e n):∃r:bE,JX n (b,e)=some r/\vX n s b e r/\(r.E=0->e.Kind=1->adk b e r.B):=by
 have hcl:=hb.commit;have adp:=hb.rows;have hdl:=hb.days;rw[ax8];refine kF (fun _=>kM ⟨xB hb aL,fun h=>absurd (show (9:Int)=0 from h) aL⟩) (fun hcond=>?_);have hw:wrap .i64 (b.aN+(1:Int))=b.aN+1:=by rw[hcl,IntKind.wrap_i64];omega
 rw[hw] at hcond;have hc:e.aN=b.aN+1:=by
  by_cases c:e.aN=b.aN+1
  .exact c
  .rw[bne_iff_ne.2 c] at hcond;simp at hcond
 have hc2:e.aN<=2^30:=by
  by_cases c:e.aN> (1073741824:Int)
  .rw[decide_eq_true c] at hcond;cases h:(e.aN !=b.aN+1)<;>rw[h] at hcond<;>simp at hcond
  .omega
 have hdd:b.Day<=e.Day:=by
  by_cases c:e.Day<b.Day
  .rw[decide_eq_true c] at hcond;cases h:(e.aN !=b.aN+1)<;>rw[h] at hcond
   .cases h':decide (e.aN> (1073741824:Int))<;>rw[h'] at hcond<;>simp at hcond
   .simp at hcond
  .omega
 have hv:Br b e:=⟨hc,hc2,hdd⟩;obtain⟨l,hl1,hl2,hl3⟩:=azI (n:=n) (b:=b) (id:=e.ID) RS RS;have err:∀k:Int,k≠0->∃r:bE,some ((⟨b,k⟩:bE))=some r/\vX n s b e r:=fun k hk=>kM (xB hb hk);have live:∃r:bE,((Dt n ((b,e.ID))).bind fun (r5:List Row)=>bif (r5.length:Int)==(0:Int) then some ((⟨b,(5:Int)⟩:bE))else bif e.Kind==(2:Int) then (Du n ((b,(e,r5)))).bind fun (r6:bE)=>some r6 else bif e.Kind==(3:Int) then (Dv n ((b,(e,r5)))).bind fun (r7:bE)=>some r7 else (Dw n ((b,(e,r5)))).bind fun (r8:bE)=>some r8)=some r/\vX n s b e r:=by
  refine fK ⟨l,hl1,?_⟩;refine kF (fun _=>err 5 aL) (fun hne=>?_);have hne':l≠[]:=by rintro rfl;simp at hne
  have adt:l.length<=65536:=eO hl2 adp;refine kF (fun _=>?_) (fun _=>kF (fun _=>?_) (fun _=>?_))
  .obtain⟨r,h1,h2⟩:=azS hn hs hb he hv hne' adt hl3;exact fK ⟨r,h1,kM h2⟩
  .obtain⟨r,h1,h2⟩:=azT hn hs hb he hv hne' adt hl3;exact fK ⟨r,h1,kM h2⟩
  .obtain⟨r,h1,h2⟩:=azU hn hs hb he hv hne' adt hl3;exact fK ⟨r,h1,kM h2⟩
 have sU:∀{o:Option bE},(e.Kind==(1:Int))=false->(∃r:bE,o=some r/\vX n s b e r)->∃r:bE,o=some r/\vX n s b e r/\(r.E=0->e.Kind=1->adk b e r.B):=fun hk ⟨r,h1,h2⟩=>⟨r,h1,h2,fun _ h3=>by rw[h3] at hk;simp at hk⟩;refine kF (fun hk=>?_) (fun hk=>sU hk (kF (fun _=>?_) (fun _=>kF (fun _=>live) (fun _=>kF (fun _=>live) (fun _=>kF (fun _=>live) (fun _=>err 1 aL))))))
 .obtain⟨r,h1,h2,h3⟩:=azR hn hs hb he hv (beq_iff_eq.1 hk);exact fK ⟨r,h1,kM ⟨h2,fun h _=>h3 h⟩⟩
 .obtain⟨r,h1,h2,_⟩:=Pt (l:=[]) (to:=[]) hn hs hb aB rfl aB (fun d hd=>uR) ⟨ads hn,.inl rfl⟩ hv (.inr (.inr rfl));exact fK ⟨r,h1,kM h2⟩
def Bt (n:Nat):Book->List Event->Book->Prop
 |b,[],b'=>b'=b|b,e::l,b'=>∃r:bE,JX n (b,e)=some r/\r.E=0/\Bt n r.B l b'
theorem Bt.split {n:Nat}:∀{l1 l2:List Event}{b b':Book},Bt n b (l1++l2) b'->∃bm,Bt n b l1 bm/\Bt n bm l2 b'
 | [],l2,b,b',h=>⟨b,rfl,h⟩|e::l1,l2,b,b',⟨r,a,c,d⟩=>by obtain⟨bm,h1,h2⟩:=Bt.split d;exact⟨bm,⟨r,a,c,h1⟩,h2⟩
structure Later (a b:Book):Prop where
 c:a.aN<=b.aN
 days:∃t,b.bn=a.bn++t
 rows:∃(f:Row->Row) (t:List Row),b.Rows=a.Rows.map f++t/\∀r,f r=r\/(r.eB=0/\∃c,a.aN<c/\f r=⟨r.Entry,c⟩)
theorem Later.refl (a:Book):Later a a:=⟨yV _,⟨[],aB⟩,id,[],aB,fun r=>.inl rfl⟩
theorem Later.trans {a b c:Book}(h0:0<=a.aN)(h:Later a b)(g:Later b c):Later a c:=by
 obtain⟨h1,⟨t,h2⟩,f,u,h3,h4⟩:=h;obtain⟨g1,⟨t',g2⟩,f',u',g3,g4⟩:=g;refine⟨Int.le_trans h1 g1,⟨t++t',by rw[g2,h2,eZ]⟩,fun r=>f' (f r),u.map f'++u',by rw[g3,h3,pF,yT,eZ];rfl,fun r=>?_⟩;rcases h4 r with e| ⟨e1,k,e2,e3⟩
 .rcases g4 r with e'| ⟨IL,k',e2',e3'⟩
  .left;show f' (f r)=r;rw[e,e']
  .right;exact⟨IL,k',RS,by show f' (f r)=_;rw[e,e3']⟩
 .right;rcases g4 (f r) with e'| ⟨IL,_⟩
  .exact⟨e1,k,e2,by show f' (f r)=_;rw[e',e3]⟩
  .rw[e3] at IL;have:k=0:=IL;omega
theorem StepB.later {b b':Book}{e:Event}(h:StepB b e b'):Later b b':=by
 obtain⟨h1,h2,h3,⟨f,t,h4,h5⟩,_⟩:=h;refine⟨RS,⟨[e.Day],h3⟩,f,t,h4,fun r=>?_⟩;rcases h5 r with g| ⟨g1,g2⟩
 .exact .inl g
 .exact .inr ⟨g1,b.aN+1,RS,g2⟩
theorem Bt.ok {n:Nat}{s:aG}(hn:2^20<n)(hs:rR s n):∀{l:List Event}{b b':Book},o8 n s b->(∀e∈l,zZ e n)->Bt n b l b'->o8 n s b'/\Later b b'
 | [],b,b',hb,_,h=>by have h:b'=b:=h;subst h;exact⟨hb,.refl _⟩|e::l,b,b',hb,he,⟨r,h1,h2,h3⟩=>by obtain⟨r',g1,⟨g2,g3⟩,_⟩:=alP hn hs hb (he e (ji ..));rw[h1] at g1;cases g1;obtain⟨k1,k2⟩:=Bt.ok hn hs g2 (fun x hx=>he x (jX _ hx)) h3;have hc:=hb.commit;exact⟨k1,(g3 h2).later.trans RS k2⟩
def book0 (s:aG):Book:=⟨s,0,0,[],[]⟩
theorem azV (n:Nat)(s:aG):o8 n s (book0 s):=by
 refine⟨rfl,rfl,by simp[book0],by simp[book0],(fun r hr=>by cases hr),fun c c' h1 h2=>?_,rfl,by simp[book0]⟩;have h2':c'<=0:=h2;obtain rfl:c'=0:=RS
 obtain rfl:c=0:=RS
 exact yV _
def adu (n:Nat)(s:aG):Prop:=Dq n s=some ⟨book0 s,0⟩
theorem azW {n:Nat}{s:aG}(hn:2^20<n)(hs:rR s n):adu n s\/∃nw:bE,Dq n s=some nw/\nw.E≠0:=by
 obtain⟨e0,he0⟩:=alF hs RS;have e:Dq n s=_:=(akT n s).trans (bs he0 rfl);cases h:(e0 !=(0:Int))
 .rw[h] at e;exact .inl e
 .rw[h] at e;exact .inr ⟨_,e,yP⟩
theorem azX {n:Nat}{s:aG}{l:List Event}(hn:2^20<n)(hs:rR s n)(hl:l.length<n)(hb:l.length<2^62)(he:∀e∈l,zZ e n):∃f:fJ,N9 n (s,l)=some f/\(adu n s->o8 n s f.B):=by
 have key:∀(k i m:Nat)(f:fJ)(bk:bE),i+k=l.length->k<m->bk.E=0->o8 n s bk.B->∃q:(PUnit×fJ×bE)⊕(PUnit×fJ),Ke n l m ((i:Int),(f,bk))=some q/\(match q with
  |.inl q=>q.2.2.E=0/\o8 n s q.2.2.B|.inr q=>o8 n s q.2.B):=by
  intro k;induction k with
  |zero=>intro i m f bk hi hm hz hB;obtain⟨m,rfl⟩:∃m',m=m'+1:=⟨m-1,RS⟩;exact⟨.inl ((),(f,bk)),by rw[ac5,decide_eq_false RS];rfl,hz,hB⟩
  |succ k ih=>
   intro i m f bk hi hm hz hB;obtain⟨m,rfl⟩:∃m',m=m'+1:=⟨m-1,RS⟩;have hlt:i<l.length:=RS
   have hg:l[i]? =some l[i]:=gG hlt;obtain⟨r,g1,⟨g2,_⟩,_⟩:=alP hn hs hB (he _ (lX hlt));rw[ac5,jm hg,fU RS];have hz':(bk.E==(0:Int))=true:=by rw[hz];rfl
   cases hr:(r.E !=(0:Int)) with
   |true=>exact⟨.inr ((),(⟨bk.B,(i:Int),r.E⟩:fJ)),kG hz' (bs (fF hg) (bs g1 (kG hr rfl))),hB⟩|false=>obtain⟨q,h1,h2⟩:=ih (i+1) m f r RS RS (by simpa using hr) g2;exact⟨q,kG hz' (bs (fF hg) (bs g1 (mP hr h1))),h2⟩
 rw[ax9];rcases azW hn hs with h| ⟨nw,h,hE⟩
 .obtain⟨q,h1,h2⟩:=key l.length 0 n ⟨⟨⟨0,0,[]⟩,0,0,[],[]⟩,0,0⟩ ⟨book0 s,0⟩ RS hl rfl (azV n s);refine fK ⟨_,h,fK ⟨q,h1,?_⟩⟩;cases q with
  |inl q=>refine kF (fun hz=>?_) (fun _=>kM fun _=>h2.2);have:=h2.1;rw[this] at hz;simp at hz
  |inr q=>exact kM fun _=>h2
 .obtain⟨m,rfl⟩:∃m,n=m+1:=⟨n-1,RS⟩;refine fK ⟨_,h,?_⟩;have hE':(nw.E==(0:Int))=false:=by rw[beq_eq_false_iff_ne];exact hE
  have e1:Ke (m+1) l (m+1) ((0:Int),((⟨⟨⟨0,0,[]⟩,0,0,[],[]⟩,0,0⟩:fJ),nw))=some (.inl ((),(⟨⟨⟨0,0,[]⟩,0,0,[],[]⟩,0,0⟩,nw))):=by rw[ac5];refine mP ?_ rfl;show (bif decide ((0:Int)< (l.length:Int)) then nw.E==(0:Int) else false)=false;rw[hE'];cases decide ((0:Int)< (l.length:Int))<;>rfl
  refine fK ⟨_,e1,?_⟩;refine kF (fun _=>kM fun ho=>?_) (fun hz=>?_)
  .have ho':Dq (m+1) s=some ⟨book0 s,0⟩:=ho;rw[h] at ho';cases ho';exact absurd rfl hE
  .exact absurd (by simpa using hz) hE
theorem azY {n:Nat}{s:aG}{l:List Event}(hn:2^20<n)(hs:rR s n)(hl:l.length<n)(hb:l.length<2^62)(he:∀e∈l,ado e n):∃q:Book×Bool,Oa n (s,l)=some q/\(q.2=true->o8 n s q.1):=by
 obtain⟨b1,h1⟩:=azy (n:=n) (l:=l) (k:=25) ⟨hl,hb,fun x hx=>⟨(he x hx).2.2.1,(he x hx).2.2.2.1⟩⟩;obtain⟨b2,h2⟩:=Ku (c:= !(!b1)) (o:=JQ n (s,(6:Int))) (d:=false) (fun _=>azw hs);obtain⟨e0,he0⟩:=alF hs RS;rw[aya];refine fK ⟨b1,h1,?_⟩;refine fK ⟨b2,h2,?_⟩;refine kF (fun _=>kM (fun h=>bU)) (fun hc=>?_);have hb1:b1=true:=by cases b1<;>simp at hc⊢
 rw[hb1] at h1;have ht:=azF hb (fun e h=>(he e h).2.2.2.1) h1;have hev:∀e∈l,zZ e n:=fun e h=>⟨(he e h).1,(he e h).2.1,(he e h).2.2.1,(he e h).2.2.2.1,ht e h,(he e h).2.2.2.2⟩;obtain⟨f,f1,f2⟩:=azX hn hs hl hb hev;refine fK ⟨f,f1,fK ⟨e0,he0,kM fun h=>f2 ?_⟩⟩;have h0:e0=0:=yP
 subst h0;unfold adu;rw[akT];exact bs he0 rfl
end Sh
end
section
open Go aR
namespace So
variable {J β:Type}
theorem ko {c:Bool}{o r:Option β}(h:c=true)(k:o=r):(bif c then o else none)=r:=BA
theorem lC {c:Bool}{a b r:β}(h:c=true)(k:a=r):(bif c then a else b)=r:=BA
theorem kr {c:Bool}{a b r:β}(h:c=false)(k:b=r):(bif c then a else b)=r:=BA
theorem bd {γ:Type}{o:Option J}{a:J}{f:J->Option γ}{r:Option γ}(h:o=some a)(k:f a=r):o.bind f=r:=BA
theorem rT (P T:List J)(x:J){i:Int}(h:i=P.length):aK (P++x::T) i=some x:=by subst h;unfold aK;rw[if_pos ⟨RS,Bu⟩];simp
theorem set_mid (P T:List J)(x y:J){i:Int}(h:i=P.length):eX (P++x::T) i y=P++y::T:=by subst h;unfold eX;simp
theorem sZ {l:List J}{i:Int}(h0:0<=i)(h1:i<l.length):decide (0<=i/\i< (l.length:Int))=true:=decide_eq_true ⟨h0,h1⟩
theorem wr {i:Int}(h0: -(2^62)<=i)(h:i<=2^62):wrap .i64 i=i:=Ac
def Pv (key:J->Int)(cmp:J×J->Option Int):Prop:=∀a b,∃r,cmp (a,b)=some r/\(r<0↔key a<key b)
def gX (key:J->Int)(l:List J):Prop:=l.Pairwise fun a b=>key a<=key b
def fM (key:J->Int)(s t:List J):Prop:=∀k:Int,s.filter (fun a=>key a==k)=t.filter (fun a=>key a==k)
def vY (key:J->Int)(x:J):List J->List J
 | []=>[x]|y::r=>if key x<key y then y::vY key x r else x::y::r
def tq (key:J->Int)(x:J)(S:List J):List J:=(vY key x S.reverse).reverse
theorem azZ (key:J->Int)(x y:J)(S:List J):tq key x (S++[y])=if key x<key y then tq key x S++[y] else S++[y]++[x]:=by
 unfold tq;rw[List.reverse_append];show (if key x<key y then y::vY key x S.reverse else x::y::S.reverse).reverse=_;split
 .rw[List.reverse_cons]
 .rw[List.reverse_cons,List.reverse_cons,List.reverse_reverse]
theorem alQ (key:J->Int)(x:J):∀r:List J,(vY key x r).length=r.length+1
 | []=>rfl|y::r=>by
  unfold vY;split
  .rw[List.length_cons,alQ key x r,List.length_cons]
  .rfl
theorem UG (key:J->Int)(x:J)(S:List J):(tq key x S).length=S.length+1:=by unfold tq;rw[List.length_reverse,alQ,List.length_reverse]
theorem alR (key:J->Int)(x z:J):∀r:List J,z∈vY key x r↔z=x\/z∈r
 | []=>by simp[vY]|y::r=>by
  unfold vY;split
  .rw[iC,alR key x z r,iC];constructor
   .rintro (h|h|h)
    .exact .inr (.inl h)
    .exact .inl h
    .exact .inr (.inr h)
   .rintro (h|h|h)
    .exact .inr (.inl h)
    .exact .inl h
    .exact .inr (.inr h)
  .rw[iC]
theorem alS (key:J->Int)(x:J):∀r:List J,r.Pairwise (fun a b=>key b<=key a)->(vY key x r).Pairwise (fun a b=>key b<=key a)
 | [],_=>by simp[vY]|y::r,h=>by
  rw[List.pairwise_cons] at h;unfold vY;split
  .rename_i hlt;rw[List.pairwise_cons];refine⟨fun z hz=>?_,alS key x r h.2⟩;rcases (alR key x z r).1 hz with rfl|hz
   .omega
   .exact h.1 z hz
  .rename_i hlt;rw[List.pairwise_cons,List.pairwise_cons];refine⟨fun z hz=>?_,h⟩;rcases iC.1 hz with rfl|hz
   .omega
   .have:=h.1 z hz;omega
theorem alT (key:J->Int)(x:J)(k:Int):∀r:List J,(vY key x r).filter (fun a=>key a==k)=(x::r).filter (fun a=>key a==k)
 | []=>rfl|y::r=>by
  unfold vY;split
  .rename_i hlt;rw[List.filter_cons,alT key x k r];by_cases hy:key y=k
   .have hx:¬key x=k:=RS;simp[List.filter_cons,hx,hy]
   .simp[List.filter_cons,hy]
  .rfl
theorem az0 (key:J->Int)(x:J){S:List J}(h:gX key S):gX key (tq key x S):=by unfold gX tq at*;rw[List.pairwise_reverse];exact alS key x _ (by rw[List.pairwise_reverse];exact h)
theorem az1 (key:J->Int)(x:J)(S:List J):fM key (tq key x S) (S++[x]):=by intro k;unfold tq;rw[List.filter_reverse,alT,<-List.filter_reverse,List.reverse_cons,List.reverse_reverse]
def z8 (key:J->Int):List J->List J->List J
 |S,[]=>S|S,x::U=>z8 key (tq key x S) U
theorem alU (key:J->Int):∀(U S:List J),gX key S->gX key (z8 key S U)/\fM key (z8 key S U) (S++U)/\(z8 key S U).length=S.length+U.length
 | [],S,h=>⟨h,by rw[iV];exact fun _=>rfl,rfl⟩
 |x::U,S,h=>by
  obtain⟨h1,h2,h3⟩:=alU key U (tq key x S) (az0 key x h);refine⟨h1,fun k=>?_,?_⟩
  .rw[show z8 key S (x::U)=z8 key (tq key x S) U from rfl,h2 k,BK,az1 key x S k,<-BK,eZ];rfl
  .rw[show z8 key S (x::U)=z8 key (tq key x S) U from rfl,h3,UG,List.length_cons];omega
section
variable {key:J->Int}{cmp:J×J->Option Int}(hc:Pv key cmp){L4:Int->Int->Int->Nat->Int×List J->Option (PUnit×List J)}(h4:∀(x1 x2 x4:Int) (m:Nat) (x6:Int) (x7:List J),L4 x1 x2 x4 (m+1) (x6,x7)=bif decide (x6>x1) then bif decide (0<=x6/\x6< (x7.length:Int)) then (aK x7 x6).bind fun (r8:J)=>bif decide (0<=(wrap .i64 (x6-(1:Int)))/\(wrap .i64 (x6-(1:Int)))< (x7.length:Int)) then (aK x7 (wrap .i64 (x6-(1:Int)))).bind fun (bW:J)=>(cmp (r8,bW)).bind fun (cZ:Int)=>bif decide (cZ< (0:Int)) then bif decide (0<=(wrap .i64 (x6-(1:Int)))/\(wrap .i64 (x6-(1:Int)))< (x7.length:Int)) then (aK x7 (wrap .i64 (x6-(1:Int)))).bind fun (d9:J)=>bif decide (0<=x6/\x6< (x7.length:Int)) then (aK x7 x6).bind fun (iq:J)=>bif decide (0<=x6/\x6< (x7.length:Int)) then (aK x7 x6).bind fun (_:J)=>bif decide (0<=(wrap .i64 (x6-(1:Int)))/\(wrap .i64 (x6-(1:Int)))< (((eX x7 x6 d9).length:Nat):Int)) then (aK (eX x7 x6 d9) (wrap .i64 (x6-(1:Int)))).bind fun (_:J)=>
           L4 x1 x2 x4 m ((wrap .i64 (x6-(1:Int)),eX (eX x7 x6 d9) (wrap .i64 (x6-(1:Int))) iq))else none else none else none else none else some (((),x7))else none else none else some (((),x7)))
include hc h4
theorem az2 {A:List J}{x:J}{x2 x4:Int}:∀(k:Nat)(S:List J),S.length=k->∀(T:List J)(m:Nat),(A++(S++x::T)).length<2^62->k<m->
 L4 A.length x2 x4 m (((A.length+S.length:Nat):Int),A++(S++x::T))=some ((),A++(tq key x S++T)):=by
 intro k;induction k with
 |zero=>intro S hS T m hb hm;obtain rfl:=lF hS;obtain⟨m,rfl⟩:∃m',m=m'+1:=⟨m-1,RS⟩;rw[h4];exact kr aB rfl
 |succ k ih=>
  intro S hS T m hb hm;obtain⟨m,rfl⟩:∃m',m=m'+1:=⟨m-1,RS⟩;obtain⟨S,y,rfl⟩:∃S' y,S=S'++[y]:=by
   have hne:S≠[]:=by rintro rfl;simp at hS
   exact⟨S.dropLast,S.getLast hne,(List.dropLast_concat_getLast hne).symm⟩
  have hS':S.length=k:=by simpa using hS
  have hl:A++((S++[y])++x::T)=(A++S)++y::x::T:=aB
  have hl2:A++((S++[y])++x::T)=(A++S++[y])++x::T:=aB
  have hlen:((A.length+(S++[y]).length:Nat):Int)=((A++S++[y]).length:Nat):=by simp[oG]
  have hb':(A++S).length+1+(x::T).length<2^62:=by rw[hl] at hb;simp only[iP,List.length_cons] at hb⊢;omega
  have hw:wrap .i64 (((A.length+(S++[y]).length:Nat):Int)-(1:Int))=((A++S).length:Nat):=by rw[wr RS KF];simp only[iP,List.length_cons,List.length_nil];omega
  have d1:decide ((0:Int)<=((A.length+(S++[y]).length:Nat):Int)/\((A.length+(S++[y]).length:Nat):Int)< (((A++((S++[y])++x::T)).length:Nat):Int))=true:=sZ RS pW;have d2:decide ((0:Int)<=(((A++S).length:Nat):Int)/\(((A++S).length:Nat):Int)< (((A++((S++[y])++x::T)).length:Nat):Int))=true:=sZ RS pW;have i1:aK (A++((S++[y])++x::T)) ((A.length+(S++[y]).length:Nat):Int)=some x:=by rw[hl2];exact rT _ _ _ hlen
  have i2:aK (A++((S++[y])++x::T)) (((A++S).length:Nat):Int)=some y:=by rw[hl];exact rT _ _ _ rfl
  have s1:eX (A++((S++[y])++x::T)) ((A.length+(S++[y]).length:Nat):Int) y=(A++S)++y::y::T:=by rw[hl2,set_mid _ _ _ _ hlen];simp
  obtain⟨r,hr,yM⟩:=hc x y;rw[h4,hw];refine lC (decide_eq_true dP) (ko d1 (bd i1 (ko d2 (bd i2 (bd hr ?_)))));rw[azZ];by_cases hk:key x<key y
  .rw[if_pos hk];refine lC (decide_eq_true (yM.2 hk)) (ko d2 (bd i2 (ko d1 (bd i1 (ko d1 (bd i1 ?_))))));rw[s1];refine ko (sZ RS dP) (bd (rT _ _ _ rfl) ?_);rw[set_mid _ _ _ _ rfl];have:=ih S hS' (y::T) m (by simp only[iP,List.length_cons] at hb'⊢;omega) RS;rw[show ((A.length+S.length:Nat):Int)=(((A++S).length:Nat):Int) by rw[iP]] at this;rw[eZ,this];simp
  .rw[if_neg hk];refine kr (decide_eq_false fun h=>hk (yM.1 h)) ?_;simp
variable {n:Nat}{L1:Int->Int->Nat->Int×List J->Option (PUnit×List J)}(h1:∀(x1 x2:Int) (m:Nat) (x4:Int) (x5:List J),L1 x1 x2 (m+1) (x4,x5)=bif decide (x4<x2) then (L4 x1 x2 x4 n ((x4,x5))).bind fun (fP:PUnit×List J)=>
    L1 x1 x2 m ((wrap .i64 (x4+(1:Int)),fP.2))else some (((),x5)))
include h1
theorem az3 {A B:List J}:∀(U S:List J)(m:Nat),(A++(S++(U++B))).length<2^62->U.length<m->(S++U).length<n->
 L1 A.length ((A.length+S.length+U.length:Nat):Int) m (((A.length+S.length:Nat):Int),A++(S++(U++B)))=some ((),A++(z8 key S U++B)):=by
 intro U;induction U with
 |nil=>intro S m hb hm hn;obtain⟨m,rfl⟩:∃m',m=m'+1:=⟨m-1,RS⟩;rw[h1];exact kr aB rfl
 |cons x U ih=>
  intro S m hb hm hn;obtain⟨m,rfl⟩:∃m',m=m'+1:=⟨m-1,RS⟩;rw[h1];refine lC (decide_eq_true PL) (bd (az2 hc h4 S.length S rfl (U++B) n hb (by simp only[iP,List.length_cons] at hn;omega)) ?_);have:=ih (tq key x S) m (by simp only[iP,List.length_cons,UG] at hb⊢;omega) (by simp only[List.length_cons] at hm;omega) (by simp only[iP,List.length_cons,UG] at hn⊢;omega);rw[UG] at this;rw[show ((A.length+S.length+(x::U).length:Nat):Int)=((A.length+(S.length+1)+U.length:Nat):Int) by rw[List.length_cons];omega,
   wr RS (by simp only[iP,List.length_cons] at hb;omega),show ((A.length+S.length:Nat):Int)+(1:Int)=((A.length+(S.length+1):Nat):Int) by omega]
  exact this
theorem az4 {A W B:List J}(hb:(A++(W++B)).length<2^61)(hn:W.length+1<n):∃W',gX key W'/\fM key W' W/\W'.length=W.length/\
 L1 A.length ((A.length+W.length:Nat):Int) n (wrap .i64 ((A.length:Nat)+(1:Int)),A++(W++B))=some ((),A++(W'++B)):=by
 have hA:A.length<2^61:=by simp only[iP] at hb;omega
 cases W with
 |nil=>obtain⟨m,rfl⟩:∃m',n=m'+1:=⟨n-1,RS⟩;refine⟨[],List.Pairwise.nil,fun _=>rfl,rfl,?_⟩;rw[h1,wr RS RS];exact kr (decide_eq_false PN) rfl
 |cons x U=>obtain⟨g1,g2,g3⟩:=alU key U [x] (List.pairwise_singleton _ _);refine⟨z8 key [x] U,g1,g2,by rw[g3,List.length_cons,List.length_cons,List.length_nil];omega,?_⟩;have:=az3 hc h4 h1 (A:=A) (B:=B) U [x] n (by simp only[iP,List.length_cons,List.length_nil] at hb⊢;omega) (by simp only[List.length_cons] at hn;omega) (by simp only[iP,List.length_cons,List.length_nil] at hn⊢;omega);rw[wr RS RS];rw[show ((A.length+(x::U).length:Nat):Int)=((A.length+[x].length+U.length:Nat):Int) by simp only[List.length_cons,List.length_nil];omega];exact this
end
end So
end
section
open Go aR
namespace So
variable {J:Type}
section
variable {L1:Int->Int->Int->Nat->Int×List J->Option (PUnit×List J)}(h1:∀(x1 x2 x3:Int) (m:Nat) (x5:Int) (x6:List J),L1 x1 x2 x3 (m+1) (x5,x6)=bif decide (x5<x3) then bif decide (0<=(wrap .i64 (x2+x5))/\(wrap .i64 (x2+x5))< (x6.length:Int)) then (aK x6 (wrap .i64 (x2+x5))).bind fun (r7:J)=>bif decide (0<=(wrap .i64 (x1+x5))/\(wrap .i64 (x1+x5))< (x6.length:Int)) then (aK x6 (wrap .i64 (x1+x5))).bind fun (r8:J)=>bif decide (0<=(wrap .i64 (x1+x5))/\(wrap .i64 (x1+x5))< (x6.length:Int)) then (aK x6 (wrap .i64 (x1+x5))).bind fun (bW:J)=>bif decide (0<=(wrap .i64 (x2+x5))/\(wrap .i64 (x2+x5))< (((eX x6 (wrap .i64 (x1+x5)) r7).length:Nat):Int)) then (aK (eX x6 (wrap .i64 (x1+x5)) r7) (wrap .i64 (x2+x5))).bind fun (cZ:J)=>
        L1 x1 x2 x3 m ((wrap .i64 (x5+(1:Int)),eX (eX x6 (wrap .i64 (x1+x5)) r7) (wrap .i64 (x2+x5)) r8))else none else none else none else none else some (((),x6)))
include h1
theorem alV {A M B:List J}:∀(X2 nD gN X1:List J)(m:Nat),X2.length=nD.length->gN.length=X1.length->(A++(gN++X2)++M++(X1++nD)++B).length<2^61->X2.length<m->
 L1 A.length ((A.length+(gN.length+X2.length)+M.length:Nat):Int) ((gN.length+X2.length:Nat):Int) m ((gN.length:Nat),A++(gN++X2)++M++(X1++nD)++B)=some ((),A++(gN++nD)++M++(X1++X2)++B)
 | [],[],gN,X1,m,_,_,_,hm=>by obtain⟨m,rfl⟩:∃m',m=m'+1:=⟨m-1,RS⟩;rw[h1];exact kr (decide_eq_false PN) rfl
 |x::X2,y::nD,gN,X1,m,h2,h3,hb,hm=>by
  obtain⟨m,rfl⟩:∃m',m=m'+1:=⟨m-1,RS⟩;simp only[iP,List.length_cons] at hb h2 hm;rw[h1];have ea:wrap .i64 ((A.length:Int)+(gN.length:Int))=((A++gN).length:Nat):=by rw[wr RS RS];simp
  have eb:wrap .i64 (((A.length+(gN.length+(x::X2).length)+M.length:Nat):Int)+(gN.length:Int))=((A++(gN++x::X2)++M++X1).length:Nat):=by rw[wr RS PL];simp only[iP,List.length_cons];omega
  have el:A++(gN++x::X2)++M++(X1++y::nD)++B=(A++gN)++x::(X2++M++X1++y::(nD++B)):=aB
  have er:A++(gN++x::X2)++M++(X1++y::nD)++B=(A++(gN++x::X2)++M++X1)++y::(nD++B):=aB
  have ia:aK (A++(gN++x::X2)++M++(X1++y::nD)++B) (((A++gN).length:Nat):Int)=some x:=by rw[el];exact rT _ _ _ rfl
  have ib:aK (A++(gN++x::X2)++M++(X1++y::nD)++B) (((A++(gN++x::X2)++M++X1).length:Nat):Int)=some y:=by rw[er];exact rT _ _ _ rfl
  have sa:eX (A++(gN++x::X2)++M++(X1++y::nD)++B) (((A++gN).length:Nat):Int) y=(A++(gN++y::X2)++M++X1)++y::(nD++B):=by rw[el,set_mid _ _ _ _ rfl];simp
  have az5:(((A++(gN++x::X2)++M++X1).length:Nat):Int)=(((A++(gN++y::X2)++M++X1).length:Nat):Int):=aB
  have d1:decide ((0:Int)<=(((A++gN).length:Nat):Int)/\(((A++gN).length:Nat):Int)< (((A++(gN++x::X2)++M++(X1++y::nD)++B).length:Nat):Int))=true:=sZ RS Bu;have d2:decide ((0:Int)<=(((A++(gN++x::X2)++M++X1).length:Nat):Int)/\(((A++(gN++x::X2)++M++X1).length:Nat):Int)< (((A++(gN++x::X2)++M++(X1++y::nD)++B).length:Nat):Int))=true:=sZ RS Bu;refine lC (decide_eq_true PL) ?_;rw[ea,eb];refine ko d2 (bd ib (ko d1 (bd ia (ko d1 (bd ia ?_)))));rw[sa,az5];refine ko (sZ RS Bu) (bd (rT _ _ _ rfl) ?_);rw[set_mid _ _ _ _ rfl];have:=alV (A:=A) (M:=M) (B:=B) X2 nD (gN++[y]) (X1++[x]) m RS (by simp[h3]) pW RS;rw[wr RS RS];simp only[iP,List.length_cons,List.length_nil,eZ,List.cons_append,List.nil_append] at this⊢;rw[show ((A.length+(gN.length+(X2.length+1))+M.length:Nat):Int)=((A.length+(gN.length+(0+1)+X2.length)+M.length:Nat):Int) by omega,show ((gN.length+(X2.length+1):Nat):Int)=((gN.length+(0+1)+X2.length:Nat):Int) by omega];exact this
end
section
variable {n:Nat}{Pw:Unit×Int×Int×Int×(Unit×Unit)->List J->Option (PUnit×List J)}(hs:∀(A X M Y B:List J),X.length=Y.length->(A++X++M++Y++B).length<2^61->X.length<n->Pw ((),(A.length:Int),((A.length+X.length+M.length:Nat):Int),(X.length:Int),((),())) (A++X++M++Y++B)=some ((),A++Y++M++X++B)){L2:Int->Nat->(Int×Int)×List J->Option (Int×List J)}(h2:∀(x2:Int) (m:Nat) (x5 x6:Int) (x7:List J),L2 x2 (m+1) ((x5,x6),x7)=bif x5 !=x6 then bif decide (x5>x6) then (Pw (((),(wrap .i64 (x2-x5),(x2,(x6,((),())))))) x7).bind fun (r8:PUnit×List J)=>
     L2 x2 m (((wrap .i64 (x5-x6),x6),r8.2))else (Pw (((),(wrap .i64 (x2-x5),(wrap .i64 ((wrap .i64 (x2+x6))-x5),(x5,((),())))))) x7).bind fun (bW:PUnit×List J)=>
     L2 x2 m (((x5,wrap .i64 (x6-x5)),bW.2))else some ((x5,x7)))
include hs h2
theorem az6 {A B:List J}{m0:Int}:∀(k:Nat)(P X Y Q:List J)(m:Nat),X.length+Y.length=k->0<X.length->0<Y.length->m0=(A.length+P.length+X.length:Nat)->(A++(P++X++Y++Q)++B).length<2^61->k<m->k<n->
 ∃(P' X' Y' Q':List J),L2 m0 m (((X.length:Int),(Y.length:Int)),A++(P++X++Y++Q)++B)=some (((X'.length:Nat):Int),A++(P'++X'++Y'++Q')++B)/\X'.length=Y'.length/\m0=(A.length+P'.length+X'.length:Nat)/\P'++Y'++X'++Q'=P++Y++X++Q/\X'.length<=k:=by
 intro k;induction k using Nat.strongRecOn with
 |_ k ih=>
  intro P X Y Q m hk hx hy hm0 hb hm hn;obtain⟨m,rfl⟩:∃m',m=m'+1:=⟨m-1,RS⟩;simp only[iP] at hb;rw[h2];by_cases e:X.length=Y.length
  .refine⟨P,X,Y,Q,kr Eb rfl,e,hm0,rfl,RS⟩
  .rcases Nat.lt_or_gt_of_ne e with hlt|hgt
   ·
    have hY:=(qz (Y.length-X.length) Y).symm;generalize az7:Y.take (Y.length-X.length)=gN at hY;generalize hY2:Y.drop (Y.length-X.length)=nD at hY;have l1:gN.length=Y.length-X.length:=(by rw[<-az7,jV];omega);have l2:nD.length=X.length:=(by rw[<-hY2,nV];omega);have sp:=hs (A++P) X gN nD (Q++B) l2.symm pX RS;obtain⟨P',X',Y',Q',g1,g2,g3,g4,g5⟩:=ih (nD.length+gN.length) RS P nD gN (X++Q) m rfl RS RS RS pX RS RS;refine⟨P',X',Y',Q',lC (by simp[e];omega) (kr (decide_eq_false RS) (bd (a:=((),A++P++nD++gN++X++(Q++B))) ?_ ?_)),g2,g3,?_,RS⟩
    .rw[wr (i:=m0-(X.length:Int)) RS RS,wr (i:=m0+(Y.length:Int)) RS RS,wr (i:=m0+(Y.length:Int)-(X.length:Int)) RS RS,
      show m0-(X.length:Int)=((A++P).length:Nat) by rw[hm0];simp only[iP];omega,show m0+(Y.length:Int)-(X.length:Int)=(((A++P).length+X.length+gN.length:Nat):Int) by rw[hm0];simp only[iP];omega]
     rw[show A++(P++X++Y++Q)++B=A++P++X++gN++nD++(Q++B) by rw[hY];simp];exact sp
    .rw[wr RS RS,show (Y.length:Int)-(X.length:Int)=(gN.length:Int) by omega,<-l2];rw[<-g1];simp
    .rw[g4,hY];simp
   ·
    have hX:=(qz Y.length X).symm;generalize hX1:X.take Y.length=X1 at hX;generalize hX2:X.drop Y.length=X2 at hX;have l1:X1.length=Y.length:=(by rw[<-hX1,jV];omega);have l2:X2.length=X.length-Y.length:=(by rw[<-hX2,nV]);have sp:=hs (A++P) X1 X2 Y (Q++B) l1 pX RS;obtain⟨P',X',Y',Q',g1,g2,g3,g4,g5⟩:=ih (X2.length+X1.length) RS (P++Y) X2 X1 Q m rfl RS RS (by rw[hm0];simp only[iP];omega) pX RS RS;refine⟨P',X',Y',Q',lC (by simp[e];omega) (lC (decide_eq_true RS) (bd (a:=((),A++P++Y++X2++X1++(Q++B))) ?_ ?_)),g2,g3,?_,RS⟩
    .rw[wr (i:=m0-(X.length:Int)) RS RS,
      show m0-(X.length:Int)=((A++P).length:Nat) by rw[hm0];simp only[iP];omega,show m0=(((A++P).length+X1.length+X2.length:Nat):Int) by rw[hm0];simp only[iP];omega,<-l1]
     rw[show A++(P++X++Y++Q)++B=A++P++X1++X2++Y++(Q++B) by rw[hX];simp];exact sp
    .rw[wr RS RS,show (X.length:Int)-(Y.length:Int)=(X2.length:Int) by omega,<-l1];rw[<-g1];simp
    .rw[g4,hX];simp
theorem az8 {A U V B:List J}(hu:0<U.length)(hv:0<V.length)(hb:(A++(U++V)++B).length<2^61)(hn:U.length+V.length<n):((L2 ((A.length+U.length:Nat):Int) n (((U.length:Int),(V.length:Int)),A++(U++V)++B)).bind fun (cZ:Int×List J)=>(Pw (((),(wrap .i64 (((A.length+U.length:Nat):Int)-cZ.1),(((A.length+U.length:Nat):Int),(cZ.1,((),())))))) cZ.2).bind fun (d9:PUnit×List J)=>some (((),d9.2):PUnit×List J))=some ((),A++(V++U)++B):=by
 obtain⟨P',X',Y',Q',g1,g2,g3,g4,g5⟩:=az6 hs h2 (A:=A) (B:=B) (m0:=((A.length+U.length:Nat):Int)) _ [] U V [] n rfl hu hv aB Gg hn hn;have hl:=congrArg List.length g4;simp only[iP,List.length_nil,nX,Nat.add_zero] at hl hb;refine bd (a:=(((X'.length:Nat):Int),A++(P'++X'++Y'++Q')++B)) (by rw[<-g1];simp) ?_;have sp:=hs (A++P') X' [] Y' (Q'++B) g2 (by simp only[iP,List.length_nil];omega) RS;rw[wr RS RS];refine bd (a:=((),A++P'++Y'++[]++X'++(Q'++B))) ?_ ?_
 .rw[show ((A.length+U.length:Nat):Int)-((X'.length:Nat):Int)=((A++P').length:Nat) by rw[g3];simp only[iP];omega,show ((A.length+U.length:Nat):Int)=(((A++P').length+X'.length+([]:List J).length:Nat):Int) by rw[g3];simp only[iP,List.length_nil];omega];rw[show A++(P'++X'++Y'++Q')++B=A++P'++X'++[]++Y'++(Q'++B) by simp];exact sp
 .have:A++P'++Y'++[]++X'++(Q'++B)=A++(P'++Y'++X'++Q')++B:=aB
  rw[this,g4];simp
end
end So
end
section
open Go aR
namespace So
variable {J:Type}
theorem az9 {a:Int}(h0:0<=a)(h:a<2^62):wrap .i64 (aH .u64 (wrap .u64 (wrap .i64 a)) (1:Int))=a/2:=by rw[show wrap .i64 a=a from wr RS RS,IntKind.wrap_u64];have e:aH .u64 (a% 18446744073709551616) 1=(a% 18446744073709551616).fdiv (2^1):=rfl;rw[e,Int.fdiv_eq_ediv_of_nonneg _ RS];rw[wr RS RS];omega
theorem bsearch {L:Nat->Int×Int->Option Int}(P:Nat->Prop)(lo hi:Nat)(hstep:∀(m i j:Nat),lo<=i->i<j->j<=hi->(P ((i+j)/2)->L (m+1) ((i:Int),(j:Int))=L m ((((i+j)/2+1:Nat):Int),(j:Int)))/\(¬P ((i+j)/2)->L (m+1) ((i:Int),(j:Int))=L m ((i:Int),(((i+j)/2:Nat):Int))))(hend:∀(m i:Nat),L (m+1) ((i:Int),(i:Int))=some (i:Int)):∀(k i j m:Nat),lo<=i->i<=j->j<=hi->j-i=k->k<m->∃r:Nat,L m ((i:Int),(j:Int))=some (r:Int)/\i<=r/\r<=j/\(i<r->P (r-1))/\(r<j->¬P r):=by
 intro k;induction k using Nat.strongRecOn with
 |_ k ih=>
  intro i j m hl hij hh hk hm;obtain⟨m,rfl⟩:∃m',m=m'+1:=⟨m-1,RS⟩;rcases Nat.eq_or_lt_of_le hij with rfl|hlt
  .exact⟨i,hend m i,mF _,mF _,fun h=>absurd h (Nat.lt_irrefl _),fun h=>absurd h (Nat.lt_irrefl _)⟩
  .obtain⟨s1,s2⟩:=hstep m i j hl hlt hh;by_cases hp:P ((i+j)/2)
   .obtain⟨r,h1,h2,h3,h4,h5⟩:=ih (j-((i+j)/2+1)) RS ((i+j)/2+1) j m RS RS hh rfl RS;refine⟨r,(s1 hp).trans h1,RS,h3,fun _=>?_,h5⟩;rcases Nat.eq_or_lt_of_le h2 with e|e
    .rw[<-e];exact hp
    .exact h4 e
   .obtain⟨r,h1,h2,h3,h4,h5⟩:=ih ((i+j)/2-i) RS i ((i+j)/2) m hl RS RS rfl RS;refine⟨r,(s2 hp).trans h1,h2,RS,h4,fun _=>?_⟩;rcases Nat.eq_or_lt_of_le h3 with e|e
    .rw[e];exact hp
    .exact h5 e
theorem UH {l:List J}{i:Nat}{x:J}(h:l[i]? =some x):aK l (i:Int)=some x:=by
 have hi:i<l.length:=by rw[qx] at h;exact h.1
 unfold aK;rw[if_pos ⟨RS,RS⟩];simpa using h
theorem Kw {l:List J}{i:Nat}(h:i<l.length):decide ((0:Int)<=(i:Int)/\(i:Int)< (l.length:Int))=true:=sZ RS RS
theorem gX.le {key:J->Int}{l:List J}(h:gX key l){i j:Nat}{x y:J}(hij:i<=j)(hx:l[i]? =some x)(hy:l[j]? =some y):key x<=key y:=by
 rw[qx] at hx hy;obtain⟨h1,rfl⟩:=hx;obtain⟨h2,rfl⟩:=hy;rcases Nat.eq_or_lt_of_le hij with rfl|hlt
 .exact yV _
 .exact(List.pairwise_iff_getElem.1 h) i j h1 h2 hlt
section
variable {uN:Nat->Int->Nat->Int×List J->Option (PUnit×List J)}(h9:∀(g:Nat) (cZ:Int) (m:Nat) (dI:Int) (gL:List J),uN g cZ (m+1) (dI,gL)=bif decide (dI< (wrap .i64 (cZ-(1:Int)))) then bif decide (0<=(wrap .i64 (dI+(1:Int)))/\(wrap .i64 (dI+(1:Int)))< (gL.length:Int)) then (aK gL (wrap .i64 (dI+(1:Int)))).bind fun (eH:J)=>bif decide (0<=dI/\dI< (gL.length:Int)) then (aK gL dI).bind fun (iw:J)=>bif decide (0<=dI/\dI< (gL.length:Int)) then (aK gL dI).bind fun (fP:J)=>bif decide (0<=(wrap .i64 (dI+(1:Int)))/\(wrap .i64 (dI+(1:Int)))< (((eX gL dI eH).length:Nat):Int)) then (aK (eX gL dI eH) (wrap .i64 (dI+(1:Int)))).bind fun (r16:J)=>
        uN g cZ m ((wrap .i64 (dI+(1:Int)),eX (eX gL dI eH) (wrap .i64 (dI+(1:Int))) iw))else none else none else none else none else some (((),gL)))
include h9
theorem fwd {g:Nat}{x:J}{B:List J}:∀(V A:List J)(m:Nat),(A++x::(V++B)).length<2^61->V.length<m->
 uN g ((A.length+1+V.length:Nat):Int) m ((A.length:Int),A++x::(V++B))=some ((),A++(V++x::B))
 | [],A,m,hb,hm=>by obtain⟨m,rfl⟩:∃m',m=m'+1:=⟨m-1,RS⟩;simp only[iP,List.length_cons] at hb;rw[h9,show wrap .i64 (((A.length+1+([]:List J).length:Nat):Int)-(1:Int))=(A.length:Int) by rw[wr RS PN];simp only[List.length_nil];omega];exact kr (decide_eq_false RS) rfl
 |y::V,A,m,hb,hm=>by
  obtain⟨m,rfl⟩:∃m',m=m'+1:=⟨m-1,RS⟩;simp only[iP,List.length_cons] at hb hm;have e1:wrap .i64 ((A.length:Int)+(1:Int))=((A++[x]).length:Nat):=by rw[wr RS RS];simp
  have el:A++x::((y::V)++B)=(A++[x])++y::(V++B):=aB
  rw[h9,e1,show wrap .i64 (((A.length+1+(y::V).length:Nat):Int)-(1:Int))=((A.length+1+V.length:Nat):Int) by rw[wr RS PL];simp only[List.length_cons];omega];refine lC (decide_eq_true RS) ?_;refine ko (sZ RS pW) (bd (a:=y) (by rw[el];exact rT _ _ _ rfl) ?_);refine ko (sZ RS pW) (bd (a:=x) (rT _ _ _ rfl) ?_);refine ko (sZ RS pW) (bd (a:=x) (rT _ _ _ rfl) ?_);rw[set_mid _ _ _ _ rfl,show A++y::((y::V)++B)=(A++[y])++y::(V++B) by simp,show (((A++[x]).length:Nat):Int)=(((A++[y]).length:Nat):Int) by simp];refine ko (sZ RS pW) (bd (rT _ _ _ rfl) ?_);rw[set_mid _ _ _ _ rfl];have:=fwd (g:=g) (x:=x) (B:=B) V (A++[y]) m pW RS;rw[show ((A.length+1+(y::V).length:Nat):Int)=(((A++[y]).length+1+V.length:Nat):Int) by simp only[iP,List.length_cons,List.length_nil];omega,this];simp
end
section
variable {DZ:Nat->Int->Nat->Int×List J->Option (PUnit×List J)}(h21:∀(g:Nat) (oV:Int) (m:Nat) (x24:Int) (x25:List J),DZ g oV (m+1) (x24,x25)=bif decide (x24>oV) then bif decide (0<=(wrap .i64 (x24-(1:Int)))/\(wrap .i64 (x24-(1:Int)))< (x25.length:Int)) then (aK x25 (wrap .i64 (x24-(1:Int)))).bind fun (vV:J)=>bif decide (0<=x24/\x24< (x25.length:Int)) then (aK x25 x24).bind fun (FW:J)=>bif decide (0<=x24/\x24< (x25.length:Int)) then (aK x25 x24).bind fun (Uz:J)=>bif decide (0<=(wrap .i64 (x24-(1:Int)))/\(wrap .i64 (x24-(1:Int)))< (((eX x25 x24 vV).length:Nat):Int)) then (aK (eX x25 x24 vV) (wrap .i64 (x24-(1:Int)))).bind fun (UA:J)=>
        DZ g oV m ((wrap .i64 (x24-(1:Int)),eX (eX x25 x24 vV) (wrap .i64 (x24-(1:Int))) FW))else none else none else none else none else some (((),x25)))
include h21
theorem bwd {g:Nat}{x:J}{A:List J}:∀(k:Nat)(U B:List J)(m:Nat),U.length=k->(A++(U++x::B)).length<2^61->U.length<m->
 DZ g (A.length:Int) m (((A.length+U.length:Nat):Int),A++(U++x::B))=some ((),A++(x::(U++B))):=by
 intro k;induction k with
 |zero=>intro U B m hU hb hm;obtain rfl:=lF hU;obtain⟨m,rfl⟩:∃m',m=m'+1:=⟨m-1,RS⟩;rw[h21];exact kr (decide_eq_false PN) rfl
 |succ k ih=>
  intro U B m hU hb hm;obtain⟨m,rfl⟩:∃m',m=m'+1:=⟨m-1,RS⟩;obtain⟨U,y,rfl⟩:∃S' y,U=S'++[y]:=by
   have hne:U≠[]:=by rintro rfl;simp at hU
   exact⟨U.dropLast,U.getLast hne,(List.dropLast_concat_getLast hne).symm⟩
  simp only[iP,List.length_cons,List.length_nil] at hb hm hU;have e1:wrap .i64 (((A.length+(U++[y]).length:Nat):Int)-(1:Int))=((A++U).length:Nat):=by rw[wr RS pW];simp only[iP,List.length_cons,List.length_nil];omega
  have e2:((A.length+(U++[y]).length:Nat):Int)=((A++U++[y]).length:Nat):=pW
  have el:A++((U++[y])++x::B)=(A++U)++y::x::B:=aB
  have er:A++((U++[y])++x::B)=(A++U++[y])++x::B:=aB
  rw[h21,e1];refine lC (decide_eq_true pW) ?_;refine ko (sZ RS pW) (bd (a:=y) (by rw[el];exact rT _ _ _ rfl) ?_);refine ko (sZ RS pW) (bd (a:=x) (by rw[er];exact rT _ _ _ e2) ?_);refine ko (sZ RS pW) (bd (a:=x) (by rw[er];exact rT _ _ _ e2) ?_);rw[er,set_mid _ _ _ _ e2,show A++U++[y]++y::B=(A++U)++y::y::B by simp];refine ko (sZ RS pW) (bd (rT _ _ _ rfl) ?_);rw[set_mid _ _ _ _ rfl];have:=ih U (y::B) m RS pW RS;rw[show (((A++U).length:Nat):Int)=((A.length+U.length:Nat):Int) by rw[iP],eZ,this];simp
end
end So
end
section
open Go aR
namespace So
variable {J:Type}
theorem Px {i j:Nat}(h:i+j<2^61):wrap .i64 (aH .u64 (wrap .u64 (wrap .i64 ((i:Int)+(j:Int)))) (1:Int))=(((i+j)/2:Nat):Int):=by rw[az9 RS RS];omega
theorem UJ {A V B:List J}{h:Nat}(h1:A.length<=h)(h2:h<A.length+V.length):(A++(V++B))[h]? =V[h-A.length]? :=by rw[List.getElem?_append_right h1,KW RS]
theorem adv {l:List J}{k:Nat}{v:J}(h:v∈l.take k):∃i,i<k/\l[i]? =some v:=by
 obtain⟨i,hi⟩:=List.getElem?_of_mem h;rw[List.getElem?_take] at hi;split at hi
 .exact⟨i,by assumption,hi⟩
 .cases hi
theorem adw {l:List J}{k:Nat}{v:J}(h:v∈l.drop k):∃i,k<=i/\l[i]? =some v:=by obtain⟨i,hi⟩:=List.getElem?_of_mem h;rw[List.getElem?_drop] at hi;exact⟨k+i,RS,hi⟩
theorem get_some {l:List J}{i:Nat}(h:i<l.length):∃v,l[i]? =some v:=⟨l[i],gG h⟩
theorem cut {key:J->Int}{V:List J}(hV:gX key V){k:Nat}(Q:Int->Prop)(hQ:∀a b,a<=b->Q b->Q a)(h1:0<k->∃v,V[k-1]? =some v/\Q (key v))(h2:k<V.length->∃v,V[k]? =some v/\¬Q (key v)):(∀v∈V.take k,Q (key v))/\∀v∈V.drop k,¬Q (key v):=by
 refine⟨fun v hv=>?_,fun v hv hq=>?_⟩
 .obtain⟨i,hi,hg⟩:=adv hv;obtain⟨w,hw,adx⟩:=h1 RS;exact hQ _ _ (hV.le RS hg hw) adx
 .obtain⟨i,hi,hg⟩:=adw hv;have hlt:i<V.length:=by rw[qx] at hg;exact hg.1
  obtain⟨w,hw,adx⟩:=h2 RS;exact adx (hQ _ _ (hV.le hi hw hg) hq)
section
variable {key:J->Int}{cmp:J×J->Option Int}(hc:Pv key cmp){n:Nat}
include hc
section
variable {L3:Nat->Int->List J->Nat->Int×Int->Option Int}(h3:∀(g:Nat) (x1:Int) (x4:List J) (m:Nat) (x5 x6:Int),L3 g x1 x4 (m+1) (x5,x6)=bif decide (x5<x6) then bif decide ((0:Int)<=(1:Int)) then bif decide (0<=(wrap .i64 (aH .u64 (wrap .u64 (wrap .i64 (x5+x6))) (1:Int)))/\(wrap .i64 (aH .u64 (wrap .u64 (wrap .i64 (x5+x6))) (1:Int)))< (x4.length:Int)) then (aK x4 (wrap .i64 (aH .u64 (wrap .u64 (wrap .i64 (x5+x6))) (1:Int)))).bind fun (r7:J)=>bif decide (0<=x1/\x1< (x4.length:Int)) then (aK x4 x1).bind fun (r8:J)=>(cmp ((r7,r8))).bind fun (bW:Int)=>bif decide (bW< (0:Int)) then L3 g x1 x4 m ((wrap .i64 ((wrap .i64 (aH .u64 (wrap .u64 (wrap .i64 (x5+x6))) (1:Int)))+(1:Int)),x6))else L3 g x1 x4 m ((x5,wrap .i64 (aH .u64 (wrap .u64 (wrap .i64 (x5+x6))) (1:Int))))else none else none else none else some x5)
include h3
theorem s3 {g:Nat}{A V B:List J}{x:J}(hV:gX key V)(hb:(A++x::(V++B)).length<2^60)(hn:V.length<n):∃V1 V2,V=V1++V2/\L3 g (A.length:Int) (A++x::(V++B)) n (((A.length+1:Nat):Int),((A.length+1+V.length:Nat):Int))=some ((A.length+1+V1.length:Nat):Int)/\(∀v∈V1,key v<key x)/\∀v∈V2,¬key v<key x:=by
 have hD:A++x::(V++B)=(A++[x])++(V++B):=aB
 have hL:(A++[x]).length=A.length+1:=aB
 simp only[iP,List.length_cons] at hb;have hget:∀h,A.length+1<=h->h<A.length+1+V.length->(A++x::(V++B))[h]? =V[h-(A.length+1)]? :=fun h h1 h2=>by rw[hD,<-hL];exact UJ RS RS
 have hx:aK (A++x::(V++B)) (A.length:Int)=some x:=rT _ _ _ rfl;obtain⟨r,e1,e2,e3,e4,e5⟩:=bsearch (L:=fun m p=>L3 g (A.length:Int) (A++x::(V++B)) m p) (fun h=>∃v,V[h-(A.length+1)]? =some v/\key v<key x) (A.length+1) (A.length+1+V.length) (fun m i j hi hj hh=>by
  obtain⟨v,hv⟩:=get_some (l:=V) (i:=(i+j)/2-(A.length+1)) RS;have hv':=(hget ((i+j)/2) RS RS).trans hv;have hlt:(i+j)/2< (A++x::(V++B)).length:=Bu
  obtain⟨r,hr,yM⟩:=hc v x;have pre:∀z,(bif decide (r< (0:Int)) then L3 g (A.length:Int) (A++x::(V++B)) m ((((i+j)/2+1:Nat):Int),(j:Int)) else L3 g (A.length:Int) (A++x::(V++B)) m ((i:Int),(((i+j)/2:Nat):Int)))=z->L3 g (A.length:Int) (A++x::(V++B)) (m+1) ((i:Int),(j:Int))=z:=fun z hz=>by rw[h3,Px RS,show wrap .i64 ((((i+j)/2:Nat):Int)+(1:Int))=(((i+j)/2+1:Nat):Int) by rw[wr RS RS];omega];exact lC (decide_eq_true RS) (ko rfl (ko (Kw hlt) (bd (UH hv') (ko (Kw Bu) (bd hx (bd hr hz))))))
  refine⟨fun hp=>pre _ (lC (decide_eq_true ?_) rfl),fun hp=>pre _ (kr (decide_eq_false fun h=>hp ⟨v,hv,yM.1 h⟩) rfl)⟩;obtain⟨w,hw,hk⟩:=hp;rw[hv] at hw;cases hw;exact yM.2 hk)
  (fun m i=>by show L3 g _ _ (m+1) _=_;rw[h3];exact kr aB rfl) _ (A.length+1) (A.length+1+V.length) n (mF _) RS (mF _) rfl RS
 obtain⟨c1,c2⟩:=cut hV (k:=r-(A.length+1)) (fun z=>z<key x) (fun a b h h'=>RS) (fun h=>by
  obtain⟨v,hv,hk⟩:=e4 RS;exact⟨v,by rw[<-hv];congr 1;omega,hk⟩) (fun h=>by
  obtain⟨v,hv⟩:=get_some h;exact⟨v,hv,fun hk=>e5 RS ⟨v,hv,hk⟩⟩)
 refine⟨_,_,(qz (r-(A.length+1)) V).symm,?_,c1,c2⟩;rw[jV,wC RS,show A.length+1+(r-(A.length+1))=r by omega];exact e1
end
section
variable {tu:Nat->Int->List J->Nat->Int×Int->Option Int}(Ky:∀(g:Nat) (x2:Int) (x4:List J) (m:Nat) (x18 jf:Int),tu g x2 x4 (m+1) (x18,jf)=bif decide (x18<jf) then bif decide ((0:Int)<=(1:Int)) then bif decide (0<=x2/\x2< (x4.length:Int)) then (aK x4 x2).bind fun (FQ:J)=>bif decide (0<=(wrap .i64 (aH .u64 (wrap .u64 (wrap .i64 (x18+jf))) (1:Int)))/\(wrap .i64 (aH .u64 (wrap .u64 (wrap .i64 (x18+jf))) (1:Int)))< (x4.length:Int)) then (aK x4 (wrap .i64 (aH .u64 (wrap .u64 (wrap .i64 (x18+jf))) (1:Int)))).bind fun (iK:J)=>(cmp ((FQ,iK))).bind fun (jg:Int)=>bif !(decide (jg< (0:Int))) then tu g x2 x4 m ((wrap .i64 ((wrap .i64 (aH .u64 (wrap .u64 (wrap .i64 (x18+jf))) (1:Int)))+(1:Int)),jf))else tu g x2 x4 m ((x18,wrap .i64 (aH .u64 (wrap .u64 (wrap .i64 (x18+jf))) (1:Int))))else none else none else none else some x18)
include Ky
theorem s15 {g:Nat}{A U B:List J}{y:J}(hU:gX key U)(hb:(A++(U++y::B)).length<2^60)(hn:U.length<n):∃gY iB,U=gY++iB/\tu g ((A.length+U.length:Nat):Int) (A++(U++y::B)) n ((A.length:Int),((A.length+U.length:Nat):Int))=some ((A.length+gY.length:Nat):Int)/\(∀u∈gY,key u<=key y)/\∀u∈iB,¬key u<=key y:=by
 have hD:A++(U++y::B)=(A++U)++y::B:=aB
 simp only[iP,List.length_cons] at hb;have hget:∀h,A.length<=h->h<A.length+U.length->(A++(U++y::B))[h]? =U[h-A.length]? :=fun h h1 h2=>UJ h1 h2;have hx:aK (A++(U++y::B)) ((A.length+U.length:Nat):Int)=some y:=by rw[hD];exact rT _ _ _ aB
 obtain⟨r,e1,e2,e3,e4,e5⟩:=bsearch (L:=fun m p=>tu g ((A.length+U.length:Nat):Int) (A++(U++y::B)) m p) (fun h=>∃v,U[h-A.length]? =some v/\key v<=key y) A.length (A.length+U.length) (fun m i j hi hj hh=>by
  obtain⟨v,hv⟩:=get_some (l:=U) (i:=(i+j)/2-A.length) RS;have hv':=(hget ((i+j)/2) RS RS).trans hv;have hlt:(i+j)/2< (A++(U++y::B)).length:=Bu
  obtain⟨r,hr,yM⟩:=hc y v;have pre:∀z,(bif !(decide (r< (0:Int))) then tu g ((A.length+U.length:Nat):Int) (A++(U++y::B)) m ((((i+j)/2+1:Nat):Int),(j:Int)) else tu g ((A.length+U.length:Nat):Int) (A++(U++y::B)) m ((i:Int),(((i+j)/2:Nat):Int)))=z->tu g ((A.length+U.length:Nat):Int) (A++(U++y::B)) (m+1) ((i:Int),(j:Int))=z:=fun z hz=>by rw[Ky,Px RS,show wrap .i64 ((((i+j)/2:Nat):Int)+(1:Int))=(((i+j)/2+1:Nat):Int) by rw[wr RS RS];omega];exact lC (decide_eq_true RS) (ko rfl (ko (Kw Bu) (bd hx (ko (Kw hlt) (bd (UH hv') (bd hr hz))))))
  refine⟨fun hp=>pre _ (lC ?_ rfl),fun hp=>pre _ (kr ?_ rfl)⟩
  .obtain⟨w,hw,hk⟩:=hp;rw[hv] at hw;cases hw;rw[decide_eq_false (fun h=>by have:=yM.1 h;omega)];rfl
  .rw[decide_eq_true (yM.2 (Int.not_le.1 fun h=>hp ⟨v,hv,h⟩))];rfl)
  (fun m i=>by show tu g _ _ (m+1) _=_;rw[Ky];exact kr aB rfl) _ A.length (A.length+U.length) n (mF _) RS (mF _) rfl RS
 obtain⟨c1,c2⟩:=cut hU (k:=r-A.length) (fun z=>z<=key y) (fun a b h h'=>RS) (fun h=>by
  obtain⟨v,hv,hk⟩:=e4 RS;exact⟨v,by rw[<-hv];congr 1;omega,hk⟩) (fun h=>by
  obtain⟨v,hv⟩:=get_some h;exact⟨v,hv,fun hk=>e5 RS ⟨v,hv,hk⟩⟩)
 refine⟨_,_,(qz (r-A.length) U).symm,?_,c1,c2⟩;rw[jV,wC RS,show A.length+(r-A.length)=r by omega];exact e1
end
end
end So
end
section
open Go aR
namespace So
variable {J:Type}
theorem fM.mem {key:J->Int}{s t:List J}(h:fM key s t){a:J}(ha:a∈s):a∈t:=by have h1:a∈s.filter (fun x=>key x==key a):=uT.2 ⟨ha,aB⟩;rw[h (key a)] at h1;exact(uT.1 h1).1
theorem fM.refl {key:J->Int}(s:List J):fM key s s:=fun _=>rfl
theorem fM.app {key:J->Int}{s t s' t':List J}(h:fM key s t)(h':fM key s' t'):fM key (s++s') (t++t'):=fun k=>by rw[BK,BK,h k,h' k]
theorem fM.trans {key:J->Int}{s t u:List J}(h:fM key s t)(h':fM key t u):fM key s u:=fun k=>(h k).trans (h' k)
theorem fM.swap {key:J->Int}{s t:List J}(h:∀a∈s,∀b∈t,key a<key b):fM key (s++t) (t++s):=by
 intro k;rw[BK,BK];by_cases hs:s.filter (fun a=>key a==k)=[]
 .rw[hs];simp
 .have:t.filter (fun a=>key a==k)=[]:=by
   obtain⟨a,ha⟩:=List.exists_mem_of_ne_nil _ hs;rw[List.filter_eq_nil_iff];intro b hb hk;obtain⟨h1,h2⟩:=uT.1 ha;have:=h a h1 b hb;have e1:key a=k:=rV
   have e2:key b=k:=by simpa using hk
   omega
  rw[this];simp
theorem gX.app {key:J->Int}{s t:List J}(h:gX key s)(h':gX key t)(hh:∀a∈s,∀b∈t,key a<=key b):gX key (s++t):=List.pairwise_append.2 ⟨h,h',hh⟩
section
variable {key:J->Int}{cmp:J×J->Option Int}(hc:Pv key cmp){n:Nat}{qW:Nat->Int->Int->Int->List J->Nat->Int×Int->Option Int}(Kz:∀(g:Nat) (x1 x2 x3:Int) (x4:List J) (m:Nat) (x31 x32:Int),qW g x1 x2 x3 x4 (m+1) (x31,x32)=bif decide (x31<x32) then bif decide ((0:Int)<=(1:Int)) then bif decide (0<=(wrap .i64 ((wrap .i64 ((wrap .i64 ((wrap .i64 (aH .u64 (wrap .u64 (wrap .i64 (x1+x3))) (1:Int)))+x2))-(1:Int)))-(wrap .i64 (aH .u64 (wrap .u64 (wrap .i64 (x31+x32))) (1:Int)))))/\(wrap .i64 ((wrap .i64 ((wrap .i64 ((wrap .i64 (aH .u64 (wrap .u64 (wrap .i64 (x1+x3))) (1:Int)))+x2))-(1:Int)))-(wrap .i64 (aH .u64 (wrap .u64 (wrap .i64 (x31+x32))) (1:Int)))))< (x4.length:Int)) then (aK x4 (wrap .i64 ((wrap .i64 ((wrap .i64 ((wrap .i64 (aH .u64 (wrap .u64 (wrap .i64 (x1+x3))) (1:Int)))+x2))-(1:Int)))-(wrap .i64 (aH .u64 (wrap .u64 (wrap .i64 (x31+x32))) (1:Int)))))).bind fun (FX:J)=>bif decide (0<=(wrap .i64 (aH .u64 (wrap .u64 (wrap .i64 (x31+x32))) (1:Int)))/\(wrap .i64 (aH .u64 (wrap .u64 (wrap .i64 (x31+x32))) (1:Int)))< (x4.length:Int)) then (aK x4 (wrap .i64 (aH .u64 (wrap .u64 (wrap .i64 (x31+x32))) (1:Int)))).bind fun (FY:J)=>(cmp ((FX,FY))).bind fun (FZ:Int)=>bif !(decide (FZ< (0:Int))) then qW g x1 x2 x3 x4 m ((wrap .i64 ((wrap .i64 (aH .u64 (wrap .u64 (wrap .i64 (x31+x32))) (1:Int)))+(1:Int)),x32))else qW g x1 x2 x3 x4 m ((x31,wrap .i64 (aH .u64 (wrap .u64 (wrap .i64 (x31+x32))) (1:Int))))else none else none else none else some x31)
include hc Kz
theorem aAa {g:Nat}{A U V B:List J}{lo hi mid:Nat}(hmid:mid=(A.length+(A.length+U.length+V.length))/2)(hlo:A.length<=lo)(hhi:hi<=A.length+U.length)(hm1:hi<=mid)(hm2:mid<=lo+V.length)(hlh:lo<=hi)(hb:(A++(U++(V++B))).length<2^59)(hn:U.length+V.length<n):
 ∃s:Nat,qW g (A.length:Int) ((A.length+U.length:Nat):Int) ((A.length+U.length+V.length:Nat):Int) (A++(U++(V++B))) n ((lo:Int),(hi:Int))=some (s:Int)/\lo<=s/\s<=hi/\
  (lo<s->∃u v,U[s-1-A.length]? =some u/\V[mid-s]? =some v/\key u<=key v)/\(s<hi->∃u v,U[s-A.length]? =some u/\V[mid-1-s]? =some v/\key v<key u):=by
 simp only[iP] at hb;have aAb:∀h,A.length<=h->h<A.length+U.length->(A++(U++(V++B)))[h]? =U[h-A.length]? :=fun h h1 h2=>UJ h1 h2;have gv:∀h,A.length+U.length<=h->h<A.length+U.length+V.length->(A++(U++(V++B)))[h]? =V[h-(A.length+U.length)]? :=fun h h1 h2=>by rw[<-eZ,UJ rW rW,iP]
 obtain⟨r,e1,e2,e3,e4,e5⟩:=bsearch (L:=fun m p=>qW g (A.length:Int) ((A.length+U.length:Nat):Int) ((A.length+U.length+V.length:Nat):Int) (A++(U++(V++B))) m p) (fun c=>∃u v,U[c-A.length]? =some u/\V[mid-1-c]? =some v/\key u<=key v) lo hi (fun m i j hi' hj hh=>by
  obtain⟨u,hu⟩:=get_some (l:=U) (i:=(i+j)/2-A.length) RS;obtain⟨v,hv⟩:=get_some (l:=V) (i:=mid-1-(i+j)/2) RS;have hu':=(aAb ((i+j)/2) RS RS).trans hu;have hv':(A++(U++(V++B)))[mid+(A.length+U.length)-1-(i+j)/2]? =some v:=by rw[gv _ RS RS,<-hv];congr 1;omega
  have aAc:(i+j)/2< (A++(U++(V++B))).length:=pX
  have lv:mid+(A.length+U.length)-1-(i+j)/2< (A++(U++(V++B))).length:=pX
  obtain⟨r,hr,yM⟩:=hc v u;have pre:∀z,(bif !(decide (r< (0:Int))) then qW g (A.length:Int) ((A.length+U.length:Nat):Int) ((A.length+U.length+V.length:Nat):Int) (A++(U++(V++B))) m ((((i+j)/2+1:Nat):Int),(j:Int)) else qW g (A.length:Int) ((A.length+U.length:Nat):Int) ((A.length+U.length+V.length:Nat):Int) (A++(U++(V++B))) m ((i:Int),(((i+j)/2:Nat):Int)))=z->qW g (A.length:Int) ((A.length+U.length:Nat):Int) ((A.length+U.length+V.length:Nat):Int) (A++(U++(V++B))) (m+1) ((i:Int),(j:Int))=z:=fun z hz=>by
   rw[Kz,Px (i:=i) (j:=j) RS,Px (i:=A.length) (j:=A.length+U.length+V.length) RS,<-hmid,
    show wrap .i64 ((mid:Int)+((A.length+U.length:Nat):Int))=((mid+(A.length+U.length):Nat):Int) by rw[wr RS RS];omega,
    show wrap .i64 (((mid+(A.length+U.length):Nat):Int)-(1:Int))=((mid+(A.length+U.length)-1:Nat):Int) by rw[wr RS RS];omega,
    show wrap .i64 (((mid+(A.length+U.length)-1:Nat):Int)-(((i+j)/2:Nat):Int))=((mid+(A.length+U.length)-1-(i+j)/2:Nat):Int) by rw[wr RS RS];omega,
    show wrap .i64 ((((i+j)/2:Nat):Int)+(1:Int))=(((i+j)/2+1:Nat):Int) by rw[wr RS RS];omega]
   exact lC (decide_eq_true RS) (ko rfl (ko (Kw lv) (bd (UH hv') (ko (Kw aAc) (bd (UH hu') (bd hr hz))))))
  refine⟨fun hp=>pre _ (lC ?_ rfl),fun hp=>pre _ (kr ?_ rfl)⟩
  .obtain⟨u',v',hu2,hv2,hk⟩:=hp;rw[hu] at hu2;rw[hv] at hv2;cases hu2;cases hv2;rw[decide_eq_false (fun h=>by have:=yM.1 h;omega)];rfl
  .rw[decide_eq_true (yM.2 (Int.not_le.1 fun h=>hp ⟨u,v,hu,hv,h⟩))];rfl)
  (fun m i=>by show qW g _ _ _ _ (m+1) _=_;rw[Kz];exact kr aB rfl) _ lo hi n (mF _) hlh (mF _) rfl RS
 refine⟨r,e1,e2,e3,fun h=>?_,fun h=>?_⟩
 .obtain⟨u,v,h1,h2,h3⟩:=e4 h;exact⟨u,v,h1,by rw[<-h2];congr 1;omega,h3⟩
 .obtain⟨u,hu⟩:=get_some (l:=U) (i:=r-A.length) RS;obtain⟨v,hv⟩:=get_some (l:=V) (i:=mid-1-r) RS;exact⟨u,v,hu,hv,Int.not_le.1 fun hk=>e5 h ⟨u,v,hu,hv,hk⟩⟩
end
end So
end
