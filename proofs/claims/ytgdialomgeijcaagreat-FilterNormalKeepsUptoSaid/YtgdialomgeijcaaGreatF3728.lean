import Derived.Test.YtgdialomgeijcaaGreatF3727
set_option linter.all false
open Go Go.Proofs Aq Pq
namespace Sh
theorem pre_self:∀p:Pred,p∈pre p
 | ⟨op,name,n,m,s,subs⟩=>by rw[pre];exact RJ ..
theorem preL_in:∀{l:List Pred} {x y:Pred},x∈l->y∈pre x->y∈preL l
 | [],_,_,h,_=>by cases h
 |p::l,x,y,h,k=>by
  rw[preL]
  rcases RL.1 h with e|h
  ·rw[<-e];exact Tg _ k
  ·exact Tq _ (preL_in h k)
theorem pre_subs (p:Pred):pre p=p::preL p.Subs:=by cases p;rw[pre]
theorem acc_pre:∀(k:Nat) (p:Pred),szP p<=k->(∀x∈pre p,x.Op=4->x.Subs.length=1)->acc p
 |0,p,hk,_=>by have:=szP_pos p;omega
 |k+1,p,hk,h=>by
  have hs:=szP_subs p
  refine(acc_iff p).2 ⟨h p (pre_self p),fun x hx=>?_⟩
  have:=szL_mem hx
  refine acc_pre k x (by omega) fun y hy=>h y ?_
  rw[pre_subs]
  exact RQ _ (preL_in hx hy)
theorem form_one {x:Pred} (h:formS x=true) (h4:x.Op=4):x.Subs.length=1:=by
 unfold formS at h
 split at h
 ·cases h
 ·split at h
  ·cases h
  ·rw[if_neg (show¬(x.Op=2\/x.Op=3) by omega)] at h
   exact of_decide_eq_true h
theorem check_none {s:Schema}:∀{l:List Pred},(checkL s l).getD 0=0->∀x∈l,formS x=true
 | [],_,_,hx=>by cases hx
 |y::l,h,x,hx=>by
  rw[checkL] at h
  cases hc:checkP s y with
  |some e=>
   rw[hc] at h
   have he:e=0:=h
   unfold checkP at hc
   split at hc
   ·injection hc with hc;omega
   ·split at hc
    ·injection hc with hc;omega
    ·split at hc
     ·cases hc
     ·split at hc
      ·injection hc with hc;omega
      ·split at hc
       ·injection hc with hc;omega
       ·cases hc
  |none=>
   rw[hc] at h
   rcases RL.1 hx with e|hx
   ·rw[e]
    unfold checkP at hc
    split at hc
    ·cases hc
    ·split at hc
     ·cases hc
     ·rename_i h2;simpa using h2
   ·exact check_none h x hx
theorem schema_total {n:Nat} {s:Schema} (h:SmallS s n) (hn:6<n):∃b:Bool,Xj n s=some b:=by
 obtain⟨b,hb⟩:=Zm_total (k:=16) h
 obtain⟨e,he⟩:=whenO_total (c:=b) (o:=Zy n s) (d:=(0:Int)) (fun _=>Zy_total h hn)
 rw[Xj_eq,hb]
 refine⟨_,bs rfl (bs he rfl)⟩
theorem not_spec (n:Nat) (p:Pred):ZS n p=some (notP p):=by
 rw[ZS_eq]
 simp only[Pred.re_eq];rfl
theorem Size_is {n:Nat} {p:Pred} (h:szP p<=128):Zs n p=some ((szP p:Nat):Int):=by
 rw[Zs_spec (by omega),R7 (by rw[pre_len];omega),pre_len]
theorem law37 {n:Nat} {s:Schema} {x:Pred} {l:List Attr} (hs:SmallS s n) (hx:6*szP x<n) (hx2:szP x<2^62) (hl:l.length<n) (hl2:l.length<2^62) (hn:2000<n):Xn n (s,(x,l))=some true:=by
 rw[Xn_eq]
 simp only[Pred.re_eq]
 obtain⟨b1,h1⟩:=schema_total hs (by omega)
 obtain⟨b2,h2⟩:=Zc_total (n:=n) (p:=x) (k:=100) (by omega) hx2
 have hsan:Xd n ()=some true:=Xd_eq n ()
 have hC:=Zt_spec (n:=n) (s:=s) (p:=x) hx2 hs.1 hs.2.1
 refine bs h1 (bs h2 ?_)
 generalize (bif bif !b1 then true else !b2 then true else decide ((l.length:Int)> (20:Int)))=c
 cases c
 case true=>
  refine bs (a:=(0:Int)) rfl ?_
  show (bif true then _ else _)=_
  rw[cond_true]
  exact bs hsan rfl
 case false=>
  refine bs (o:=Zt n (s,x)) hC ?_
  generalize hce:(if ((pre x).take 1000).length>64 then (2:Int) else (checkL s ((pre x).take 1000)).getD 0)=e
  show (bif e !=(0:Int) then _ else _)=_
  by_cases he:e=0
  ·have e0:(e !=(0:Int))=false:=by rw[he];rfl
   rw[e0,cond_false]
   subst he
   split at hce
   ·cases hce
   ·rename_i hlen
    have hsz:szP x<=64:=by rw[R3,pre_len] at hlen;omega
    rw[R7 (by rw[pre_len];omega)] at hce
    have hacc:acc x:=acc_pre _ x (mF _) fun y hy h4=>form_one (check_none hce y hy) h4
    have haccN:acc (nf x false):=acc_nf x false hacc
    have haccO:acc (nf (notP x) false):=by rw[nf_notP];exact acc_nf x true hacc
    have hszN:szP (nf x false)<=2*szP x:=nf_sz x false
    have hszO:szP (nf (notP x) false)<=128:=by
     rw[nf_notP]
     have:=nf_sz x true
     show szP (nf x true)<=128
     omega
    have hoN:OkP n (nf x false):=⟨by omega,by omega⟩
    have eN:=Normal_spec (n:=n) (by omega) hacc (by omega)
    have eN2:=Normal_spec (n:=n) (by omega) haccN (by omega)
    have eNo:=Normal_not (n:=n) (by omega) hacc (by omega)
    have eNo2:=Normal_not (n:=n) (by omega) haccO hszO
    rw[nf_idem] at eN2
    rw[nf_opp] at eNo2
    have hH:∀y,szP y<=128->ZJ n (y,l)=some (holdsS l y):=fun y hy=>ZJ_spec hl hl2 (by omega) (by omega)
    have hw:=nf_holds l x false (acc_wf x hacc)
    have hw2:holdsS l (nf (notP x) false)=(holdsS l x !=true):=by rw[nf_notP];exact nf_holds l x true (acc_wf x hacc)
    refine bs eN (bs (a:=notP x) (not_spec n x) (bs (a:=nf (notP x) false) eNo ?_))
    refine bs (hH _ (by omega)) (bs (hH _ (by omega)) ?_)
    have f1:(holdsS l (nf x false)==holdsS l x)=true:=by rw[hw];cases holdsS l x<;>rfl
    show (bif !(!(holdsS l (nf x false)==holdsS l x)) then _ else _)=_
    rw[f1]
    show Option.bind _ _=_
    refine bs (hH _ hszO) (bs (hH _ (by omega)) ?_)
    have f2:(holdsS l (nf (notP x) false)==holdsS l x)=false:=by rw[hw2];cases holdsS l x<;>rfl
    show (bif !(holdsS l (nf (notP x) false)==holdsS l x) then _ else _)=_
    rw[f2]
    show Option.bind _ _=_
    refine bs (Size_is (by omega)) (bs (Size_is (by omega)) ?_)
    have f3:decide (((szP (nf x false):Nat):Int)>IntKind.wrap .i64 ((2:Int)*((szP x:Nat):Int)))=false:=by
     rw[IntKind.wrap_i64]
     exact decide_eq_false (by omega)
    show (bif decide (((szP (nf x false):Nat):Int)>IntKind.wrap .i64 ((2:Int)*((szP x:Nat):Int))) then _ else _)=_
    rw[f3,cond_false]
    refine bs hsan ?_
    show Option.bind _ _=_
    refine bs eN2 (bs (vC (by omega) hoN.1 hoN.2 hoN.2) ?_)
    have f4:(cmpP (nf x false) (nf x false)==(0:Int))=true:=by rw[cmpP_self];rfl
    show (bif cmpP (nf x false) (nf x false)==(0:Int) then _ else _)=_
    rw[f4,cond_true]
    refine bs (a:=notP (nf (notP x) false)) (not_spec n _) (bs eNo2 (bs (vC (by omega) hoN.1 hoN.2 hoN.2) ?_))
    show some (cmpP (nf x false) (nf x false)==(0:Int))=_
    rw[f4]
  ·have e0:(e !=(0:Int))=true:=by simpa using he
   rw[e0,cond_true]
   exact bs hsan rfl
theorem def_vsz (d:Def):d.Name.length+d.Words.length+1<=vsz (Def.v d)/\∀w∈d.Words,w.length+1<=vsz (Def.v d):=by
 have e:vsz (Def.v d)=(d.Name.length+1)+(1+(1+(1+(vszL (d.Words.map V.str)+1+0)))):=rfl
 have h1:=lst_len V.str (fun x=>by simp[vsz]) d.Words
 refine⟨by omega,fun w hw=>?_⟩
 have h2:=lst_mem V.str hw
 have h3:vsz (V.str w)=w.length+1:=rfl
 omega
theorem schema_small {s:Schema} {n k:Nat} (h:vsz (Schema.v s)<=k) (hk:k<n) (hk2:k<2^62):SmallS s n:=by
 have e:vsz (Schema.v s)=1+(1+(vszL (s.Defs.map Def.v)+1+0)):=rfl
 have h1:=lst_len Def.v (fun x=>by have:=(def_vsz x).1;omega) s.Defs
 refine⟨by omega,by omega,fun d hd=>?_⟩
 have h2:=lst_mem Def.v hd
 have h3:=def_vsz d
 have h4:=h3.1
 refine⟨by omega,by omega,by omega,by omega,fun w hw=>?_⟩
 have:=h3.2 w hw
 exact⟨by omega,by omega⟩
end Sh
