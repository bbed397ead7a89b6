/- Texts joined. Conditions: as each theorem names them. -/
import Derived.Laws.Append
import Derived.Test.YtkgkoicedddkmaaGreatDoorC01
import Derived.Test.YtkgkoicedddkmaaGreatDoorC03
set_option maxRecDepth 100000
set_option maxHeartbeats 32000000
set_option linter.unusedVariables false
set_option linter.unusedSimpArgs false
namespace Go.Proofs.YtkgkoicedddkmaaGreatDoor
open Go.RowKit Go.Proofs.Tryz
section
attribute [local go_sem] Qiz Qii Qib Qgw ByteArray.mk_append_mk
theorem Xa(s:List UInt8)(k:Nat)(hk:k<=6)(h:(s.take k).all Bh=true):Fv (s.take k)<=999999:=by
 have h1:=Tf (s.take k).length (s.take k) rfl h
 have h2:10 ^ (s.take k).length<=10 ^ 6:=Nat.pow_le_pow_right (by omega) (by simp;omega)
 have e6:10 ^ 6=1000000:=rfl
 omega
def Dp(s:List UInt8)(top:Nat):Bool:=match Cn s with|some m=>decide (m<=top)|none=>false
theorem Mr{s:List UInt8}{top:Nat}(h:Cn s=none):Dp s top=false:=by unfold Dp;rw[h]
theorem Mn{s:List UInt8}{top n:Nat}(h:Cn s=some n):Dp s top=decide (n<=top):=by unfold Dp;rw[h]
def Qep(s:List UInt8)(top:Nat)(w:World)(e:Ending)(w':World):Prop:=
 ∃n:Nat,n<=999999/\e=.returned (.tuple #[.int .i64 n,.bool (Dp s top)])/\(∀m,Cn s=some m->m=n)/\Below w.heap.size w w'
theorem Dg(s:List UInt8)(m:Nat)(w:World)(hs:s.length<=4000000)(hm:m<=999999):
  Calls prog 94 #[.string ⟨s.toArray⟩,.int .i64 m] w (Qep s m w):=by
 go_enter func94,ntmps94
 go_wp2_with fail
 go_loop [6,7] (fun x i=>∃k:Nat,i=.int .i64 k/\k<=s.length/\k<=6/\Hid ((s.take k).all Bh=true)/\Fv (s.take k)<=999999/\x=.int .i64 ((Fv (s.take k):Nat):Int)) (fun _ i=>s.length - (intOf i).toNat)
 case atStart=>exact⟨0,rfl,Nat.zero_le _,by omega,by simp[Hid],by simp[Fv],by simp[Fv]⟩
 case round=>
  obtain⟨k,rfl,hk,hk6,hdig,hv,rfl⟩:=hrel
  by_cases hlt:k<s.length
  ·have hc:=(s[k]).toNat_lt
   have Hts:=Aa (Ch s k hlt)
   have Hmem:=Aa (List.getElem_mem hlt)
   by_cases hd:Bh s[k]=true
   ·have hd2:=Dh.1 hd
    obtain⟨d1,d2⟩:=hd2
    by_cases h5:k<=5
    ·have hdig2:(s.take (k+1)).all Bh=true:=by
      rw[Hts.o,List.all_append,hdig.o];simp[hd]
     have hv2:=Xa s (k+1) (by omega) hdig2
     have Hdig2:=Aa hdig2
     have Hv:=Aa (show Fv (s.take (k+1))=10*Fv (s.take k)+((s[k]).toNat - 48)by rw[Hts.o,J9])
     clear hd hdig2
     go_wp2_with fail
     go_round
     case rel=>exact⟨k+1,by go_num,by omega,by omega,Hdig2.o,hv2,Qit (by rw[Hv.o];omega)⟩
     case measure=>simp[intOf];omega
    have h5':5<k:=by omega
    have hno:Cn s=none:=by
     unfold Cn
     rw[if_neg]
     rintro⟨_,h,_⟩
     omega
    have Hn:=Aa (Mr (top:=m) hno)
    have Hno:=Aa hno
    clear hd hno h5
    go_wp2_with fail
    go_ret2
    exact⟨0,by omega,by rw[Hn.o];rfl,(fun m h=>by rw[Hno.o]at h;cases h),Aq _ _⟩
   have hno:Cn s=none:=by
    unfold Cn
    rw[if_neg]
    rintro⟨_,_,h,_⟩
    exact hd (List.all_eq_true.1 h _ Hmem.o)
   have Hn:=Aa (Mr (top:=m) hno)
   have Hno:=Aa hno
   have h2:(s[k]).toNat<48\/(48<=(s[k]).toNat/\57<(s[k]).toNat):=by
    rcases Nat.lt_or_ge (s[k]).toNat 48 with h|h
    ·exact .inl h
    rcases Nat.lt_or_ge 57 (s[k]).toNat with h'|h'
    ·exact .inr ⟨h,h'⟩
    exact absurd (Dh.2 ⟨h,h'⟩) hd
   clear hd hno
   rcases h2 with h2|⟨h2,h4⟩
   ·go_wp2_with fail
    go_ret2
    exact⟨0,by omega,by rw[Hn.o];rfl,(fun m h=>by rw[Hno.o]at h;cases h),Aq _ _⟩
   go_wp2_with fail
   go_ret2
   exact⟨0,by omega,by rw[Hn.o];rfl,(fun m h=>by rw[Hno.o]at h;cases h),Aq _ _⟩
  ·have e:s.take k=s:=List.take_of_length_le (by omega)
   rw[e]at hv ⊢
   have hcase:(Cn s=some (Fv s)/\s=Bb (Fv s))\/(Cn s=none/\s≠Bb (Fv s)):=by
    by_cases h:s=Bb (Fv s)
    ·exact .inl ⟨Ca.2 ⟨hv,h⟩,h⟩
    refine .inr ⟨?_,h⟩
    cases hd:Cn s with
    |none=>rfl
    |some n=>
     obtain⟨_,h2⟩:=Ca.1 hd
     exact absurd (by rw[h2,Pr]) h
   clear hdig e
   generalize Fv s=v at hv hcase
   have hdl:=Qe5 5 v (by have e6:10 ^ (5+1)=1000000:=rfl;omega)
   rcases hcase with⟨h1,h2⟩|⟨h1,h2⟩
   ·have Hn:=Aa (Mn (top:=m) h1)
    have Hd:=Aa h1
    have tq:(s == Bb v)=true:=by simpa using h2
    clear h1 h2
    by_cases hvm:v<=m
    ·go_wp2_with fail
     refine(Jh v v _ (Ap _) (by omega)).mono ?_
     rintro e w1 ⟨rfl,hb⟩
     have Hb:=Aa hb
     clear hb
     go_wp2_with fail
     go_ret2
     exact⟨v,hv,by rw[Hn.o];exact Qhr rfl (Cs (by simp[hvm])),(fun m h=>by rw[Hd.o]at h;injection h with h;exact h.symm),Hb.o⟩
    have hvm':m<v:=by omega
    go_wp2_with fail
    refine(Jh v v _ (Ap _) (by omega)).mono ?_
    rintro e w1 ⟨rfl,hb⟩
    have Hb:=Aa hb
    clear hb
    go_wp2_with fail
    go_ret2
    exact⟨v,hv,by rw[Hn.o];exact Qhr rfl (Cs (by simp;omega)),(fun m h=>by rw[Hd.o]at h;injection h with h;exact h.symm),Hb.o⟩
   have Hn:=Aa (Mr (top:=m) h1)
   have Hd:=Aa h1
   have tq:(s == Bb v)=false:=by simpa using h2
   clear h1 h2
   go_wp2_with fail
   refine(Jh v v _ (Ap _) (by omega)).mono ?_
   rintro e w1 ⟨rfl,hb⟩
   have Hb:=Aa hb
   clear hb
   go_wp2_with fail
   go_ret2
   exact⟨v,hv,by rw[Hn.o];rfl,(fun m h=>by rw[Hd.o]at h;cases h),Hb.o⟩
def Fk(s:List UInt8):Bool:=decide (2<=s.length) && decide (s.head?=some 39) && decide (s.getLast?=some 39) && Dl (s.drop 1).dropLast
theorem Vg(s:List UInt8)(w:World)(hs:s.length<=4000000):
  Calls prog 95 #[.string ⟨s.toArray⟩] w fun e w'=>e=.returned (.bool (Fk s))/\w=w':=by
 have hf:Fk s=(decide (2<=s.length) && decide (s.head?=some 39) && decide (s.getLast?=some 39) && Dl (s.drop 1).dropLast):=rfl
 rcases Nat.lt_or_ge s.length 2 with h2|h2
 ·have e0:decide (2<=s.length)=false:=by simp;omega
  have Hf:=Aa (show Fk s=false by rw[hf,e0];simp)
  have t0:decide ((s.length:Int)<2)=true:=by simp;omega
  clear hf e0
  go_enter func95,ntmps95
  go_wp2_with fail
  go_ret
  exact⟨Ea (Cs Hf.o.symm),rfl⟩
 have t0:decide ((s.length:Int)<2)=false:=by simp;omega
 rcases Nat.lt_or_ge 14 s.length with h14|h14
 ·have Hf:=Aa (show Fk s=false by
   have:Dl (s.drop 1).dropLast=false:=by
    unfold Dl
    have e1:decide ((s.drop 1).dropLast.length<=12)=false:=by simp;omega
    rw[e1];rfl
   rw[hf,this];simp)
  have t1:decide (14<(s.length:Int))=true:=by simp;omega
  clear hf
  go_enter func95,ntmps95
  go_wp2_with fail
  go_ret
  exact⟨Ea (Cs Hf.o.symm),rfl⟩
 obtain⟨c,u,d,rfl⟩:∃c u d,s=c::(u++[d]):=by
  cases s with
  |nil=>simp at h2
  |cons c t=>
   rcases Ej t with rfl|⟨u,d,rfl⟩
   ·simp at h2
   exact⟨c,u,d,rfl⟩
 have hl:(c::(u++[d])).getLast?=some d:=by
  rw[show c::(u++[d])=(c::u)++[d]from rfl,List.getLast?_append];rfl
 have hu:((c::(u++[d])).drop 1).dropLast=u:=by simp
 have e2:decide (2<=(c::(u++[d])).length)=true:=by simp
 rw[hl,hu,e2]at hf
 simp only[List.head?_cons,Option.some.injEq,Bool.true_and]at hf
 have Hf:=Aa hf
 have hc:=c.toNat_lt
 have hd:=d.toNat_lt
 have hgd:∀h,(c::(u++[d]))[u.length+1]'h=d:=by intro h;simp
 have hul:u.length<=12:=by simp at h14;omega
 have Hfit:=Aa (show Dl u=u.all Ce by simp[Dl,hul])
 clear hf hl hu h2 hs h14 t0 e2
 by_cases hc39:c=39
 ·have t1:((c.toNat:Int) != 39)=false:=by have:=Be hc39;simpa using this
  have Hc:=Aa (show decide (c=39)=true by simpa using hc39)
  clear hc39
  by_cases hd39:d=39
  ·have t2:((d.toNat:Int) != 39)=false:=by have:=Be hd39;simpa using this
   have Hd:=Aa (show decide (d=39)=true by simpa using hd39)
   clear hd39
   go_enter func95,ntmps95
   go_wp2_with fail
   go_loop [3] (fun i=>∃k:Nat,i=.int .i64 ((k:Int)+1)/\k<=u.length/\Hid ((u.take k).all Ce=true)) (fun i=>u.length+1 - (intOf i).toNat)
   case atStart=>exact⟨0,rfl,Nat.zero_le _,by simp[Hid]⟩
   case round=>
    obtain⟨k,rfl,hk,hin⟩:=hrel
    by_cases hlt:k<u.length
    ·have hg:∀h,(c::(u++[d]))[k+1]'h=u[k]:=by intro h;simp[List.getElem_append_left hlt]
     have Hts:=Aa (Ch u k hlt)
     have Hmem:=Aa (List.getElem_mem hlt)
     have hx:=(u[k]).toNat_lt
     generalize u[k]=x at hg Hts Hmem hx
     by_cases ht:Ce x=true
     ·have Hin:=Aa (show (u.take (k+1)).all Ce=true by rw[Hts.o,List.all_append,hin.o];simp[ht])
      have h3:x=32\/(x.toNat≠32/\48<=x.toNat/\x.toNat<=57)\/(57<x.toNat/\97<=x.toNat/\x.toNat<=122):=by
       unfold Ce at ht
       simp only[Bool.or_eq_true]at ht
       rcases ht with(h|h)|h
       ·have:=Mu.1 h;exact .inr (.inr ⟨by omega,this⟩)
       ·have:=Dh.1 h;exact .inr (.inl ⟨by omega,this⟩)
       exact .inl (by simpa using h)
      clear ht
      rcases h3 with h3|⟨h3,h4,h5⟩|⟨h3,h4,h5⟩
      ·have t3:((x.toNat:Int) != 32)=false:=by have:=Be h3;simpa using this
       clear h3
       go_wp2_with fail
       go_round
       case rel=>exact⟨k+1,by go_num,by omega,Hin.o⟩
       case measure=>simp[intOf];omega
      ·have t3:((x.toNat:Int) != 32)=true:=by rw[bne_iff_ne];omega
       go_wp2_with fail
       go_round
       case rel=>exact⟨k+1,by go_num,by omega,Hin.o⟩
       case measure=>simp[intOf];omega
      have t3:((x.toNat:Int) != 32)=true:=by rw[bne_iff_ne];omega
      go_wp2_with fail
      go_round
      case rel=>exact⟨k+1,by go_num,by omega,Hin.o⟩
      case measure=>simp[intOf];omega
     have Hno:=Aa (show u.all Ce=false by
      cases h:u.all Ce with
      |false=>rfl
      |true=>exact absurd (List.all_eq_true.1 h _ Hmem.o) ht)
     have h32:x≠32:=by rintro rfl;exact ht rfl
     have t3:((x.toNat:Int) != 32)=true:=by have:=Am h32;simpa using this
     have h3:x.toNat<48\/(57<x.toNat/\x.toNat<97)\/122<x.toNat:=by
      have a:¬H3 x=true:=fun h=>ht (by simp[Ce,h])
      have b:¬Bh x=true:=fun h=>ht (by simp[Ce,h])
      rw[Mu]at a
      rw[Dh]at b
      omega
     clear ht h32
     rcases h3 with h3|⟨h3,h4⟩|h3
     all_goals
      go_wp2_with fail
      go_ret
      exact⟨Ea (Cs (by rw[Hf.o,Hc.o,Hd.o,Hfit.o,Hno.o];rfl)),rfl⟩
    ·have Hall:=Aa (show u.all Ce=true by
      have:=hin.o
      rwa [List.take_of_length_le (by omega)]at this)
     have hk2:k=u.length:=by omega
     subst hk2
     go_wp2_with fail
     go_ret
     exact⟨Ea (Cs (by rw[Hf.o,Hc.o,Hd.o,Hfit.o,Hall.o];rfl)),rfl⟩
  have t2:((d.toNat:Int) != 39)=true:=by have:=Am hd39;simpa using this
  have Hd:=Aa (show decide (d=39)=false by simpa using hd39)
  clear hd39
  go_enter func95,ntmps95
  go_wp2_with fail
  go_ret
  exact⟨Ea (Cs (by rw[Hf.o,Hd.o];simp)),rfl⟩
 have t1:((c.toNat:Int) != 39)=true:=by have:=Am hc39;simpa using this
 have Hc:=Aa (show decide (c=39)=false by simpa using hc39)
 clear hc39
 go_enter func95,ntmps95
 go_wp2_with fail
 go_ret
 exact⟨Ea (Cs (by rw[Hf.o,Hc.o];simp)),rfl⟩
section
variable {P:Program}
theorem M0(w:World)(base:Nat)(t ty e:TypeId)(i:TypeInfo)(z:Value)(size bytes:Nat)(ht:P.underlying t=some (.slice e))(hi:P.info? e=some i)(hz:i.zero=some z)
  (hsize:i.size=size) (hby:i.bytes=bytes) (hzs:z.cells.size=size) (hsz:0<size)
  (v:Value) (n:Nat) (xs:List Value) (hown:w.ownsRow base e size v n xs)
  (a:Addr) (m c:Nat) (news:List Value) (hl:news.length=m*size) (hnews:∀j u,news[j]?=some u->w.cell? (a.add j)=some u) (h1:∀u∈news,u.oneCell'=true)
  (hm:0<m) (h63:n+m<=maxLen) (hbytes:(n+m)*bytes<=140737488355328) (hbase:base<=w.heap.size):
  ∃v' w',(Builtin.append_ #[t,t] ty #[v,.slice (some a) m c]).run P w=.ok v' w'/\w'.ownsRow base e size v' (n+m) (xs++news)/\w.grownBy w' v.ownBlock /\
   (v'.ownBlock=v.ownBlock\/∃k,v'.ownBlock=some k/\w.heap.size<=k):=by
 obtain⟨v',w',hr,h2,h3,_⟩:=run_append_own (P:=P) w base t ty e i z size bytes ht hi hz hsize hby hzs hsz v n xs hown a m c news hl hnews h1 h63 hbytes hbase
 refine⟨v',w',hr,h2,h3,?_⟩
 subst hsize
 subst hby
 have h63':n+m<=9223372036854775807:=by simp only[maxLen]at h63;omega
 rcases hown.2 with⟨rfl,rfl⟩|⟨g,cap,cur,rfl,hbg,hg,hnc,hcm,hcs,htake⟩
 ·have hq:=run_append_nil (P:=P) w t ty e i z ht hi hz a m c news hl hnews hm (by omega) (by have hb:=hbytes;simp only[Nat.zero_add]at hb;omega)
  rw[hq]at hr
  injection hr with e1 _
  subst e1
  exact .inr ⟨_,rfl,Ap _⟩
 by_cases hroom:n+m<=cap
 ·have hfit:n*i.size+news.length<=cur.size:=by rw[hl,hcs,<-Nat.add_mul];exact Nat.mul_le_mul_right _ hroom
  have hq:=run_append_room (P:=P) w t ty e i ht hi g n cap cur hg a m c news hl hnews h1 hroom hfit
  rw[hq]at hr
  injection hr with e1 _
  subst e1
  exact .inl rfl
 have holds:∀j u,xs[j]?=some u->w.cell? ((⟨g,0,none⟩:Addr).add j)=some u:=hown.cells (g:=g) rfl
 have hq:=run_append_grow (P:=P) w t ty e i z ht hi hz ⟨g,0,none⟩ n cap xs hown.1 holds a m c news hl hnews (by omega) (by omega) (growslice_fits (by omega) hbytes)
 rw[hq]at hr
 injection hr with e1 _
 subst e1
 exact .inr ⟨_,rfl,Ap _⟩
theorem Gw(w:World){ops:Array Oper}{rest:List Oper}{o:Oper}{a:Act}{Q:Exit->Act->World->Prop}(hgd:o.guard=none)(s x:Operand)(t:TypeId)
  (ho:o.op=.call {callee:=.builtin .append,args:=#[s,x],argTypes:=#[t,t]})
  (base:Nat) (e:TypeId) (z:Value) (bytes:Nat) (ht:P.underlying t=some (.slice e)) (hinfo:(P.info? e).map (fun i=>(i.zero,i.size,i.bytes))=some (some z,1,bytes))
  (hzs:z.cells.size=1) (W:World) (u:Value) (hw:w=W.alloc (.cells #[u] e)) (hu:u.oneCell'=true) (v:Value) (n:Nat) (xs:List Value) (hs:a.eval s=v) (hx:a.eval x=.slice (some ⟨W.heap.size,0,none⟩) 1 1)
  (hown:W.ownsRow base e 1 v n xs)
  (h63:n+1<=maxLen) (hbytes:(n+1)*bytes<=140737488355328) (hbase:base<=W.heap.size)
  (h:∀v' w',w'.ownsRow base e 1 v' (n+1) (xs++[u])->W.grownBy w' v.ownBlock->(v'.ownBlock=v.ownBlock\/∃k,v'.ownBlock=some k/\W.heap.size<=k)->wpList P ops Q rest (a.put o.dst v') w'):wpList P ops Q (o::rest) a w:=by
 subst hw
 obtain⟨i0,hi,hz0,hz1,hz2⟩:=info_parts hinfo
 obtain⟨v',w',hrun,r1,r2,r3⟩:=M0 (P:=P) (W.alloc (.cells #[u] e)) base t o.type e i0 z 1 bytes ht hi hz0 hz1 hz2 hzs (by decide) v n xs (hown.alloc _) ⟨W.heap.size,0,none⟩ 1 1 [u] rfl (by
  intro j y hj
  match j,hj with
  |0,hj=>simp at hj;subst hj;simp[Addr.add,World.cell?_alloc_new]) (by intro y hy;simp at hy;subst hy;exact hu) (by decide) h63 hbytes (by simp;omega)
 refine wpList_plain hgd fun K' hK'=>?_
 unfold Oper.wp
 simp[execOp,ho,resolve,invoke,builtin,hs,hx,hrun,Result.andThen]
 refine hK' _ _ (h v' w' r1 ?_ ?_)
 ·exact⟨r2.os,r2.tape,r2.output,Nat.le_trans (by simp) r2.size,fun k hk hne=>(r2.block k (by simp;omega) hne).trans (heap_alloc_old W _ hk)⟩
 rcases r3 with r3|⟨k,r3,r4⟩
 ·exact .inl r3
 exact .inr ⟨k,r3,by simp at r4;omega⟩
end
end
section
variable {P:Program}
theorem Jn(W:World){o:Oper}{a:Act}{K:Act->World->Prop}{Q:Exit->Act->World->Prop}(s x:Operand)(t:TypeId)
  (ho:o.op=.call {callee:=.builtin .append,args:=#[s,x],argTypes:=#[t,t]})
  (base:Nat) (e:TypeId) (z:Value) (k bytes:Nat) (ht:P.underlying t=some (.slice e)) (hinfo:(P.info? e).map (fun i=>(i.zero,i.size,i.bytes))=some (some z,k,bytes))
  (hzs:z.cells.size=k) (hk:0<k) (us:List Value) (hul:us.length=k) (hu:∀u∈us,u.oneCell'=true) (v:Value) (n:Nat) (xs:List Value) (hs:a.eval s=v) (hx:a.eval x=.slice (some ⟨W.heap.size,0,none⟩) 1 1)
  (hown:W.ownsRow base e k v n xs) (h63:n+1<=maxLen) (hbytes:(n+1)*bytes<=140737488355328) (hbase:base<=W.heap.size)
  (h:∀v' w',w'.ownsRow base e k v' (n+1) (xs++us)->W.grownBy w' v.ownBlock->(v'.ownBlock=v.ownBlock\/∃k,v'.ownBlock=some k/\W.heap.size<=k)->K (a.put o.dst v') w'):Oper.wp P o a (W.alloc (.cells us.toArray e)) K Q:=by
 obtain⟨i0,hi,hz0,hz1,hz2⟩:=info_parts hinfo
 obtain⟨v',w',hrun,r1,r2,r3⟩:=M0 (P:=P) (W.alloc (.cells us.toArray e)) base t o.type e i0 z k bytes ht hi hz0 hz1 hz2 hzs hk v n xs (hown.alloc _) ⟨W.heap.size,0,none⟩ 1 1 us (by omega) (by
  intro j y hj
  have e1:(⟨W.heap.size,0,none⟩:Addr).add j=⟨W.heap.size,j,none⟩:=by unfold Addr.add;split<;>simp_all
  rw[e1,World.cell?_alloc_new]
  simpa using hj) hu (by decide) h63 hbytes (by simp;omega)
 unfold Oper.wp
 simp[execOp,ho,resolve,invoke,builtin,hs,hx,hrun,Result.andThen]
 refine h v' w' r1 ?_ ?_
 ·exact⟨r2.os,r2.tape,r2.output,Nat.le_trans (by simp) r2.size,fun k hk hne=>(r2.block k (by simp;omega) hne).trans (heap_alloc_old W _ hk)⟩
 rcases r3 with r3|⟨k,r3,r4⟩
 ·exact .inl r3
 exact .inr ⟨k,r3,by simp at r4;omega⟩
theorem Rj(W:World){ops:Array Oper}{rest:List Oper}{o:Oper}{a:Act}{Q:Exit->Act->World->Prop}(hgd:o.guard=none)(s x:Operand)(t:TypeId)
  (ho:o.op=.call {callee:=.builtin .append,args:=#[s,x],argTypes:=#[t,t]})
  (base:Nat) (e:TypeId) (z:Value) (k bytes:Nat) (ht:P.underlying t=some (.slice e)) (hinfo:(P.info? e).map (fun i=>(i.zero,i.size,i.bytes))=some (some z,k,bytes))
  (hzs:z.cells.size=k) (hk:0<k) (us:List Value) (hul:us.length=k) (hu:∀u∈us,u.oneCell'=true) (v:Value) (n:Nat) (xs:List Value) (hs:a.eval s=v) (hx:a.eval x=.slice (some ⟨W.heap.size,0,none⟩) 1 1)
  (hown:W.ownsRow base e k v n xs) (h63:n+1<=maxLen) (hbytes:(n+1)*bytes<=140737488355328) (hbase:base<=W.heap.size)
  (h:∀v' w',w'.ownsRow base e k v' (n+1) (xs++us)->W.grownBy w' v.ownBlock->(v'.ownBlock=v.ownBlock\/∃k,v'.ownBlock=some k/\W.heap.size<=k)->wpList P ops Q rest (a.put o.dst v') w'):wpList P ops Q (o::rest) a (W.alloc (.cells us.toArray e)):=
 wpList_plain hgd fun K' hK'=>Jn W s x t ho base e z k bytes ht hinfo hzs hk us hul hu v n xs hs hx hown h63 hbytes hbase fun v' w' h1 h2 h3=>hK' _ _ (h v' w' h1 h2 h3)
end
end Go.Proofs.YtkgkoicedddkmaaGreatDoor
