/- Texts joined. Conditions: as each theorem names them. -/
import Derived.BigRegion
import Derived.BigQuiet
import Derived.Sort.Walk0
import Derived.Test.YtkigmebejmmikaaGreatDoorG10
import Derived.Test.YtkigmebejmmikaaGreatDoorG11
set_option maxRecDepth 100000
set_option maxHeartbeats 32000000
set_option linter.unusedVariables false
set_option linter.unusedSimpArgs false
namespace Go.Proofs.YtkigmebejmmikaaGreatDoor
open Go.RowKit Go.Proofs.Tryz
section
attribute [local go_sem] Qjy Qiu Qil Qgp ByteArray.mk_append_mk
inductive Zk69|z
instance:Coe Zk69 UInt8:=⟨fun _=>69⟩
instance:Coe Zk69 Int:=⟨fun _=>69⟩
namespace F69
def zc:Zk69:=.z
theorem _root_.Go.Proofs.YtkigmebejmmikaaGreatDoor.sType_full69(s:List UInt8)(nm u:List UInt8)(w:World)(hs:s.length<=1000)(h:s=(69::nm)++61::u)(hp:61∉69::nm)(hnm:Bb nm=true)(hu:u≠[]):
  Calls prog 78 #[s] w (Dr (Dh s) w):=
 stF
end F69
theorem Vj(s:List UInt8)(w:World)(hs:s.length<=1000):
  Calls prog 78 #[s] w (Dr (Dh s) w):=by
 rcases E3 61 s with⟨hn,_⟩|⟨p,u,h,hp,_⟩
 ·exact Qbn s w hs hn
 cases p with
 |nil=>exact Qan s u w hs h
 |cons c nm=>
  rcases Bool.eq_false_or_eq_true (Bb nm)with hnm|hnm
  ·by_cases hso:Dj c
   ·by_cases hu:u=[]
    ·rcases hso with rfl|rfl|rfl
     ·exact Yt s nm u w hs h hp hnm hu
     ·exact Yl s nm u w hs h hp hnm hu
     exact Ym s nm u w hs h hp hnm hu
    rcases hso with rfl|rfl|rfl
    ·exact sType_full82 s nm u w hs h hp hnm hu
    ·exact sType_full85 s nm u w hs h hp hnm hu
    exact sType_full69 s nm u w hs h hp hnm hu
   exact Qa6 s c nm u w hs h hp hnm hso
  exact Qbr s c nm u w hs h hp hnm
def Sj(k:Kd):Bool:=decide (k.base=[64])
def Sf(k:Kd):List UInt8:=if k.base=[64]then k.name else[]
theorem Px(k:Kd)(hk:C0 k)(w:World):
  Calls prog 43 #[.string ⟨(Ca k).toArray⟩] w fun e w'=>e=.returned (.tuple #[.string ⟨(Sf k).toArray⟩,.bool (Sj k)])/\w=w':=by
 obtain⟨_,hb,hl⟩:=hk;unfold Ca Sf Sj;by_cases h:k.base=[64]
 ·rw[if_pos h,if_pos h,aA h];refine Xk k.name w ?_;rcases hb with⟨_,hn⟩|⟨h2,_⟩
  ·have:=(Ep.1 hn).2.1;omega
  rcases h2 with h2|h2|h2<;>· rw[h]at h2;exact absurd h2 aH
 rw[if_neg h,if_neg h,az h];rcases hb with⟨h2,_⟩|⟨h2,_⟩
 ·exact absurd h2 h
 rcases h2 with h2|h2|h2<;>· rw[h2];exact Qat _ [] w aH aI
theorem Sl(k:Kd)(hk:C0 k)(w:World):
  Calls prog 44 #[.string ⟨(Bi k).toArray⟩] w fun e w'=>e=.returned (.string ⟨(Ca k).toArray⟩)/\w=w':=
 Qbl k w hk.1 (Vw hk.2.1) cY
theorem J2(xs:List (Ty × Value))(k:Kd):B9 (Ah xs) k↔(Sj k=true->(E0 xs (Sf k)).isSome=true):=by
 unfold B9 Sj Sf;by_cases h:k.base=[64]
 ·rw[if_pos h,Ki];simp[h]
 rw[if_neg h];simp[h]
def Ry(S:List Ty):Prop:=(S.Pairwise fun t u=>t.name≠u.name)/\Gg S/\∀t∈S,Bu S (S.length+1) t=true
def Qbu(xs:List (Ty × Value))(k:Nat):Prop:=
 (((xs.take k).map (·.1)).Pairwise fun t u=>t.name≠u.name)/\∀x∈xs.take k,x.1.sort≠69->∀f∈x.1.fields,B9 (Ah xs) f.kind
theorem Qei(xs:List (Ty × Value)):Qbu xs 0:=⟨by simp,by simp⟩
theorem Qdu{xs:List (Ty × Value)}{k:Nat}(hk:k<xs.length)(h:Qbu xs k)(h1:∀x∈xs.take k,x.1.name≠xs[k].1.name)(h2:xs[k].1.sort≠69->∀f∈xs[k].1.fields,B9 (Ah xs) f.kind):Qbu xs (k+1):=by
 unfold Qbu;rw[Bx xs k hk];refine⟨?_,?_⟩
 ·rw[aw,List.pairwise_append];refine⟨h.1,by simp,?_⟩;intro a ha b hb;obtain⟨x,hx,rfl⟩:=au.1 ha;simp at hb;subst hb;exact h1 x hx
 intro x hx;rcases ae.1 hx with hx|hx
 ·exact h.2 x hx
 simp at hx;subst hx;exact h2
theorem Qf0{xs:List (Ty × Value)}(h:Qbu xs xs.length):((Ah xs).Pairwise fun t u=>t.name≠u.name)/\Gg (Ah xs):=by
 unfold Qbu at h;rw[List.take_length]at h;refine⟨h.1,?_⟩;intro t ht hs f hf;obtain⟨x,hx,rfl⟩:=au.1 ht;exact h.2 x hx hs f hf
theorem Qc1{xs:List (Ty × Value)}{j k:Nat}(hjk:j<k)(hk:k<xs.length)(h:xs[j].1.name=xs[k].1.name):¬Ry (Ah xs):=by
 rintro⟨hp,_⟩;have:=List.pairwise_iff_getElem.1 hp j k (by unfold Ah;simp;omega) (by unfold Ah;simp;omega) hjk;unfold Ah at this;simp at this;exact this h
theorem Qf8{xs:List (Ty × Value)}{k j:Nat}(hk:k<xs.length)(hs:xs[k].1.sort≠69)(hj:j<xs[k].1.fields.length)(h:¬B9 (Ah xs) xs[k].1.fields[j].kind):¬Ry (Ah xs):=by
 rintro⟨_,hp,_⟩;exact h (hp xs[k].1 (au.2 ⟨xs[k],ad hk,rfl⟩) hs _ (ad hj))
theorem Qe8{xs:List (Ty × Value)}{k:Nat}(hk:k<xs.length)(h:Bu (Ah xs) (xs.length+1) xs[k].1=false):¬Ry (Ah xs):=by
 rintro⟨_,_,hp⟩;have:=hp xs[k].1 (au.2 ⟨xs[k],ad hk,rfl⟩);rw[show (Ah xs).length=xs.length by unfold Ah;simp,h]at this;cases this
theorem Qcc(v:Value)(xs:List (Ty × Value))(w:World)(h:Mc w v xs)(hok:∀x∈xs,Ed x.1):
  Calls prog 79 #[v] w fun e w'=>(∃b,e=.returned (.bool b)/\(b=true↔Ry (Ah xs)))/\Below w w w':=by
 have H:=Aa h;have Hok:=Aa hok;obtain⟨A,c,rfl,hxl,hrow,hfds⟩:=h;have Hrow:=Aa hrow;have Hfds:=Aa hfds;clear hok hrow hfds;go_enter func79,ntmps79;go_wp2_with fail;go_loopw [3] (fun i wr=>∃k:Nat,i=.int .i64 k/\k<=xs.length/\Hid (Qbu xs k)/\Hid (Below w w wr)) (fun i _=>xs.length - (intOf i).toNat)
 case atStart=>exact⟨0,rfl,af _,Qei xs,Ay _ _⟩
 case round=>
  obtain⟨k,rfl,hk,hto,hbr⟩:=hrel;by_cases hlt:k<xs.length
  ·have k1:(0:Int)<=(k:Int):=aE;have k2:(k:Int)<(xs.length:Int):=aE;go_wp2_with fail;go_loopw [4] (fun i wq=>∃j:Nat,i=.int .i64 j/\j<=k/\(∃q,wq=wr.drewN q)/\Hid (∀x∈xs.take j,x.1.name≠xs[k].1.name)) (fun i _=>k - (intOf i).toNat)
   case atStart=>exact⟨0,rfl,af _,⟨0,rfl⟩,by intro x hx;simp at hx⟩
   case round=>
    obtain⟨j,rfl,hj,⟨q,rfl⟩,hin⟩:=hrel;obtain⟨b,off,rfl,hbl,c0,c1,c2⟩:=Mc.at_ (Hrow.o.below hbr.o) hlt;by_cases hjl:j<k
    ·obtain⟨b',off',e',hbl',d0,d1,d2⟩:=Mc.at_ (Hrow.o.below hbr.o) (show j<xs.length by omega);simp only[ai,Addr.mk.injEq]at e';obtain⟨rfl,rfl,_⟩:=e';have Hnn:=Aa (fun h=>Qc1 (xs:=xs) hjl hlt h);have Hts:=Aa (Bx xs j (show j<xs.length by omega));have j1:(0:Int)<=(j:Int):=aE;have j2:(j:Int)<(xs.length:Int):=aE;have j3:(j:Int)<(k:Int):=aE;by_cases he:xs[j].1.name=xs[k].1.name
     ·have t1:(xs[j].1.name == xs[k].1.name)=true:=cu;have Hno:=Aa (Hnn.o he);clear he;go_wp2_with fail;go_quiet (fail)
      go_wp2_with fail;go_ret;exact⟨⟨false,rfl,by simp[Hno.o]⟩,below_drewN (below_drewN hbr.o q) _⟩
     have t1:(xs[j].1.name == xs[k].1.name)=false:=cu
     have Hin:=Aa (show ∀x∈xs.take (j+1),x.1.name≠xs[k].1.name by
      intro x hx;rw[Hts.o]at hx;rcases ae.1 hx with hx|hx
      ·exact hin.o x hx
      simp at hx;subst hx;exact he)
     clear he;go_wp2_with fail;go_quiet (fail)
     go_wp2
     go_roundw
     case rel=>exact⟨j+1,by go_num,by omega,⟨_,rfl⟩,Hin.o⟩
     case measure=>simp[intOf];omega
    ·obtain rfl:j=k:=aE;have j3:¬(j:Int)<(j:Int):=aE;have Hbk:=Aa (below_drewN hbr.o q);have Hnk:=Aa hin.o;have Hxk:=Aa (Hfds.o _ (ad hlt));have Hokk:=Aa (Hok.o _ (ad hlt));have Hnok:=Aa (fun(jj:Nat) (hs:xs[j].1.sort≠69) (hjj:jj<xs[j].1.fields.length) h=>Qf8 hlt hs hjj h);have Hsuc:=Aa (fun h2=>Qdu hlt hto.o Hnk.o h2);clear hin hbl c0 c1 c2 hto;go_wp2_with fail;go_loopw [5] (fun i wq=>∃m:Nat,i=.int .i64 m/\m<=(xs[j]).1.fields.length/\Hid (Below w w wq)/\Hid (∀f∈(xs[j]).1.fields.take m,B9 (Ah xs) f.kind)) (fun i _=>(xs[j]).1.fields.length - (intOf i).toNat)
     case atStart=>exact⟨0,rfl,af _,Hbk.o,by intro x hx;simp at hx⟩
     case round=>
      obtain⟨m,rfl,hm,hbq,hin⟩:=hrel;obtain⟨b',off',e',hbl',d0,d1,d2⟩:=Mc.at_ (Hrow.o.below hbq.o) hlt;simp only[ai,Addr.mk.injEq]at e';obtain⟨rfl,rfl,_⟩:=e';generalize xs[j]=x at d0 d1 d2 Hxk Hokk Hnok Hsuc hin hm ⊢;obtain⟨t,fv⟩:=x;simp only[]at d0 d1 d2 hm;obtain⟨A2,c2,e2,hfl,hr2⟩:=Hxk.o;simp only[]at e2;subst e2;have Hr2:=Aa hr2;clear hr2;have hsl:=t.sort.toNat_lt;have hfl':t.fields.length<=1000:=hfl;by_cases hml:m<t.fields.length
      ·have m1:(0:Int)<=(m:Int):=aE;have m2:(m:Int)<(t.fields.length:Int):=aE;by_cases hs:t.sort=69
       ·have t1:((t.sort.toNat:Int) != 69)=false:=by have:=Bs hs;simpa using this
        have t2:((t.sort.toNat:Int) == 69)=true:=Bs hs;have Hto:=Aa (Hsuc.o (fun h=>absurd hs h));clear hs;go_wp2_with fail;go_roundw
        case rel=>exact⟨j+1,by go_num,by omega,Hto.o,hbq.o⟩
        case measure=>simp[intOf];omega
       have t1:((t.sort.toNat:Int) != 69)=true:=by have:=Am hs;simpa using this
       have t2:((t.sort.toNat:Int) == 69)=false:=Am hs;obtain⟨bf,of,rfl,hbf,g0,g1,g2,g3⟩:=Fc.at_ (Hr2.o.below hbq.o) hml;have hfm:=ad hml;have Hkd:=Aa ((Hokk.o.2.2.1.1 _ hfm).2.2.2.2 hs).1;have Hno:=Aa (fun h=>Hnok.o m hs hml h);have Hts:=Aa (Bx t.fields m hml);generalize t.fields[m]=f at g0 g1 g2 g3 Hkd Hno Hts;clear hs hfm;have Hrf:=Aa (J2 xs f.kind);have Hfind:=Aa (fun W (hW:Below w w W)=>Rg (.slice (some ⟨b,off,none⟩) xs.length c) xs (Sf f.kind) W (H.o.below hW));go_wp2_with fail;refine(Sl f.kind Hkd.o _).mono ?_;rintro e w4 ⟨rfl,rfl⟩;go_wp2_with fail;refine(Px f.kind Hkd.o _).mono ?_;rintro e w4 ⟨rfl,rfl⟩;go_wp2_with fail;refine(Hfind.o _ hbq.o).mono ?_;rintro e w4 ⟨rfl,hb4⟩;have Hb4:=Aa (hbq.o.trans (hb4.mono hbq.o.size));clear hb4;cases hx:E0 xs (Sf f.kind)with
       |none=>
        unfold Sv Nn;rcases hir:Sj f.kind with _|_
        ·have hrk:B9 (Ah xs) f.kind:=Hrf.o.2 (fun h=>by rw[hir]at h;cases h)
         have Hin:=Aa (show ∀f∈t.fields.take (m+1),B9 (Ah xs) f.kind by
          intro g hg;rw[Hts.o]at hg;rcases ae.1 hg with hg|hg
          ·exact gZ
          simp at hg;subst hg;exact hrk)
         clear hrk;go_wp2_with fail;go_roundw
         case rel=>exact⟨m+1,by go_num,by omega,aR,Hin.o⟩
         case measure=>simp[intOf];omega
        have Hn:=Aa (Hno.o (fun h=>by have:=Hrf.o.1 h hir;rw[hx]at this;cases this));go_wp2_with fail;go_ret;exact⟨⟨false,rfl,by simp[Hn.o]⟩,aR⟩
       |some y=>
        have hrk:B9 (Ah xs) f.kind:=Hrf.o.2 (fun _=>by rw[hx];rfl);obtain⟨ty,yv⟩:=y;obtain⟨A5,c5,e5,_⟩:=Hfds.o _ (Ek hx).1;simp only[]at e5;subst e5;unfold Sv Qd;rcases hir:Sj f.kind with _|_
        ·skip
         have Hin:=Aa (show ∀f∈t.fields.take (m+1),B9 (Ah xs) f.kind by
          intro g hg;rw[Hts.o]at hg;rcases ae.1 hg with hg|hg
          ·exact gZ
          simp at hg;subst hg;exact hrk)
         clear hrk;go_wp2_with fail;go_roundw
         case rel=>exact⟨m+1,by go_num,by omega,aR,Hin.o⟩
         case measure=>simp[intOf];omega
        skip
        have Hin:=Aa (show ∀f∈t.fields.take (m+1),B9 (Ah xs) f.kind by
         intro g hg;rw[Hts.o]at hg;rcases ae.1 hg with hg|hg
         ·exact gZ
         simp at hg;subst hg;exact hrk)
        clear hrk;go_wp2_with fail;go_roundw
        case rel=>exact⟨m+1,by go_num,by omega,aR,Hin.o⟩
        case measure=>simp[intOf];omega
      ·obtain rfl:m=t.fields.length:=aE;have m2:¬(t.fields.length:Int)<(t.fields.length:Int):=aE;have Hto:=Aa (Hsuc.o (fun _ f hf=>hin.o f (by rw[List.take_length];exact hf)));go_wp2_with fail;go_roundw
       case rel=>exact⟨j+1,by go_num,by omega,Hto.o,hbq.o⟩
       case measure=>simp[intOf];omega
  ·obtain rfl:k=xs.length:=aE;have k2:¬(xs.length:Int)<(xs.length:Int):=aE;have Hall:=Aa (Qf0 hto.o);clear hto;go_wp2_with fail;go_loopw [10] (fun i wq=>∃j:Nat,i=.int .i64 j/\j<=xs.length/\Hid (Below w w wq)/\Hid (∀x∈xs.take j,Bu (Ah xs) (xs.length+1) x.1=true)) (fun i _=>xs.length - (intOf i).toNat)
   case atStart=>exact⟨0,rfl,af _,hbr.o,by intro x hx;simp at hx⟩
   case round=>
    obtain⟨j,rfl,hj,hbq,hin⟩:=hrel;by_cases hjl:j<xs.length
    ·obtain⟨b,off,rfl,hbl,d0,d1,d2⟩:=Mc.at_ (Hrow.o.below hbq.o) hjl;have Hts:=Aa (Bx xs j hjl);have Hno:=Aa (fun h=>Qe8 (xs:=xs) hjl h);have Hokj:=Aa (Hok.o _ (ad hjl));have hxj:=(Hfds.o _ (ad hjl)).below hbq.o;generalize xs[j]=x at d0 d1 d2 Hts Hno Hokj hxj;obtain⟨t,fv⟩:=x;simp only[]at d0 d1 d2 hxj;have Hxj:=Aa hxj;obtain⟨A2,c2,rfl,_⟩:=hxj;have j1:(0:Int)<=(j:Int):=aE;have j2:(j:Int)<(xs.length:Int):=aE;have He:=Aa (fun W (hW:Below w w W) (hX:Fc W (.slice A2 t.fields.length c2) t.fields)=>Qeq (.slice (some ⟨b,off,none⟩) xs.length c) (.slice A2 t.fields.length c2) xs t W (H.o.below hW) Hokj.o hX Hok.o);go_wp2_with fail;refine(He.o _ hbq.o Hxj.o).mono ?_;rintro e w4 ⟨rfl,hb4⟩;have Hb4:=Aa (hbq.o.trans (hb4.mono hbq.o.size));clear hb4;rcases Bool.eq_false_or_eq_true (Bu (Ah xs) (xs.length+1) t)with he|he
     ·have Hin:=Aa (show ∀x∈xs.take (j+1),Bu (Ah xs) (xs.length+1) x.1=true by
       intro x hx;rw[Hts.o]at hx;rcases ae.1 hx with hx|hx
       ·exact hin.o x hx
       simp at hx;subst hx;exact he)
      rw[he];clear he;go_wp2_with fail;go_roundw
      case rel=>exact⟨j+1,by go_num,by omega,Hb4.o,Hin.o⟩
      case measure=>simp[intOf];omega
     have Hn:=Aa (Hno.o he);rw[he];clear he;go_wp2_with fail;go_ret;exact⟨⟨false,rfl,by simp[Hn.o]⟩,Hb4.o⟩
    ·obtain rfl:j=xs.length:=aE
     have Hfin:=Aa (show Ry (Ah xs)from⟨Hall.o.1,Hall.o.2,fun t ht=>by
      obtain⟨x,hx,rfl⟩:=au.1 ht;rw[show (Ah xs).length=xs.length by unfold Ah;simp];exact hin.o x (by rw[List.take_length];exact hx)⟩)
     clear hin;go_wp2_with fail;go_ret;exact⟨⟨true,rfl,by simp[Hfin.o]⟩,hbq.o⟩
theorem Qdq{w:World}{b1 b2 k1 k2 n1 n2:Nat}{e1 e2:TypeId}{v1 v2:Value}{xs ys:List Value}(h1:w.ownsRow b1 e1 k1 v1 n1 xs)(h2:w.ownsRow b2 e2 k2 v2 n2 ys)(hne:e1≠e2):v1.ownBlock=none\/v1.ownBlock≠v2.ownBlock:=by
 rcases h1.2 with⟨rfl,_⟩|⟨g,cap,cur,rfl,_,hh,_⟩
 ·exact .inl rfl
 rcases h2.2 with⟨rfl,_⟩|⟨g',cap',cur',rfl,_,hh',_⟩
 ·exact .inr db
 refine .inr ?_;simp only[Value.ownBlock,ne_eq,ai];rintro rfl;rw[hh]at hh';simp only[ai,Obj.cells.injEq]at hh';exact hne hh'.2.1
section
variable {P:Program}
theorem Qau(w:World){ops:Array Oper}{rest:List Oper}{o:Oper}{a:Act}{Q:Exit->Act->World->Prop}(hgd:o.guard=none)(s x:Operand)(t:TypeId)
  (ho:o.op=.call {callee:=.builtin .append,args:=#[s,x],argTypes:=#[t,t]})
  (base:Nat) (e:TypeId) (z:Value) (k bytes:Nat) (ht:P.underlying t=some (.slice e)) (hinfo:(P.info? e).map (fun i=>(i.zero,i.size,i.bytes))=some (some z,k,bytes))
  (hzs:z.cells.size=k) (hk:0<k) (W:World) (us:List Value) (hul:us.length=k) (hw:w=W.alloc (.cells us.toArray e)) (hu:∀u∈us,u.oneCell'=true) (v:Value) (n:Nat) (xs:List Value) (hs:a.eval s=v) (hx:a.eval x=.slice (W,0) 1 1)
  (hown:W.ownsRow base e k v n xs)
  (h63:n+1<=maxLen) (hbytes:(n+1)*bytes<=140737488355328) (hbase:base<=W.heap.size)
  (h:∀v' w',w'.ownsRow base e k v' (n+1) (xs++us)->Below base W w'->(W.alloc (.cells us.toArray e)).grownBy w' v.ownBlock->wpList P ops Q rest (a.put o.dst v') w'):wpList P ops Q (o::rest) a w:=by
 subst hw;obtain⟨i0,hi,hz0,hz1,hz2⟩:=info_parts hinfo;refine wpList_append_own _ hgd s x t ho base e i0 z k bytes ht hi hz0 hz1 hz2 hzs hk v n xs hs (hown.alloc _) ⟨W.heap.size,0,none⟩ 1 1 us hx aE ?_ hu h63 hbytes ?_ ?_
 ·exact gu
 ·exact gU
 intro v' w' h1 h2 _;exact h v' w' h1 (((Ay base W).alloc hbase _).grown h2 aM (fun k hk=>(hown.lt k hk).1)) h2
end
def Kf(w:World)(base:Nat)(xs:List (Ty × Value)):Prop:=∀x∈xs,w.ownsRow base 118 4 x.2 x.1.fields.length (x.1.fields.flatMap sfc)/\Ed x.1
theorem Kf.below{w w':World}{base:Nat}{xs:List (Ty × Value)}(h:Kf w base xs)(hb:Below w w w'):Kf w' base xs:=fun x hx=>⟨Bm (h x hx).1 hb,(h x hx).2⟩
theorem Kf.grown{w w':World}{base b2 k n:Nat}{xs:List (Ty × Value)}{v:Value}{ys:List Value}{e:TypeId}(h:Kf w base xs)(hv:w.ownsRow b2 e k v n ys)(hne:118≠e)(hg:w.grownBy w' v.ownBlock):Kf w' base xs:=
 fun x hx=>⟨(h x hx).1.kept hg (Qdq (h x hx).1 hv hne),(h x hx).2⟩
theorem Kf.fds{w:World}{base:Nat}{xs:List (Ty × Value)}(h:Kf w base xs):∀x∈xs,Fc w x.2 x.1.fields:=fun x hx=>by
 obtain⟨h1,h2⟩:=h x hx;have hl:=h2.2.2.2.1;obtain⟨A,c,e,hr⟩:=B8.ownK h1 aW;exact⟨A,c,e,by omega,hr⟩
theorem Mc.own{w:World}{base:Nat}{v:Value}{xs:List (Ty × Value)}(h:w.ownsRow base 95 3 v xs.length (xs.flatMap stc))(hl:xs.length<=1000)(ht:Kf w base xs):Mc w v xs:=by
 obtain⟨A,c,e,hr⟩:=B8.ownK h aW;exact⟨A,c,e,hl,hr,ht.fds⟩
theorem Qax{L:List (List UInt8)}{k:Nat}(hk:k<L.length){S:List Ty}(h:Fa L=(Fa (L.drop k)).map (S ++ ·)):
  Fa L=(match Dh L[k]with|none=>none|some t=>(Fa (L.drop (k+1))).map ((S++[t]) ++ ·)):=by
 rw[h,List.drop_eq_getElem_cons hk,Fa,Z6];cases Ej L[k]with
 |none=>rfl
 |some t=>
  simp only;cases Fa (L.drop (k+1))with
  |none=>rfl
  |some r=>simp
theorem Jl{s:List UInt8}(h:400<s.length\/M5 s=none):Ci s=none:=by
 cases hs:Ci s with
 |none=>rfl
 |some S=>
  have:=Nv.1 hs;rcases h with h|h
  ·omega
  rw[h]at this;exact absurd this.2.1 aI
theorem Vq{s:List UInt8}{S:List Ty}(h4:s.length<=400)(h:M5 s=some S)(b:Bool)(hb:b=true↔Ry S):Ci s=if b=true then some S else none:=by
 cases b with
 |true=>
  rw[if_pos rfl];exact Nv.2 ⟨h4,h,hb.1 rfl⟩
 |false=>
  rw[if_neg aH];cases hs:Ci s with
  |none=>rfl
  |some T=>
   have:=Nv.1 hs;rw[h]at this;obtain⟨_,e,hv⟩:=this;simp only[ai]at e;subst e;exact absurd (hb.2 hv) aH
def Jb(o:Option (List Ty))(w:World)(e:Ending)(w':World):Prop:=
 (match o with
  |some S=>∃v xs,e=.returned (.tuple #[v,.bool true])/\Ah xs=S/\Mc w' v xs
  |none=>∃A n c,e=.returned (.tuple #[.slice A n c,.bool false]))/\Below w w w'
theorem Jb.no{w w':World}{e:Ending}{o:Option (List Ty)}(ho:o=none){A:Option Addr}{n c:Nat}(he:e=.returned (.tuple #[.slice A n c,.bool false]))(hb:Below w w w'):Jb o w e w':=by
 rw[ho];exact⟨⟨A,n,c,he⟩,hb⟩
theorem Jb.yes{w w':World}{e:Ending}{o:Option (List Ty)}{v:Value}{xs:List (Ty × Value)}(ho:o=some (Ah xs))(he:e=.returned (.tuple #[v,.bool true]))(hs:Mc w' v xs)(hb:Below w w w'):Jb o w e w':=by
 rw[ho];exact⟨⟨v,xs,he,rfl,hs⟩,hb⟩
theorem Mw{w:World}{base:Nat}{v:Value}{ls:List (List UInt8)}(h:w.ownsRow base 9 1 v ls.length (Br ls))(hne:ls≠[]):
  ∃g c,v=.slice (some ⟨g,0,none⟩) ls.length c/\base<=g/\g<w.heap.size/\∀j (hj:j<ls.length),w.cell? ⟨g,j,none⟩=some (.string ⟨ls[j].toArray⟩):=by
 rcases h.2 with⟨_,h0⟩|⟨g,cap,cur,rfl,hb,hh,_⟩
 ·cases ls with
  |nil=>exact absurd rfl hne
  |cons=>simp at h0
 refine⟨g,cap,rfl,hb,(h.lt g rfl).2,fun j hj=>?_⟩;have:=h.cells (g:=g) rfl j (.string ⟨ls[j].toArray⟩) (by simp[Br,hj]);rwa [Qcr]at this
theorem Qam{s:List UInt8}(h:9<(Ai 10 s).length):M5 s=none:=if_pos (.inl h)
theorem Zu{s:List UInt8}(h:(Ai 10 s).getLast?≠some []):M5 s=none:=if_pos (.inr h)
theorem Qdi{s:List UInt8}(h:¬9<(Ai 10 s).length)(h2:(Ai 10 s).getLast?=some []):M5 s=Fa (Ai 10 s).dropLast:=if_neg (by rintro(h3|h3)<;>contradiction)
theorem Rj(s:List UInt8)(w:World)(hs:s.length<=4000000)(h:400<s.length\/9<(Ai 10 s).length\/(Ai 10 s).getLast?≠some []):
  Calls prog 41 #[s] w (Jb (Ci s) w):=by
 have HF:=Aa (show Ci s=none by
  rcases h with h|h|h
  ·exact Jl (.inl h)
  ·exact Jl (.inr (Qam h))
  exact Jl (.inr (Zu h)))
 have Hcut:=Aa (fun W=>Cl s 10 10 rfl W hs);have hne:=Ee 10 s;have hle:=Gn 10 s;generalize Ai 10 s=L at h Hcut hne hle;go_enter func41,ntmps41;go_wp2_with fail;refine(Hcut.o _).mono ?_;rintro e w1 ⟨v,rfl,ho,hb⟩;obtain⟨g,c,rfl,hg1,hg2,hcells⟩:=Mw ho hne;have hpos:0<L.length:=List.length_pos_iff.2 hne;have Hb:=Aa hb;have k1:(0:Int)<=(L.length:Int) - 1:=aE;have k2:(L.length:Int) - 1<(L.length:Int):=aE;have k3:((L.length:Int) - 1).toNat=L.length - 1:=aE;by_cases h1:400<s.length
 ·have q1:(400:Int)<(s.length:Int):=aE;clear h hcells ho hb;go_wp2_with fail;refine aC (v:=.tuple #[.slice none 0 0,.bool false]) (by simp[results,results41,go_sem]) rfl ?_;exact Jb.no HF.o rfl Hb.o
 have q1:¬(400:Int)<(s.length:Int):=aE;by_cases h2:9<L.length
 ·have q2:(9:Int)<(L.length:Int):=aE;clear h hcells ho hb;go_wp2_with fail;refine aC (v:=.tuple #[.slice none 0 0,.bool false]) (by simp[results,results41,go_sem]) rfl ?_;exact Jb.no HF.o rfl Hb.o
 have q2:¬(9:Int)<(L.length:Int):=aE;have h3:L.getLast?≠some []:=by rcases h with h|h|h<;>first|exact h|exact absurd h h1|exact absurd h h2
 have cl:=hcells (L.length - 1) aE;have he:¬(L[L.length - 1]=[]):=by
  intro e;apply h3;rw[List.getLast?_eq_getElem?,List.getElem?_eq_getElem aE,e]
 have he':(L[L.length - 1] == [])=false:=cu;clear h hcells ho hb h3;generalize L[L.length - 1]=x at cl he he';go_wp2_with fail;refine aC (v:=.tuple #[.slice none 0 0,.bool false]) (by simp[results,results41,go_sem]) rfl ?_;exact Jb.no HF.o rfl Hb.o
def Tx(w:World)(v:Value)(l:List C5):Prop:=
 ∃g c,v=.slice (some ⟨g,0,none⟩) l.length c/\g<w.heap.size/\l.length<=c/\c<=maxLen/\∀j (hj:j<l.length),w.cell? ⟨g,j,none⟩=some (.string ⟨l[j].toArray⟩)
theorem Tx.below{w w':World}{v:Value}{l:List C5}(h:Tx w v l)(hb:Below w w w'):Tx w' v l:=by
 obtain⟨g,c,rfl,hg,h1,h2,hc⟩:=h;exact⟨g,c,rfl,ab hg hb.size,h1,h2,fun j hj=>(hb.cell (p:=⟨g,j,none⟩) hg).trans (hc j hj)⟩
theorem Tx.own{w:World}{base:Nat}{v:Value}{n:Nat}{l:List C5}(h:w.ownsRow base 9 1 v n (Br l))(hne:l≠[]):Tx w v l:=by
 obtain rfl:n=l.length:=by have:=h.1;simp[Br]at this;omega
 rcases h.2 with⟨_,h0⟩|⟨g,cap,cur,rfl,hb,hh,hnc,hcm,_⟩
 ·cases l with
  |nil=>exact absurd rfl hne
  |cons=>simp at h0
 refine⟨g,cap,rfl,(h.lt g rfl).2,hnc,hcm,fun j hj=>?_⟩;have:=h.cells (g:=g) rfl j (.string ⟨l[j].toArray⟩) (by simp[Br,hj]);rwa [Qcr]at this
theorem Qja(p:C5->Bool):∀(l:List C5),(∀(j:Nat) (hj:j<l.length),j<(l.takeWhile p).length->p l[j]=true)/\(∀(h:(l.takeWhile p).length<l.length),p l[(l.takeWhile p).length]=false) /\
  l.takeWhile p=l.take (l.takeWhile p).length/\l.dropWhile p=l.drop (l.takeWhile p).length/\(l.takeWhile p).length<=l.length
 |[]=>aI
 |x::l=>by
  obtain⟨i1,i2,i3,i4,i5⟩:=Qja p l;by_cases h:p x=true
  ·simp only[List.takeWhile_cons,List.dropWhile_cons,h,if_true,List.length_cons];refine⟨?_,?_,?_,?_,by omega⟩
   ·intro j hj hlt;cases j with
    |zero=>simpa using h
    |succ j=>simpa using i1 j (by simpa using hj) (by simpa using hlt)
   ·intro hh;simpa using i2 (by simpa using hh)
   ·simpa using i3
   simpa using i4
  have h':p x=false:=bg;simp[h']
theorem Mc.fds{w:World}{v:Value}{xs:List (Ty × Value)}(h:Mc w v xs){x:Ty × Value}(hx:x∈xs):Fc w x.2 x.1.fields:=by
 obtain⟨_,_,_,_,_,h⟩:=h;exact h x hx
theorem Nt{c d:UInt8}(h:c≠d):((c.toNat:Int) != (d.toNat:Int))=true:=by
 rw[bne_iff_ne];intro e;exact h (UInt8.toNat_inj.1 aE)
theorem Ks{c d:UInt8}(h:c=d):((c.toNat:Int) != (d.toNat:Int))=false:=by subst h;simp
def D3(s d:List UInt8):Option (List Ty × Kd):=
 match Ci s with
 |none=>none
 |some S=>match Co d with
  |none=>none
  |some k=>if B9 S k then some (S,k)else none
theorem Qb8{s d:List UInt8}{S:List Ty}{k:Kd}(h:D3 s d=some (S,k)):Ci s=some S/\Co d=some k/\B9 S k:=by
 unfold D3 at h;cases h1:Ci s with
 |none=>rw[h1]at h;cases h
 |some T=>cases h2:Co d with
  |none=>rw[h1,h2]at h;cases h
  |some q=>
   rw[h1,h2]at h;simp only at h;split at h
   ·rename_i hr;simp only[ai,aB]at h;obtain⟨rfl,rfl⟩:=h;exact⟨rfl,rfl,hr⟩
   cases h
theorem P6{s d:List UInt8}{S:List Ty}{k:Kd}(h:D3 s d=some (S,k)):No S/\s.length<=400/\scB S=s/\C0 k/\Bi k=d/\B9 S k:=by
 obtain⟨h1,h2,h3⟩:=Qb8 h;obtain⟨a1,a2,a3⟩:=Qt.1 h1;obtain⟨b1,b2⟩:=Er.1 h2;exact⟨a1,a2,a3,b1,b2,h3⟩
theorem Rb(c:UInt8)(p:List UInt8):∀(l:List (List UInt8)),An c (l++[p])=if l.length=0 then p else An c l++c::p
 |[]=>rfl
 |[q]=>by simp[An]
 |q::r::l=>by
  have ih:=Rb c p (r::l);rw[aq,Cf c q aI,ih,Cf c q aI];simp
def E8(l:List UInt8)(w:World)(e:Ending)(w':World):Prop:=e=.returned l/\Below w w w'
theorem Fh.open_{P:Nat->Prop}{w:World}{b:Nat}{kind text:List UInt8}{tags:List Nat}{kids:List SV}(h:Fh P w b (.mk kind text tags kids)):∃(A1 A2:Option Addr) (c1 c2:Nat) (xs:List (Nat × SV)),b<w.heap.size/\P b/\w.cell? (b,0)=kind/\w.cell? (b,1)=text /\
  w.cell? (b,2)=some (.slice A1 tags.length c1)/\w.cell? (b,3)=some (.slice A2 xs.length c2)/\B8 w A1 tags.length (B6 tags)/\B8 w A2 xs.length (Cy (xs.map (·.1)))/\tags.length<=1000/\xs.length<=1000/\kids=xs.map (·.2)/\∀x∈xs,Fh P w x.1 x.2:=by
 obtain⟨k,t,g,A1,A2,c1,c2,xs,hv,hb,hP,h0,h1,h2,h3,hr1,hr2,hl1,hl2,_,_,h⟩:=h;injection hv with e1 e2 e3 e4;subst e1 e2 e3 e4;exact⟨A1,A2,c1,c2,xs,hb,hP,h0,h1,h2,h3,hr1,hr2,hl1,hl2,rfl,h⟩
theorem T8{xs:List (Nat × SV)}{i:Nat}(hi:i<xs.length):(Cy (xs.map (·.1)))[i]'(by simp[Cy];exact hi)=.pointer (some ⟨xs[i].1,0,none⟩):=by simp[Cy]
theorem Qbf{l:List Nat}{i:Nat}(hi:i<l.length):(B6 l)[i]'(by simp[B6];exact hi)=.int .i64 (l[i]:Int):=by simp[B6]
theorem Jh(P:Nat->Prop)(b:Nat)(c:UInt8)(tx:List UInt8)(w:World)(hc:c=110\/c=116\/c=102)(h:Fh P w b (.mk [c] tx [] [])):Calls prog 22 #[b] w (E8 tx w):=by
 obtain⟨_,_,_,_,_,hb,_,h0,h1,_⟩:=h.open_;have HR:=Aa h1;rcases hc with rfl|rfl|rfl<;>
 ·go_enter func22,ntmps22;go_wp2_with fail;go_ret;exact im
theorem Zp(P:Nat->Prop)(b:Nat)(kr:List UInt8)(kids:List SV)(ks:List Vl)(w:World)(h:Fh P w b (.mk (91::kr) [] [] kids))(hkr:kr.length<=100)(hl:(Au (.mk 91 [] 0 ks)).length<=100000000)(hkl:kids.length=ks.length)
  (ih:∀(i:Nat) (hi:i<kids.length) (hi2:i<ks.length) b W,Fh P W b kids[i]->(Au ks[i]).length<=100000000->Calls prog 22 #[.pointer (some ⟨b,0,none⟩)] W (E8 (Au ks[i]) W)):
  Calls prog 22 #[.pointer (some ⟨b,0,none⟩)] w (E8 (Au (.mk 91 [] 0 ks)) w):=by
 obtain⟨A1,A2,c1,c2,xs,hb,_,h0,_,_,h3,_,hr2,_,hxl,rfl,hk⟩:=h.open_;have HF:=Aa (E4 ks);have hjl:(An 44 (ks.map Au)).length<=100000000:=by rw[E4]at hl;simp at hl;omega
 rw[B1]at hjl
 have Hjt:=Aa (fun i (hi:i<ks.length)=>(show Cq ((ks.take (i+1)).map Au)<=Cq (ks.map Au)/\(Au ks[i]).length+1+Cq ((ks.take i).map Au)=Cq ((ks.take (i+1)).map Au)from by
  refine⟨?_,?_⟩
  ·conv=>rhs;rw[<-List.take_append_drop (i+1) ks,aw]
   exact iS
  rw[Bx ks i hi,aw];simp[Cq];omega))
 have hkl2:xs.length=ks.length:=by simpa using hkl
 have Ih:=Aa ih;have Hr:=Aa hr2;have Hk:=Aa hk;have Hkl:=Aa hkl2;have Hlen:=Aa hjl;have hle:ks.length<=xs.length:=aE;clear hkl hkl2 ih hr2 hk h hl hjl;go_enter func22,ntmps22;go_wp2_with fail;go_loopw [4,3] (fun i s wr=>∃m:Nat,i=.int .i64 m/\m<=xs.length/\s=.string ⟨(91::An 44 ((ks.take m).map Au):List UInt8).toArray⟩/\Hid (Below w w wr)) (fun i _ _=>xs.length - (intOf i).toNat)
 case atStart=>exact⟨0,rfl,af _,rfl,Ay _ _⟩
 case round=>
  obtain⟨m,rfl,hm,rfl,Hbr⟩:=hrel;have m1:(0:Int)<=(m:Int):=aE;have g3:=(Hbr.o.cell (p:=⟨b,3,none⟩) hb).trans h3;have hbw:b<wr.heap.size:=dI;have HJ:=Aa (B1 44 ((ks.take m).map Au));by_cases hlt:m<xs.length
  ·have m2:(m:Int)<(xs.length:Int):=aE;have hltk:m<ks.length:=ef;obtain⟨b8,o8,rfl,hb8,hc8⟩:=(Hr.o.below Hbr.o).at_ hlt;rw[T8 hlt]at hc8;have HX:=Aa (fun W (hW:Below w w W)=>Ih.o m (by simpa using hlt) hltk xs[m].1 W eu (by obtain⟨q1,q2⟩:=Hjt.o m hltk;have:=Hlen.o;omega));obtain⟨q1,q2⟩:=Hjt.o m hltk;have hjm:(An 44 ((ks.take m).map Au)).length<=100000000:=by rw[HJ.o];have:=Hlen.o;omega
   have hpm:(Au ks[m]).length<=100000000:=by have:=Hlen.o;omega
   have HP:=Aa (show An 44 ((ks.take (m+1)).map Au)=if m=0 then Au ks[m]else An 44 ((ks.take m).map Au)++44::Au ks[m]from by
    rw[Bx ks m hltk,aw,List.map_singleton,Rb];have:((ks.take m).map Au).length=m:=aM;rw[this])
   have HP0:=@Aa (m=0->An 44 ((ks.take m).map Au)=[]) (by rintro rfl;rfl);clear q1 q2;generalize Au ks[m]=pm at *;generalize An 44 ((ks.take m).map Au)=jm at *;generalize xs[m].1=bm at *;by_cases h0m:m=0
   ·have t0:¬(0<m):=aE;have t1:¬((0:Int)<(m:Int)):=aE;have HP1:=Aa (HP.o.trans (if_pos h0m));have HP2:=Aa (HP0.o h0m);clear h0m HP HP0 HJ;go_wp2_with fail;refine(HX.o _ Hbr.o).mono ?_;rintro e w3 ⟨rfl,hb3⟩;have Hb3:=Aa (Hbr.o.trans (hb3.mono Hbr.o.size));clear hb3;go_wp2_with fail;go_roundw
    case rel=>exact⟨m+1,by go_num,by omega,by rw[HP1.o,HP2.o];rfl,Hb3.o⟩
    case measure=>simp[intOf];omega
   have t0:0<m:=aE;have t1:(0:Int)<(m:Int):=aE;have HP1:=Aa (HP.o.trans (if_neg h0m));clear h0m HP HP0 HJ;go_wp2_with fail;refine(HX.o _ Hbr.o).mono ?_;rintro e w3 ⟨rfl,hb3⟩;have Hb3:=Aa (Hbr.o.trans (hb3.mono Hbr.o.size));clear hb3;go_wp2_with fail;go_roundw
   case rel=>exact⟨m+1,by go_num,by omega,by rw[HP1.o]<;>simp,Hb3.o⟩
   case measure=>simp[intOf];omega
  ·have em:m=ks.length:=ef;have HE:=Aa (show An 44 ((ks.take m).map Au)=An 44 (ks.map Au)by rw[em,List.take_length]);have hjm:(An 44 ((ks.take m).map Au)).length<=100000000:=by rw[HE.o,B1];exact Hlen.o
   clear em HJ;generalize An 44 ((ks.take m).map Au)=jm at *;go_wp2_with fail;go_ret;exact⟨by rw[HF.o,<-HE.o];rfl,Hbr.o⟩
theorem Q4(P:Nat->Prop)(b:Nat)(kr:List UInt8)(kids:List SV)(o:Option Vl)(w:World)(h:Fh P w b (.mk (63::kr) [] [] kids))(hkr:kr.length<=100)(hl:(Au (.mk 63 [] 0 o.toList)).length<=100000000)(hkl:kids.length=o.toList.length)
  (ih:∀x,o=some x->∀b W y,y∈kids->Fh P W b y->Calls prog 22 #[.pointer (some ⟨b,0,none⟩)] W (E8 (Au x) W)):
  Calls prog 22 #[.pointer (some ⟨b,0,none⟩)] w (E8 (Au (.mk 63 [] 0 o.toList)) w):=by
 obtain⟨A1,A2,c1,c2,xs,hb,_,h0,_,_,h3,_,hr2,_,hxl,rfl,hk⟩:=h.open_;cases o with
 |none=>
  have hx0:xs=[]:=by simpa using hkl
  subst hx0;clear hk hr2 ih h;go_enter func22,ntmps22;go_wp2_with fail;go_ret;exact im
 |some x=>
  obtain⟨⟨bx,y⟩,rfl⟩:∃a,xs=[a]:=by
   cases xs with
   |nil=>simp at hkl
   |cons a l=>cases l with
    |nil=>exact⟨a,rfl⟩
    |cons b l=>simp at hkl
  have HF:=Aa (show Au (.mk 63 [] 0 [x])=43::Au x by simp[Au,Cs,Ez,An]);have hpl:(Au x).length<=100000000:=by have:=HF.o;simp only[Option.toList]at hl;rw[this]at hl;simp at hl;omega
  obtain⟨b8,o8,rfl,hb8,hc8⟩:=hr2.at_ (show 0<1 by decide);simp[Cy]at hc8;have HX:=Aa (ih x rfl bx w y aI (hk (bx,y) aI));simp only[List.length_singleton]at h3;clear hk hr2 ih h hkl;generalize Au x=px at *;go_enter func22,ntmps22;go_wp2_with fail;refine HX.o.mono ?_;rintro e w3 ⟨rfl,hb3⟩;have Hb3:=Aa hb3;clear hb3;go_wp2_with fail;go_ret;exact⟨by show _=Ending.returned (.string ⟨(Au (.mk 63 [] 0 [x])).toArray⟩);rw[HF.o];rfl,Hb3.o⟩
end
end Go.Proofs.YtkigmebejmmikaaGreatDoor
