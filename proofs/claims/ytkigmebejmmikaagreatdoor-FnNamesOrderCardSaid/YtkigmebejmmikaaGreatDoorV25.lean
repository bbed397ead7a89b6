/- Texts joined. Conditions: as each theorem names them. -/
import Derived.Deep.CutRange
import Derived.Deep.DeepCutAuto
import Derived.Test.YtkigmebejmmikaaGreatDoorV22
set_option maxRecDepth 100000
set_option maxHeartbeats 32000000
set_option linter.unusedVariables false
set_option linter.unusedSimpArgs false
namespace Go.Proofs.YtkigmebejmmikaaGreatDoor
open Go.RowKit Go.Proofs.Tryz
theorem Ef.grown{w w':World}{g p:Nat}{v:Value}{fs:List Fd}(h:Ef w v fs)(hR:Ez w g p)(hg:w.grownBy w' (some g)):Ef w' v fs:=by
 obtain⟨A,c,e,hl,hr⟩:=h;refine⟨A,c,e,hl,hr.grown hg (fun b off e1 hn=>?_)⟩;rintro rfl;obtain⟨b',off',e',_,c0,c1,_,_⟩:=Ef.at_ hr (i:=0) aG;rw[e1]at e';injection e' with e';injection e' with e2 e3;subst e2 e3;obtain⟨A2,n2,c2,l2,hh,_⟩:=hR;rcases(show off=0\/off=1\/2<=off by omega)with ho|ho|ho
 ·exact kz
 ·subst ho;simp[World.cell?,hh]at c1
 obtain⟨k,rfl⟩:∃k,off=k+2:=⟨off - 2,by omega⟩
 simp[World.cell?,hh]at c0
theorem G8.grown{w w':World}{g p:Nat}{v:Value}{xs:List (Ty × Value)}(h:G8 w v xs)(hR:Ez w g p)(hg:w.grownBy w' (some g)):G8 w' v xs:=by
 obtain⟨A,c,e,hl,hr,hf⟩:=h;refine⟨A,c,e,hl,hr.grown hg (fun b off e1 hn=>?_),fun x hx=>(hf x hx).grown hR hg⟩;rintro rfl;obtain⟨b',off',e',_,c0,_,_⟩:=G8.at_ hr (i:=0) aG;rw[e1]at e';injection e' with e';injection e' with e2 e3;subst e2 e3;obtain⟨A2,n2,c2,l2,hh,_⟩:=hR;rcases(show off=0\/off=1\/2<=off by omega)with ho|ho|ho
 ·exact kz
 ·exact kz
 obtain⟨k,rfl⟩:∃k,off=k+2:=⟨off - 2,by omega⟩
 simp[World.cell?,hh]at c0
section
attribute [local go_sem] Qo1 Qof Qnv Qlx ByteArray.mk_append_mk
theorem Qf7(p:UInt8->Bool):∀(s:List UInt8) (i:Nat) (hi:i<s.length),(i<(s.takeWhile p).length->p s[i]=true)/\(i=(s.takeWhile p).length->p s[i]=false)
 |[],i,hi=>by simp at hi
 |x::s,0,hi=>by
  by_cases h:p x=true
  ·simp[h]
  simp[h]
 |x::s,i+1,hi=>by
  have ih:=Qf7 p s i eI;by_cases h:p x=true
  ·rw[List.takeWhile_cons_of_pos h];simpa using ih
  rw[List.takeWhile_cons_of_neg h];simp
theorem Tk(p:UInt8->Bool)(s:List UInt8):s.take (s.takeWhile p).length=s.takeWhile p/\s.drop (s.takeWhile p).length=s.dropWhile p/\(s.takeWhile p).length<=s.length:=by
 have e:s.takeWhile p++s.dropWhile p=s:=List.takeWhile_append_dropWhile;have h1:(s.takeWhile p++s.dropWhile p).take (s.takeWhile p).length=s.takeWhile p:=List.take_left;have h2:(s.takeWhile p++s.dropWhile p).drop (s.takeWhile p).length=s.dropWhile p:=List.drop_left;rw[e]at h1 h2;have h3:=congrArg List.length e;rw[ah]at h3;exact⟨h1,h2,by omega⟩
theorem V7(s:List UInt8)(w:World)(hs:s.length<=4000000):
  Calls prog 85 #[s] w fun e w'=>e=.returned (.int .i64 ((s.takeWhile Bm).length:Int))/\w=w':=by
 have HT:=Aa (Qf7 Bm s);have hle:=(Tk Bm s).2.2;generalize hn:(s.takeWhile Bm).length=n at *;clear hn;go_enter func85,ntmps85;go_wp2_with fail;go_loop [3] (fun i=>∃k:Nat,i=.int .i64 k/\k<=n) (fun i=>n - (intOf i).toNat)
 case atStart=>exact⟨0,rfl,ag _⟩
 case round=>
  obtain⟨k,rfl,hk⟩:=hrel;by_cases hlt:k<s.length
  ·obtain⟨q1,q2⟩:=HT.o k hlt;have hc:=(s[k]).toNat_lt;by_cases hkn:k<n
   ·obtain⟨h3,h4⟩:=Dh.1 (q1 hkn);clear q1 q2;go_wp2_with fail;go_round
    case rel=>exact⟨k+1,by go_num,by omega⟩
    case measure=>simp[intOf];omega
   have hd:=q2 aG;have hkn2:k=n:=aG;have h2:(s[k]).toNat<48\/(48<=(s[k]).toNat/\57<(s[k]).toNat):=by
    by_cases h3:48<=(s[k]).toNat
    ·refine .inr ⟨h3,?_⟩;by_cases h4:57<(s[k]).toNat
     ·exact h4
     have:=Dh.2 ⟨h3,by omega⟩;rw[hd]at this;cases this
    exact .inl aG
   clear q1 q2 hd;subst hkn2;rcases h2 with h2|⟨h2,h3⟩
   ·go_wp2_with fail;exact kL
   go_wp2_with fail;exact kL
  ·have hkn2:k=n:=aG;subst hkn2;go_wp2_with fail;exact kL
def Bz(S:List Ty)(k:Kd)(o:Option (Vl × List UInt8))(w:World)(e:Ending)(w':World):Prop:=
 (match o with
  |some x=>∃b,e=.returned (.tuple #[.pointer (some ⟨b,0,none⟩),x.2,.bool true])/\Gx (fun c=>w.heap.size<=c) w' b (Cj S k x.1)
  |none=>∃(q:Option Addr) (r:ByteArray),e=.returned (.tuple #[.pointer q,.string r,.bool false]))/\Below w w w'
theorem Bz.no{S:List Ty}{k:Kd}{o:Option (Vl × List UInt8)}{w w':World}{e:Ending}(ho:o=none){q:Option Addr}{r:ByteArray}(he:e=.returned (.tuple #[.pointer q,.string r,.bool false]))(hb:Below w w w'):Bz S k o w e w':=by
 rw[ho];exact⟨⟨q,r,he⟩,hb⟩
theorem Gx.leaf{P:Nat->Prop}{w:World}{kind text:List UInt8}{T:TypeId}(hP:P w.heap.size):Gx P (w.alloc (.cells #[kind,text,.slice none 0 0,.slice none 0 0] T)) w.heap.size (.mk kind text [] []):=
 .mk kind text [] none none 0 0 [] rfl aL hP aL aL aL aL ⟨rfl,ag _,fun h=>absurd h aL⟩ ⟨rfl,ag _,fun h=>absurd h aL⟩ aL aL (fun _ _ h=>absurd h aL) (fun _ _ h=>absurd h aL) aL
theorem Qlz(s:List UInt8):Sg s=if Ei (s.takeWhile Bm) 999999 then(Cz (s.takeWhile Bm)).map (fun n=>(n,s.dropWhile Bm))else none:=by
 unfold Sg Ei;cases h:Cz (s.takeWhile Bm)with
 |none=>rfl
 |some n=>simp[(Cm.1 h).1]
theorem Qkx(S:List Ty)(xv:Value)(hxv:xv.oneCell'=true)(s:List UInt8)(k:Kd)(hs0:k.signs=[])(hb:k.base=[110])(w:World)(hs:s.length<=4000000)(q:Option (Vl × List UInt8))(hq:q=match Sg s with|some (n,r)=>some (.mk 110 (Bb n) 0 [],r)|none=>none):
  Calls prog 50 #[.agg #[xv],s,.string ⟨#[110]⟩] w (Bz S k q w):=by
 have hkd:Bt k=[110]:=cr;have HQ:=Aa (hq.trans (by rw[Qlz]));obtain⟨e1,e2,hle⟩:=Tk Bm s;have Hd:=Aa (fun W=>V7 s W hs);have Hn:=Aa (fun W=>D7 (s.takeWhile Bm) 999999 W aG aJ);have HD:=Aa (fun m (h:Cz (s.takeWhile Bm)=some m)=>(Cm.1 h).2);have E1:=Aa e1;have E2:=Aa e2;have k1:((s.takeWhile Bm).length:Int)<=(s.length:Int):=aG;generalize (s.takeWhile Bm).length=n at *;generalize s.takeWhile Bm=tw at *;generalize s.dropWhile Bm=dw at *;have k2:(0:Int)<=(n:Int):=aG;have k3:((n:Int)).toNat=n:=aG;have hn8:n<=4000000:=aG;clear e1 e2 hs0 hb hq;go_enter func50,ntmps50;go_wp2_with fail;refine(Hd.o _).mono ?_;rintro e w1 ⟨rfl,rfl⟩;go_wp2_with fail;rw[E1.o];refine(Hn.o _).mono ?_;rintro e w2 ⟨m,hm,rfl,hdm,hb2⟩;have Hb2:=Aa (((Aw w.heap.size w).alloc (Ar _) (.cells #[xv] 35)).trans (hb2.mono aL));have Hdm:=Aa hdm;have hz2:=Hb2.o.size;have Hok:=Aa (show Ei tw 999999=(Cz tw).isSome by unfold Ei;cases h:Cz tw with|none=>rfl|some m=>simp[(Cm.1 h).1]);generalize Ei tw 999999=ok at *;clear hb2 hdm;go_wp2_with fail;refine Qr [26,27,28,29,30,31,32,33,34,35,6,7,8]
  (fun ix v W=>match ix with|0=>v=.string ⟨#[110]⟩|1=>v=(s:List UInt8)|2=>v=(n:Int)|3=>v=(tw:List UInt8)|4=>v=.agg #[.string ⟨#[110]⟩,(tw:List UInt8),.slice none 0 0,.slice none 0 0]|5=>∃c,v=.pointer (some ⟨c,0,none⟩)|6=>v=(s:List UInt8)|7=>v=(n:Int)|8=>v=(dw:List UInt8)|9=>v=.bool ok|10=>∃c,v=.pointer (some ⟨c,0,none⟩)|11=>v=(dw:List UInt8)|12=>v=.bool ok|_=>True)
  (fun L U W=>(L 5=false->Below w2 w2 W)/\(L 5=true->∃W7,W=W7.alloc (.cells #[.string ⟨#[110]⟩,(tw:List UInt8),.slice none 0 0,.slice none 0 0] 68)/\Below w2 w2 W7/\U 5=.pointer (some ⟨W7.heap.size,0,none⟩))/\(L 10=true->U 10=U 5)) (⟨fun _=>(Aw _ _).drew,fun h=>Bool.noConfusion h,fun h=>Bool.noConfusion h⟩) ?_ ?_
 ·repeat (first|exact Av.nil|(refine Av.cons ?_ ?_;rotate_left))
  all_goals
   rintro L U W hL hpre HR Hdep K hK;first|(simp[Region.binds]at hpre;done)|simp[Region.binds]at hpre|clear hpre
  iterate 3
   ·exact ir
  ·go_simp;rw[E1.o];exact mi
  ·exact ir
  ·obtain⟨R1,R2,R3⟩:=HR.o;have hB:=R1 hL;have h10:L 10=false:=Bv Hdep.o 10 5 rfl hL;go_simp;exact hK W.heap.size _ _ ⟨_,rfl⟩ Ac ⟨fun h=>by simp at h,fun _=>⟨W,rfl,hB,rfl⟩,fun h=>absurd (h10.symm.trans aR) aJ⟩ aI
  iterate 2
   ·exact ir
  ·exact jc
  ·exact ir
  ·exact iM
  iterate 2
   ·exact ir
 rintro L U W hL hφ hR;have hφ10:U 10=U 5:=hR.2.2 (hL 10 aJ);have e11:U 11=(dw:List UInt8):=hφ 11 aJ;have e12:U 12=.bool ok:=hφ 12 aJ;clear hφ;obtain⟨_,h2,h3⟩:=hR;obtain⟨W7,rfl,hb7,u5⟩:=h2 (hL 5 aJ);rw[u5]at hφ10;clear hL h2;simp only[hφ10,e11,e12];clear hφ10;go_wp2_with fail;refine aE (v:=.tuple #[.pointer (some ⟨W7.heap.size,0,none⟩),dw,.bool ok]) (by simp[results,results50,go_sem]) rfl ?_;have hz7:=hb7.size;have Hb7:=((Hb2.o.trans (hb7.mono hz2)).alloc (ad hz2 hz7) (.cells #[.string ⟨#[110]⟩,tw,.slice none 0 0,.slice none 0 0] 68))
 have HQ:=HQ.o;cases ok with
 |false=>exact Bz.no HQ rfl Hb7
 |true=>
  cases hd:Cz tw with
  |none=>rw[hd]at HQ;have:=Hok.o;rw[hd]at this;cases this
  |some m'=>
   rw[hd]at HQ;simp only[if_true,Option.map_some]at HQ;rw[HQ];refine⟨⟨W7.heap.size,rfl,?_⟩,Hb7⟩;rw[Qcf,hkd,<-HD.o m' hd];exact mj
def P4(c:UInt8):Bool:=c != 39
def Pa(s:List UInt8):Nat:=min (((s.drop 1).takeWhile P4).length+2) s.length
theorem Ql1(r:List UInt8):(r.takeWhile P4=r/\∀x∈r,x≠39)\/∃q,r=r.takeWhile P4++39::q:=by
 induction r with
 |nil=>exact .inl ⟨rfl,by simp⟩
 |cons x r ih=>
  by_cases hx:P4 x=true
  ·rw[List.takeWhile_cons_of_pos hx];rcases ih with⟨h1,h2⟩|⟨q,h⟩
   ·refine .inl ⟨by rw[h1],fun y hy=>?_⟩;rcases az.1 hy with rfl|hy
    ·simpa [P4]using hx
    exact h2 y hy
   exact .inr ⟨q,by rw[au,<-h]⟩
  rw[List.takeWhile_cons_of_neg hx];have:x=39:=by simpa [P4]using hx
  subst this;exact .inr ⟨r,rfl⟩
theorem Qnw(c:UInt8)(r:List UInt8):(G1 ((c::r).take (Pa (c::r)))=false/\N0 (c::r)=none) \/
  ∃x q,N0 (c::r)=some (x,q)/\G1 ((c::r).take (Pa (c::r)))=true/\(c::r).take (Pa (c::r))=39::(x++[39])/\(c::r).drop (Pa (c::r))=q:=by
 rcases Ql1 r with⟨h1,h2⟩|⟨q,h⟩
 ·left;have e:Pa (c::r)=(c::r).length:=by unfold Pa;rw[show (c::r).drop 1=r from rfl,h1];simp
  rw[e,List.take_length];have hd:Aj 39 (r.dropWhile Co)=none:=by
   cases hc:r.dropWhile Co with
   |nil=>rfl
   |cons x z=>
    have hx:x∈r:=(List.dropWhile_sublist _).subset (by rw[hc];simp);simp[Aj,h2 x hx]
  constructor
  ·unfold G1;by_cases h0:r=[]
   ·subst h0;simp
   have hl:(c::r).getLast?=some (r.getLast h0):=by rw[List.getLast?_cons,List.getLast?_eq_some_getLast h0];rfl
   have:=h2 _ (List.getLast_mem h0);rw[hl];simp[this]
  unfold N0;by_cases hc:c=39
  ·subst hc;rw[show Aj 39 (39::r)=some r by simp[Aj]];simp only;rw[hd]
  simp[Aj,hc]
 generalize htw:r.takeWhile P4=tw at *;have hno:∀x∈tw,P4 x=true:=fun x hx=>by rw[<-htw]at hx;exact(List.all_eq_true.1 (List.all_takeWhile)) x hx
 have e:Pa (c::r)=tw.length+2:=by
  unfold Pa;rw[show (c::r).drop 1=r from rfl,htw];have:(c::r).length=tw.length+1+q.length+1:=by rw[h];simp;omega
  omega
 have et:(c::r).take (tw.length+2)=c::(tw++[39]):=by
  rw[List.take_succ_cons,h,List.take_append,ar aG];simp
 have ed:(c::r).drop (tw.length+2)=q:=by
  rw[List.drop_succ_cons,h,List.drop_append,List.drop_of_length_le aG];simp
 have eq:G1 (c::(tw++[39]))=(decide (c=39) && Du tw):=by
  unfold G1;have hl:(c::(tw++[39])).getLast?=some 39:=by rw[<-au,List.getLast?_append];rfl
  rw[hl];simp
 rw[e,et,ed,eq];by_cases hc:c=39
 ·subst hc;by_cases hall:tw.all Co=true
  ·have ha:=List.all_eq_true.1 hall;have t1:r.takeWhile Co=tw:=by rw[h,List.takeWhile_append_of_pos ha];simp[Co,Br,Bm]
   have t2:r.dropWhile Co=39::q:=by rw[h,List.dropWhile_append_of_pos ha];simp[Co,Br,Bm]
   by_cases h12:tw.length<=12
   ·right;exact⟨tw,q,by simp[N0,Aj,t1,t2,h12],by simp[Du,h12,hall],rfl,rfl⟩
   left;exact⟨by simp[Du,h12],by simp[N0,Aj,t1,t2,h12]⟩
  left;refine⟨by simp[Du,hall],?_⟩;have:Aj 39 (r.dropWhile Co)=none:=by
   rw[h];clear htw h e et ed eq;induction tw with
   |nil=>simp at hall
   |cons x tw ih=>
    by_cases hx:Co x=true
    ·rw[au,List.dropWhile_cons_of_pos hx];exact ih (fun y hy=>hno y gc) (by simpa [hx]using hall)
    rw[au,List.dropWhile_cons_of_neg hx];have:=hno x aL;simp[P4]at this;simp[Aj,this]
  unfold N0;rw[show Aj 39 (39::r)=some r by simp[Aj]];simp only;rw[this]
 left;exact⟨by simp[hc],by simp[N0,Aj,hc]⟩
theorem Qkk(S:List Ty)(xv:Value)(hxv:xv.oneCell'=true)(s:List UInt8)(k:Kd)(hs0:k.signs=[])(hb:k.base=[116])(w:World)(hs:s.length<=4000000)(hne:s≠[])(q:Option (Vl × List UInt8))(hq:q=match N0 s with|some (x,r)=>some (.mk 116 x 0 [],r)|none=>none):
  Calls prog 50 #[.agg #[xv],s,.string ⟨#[116]⟩] w (Bz S k q w):=by
 have hkd:Bt k=[116]:=cr;have HQ:=Aa hq
 have Hor:=Aa (show (G1 (s.take (Pa s))=false/\N0 s=none)\/∃x q,N0 s=some (x,q)/\G1 (s.take (Pa s))=true/\s.take (Pa s)=39::(x++[39])/\s.drop (Pa s)=q by
  cases s with
  |nil=>exact absurd rfl hne
  |cons c r=>exact Qnw c r)
 have hz:1<=s.length:=by cases s with|nil=>exact absurd rfl hne|cons c r=>simp
 have HT:=Aa (fun i (hi:i+1<s.length)=>(show (i<((s.drop 1).takeWhile P4).length->s[i+1]≠39)/\(i=((s.drop 1).takeWhile P4).length->s[i+1]=39)from by
  have h:=Qf7 P4 (s.drop 1) i aO;simp only[List.getElem_drop,Nat.add_comm 1 i]at h;exact⟨fun h1=>by simpa [P4]using h.1 h1,fun h1=>by simpa [P4]using h.2 h1⟩))
 have hle:((s.drop 1).takeWhile P4).length+1<=s.length:=by
  have:=(Tk P4 (s.drop 1)).2.2;rw[List.length_drop]at this;omega
 have hqd:Pa s=min (((s.drop 1).takeWhile P4).length+2) s.length:=rfl;have Hn:=Aa (fun W=>Zp (s.take (Pa s)) W aO);generalize ((s.drop 1).takeWhile P4).length=m at *;have k1:((Pa s:Nat):Int)<=(s.length:Int):=aG;have Hmin:Hid ((if ((m:Int)+1+1)<=(s.length:Int)then((m:Int)+1+1)else(s.length:Int))=((Pa s:Nat):Int)):=by
  unfold Hid;split<;>omega
 have k3:((Pa s:Nat):Int).toNat=Pa s:=aG;have k2:(0:Int)<=((Pa s:Nat):Int):=aG;generalize Pa s=n at *;generalize hnok:G1 (s.take n)=ok at *;have HI:∃tw dw,tw=s.take n/\dw=s.drop n:=⟨_,_,rfl,rfl⟩
 obtain⟨tw,dw,e1,e2⟩:=HI;rw[<-e1,<-e2]at Hor;rw[<-e1]at Hn hnok;have E1:=Aa e1.symm;have E2:=Aa e2.symm;have Hok:=Aa hnok;clear e1 e2 hs0 hb hq hqd hne hnok;go_enter func50,ntmps50;go_wp2_with fail;go_loop [9] (fun i=>∃j:Nat,i=.int .i64 ((j:Int)+1)/\j<=m) (fun i=>m+1 - (intOf i).toNat)
 case atStart=>exact⟨0,rfl,ag _⟩
 case round=>
  obtain⟨j,rfl,hj⟩:=hrel;by_cases hlt:j+1<s.length
  ·obtain⟨q1,q2⟩:=HT.o j hlt;have hc:=(s[j+1]).toNat_lt;by_cases hjm:j<m
   ·have h3:=q1 hjm;have h4:((s[j+1]).toNat:Int)≠39:=fun h=>h3 (by apply UInt8.toNat_inj.1;simpa using(by exact_mod_cast h:(s[j+1]).toNat=39));clear q1 q2 h3;go_wp2_with fail;go_round
    case rel=>exact⟨j+1,by go_num,by omega⟩
    case measure=>simp[intOf];omega
   have hjm2:j=m:=aG;have h4:((s[j+1]).toNat:Int)=39:=by rw[q2 hjm2];rfl
   clear q1 q2;subst hjm2;clear hjm HT hj hle;have e9:(j:Int)+1+1=(n:Int):=by rw[<-Hmin.o,if_pos aG]
   go_wp2_with fail;refine Qr [55,56,57,58,59,60,61,62,63,64,65,66,67,6,7,8]
    (fun ix v W=>match ix with|0=>v=.string ⟨#[116]⟩|1=>v=(s:List UInt8)|2=>v=(n:Int)|3=>v=.string ⟨(tw:List UInt8).toArray⟩|4=>v=.agg #[.string ⟨#[116]⟩,.string ⟨(tw:List UInt8).toArray⟩,.slice none 0 0,.slice none 0 0]|5=>∃c,v=.pointer (some ⟨c,0,none⟩)|6=>v=(s:List UInt8)|7=>v=(n:Int)|8=>v=.string ⟨(dw:List UInt8).toArray⟩|9=>v=(s:List UInt8)|10=>v=(n:Int)|11=>v=.string ⟨(tw:List UInt8).toArray⟩|12=>v=.bool ok|13=>∃c,v=.pointer (some ⟨c,0,none⟩)|14=>v=.string ⟨(dw:List UInt8).toArray⟩|15=>v=.bool ok|_=>True)
    (fun L U W=>(L 5=false->Below w w W)/\(L 5=true->∃W7,W=W7.alloc (.cells #[.string ⟨#[116]⟩,.string ⟨(tw:List UInt8).toArray⟩,.slice none 0 0,.slice none 0 0] 68)/\Below w w W7/\U 5=.pointer (some ⟨W7.heap.size,0,none⟩))/\(L 13=true->U 13=U 5)) (⟨fun _=>((Aw w.heap.size w).alloc (Ar _) _).drew,fun h=>Bool.noConfusion h,fun h=>Bool.noConfusion h⟩) ?_ ?_
   ·exact iz
   rintro L U W hL hφ hR;have hφ10:U 13=U 5:=hR.2.2 (hL 13 aJ);have e11:U 14=.string ⟨(dw:List UInt8).toArray⟩:=hφ 14 aJ;have e12:U 15=.bool ok:=hφ 15 aJ;clear hφ;obtain⟨_,h2,h3⟩:=hR;obtain⟨W7,rfl,hb7,u5⟩:=h2 (hL 5 aJ);rw[u5]at hφ10;clear hL h2;simp only[hφ10,e11,e12];clear hφ10;go_wp2_with fail;refine aE (v:=.tuple #[.pointer (some ⟨W7.heap.size,0,none⟩),.string ⟨dw.toArray⟩,.bool ok]) (by simp[results,results50,go_sem]) rfl ?_;have hz7:=hb7.size;have Hb7:=(hb7.alloc aG (.cells #[.string ⟨#[116]⟩,.string ⟨tw.toArray⟩,.slice none 0 0,.slice none 0 0] 68))
   have HQ:=HQ.o;rcases Hor.o with⟨o1,o2⟩|⟨x,q',o1,o2,o3,o4⟩
   ·exact kD
   rw[o1]at HQ;subst o2;rw[HQ];subst o4;refine⟨⟨W7.heap.size,rfl,?_⟩,Hb7⟩;exact ml
  ·have hjm2:j=m:=aG;subst hjm2;have hj3:(j:Int)<=5000000:=aG;have hj4:(0:Int)<=(j:Int):=aG;have hj5:¬((j:Int)+1+1<=(s.length:Int)):=aG;clear HT hj;have e9:(s.length:Int)=(n:Int):=by rw[<-Hmin.o,if_neg aG]
   go_wp2_with fail;refine Qr [55,56,57,58,59,60,61,62,63,64,65,66,67,6,7,8]
    (fun ix v W=>match ix with|0=>v=.string ⟨#[116]⟩|1=>v=(s:List UInt8)|2=>v=(n:Int)|3=>v=.string ⟨(tw:List UInt8).toArray⟩|4=>v=.agg #[.string ⟨#[116]⟩,.string ⟨(tw:List UInt8).toArray⟩,.slice none 0 0,.slice none 0 0]|5=>∃c,v=.pointer (some ⟨c,0,none⟩)|6=>v=(s:List UInt8)|7=>v=(n:Int)|8=>v=.string ⟨(dw:List UInt8).toArray⟩|9=>v=(s:List UInt8)|10=>v=(n:Int)|11=>v=.string ⟨(tw:List UInt8).toArray⟩|12=>v=.bool ok|13=>∃c,v=.pointer (some ⟨c,0,none⟩)|14=>v=.string ⟨(dw:List UInt8).toArray⟩|15=>v=.bool ok|_=>True)
    (fun L U W=>(L 5=false->Below w w W)/\(L 5=true->∃W7,W=W7.alloc (.cells #[.string ⟨#[116]⟩,.string ⟨(tw:List UInt8).toArray⟩,.slice none 0 0,.slice none 0 0] 68)/\Below w w W7/\U 5=.pointer (some ⟨W7.heap.size,0,none⟩))/\(L 13=true->U 13=U 5)) (⟨fun _=>((Aw w.heap.size w).alloc (Ar _) _).drew,fun h=>Bool.noConfusion h,fun h=>Bool.noConfusion h⟩) ?_ ?_
   ·exact iz
   rintro L U W hL hφ hR;have hφ10:U 13=U 5:=hR.2.2 (hL 13 aJ);have e11:U 14=.string ⟨(dw:List UInt8).toArray⟩:=hφ 14 aJ;have e12:U 15=.bool ok:=hφ 15 aJ;clear hφ;obtain⟨_,h2,h3⟩:=hR;obtain⟨W7,rfl,hb7,u5⟩:=h2 (hL 5 aJ);rw[u5]at hφ10;clear hL h2;simp only[hφ10,e11,e12];clear hφ10;go_wp2_with fail;refine aE (v:=.tuple #[.pointer (some ⟨W7.heap.size,0,none⟩),.string ⟨dw.toArray⟩,.bool ok]) (by simp[results,results50,go_sem]) rfl ?_;have hz7:=hb7.size;have Hb7:=(hb7.alloc aG (.cells #[.string ⟨#[116]⟩,.string ⟨tw.toArray⟩,.slice none 0 0,.slice none 0 0] 68))
   have HQ:=HQ.o;rcases Hor.o with⟨o1,o2⟩|⟨x,q',o1,o2,o3,o4⟩
   ·exact kD
   rw[o1]at HQ;subst o2;rw[HQ];subst o4;refine⟨⟨W7.heap.size,rfl,?_⟩,Hb7⟩;exact ml
theorem Sk:∀(p s:List UInt8),Ea p s=if s.take p.length=p then some (s.drop p.length)else none
 |[],s=>by simp[Ea]
 |c::p,[]=>by simp[Ea,Aj]
 |c::p,x::s=>by
  have ih:=Sk p s;unfold Ea;by_cases h:x=c
  ·subst h;simp only[Aj,if_true,List.length_cons,List.take_succ_cons,List.drop_succ_cons,List.cons.injEq,true_and];exact ih
  simp[Aj,h]
theorem Qll(S:List Ty)(xv:Value)(hxv:xv.oneCell'=true)(s:List UInt8)(k:Kd)(hs0:k.signs=[])(hb:k.base=[102])(w:World)(hs:s.length<=4000000)(q:Option (Vl × List UInt8))(hq:q=match Qg s with|some (b,r)=>some (.mk 102 (if b then Eh else Mb) 0 [],r)|none=>none):
  Calls prog 50 #[.agg #[xv],s,.string ⟨#[102]⟩] w (Bz S k q w):=by
 have hkd:Bt k=[102]:=cr;have Hq:=Aa hq;have Hy:=Aa (Sk Eh s);have Hn:=Aa (Sk Mb s);clear hq hs0 hb;go_enter func50,ntmps50;go_wp2_with fail;go_loop [70] (fun i=>(i=.int .i64 0)\/(i=.int .i64 1/\¬s.take 3=Eh)\/(i=.int .i64 2/\¬s.take 3=Eh/\¬s.take 2=Mb)) (fun i=>3 - (intOf i).toNat)
 case atStart=>exact .inl rfl
 case round=>
  obtain rfl|⟨rfl,hny⟩|⟨rfl,hny,hnn⟩:=hrel
  ·by_cases hl:3<=s.length
   ·have hl2:(3:Int)<=(s.length:Int):=aG;by_cases ht:s.take 3=Eh
    ·have HQ:=@Aa (q=some (.mk 102 Eh 0 [],s.drop 3)) (by rw[Hq.o];unfold Qg;rw[Hy.o,if_pos (show s.take Eh.length=Eh from ht)];rfl);generalize hdw:s.drop 3=dw at *;have E2:=Aa hdw;have tb:(s.take 3 == [121,101,115])=true:=by rw[ht];rfl
     clear Hq hdw ht;go_wp2_with fail;have HbW:=Aa (((Aw w.heap.size w).alloc (Ar _) (.cells #[xv] 35)).alloc aL (.cells #[.string ⟨#[121,101,115]⟩,.string ⟨#[110,111]⟩] 9));refine Qr [87,88,89,90,91,92,93,94,6,7,8]
      (fun ix v W=>match ix with|0=>v=.string ⟨#[102]⟩|1=>v=.string ⟨#[121,101,115]⟩|2=>v=.agg #[.string ⟨#[102]⟩,.string ⟨#[121,101,115]⟩,.slice none 0 0,.slice none 0 0]|3=>∃c,v=.pointer (some ⟨c,0,none⟩)|4=>v=(s:List UInt8)|5=>v=.string ⟨#[121,101,115]⟩|6=>v=.int .i64 3|7=>v=(dw:List UInt8)|8=>∃c,v=.pointer (some ⟨c,0,none⟩)|9=>v=(dw:List UInt8)|10=>v=.bool true|_=>True)
      (fun L U W=>(L 3=false->Below w w W)/\(L 3=true->∃W7,W=W7.alloc (.cells #[.string ⟨#[102]⟩,.string ⟨#[121,101,115]⟩,.slice none 0 0,.slice none 0 0] 68)/\Below w w W7/\U 3=.pointer (some ⟨W7.heap.size,0,none⟩))/\(L 8=true->U 8=U 3)) (⟨fun _=>HbW.o.drew,fun h=>Bool.noConfusion h,fun h=>Bool.noConfusion h⟩) ?_ ?_
     ·exact iE
     rintro L U W hL hφ hR;have hφ10:U 8=U 3:=hR.2.2 (hL 8 aJ);have e11:U 9=(dw:List UInt8):=hφ 9 aJ;have e12:U 10=.bool true:=hφ 10 aJ;clear hφ;obtain⟨_,h2,h3⟩:=hR;obtain⟨W7,rfl,hb7,u5⟩:=h2 (hL 3 aJ);rw[u5]at hφ10;clear hL h2;simp only[hφ10,e11,e12];clear hφ10;go_wp2_with fail;refine aE (v:=.tuple #[.pointer (some ⟨W7.heap.size,0,none⟩),dw,.bool true]) (by simp[results,results50,go_sem]) rfl ?_;have hz7:=hb7.size;have Hb7:=(hb7.alloc aG (.cells #[.string ⟨#[102]⟩,.string ⟨#[121,101,115]⟩,.slice none 0 0,.slice none 0 0] 68))
     rw[HQ.o];refine⟨⟨W7.heap.size,rfl,?_⟩,Hb7⟩;exact mm
    have tb:(s.take 3 == [121,101,115])=false:=by simpa [Eh,Mb]using ht
    go_wp2_with fail;go_round
    case rel=>exact .inr (.inl ⟨rfl,ht⟩)
    case measure=>simp[intOf]
   have hl2:¬((3:Int)<=(s.length:Int)):=aG;have ht:¬s.take 3=Eh:=fun h=>hl fN;go_wp2_with fail;go_round
   case rel=>exact .inr (.inl ⟨rfl,ht⟩)
   case measure=>simp[intOf]
  ·by_cases hl:2<=s.length
   ·have hl2:(2:Int)<=(s.length:Int):=aG;by_cases ht:s.take 2=Mb
    ·have HQ:=@Aa (q=some (.mk 102 Mb 0 [],s.drop 2)) (by rw[Hq.o];unfold Qg;rw[Hy.o,if_neg (show ¬s.take Eh.length=Eh from hny),Hn.o,if_pos (show s.take Mb.length=Mb from ht)];rfl);generalize hdw:s.drop 2=dw at *;have E2:=Aa hdw;have tb:(s.take 2 == [110,111])=true:=by rw[ht];rfl
     clear Hq hdw ht;go_wp2_with fail;have HbW:=Aa (((Aw w.heap.size w).alloc (Ar _) (.cells #[xv] 35)).alloc aL (.cells #[.string ⟨#[121,101,115]⟩,.string ⟨#[110,111]⟩] 9));refine Qr [87,88,89,90,91,92,93,94,6,7,8]
      (fun ix v W=>match ix with|0=>v=.string ⟨#[102]⟩|1=>v=.string ⟨#[110,111]⟩|2=>v=.agg #[.string ⟨#[102]⟩,.string ⟨#[110,111]⟩,.slice none 0 0,.slice none 0 0]|3=>∃c,v=.pointer (some ⟨c,0,none⟩)|4=>v=(s:List UInt8)|5=>v=.string ⟨#[110,111]⟩|6=>v=.int .i64 2|7=>v=(dw:List UInt8)|8=>∃c,v=.pointer (some ⟨c,0,none⟩)|9=>v=(dw:List UInt8)|10=>v=.bool true|_=>True)
      (fun L U W=>(L 3=false->Below w w W)/\(L 3=true->∃W7,W=W7.alloc (.cells #[.string ⟨#[102]⟩,.string ⟨#[110,111]⟩,.slice none 0 0,.slice none 0 0] 68)/\Below w w W7/\U 3=.pointer (some ⟨W7.heap.size,0,none⟩))/\(L 8=true->U 8=U 3)) (⟨fun _=>HbW.o.drew,fun h=>Bool.noConfusion h,fun h=>Bool.noConfusion h⟩) ?_ ?_
     ·exact iE
     rintro L U W hL hφ hR;have hφ10:U 8=U 3:=hR.2.2 (hL 8 aJ);have e11:U 9=(dw:List UInt8):=hφ 9 aJ;have e12:U 10=.bool true:=hφ 10 aJ;clear hφ;obtain⟨_,h2,h3⟩:=hR;obtain⟨W7,rfl,hb7,u5⟩:=h2 (hL 3 aJ);rw[u5]at hφ10;clear hL h2;simp only[hφ10,e11,e12];clear hφ10;go_wp2_with fail;refine aE (v:=.tuple #[.pointer (some ⟨W7.heap.size,0,none⟩),dw,.bool true]) (by simp[results,results50,go_sem]) rfl ?_;have hz7:=hb7.size;have Hb7:=(hb7.alloc aG (.cells #[.string ⟨#[102]⟩,.string ⟨#[110,111]⟩,.slice none 0 0,.slice none 0 0] 68))
     rw[HQ.o];refine⟨⟨W7.heap.size,rfl,?_⟩,Hb7⟩;exact mm
    have tb:(s.take 2 == [110,111])=false:=by simpa [Eh,Mb]using ht
    go_wp2_with fail;go_round
    case rel=>exact .inr (.inr ⟨rfl,hny,ht⟩)
    case measure=>simp[intOf]
   have hl2:¬((2:Int)<=(s.length:Int)):=aG;have ht:¬s.take 2=Mb:=fun h=>hl fN;go_wp2_with fail;go_round
   case rel=>exact .inr (.inr ⟨rfl,hny,ht⟩)
   case measure=>simp[intOf]
  ·have HQ:=@Aa (q=none) (by rw[Hq.o];simp only[Qg,Hy.o,Hn.o,if_neg (show ¬s.take Eh.length=Eh from hny),if_neg (show ¬s.take Mb.length=Mb from hnn)]);clear Hq;go_wp2_with fail;refine aE (v:=.tuple #[.pointer none,s,.bool false]) (by simp[results,results50,go_sem]) rfl ?_;exact Bz.no HQ.o rfl (((Aw w.heap.size w).alloc (Ar _) _).alloc aL _)
structure Jm(Q:World->Value->Value->Value->Prop)(w1:World)(c m x y z a b e:Bool)(uc um ux uy uz ua ub ue:Value)(W:World):Prop where
 no:c=false->W=w1
 yes:c=true->∃vp vr vk,Q W vp vr vk/\uc=.tuple #[vp,vr,vk]/\(m=true->um=.tuple #[vp,vr,vk])/\(x=true->ux=vp)/\(y=true->uy=vr)/\(z=true->uz=vk)/\(a=true->ua=vp)/\(b=true->ub=vr)/\(e=true->ue=vk)
def SrQ(w1:World)(S:List Ty)(k:Kd)(o:Option (Vl × List UInt8))(W:World)(vp vr vk:Value):Prop:=
 Below w1 w1 W/\match o with
  |some x=>(∃b,vp=.pointer (some ⟨b,0,none⟩)/\Gx (fun c=>w1.heap.size<=c) W b (Cj S k x.1))/\vr=x.2/\vk=.bool true
  |none=>(∃q,vp=.pointer q)/\(∃r,vr=.string r)/\vk=.bool false
theorem Bz.q{S:List Ty}{k:Kd}{o:Option (Vl × List UInt8)}{w w':World}{e:Ending}(h:Bz S k o w e w'):∃vp vr vk,e=.returned (.tuple #[vp,vr,vk])/\SrQ w S k o w' vp vr vk:=by
 obtain⟨h,hb⟩:=h;cases o with
 |none=>obtain⟨q,r,rfl⟩:=h;exact⟨_,_,_,rfl,hb,⟨q,rfl⟩,⟨r,rfl⟩,rfl⟩
 |some x=>obtain⟨b,rfl,hs⟩:=h;exact⟨_,_,_,rfl,hb,⟨b,rfl,hs⟩,rfl,rfl⟩
def SrC(w0:World)(S:List Ty)(xv:Value)(k:Kd)(d:Nat):Prop:=∀(s:List UInt8) (W:World),Below w0 w0 W->s.length<=1000000 ->
 Calls prog 30 #[.agg #[xv],s,.string ⟨(Bt k).toArray⟩,(d:Int)] W (Bz S k (Ap S 20 d k s) W)
def Qjc(K:List UInt8->Option (Vl × List UInt8))(s:List UInt8):Option (Vl × List UInt8):=match Aj 93 s with
 |some z=>some (.mk 91 [] 0 [],z)
 |none=>match Cd K 20 s with|some (vs,z)=>some (.mk 91 [] 0 vs,z)|none=>none
structure Qoh(w:World)(xv h0 h1:Value)(S:List Ty)(k:Kd)(K:List UInt8->Option (Vl × List UInt8))(s:List UInt8)(wr:World)(v:Value)(xs:List (Nat × SV))(vs:List Vl)(tt:List UInt8):Prop where
 bel:Below w w wr
 st:Fk (w.heap.size+2) (w.heap.size+1) wr h0 h1 (.slice none 0 0) (.slice none 0 0) v v [] xs
 box:wr.cell? (w,0)=some xv
 len:xs.length=vs.length
 eq:xs.map (·.2)=vs.map (Cj S k.part)
 it:Cd K 20 s=Pp vs (Cd K (20 - vs.length) tt)
 le:tt.length<=s.length
theorem Qhz(w0:World)(S:List Ty)(xv:Value)(hxv:xv.oneCell'=true)(k:Kd)(sg:List UInt8)(hsg:k.signs=91::sg)(hkl:(Bt k).length<=100)(d:Nat)(hd:d<=1000)(s:List UInt8)(w:World)(hw:Below w0 w0 w)(hs:s.length<=1000000)
  (H:SrC w0 S xv k.part d) (HG:∀s v r,Ap S 20 d k.part s=some (v,r)->s=Ay v++r) (q:Option (Vl × List UInt8)) (hq:q=Qjc (Ap S 20 d k.part) s):
  Calls prog 66 #[.agg #[xv],.string ⟨s.toArray⟩,.string ⟨(Bt k).toArray⟩,.int .i64 ((d+1:Nat):Int)] w (Bz S k q w):=by
 have hkp:Bt k=91::Bt k.part:=dQ;have HQ:=Aa hq;have HH:=Aa H;have HG:=Aa HG;have HW:=Aa hw;have Hsv:=Aa (fun ks=>hkp ▸ Td S k ks);have hkl2:(Bt k.part).length<=100:=by rw[hkp]at hkl;simp at hkl;omega
 rw[hkp];generalize hkk:Bt k.part=kp at *;have Hkk:=Aa hkk;have ed:(((d+1:Nat):Int)) - 1=(d:Int):=aG;have ed2:(((d+1:Nat):Int))<=1001:=aG;have ed3:(0:Int)<=(((d+1:Nat):Int)):=aG;generalize (((d+1:Nat):Int))=dd at *;clear H hw hq hkp hkl hkk hsg;by_cases h93:∃z,s=93::z
 ·obtain⟨z,rfl⟩:=h93;go_enter func66,ntmps66;go_wp2_with fail;go_quiet (fail)
  go_wp2_with fail;refine aE (v:=.tuple #[(w,1,0),.string ⟨z.toArray⟩,.bool true]) (by simp[results,results66,go_sem]) rfl ?_;rw[HQ.o,show Qjc (Ap S 20 d k.part) (93::z)=some (.mk 91 [] 0 [],z)from by simp[Qjc,Aj]];have hl:=Gx.leaf (P:=fun c=>w.heap.size<=c) (w:=w.alloc (.cells #[xv] 35)) (kind:=91::kp) (text:=[]) (T:=68) aL;refine⟨⟨w.heap.size+1,rfl,?_⟩,below_drewN (((Aw w.heap.size w).alloc (Ar _) _).alloc aL _) _⟩;rw[Hsv.o];have hl2:Gx (fun c=>w.heap.size<=c) ((w.alloc (.cells #[xv] 35)).alloc (.cells #[(91::kp:List UInt8),aa,.slice none 0 0,.slice none 0 0] 68)) (w.heap.size+1) (.mk (91::kp) [] [] []):=eJ;exact hl2.after (below_drewN (Aw _ _) _)
 have hne:Aj 93 s=none:=by
  cases s with
  |nil=>rfl
  |cons c z=>exact C9 (fun e=>h93 ⟨z,by rw[e]⟩) z
 have HQ2:=@Aa (q=match Cd (Ap S 20 d k.part) 20 s with|some (vs,z)=>some (.mk 91 [] 0 vs,z)|none=>none) (by rw[HQ.o];unfold Qjc;rw[hne])
 have Hst:=Aa (show Fk (w.heap.size+2) (w.heap.size+1) ((w.alloc (.cells #[xv] 35)).alloc (.cells #[(91::kp:List UInt8),aa,.slice none 0 0,.slice none 0 0] 68)) (91::kp:List UInt8) aa (.slice none 0 0) (.slice none 0 0) (.slice none 0 0) (.slice none 0 0) [] []from by
  have:=Fk.new (W:=w.alloc (.cells #[xv] 35)) (T:=68) (91::kp:List UInt8) aa;simpa using this)
 have hc0:s≠[]->∀h,((s[0]'h).toNat:Int)≠93:=by
  intro hn h e;cases s with
  |nil=>exact hn rfl
  | cons c z => exact h93 ⟨z, by have:c=93:=by apply UInt8.toNat_inj.1;simpa using(by exact_mod_cast e:c.toNat=93)
                                 rw[this]⟩
 clear h93 hne;obtain⟨W1,hW1⟩:∃W1,W1=(w.alloc (.cells #[xv] 35)).alloc (.cells #[(91::kp:List UInt8),aa,.slice none 0 0,.slice none 0 0] 68):=⟨_,rfl⟩
 have Hb1:=@Aa (Below w w W1) (by rw[hW1];exact((Aw w.heap.size w).alloc (Ar _) _).alloc aL _);have Hx1:=@Aa (W1.cell? (w,0)=some xv) (by rw[hW1];go_simp);rw[<-hW1]at Hst;go_enter func66,ntmps66;go_upto_region 2 with fail
 rw[<-hW1];clear hW1;go_cut [1,24]from 18 to 27 (fun s0 bt wx=>s0=.string ⟨s.toArray⟩/\bt=.bool false/\wx=W1)
 case first=>
  by_cases hs0:s=[]
  ·have he:s.isEmpty=true:=by rw[hs0];rfl
   clear hs0 hc0;go_wp2_with fail;go_meet
   exact⟨rfl,rfl,rfl⟩
  ·have he:s.isEmpty=false:=by cases s with|nil=>exact absurd rfl hs0|cons c z=>rfl
   have hs1:0<s.length:=by cases s with|nil=>exact absurd rfl hs0|cons c z=>simp
   have hs2:(((s[0]'hs1).toNat:Int) == 93)=false:=by simpa using hc0 hs0 hs1
   clear hs0 hc0;go_wp2_with fail;go_meet
   exact⟨rfl,rfl,rfl⟩
 case rest=>
  clear hc0;obtain⟨rfl,rfl,rfl⟩:=hcut;have L0:=@Aa (Qoh w xv (91::kp:List UInt8) aa S k (Ap S 20 d k.part) s wc (.slice none 0 0) [] [] s) ⟨Hb1.o,Hst.o,Hx1.o,rfl,rfl,by cases h:Cd (Ap S 20 d k.part) 20 s<;>simp[Pp,h],Ar _⟩;clear Hb1 Hst Hx1;go_wp2_with fail;go_loopw [1] (fun s0 wr=>∃(A:Option Addr) (c:Nat) (xs:List (Nat × SV)) (vs:List Vl) (tt:List UInt8),s0=tt/\tt.length<=s.length/\Hid (Qoh w xv (91::kp:List UInt8) aa S k (Ap S 20 d k.part) s wr (.slice A xs.length c) xs vs tt)) (fun s0 _=>Sd s0)
  case atStart=>exact⟨none,0,[],[],s,rfl,Ar _,L0.o⟩
  case round=>
   obtain⟨A,c,xs,vs,tt,rfl,htl,HL⟩:=hrel;have c3:=HL.o.st.c3;have c0:=HL.o.box;have hlt:=HL.o.st.lt;by_cases h20:xs.length<20
   ·have t20:decide ((xs.length:Int)<20)=true:=aC aG;have HC:=@Aa (∀W,Below w0 w0 W->Calls prog 30 #[.agg #[xv],tt,kp,(d:Int)] W (Bz S k.part (Ap S 20 d k.part tt) W)) (fun W hW=>by have:=HH.o tt W hW aG;rw[Hkk.o]at this;exact this);have HWr:=@Aa (Below w0 w0 wr.drew) ((HW.o.trans (HL.o.bel.mono HW.o.size)).drew);have t20i:(xs.length:Int)<20:=aG;have hx20:xs.length<=19:=aG;have d1:(0:Int)<=(d:Int):=aG;have d2:(d:Int)<=1000:=aG;have hwd:IntKind.i64.wrap (d:Int)=(d:Int):=IntWalk.i64_in _ aG;clear t20 h20;go_wp2_with fail;refine Qr [35,36,37,38,39,40,41,34,42,43,44,12,13,14]
     (fun ix v W=>match ix with|0=>v=.agg #[xv]|1=>v=(tt:List UInt8)|2=>v=(91::kp:List UInt8)|3=>v=(kp:List UInt8)|4=>v=.int .i64 dd|5=>v=(d:Int)|_=>True)
     (fun L U W=>Jm (SrQ wr.drew S k.part (Ap S 20 d k.part tt)) wr.drew (L 6) (L 7) (L 8) (L 9) (L 10) (L 11) (L 12) (L 13) (U 6) (U 7) (U 8) (U 9) (U 10) (U 11) (U 12) (U 13) W) (⟨fun _=>rfl,fun h=>Bool.noConfusion h⟩) ?_ ?_
    ·repeat (first|exact Av.nil|(refine Av.cons ?_ ?_;rotate_left))
     all_goals
      rintro L U W hL hpre HR Hdep K hK;first|(simp[Region.binds]at hpre;done)|simp[Region.binds]at hpre|clear hpre
     ·have h6:L 6=false:=Bv Hdep.o 6 0 rfl hL;have hW:=HR.o.no h6;exact mn
     iterate 2
      ·exact ir
     ·go_simp;rw[if_pos aG];go_simp;exact hK kp _ _ rfl Ac HR.o aI
     ·exact ir
     ·exact jP
     ·have h7:L 7=false:=Bv Hdep.o 7 6 rfl hL;have h8:L 8=false:=Bv Hdep.o 8 7 rfl h7;have h9:L 9=false:=Bv Hdep.o 9 7 rfl h7;have h10:L 10=false:=Bv Hdep.o 10 7 rfl h7;have h11:L 11=false:=Bv Hdep.o 11 8 rfl h8;have h12:L 12=false:=Bv Hdep.o 12 9 rfl h9;have h13:L 13=false:=Bv Hdep.o 13 10 rfl h10;have hW:=HR.o.no hL;subst hW;go_simp;refine(HC.o _ HWr.o).mono ?_;rintro e w5 hp;obtain⟨vp,vr,vk,rfl,hq5⟩:=hp.q;go_simp;refine hK (.tuple #[vp,vr,vk]) _ _ Ac Ac ⟨fun h=>by simp at h,fun _=>⟨vp,vr,vk,hq5,rfl,?_,?_,?_,?_,?_,?_,?_⟩⟩ aI;all_goals (intro h;simp_all)
     ·have l6:=hpre;obtain⟨vp,vr,vk,q1,q2,q3,q4,q5,q6,q7,q8,q9⟩:=HR.o.yes l6;go_simp;exact hK (U 6) _ _ Ac Ac ⟨fun h=>absurd (l6.symm.trans h) aJ,fun _=>⟨vp,vr,vk,q1,q2,fun _=>q2,q4,q5,q6,q7,q8,q9⟩⟩ fe
     ·have l7:=hpre;have l6:L 6=true:=Ke (Bv Hdep.o 7 6 rfl) l7;obtain⟨vp,vr,vk,q1,q2,q3,q4,q5,q6,q7,q8,q9⟩:=HR.o.yes l6;have u7:=q3 l7;simp only[u7];go_simp;exact hK vp _ _ Ac Ac ⟨fun h=>absurd (l6.symm.trans h) aJ,fun _=>⟨vp,vr,vk,q1,q2,q3,fun _=>rfl,q5,q6,q7,q8,q9⟩⟩ fS
     ·have l7:=hpre;have l6:L 6=true:=Ke (Bv Hdep.o 7 6 rfl) l7;obtain⟨vp,vr,vk,q1,q2,q3,q4,q5,q6,q7,q8,q9⟩:=HR.o.yes l6;have u7:=q3 l7;simp only[u7];go_simp;exact hK vr _ _ Ac Ac ⟨fun h=>absurd (l6.symm.trans h) aJ,fun _=>⟨vp,vr,vk,q1,q2,q3,q4,fun _=>rfl,q6,q7,q8,q9⟩⟩ fS
     ·have l7:=hpre;have l6:L 6=true:=Ke (Bv Hdep.o 7 6 rfl) l7;obtain⟨vp,vr,vk,q1,q2,q3,q4,q5,q6,q7,q8,q9⟩:=HR.o.yes l6;have u7:=q3 l7;simp only[u7];go_simp;exact hK vk _ _ Ac Ac ⟨fun h=>absurd (l6.symm.trans h) aJ,fun _=>⟨vp,vr,vk,q1,q2,q3,q4,q5,fun _=>rfl,q7,q8,q9⟩⟩ fS
     ·have l8:=hpre.1;have l7:L 7=true:=Ke (Bv Hdep.o 8 7 rfl) l8;have l6:L 6=true:=Ke (Bv Hdep.o 7 6 rfl) l7;obtain⟨vp,vr,vk,q1,q2,q3,q4,q5,q6,q7,q8,q9⟩:=HR.o.yes l6;go_simp;exact hK (U 8) _ _ Ac Ac ⟨fun h=>absurd (l6.symm.trans h) aJ,fun _=>⟨vp,vr,vk,q1,q2,q3,q4,q5,q6,fun _=>q4 l8,q8,q9⟩⟩ (by simp[Act.put,hpre,q2,q3 l7,q4,q5,q6,q7,q8,q9,l8])
     ·have l9:=hpre.1;have l7:L 7=true:=Ke (Bv Hdep.o 9 7 rfl) l9;have l6:L 6=true:=Ke (Bv Hdep.o 7 6 rfl) l7;obtain⟨vp,vr,vk,q1,q2,q3,q4,q5,q6,q7,q8,q9⟩:=HR.o.yes l6;go_simp;exact hK (U 9) _ _ Ac Ac ⟨fun h=>absurd (l6.symm.trans h) aJ,fun _=>⟨vp,vr,vk,q1,q2,q3,q4,q5,q6,q7,fun _=>q5 l9,q9⟩⟩ (by simp[Act.put,hpre,q2,q3 l7,q4,q5,q6,q7,q8,q9,l9])
     ·have l10:=hpre.1;have l7:L 7=true:=Ke (Bv Hdep.o 10 7 rfl) l10;have l6:L 6=true:=Ke (Bv Hdep.o 7 6 rfl) l7;obtain⟨vp,vr,vk,q1,q2,q3,q4,q5,q6,q7,q8,q9⟩:=HR.o.yes l6;go_simp;exact hK (U 10) _ _ Ac Ac ⟨fun h=>absurd (l6.symm.trans h) aJ,fun _=>⟨vp,vr,vk,q1,q2,q3,q4,q5,q6,q7,q8,fun _=>q6 l10⟩⟩ (by simp[Act.put,hpre,q2,q3 l7,q4,q5,q6,q7,q8,q9,l10])
    rintro L U W hL hφ hR;clear hφ;obtain⟨vp,vr,vk,hq5,_,_,_,_,_,q7,q8,q9⟩:=hR.yes (hL 6 aJ);have u11:=q7 (hL 11 aJ);have u12:=q8 (hL 12 aJ);have u13:=q9 (hL 13 aJ);simp only[u11,u12,u13];clear hR hL q7 q8 q9 u11 u12 u13;obtain⟨hb5,hm⟩:=hq5;have HB5:=@Aa (Below wr wr W) ((Aw _ _).drew.trans hb5);have HS5:=Aa (HL.o.st.after HB5.o);have Hw5:=Aa (HL.o.bel.trans (HB5.o.mono HL.o.bel.size));have Hx5:=@Aa (W.cell? (w,0)=some xv) ((HB5.o.cell (p:=⟨w.heap.size,0,none⟩) (by show w.heap.size<wr.heap.size;omega)).trans c0);have hz5:=hb5.size;have Hit:=@Aa (Cd (Ap S 20 d k.part) 20 s=Pp vs (Cd (Ap S 20 d k.part) (19 - vs.length+1) tt)) (by rw[HL.o.it];congr 2;have:=HL.o.len;omega);clear c3 c0 hb5;cases hk:Ap S 20 d k.part tt with
    |none=>
     rw[hk]at hm;obtain⟨⟨q0,rfl⟩,⟨r0,rfl⟩,rfl⟩:=hm;have HN:=@Aa (q=none) (by rw[HQ2.o,Hit.o];unfold Cd;rw[hk];simp[Pp]);clear hk;go_wp2_with fail;refine aE (v:=.tuple #[.pointer none,tt,.bool false]) (by simp[results,results66,go_sem]) rfl ?_;exact Bz.no HN.o rfl Hw5.o
    |some y=>
     obtain⟨v,r⟩:=y;rw[hk]at hm;obtain⟨⟨b,rfl,hsv⟩,rfl,rfl⟩:=hm;have hrl:r.length<=tt.length:=by rw[HG.o tt v r hk];simp
     have Hsv5:=Aa (show Gx (fun c1=>w.heap.size+2<=c1/\(Value.slice A xs.length c).ownBlock≠some c1/\(Value.slice none 0 0).ownBlock≠some c1) W b (Cj S k.part v)from by
      refine hsv.mono fun c1 hc _=>⟨ad HL.o.st.bs hc,fun e=>?_,by simp[Value.ownBlock]⟩
      have h1:=(HL.o.st.row.lt c1 e).2;have h2:wr.heap.size<=c1:=hc;omega)
     have HI:=@Aa (Cd (Ap S 20 d k.part) 20 s=Pp vs (match Aj 44 r with|some q=>(match Cd (Ap S 20 d k.part) (19 - vs.length) q with|some (vs,z)=>some (v::vs,z)|none=>none)|none=>match Aj 93 r with|some q=>some ([v],q)|none=>none)) (by rw[Hit.o];simp only[Cd,hk];rfl);clear hk hsv;cases r with
     |nil=>
      have HN:=@Aa (q=none) (by rw[HQ2.o,HI.o];simp[Aj,Pp]);go_wp2_with fail;refine aE (v:=.tuple #[.pointer none,tt,.bool false]) (by simp[results,results66,go_sem]) rfl ?_;exact Bz.no HN.o rfl Hw5.o
     |cons c9 z=>
      by_cases h44:c9=44
      ·have HSV:=Hsv5;clear Hsv5;subst h44;have h9:((((44:UInt8).toNat:Nat):Int) != 44)=false:=rfl;have h8:((((44:UInt8).toNat:Nat):Int) == 93)=false:=rfl;have s3:=HS5.o.c3;have s4:=HS5.o.lt;go_wp2_with (at_builtin;go_loud (refine Gq _ rfl _ _ 66 rfl (w.heap.size+2) 31 (.pointer none) 8 underlying66 Vo rfl W b rfl rfl (.slice A xs.length c) xs.length (E8 (xs.map (·.1))) rfl rfl HS5.o.row aU aG HS5.o.bs ?_;intro v6 w6 hown6 hg6 hwh6;obtain⟨A6,c6,e6,hS6,hb6⟩:=HS5.o.push (x:=(b,Cj S k.part v)) HSV.o hown6 hg6 hwh6;subst e6;have HS6:=Aa hS6;have HB6:=Aa hb6;have p3:=hS6.c3;have f3:=hS6.bk.live 3;have hz6:=hS6.lt;clear hS6 hb6 hown6 hg6 hwh6))
       have hw6:=HB6.o.mono (show w.heap.size<=w.heap.size+2 by omega);have Hbel:=Aa ((Hw5.o.trans hw6).setCell (p:=⟨w.heap.size+1,3,none⟩) (show w.heap.size<=w.heap.size+1 by omega) (.slice A6 (xs++[(b,Cj S k.part v)]).length c6));have Hst7:=Aa HS6.o.set3;have Hbx7:=Aa ((Al w6 (w.heap.size+1) 3 (.slice A6 (xs++[(b,Cj S k.part v)]).length c6)).cell ((HB6.o.cell (p:=⟨w.heap.size,0,none⟩) (show w.heap.size<w.heap.size+2 by omega)).trans Hx5.o) aL);have Heq7:=@Aa ((xs++[(b,Cj S k.part v)]).map (·.2)=(vs++[v]).map (Cj S k.part)) (by simp[HL.o.eq]);have el:(xs++[(b,Cj S k.part v)]).length=xs.length+1:=aL;rw[el]at Hbel Hst7 Hbx7
       have Hit7:=Aa (show Cd (Ap S 20 d k.part) 20 s=Pp (vs++[v]) (Cd (Ap S 20 d k.part) (20 - (vs++[v]).length) z)from by
        rw[HI.o,show 20 - (vs++[v]).length=19 - vs.length by simp];simp only[Aj,if_true];cases Cd (Ap S 20 d k.part) (19 - vs.length) z<;>simp[Pp])
       have Hlen7:=@Aa ((xs++[(b,Cj S k.part v)]).length=(vs++[v]).length) (by simp[HL.o.len]);go_roundw
       case rel=>exact⟨A6,c6,_,vs++[v],z,rfl,by simp at hrl;omega,⟨Hbel.o,by rw[el];exact Hst7.o,Hbx7.o,Hlen7.o,Heq7.o,Hit7.o,by simp at hrl;omega⟩⟩
       case measure=>simp[Sd,ByteArray.size]at hrl ⊢;omega
      by_cases h93:c9=93
      ·have HSV:=Hsv5;clear Hsv5;subst h93;have h9:((((93:UInt8).toNat:Nat):Int) != 44)=true:=rfl;have h7:((((93:UInt8).toNat:Nat):Int) != 93)=false:=rfl;have h8:((((93:UInt8).toNat:Nat):Int) == 93)=true:=rfl;have s3:=HS5.o.c3;have s4:=HS5.o.lt;clear h44;go_wp2_with (at_builtin;go_loud (refine Gq _ rfl _ _ 66 rfl (w.heap.size+2) 31 (.pointer none) 8 underlying66 Vo rfl W b rfl rfl (.slice A xs.length c) xs.length (E8 (xs.map (·.1))) rfl rfl HS5.o.row aU aG HS5.o.bs ?_;intro v6 w6 hown6 hg6 hwh6;obtain⟨A6,c6,e6,hS6,hb6⟩:=HS5.o.push (x:=(b,Cj S k.part v)) HSV.o hown6 hg6 hwh6;subst e6;have HS6:=Aa hS6;have HB6:=Aa hb6;have p3:=hS6.c3;have f3:=hS6.bk.live 3;have hz6:=hS6.lt;clear hS6 hb6 hown6 hg6 hwh6))
       have hw6:=HB6.o.mono (show w.heap.size<=w.heap.size+2 by omega);have Hbel:=Aa ((Hw5.o.trans hw6).setCell (p:=⟨w.heap.size+1,3,none⟩) (show w.heap.size<=w.heap.size+1 by omega) (.slice A6 (xs++[(b,Cj S k.part v)]).length c6));have Hst7:=Aa HS6.o.set3;have Hbx7:=Aa ((Al w6 (w.heap.size+1) 3 (.slice A6 (xs++[(b,Cj S k.part v)]).length c6)).cell ((HB6.o.cell (p:=⟨w.heap.size,0,none⟩) (show w.heap.size<w.heap.size+2 by omega)).trans Hx5.o) aL);have Heq7:=@Aa ((xs++[(b,Cj S k.part v)]).map (·.2)=(vs++[v]).map (Cj S k.part)) (by simp[HL.o.eq]);have el:(xs++[(b,Cj S k.part v)]).length=xs.length+1:=aL;rw[el]at Hbel Hst7 Hbx7;have HY:=@Aa (q=some (.mk 91 [] 0 (vs++[v]),z)) (by rw[HQ2.o,HI.o];simp[Aj,Pp]);refine aE (v:=.tuple #[(w,1,0),.string ⟨z.toArray⟩,.bool true]) (by simp[results,results66,go_sem]) rfl ?_;rw[HY.o];refine⟨⟨w.heap.size+1,rfl,?_⟩,Hbel.o⟩;rw[Hsv.o,<-Heq7.o];have hd:=Hst7.o.done (kind:=91::kp) (text:=[]) aL aO;exact hd.mono fun c1 hc _=>by have:w.heap.size+1<=c1:=hc;show w.heap.size<=c1;omega
      have HN:=@Aa (q=none) (by rw[HQ2.o,HI.o];simp[Aj,Pp,h44,h93]);have t44:((c9.toNat:Int) != 44)=true:=by have:=At h44;simpa using this
      have t93:((c9.toNat:Int) != 93)=true:=by have:=At h93;simpa using this
      clear h44 h93;go_wp2_with fail;refine aE (v:=.tuple #[.pointer none,tt,.bool false]) (by simp[results,results66,go_sem]) rfl ?_;exact Bz.no HN.o rfl Hw5.o
   ·have t20:decide ((xs.length:Int)<20)=false:=aB aG;go_wp2_with fail;refine aE (v:=.tuple #[.pointer none,tt,.bool false]) (by simp[results,results66,go_sem]) rfl ?_;refine Bz.no ?_ rfl HL.o.bel;have h0:=HL.o.it;rw[show 20 - vs.length=0 by have:=HL.o.len;omega]at h0;rw[HQ2.o,h0];simp[Cd,Pp]
theorem SrQ.post{S:List Ty}{k:Kd}{o:Option (Vl × List UInt8)}{w w1 w':World}{vp vr vk:Value}(hb:Below w w w1)(h:SrQ w1 S k o w' vp vr vk):Bz S k o w (.returned (.tuple #[vp,vr,vk])) w':=by
 obtain⟨h1,h2⟩:=h;refine⟨?_,hb.trans (h1.mono hb.size)⟩;cases o with
 |none=>obtain⟨⟨q,rfl⟩,⟨r,rfl⟩,rfl⟩:=h2;exact⟨q,r,rfl⟩
 |some x=>obtain⟨⟨b,rfl,hs⟩,rfl,rfl⟩:=h2;exact⟨b,rfl,hs.mono fun c hc _=>ad hb.size hc⟩
theorem Qi2(S:List Ty)(m d:Nat)(k:Kd)(hs0:k.signs=[])(hb:k.base=[110]\/k.base=[116]\/k.base=[102]):Ap S m (d+1) k []=none:=by
 unfold Ap;rw[hs0];rcases hb with hb|hb|hb<;>rw[hb]<;>rfl
theorem Qer(S:List Ty)(xv:Value)(hxv:xv.oneCell'=true)(k:Kd)(hs0:k.signs=[])(hb:k.base=[110]\/k.base=[116]\/k.base=[102])(d:Nat)(hd:d<=1000)(s:List UInt8)(w:World)(hs:s.length<=1000000):
  Calls prog 30 #[.agg #[xv],s,.string ⟨(Bt k).toArray⟩,.int .i64 ((d+1:Nat):Int)] w (Bz S k (Ap S 20 (d+1) k s) w):=by
 have HN:=Aa (Qi2 S 20 d k hs0 hb);have d1:¬((((d+1:Nat):Int))<1):=aG;have d2:(((d+1:Nat):Int))<=1001:=aG;by_cases hne:s=[]
 ·subst hne;generalize hq:Ap S 20 (d+1) k []=q at *
  have hk2:∃kb:List UInt8,kb.length<=20/\Bt k=kb:=⟨_,by
   have:Bt k=k.base:=by unfold Bt Cr;rw[hs0];rcases hb with hb|hb|hb<;>rw[hb]<;>rfl
   rw[this];rcases hb with hb|hb|hb<;>rw[hb]<;>decide,rfl⟩
  obtain⟨kb,hkl,hkb⟩:=hk2;rw[hkb];generalize (((d+1:Nat):Int))=dd at *;clear hq hb hs0 hkb;go_enter func30,ntmps30;go_wp2_with fail;refine aE (v:=.tuple #[.pointer none,aa,.bool false]) (by simp[results,results30,go_sem]) rfl ?_;exact mo
 have he:s.isEmpty=false:=dq;have HP:∀W,Calls prog 50 #[.agg #[xv],s,.string ⟨(Bt k).toArray⟩] W (Bz S k (Ap S 20 (d+1) k s) W):=by
  intro W;rcases hb with hb|hb|hb
  ·have hk:Bt k=[110]:=cr;rw[hk];exact Qkx S xv hxv s k hs0 hb W aG _ fT
  ·have hk:Bt k=[116]:=cr;rw[hk];exact Qkk S xv hxv s k hs0 hb W aG hne _ fT
  have hk:Bt k=[102]:=cr;rw[hk];exact Qll S xv hxv s k hs0 hb W aG _ fT
 have hk2:∃kb:UInt8,(kb=110\/kb=116\/kb=102)/\Bt k=[kb]:=by
  rcases hb with hb|hb|hb
  ·exact⟨110,.inl rfl,by unfold Bt Cr;rw[hs0,hb];rfl⟩
  ·exact⟨116,.inr (.inl rfl),by unfold Bt Cr;rw[hs0,hb];rfl⟩
  exact⟨102,.inr (.inr rfl),by unfold Bt Cr;rw[hs0,hb];rfl⟩
 obtain⟨kb,hkl,hkb⟩:=hk2;rw[hkb]at HP ⊢;generalize hq:Ap S 20 (d+1) k s=q at *;generalize (((d+1:Nat):Int))=dd at *;have HP:=Aa HP;clear hq hb hs0 hkb hne;rcases hkl with rfl|rfl|rfl<;>
 ·go_enter func30,ntmps30;go_wp2_with fail;refine(HP.o _).mono ?_;rintro e w5 hp;obtain⟨vp,vr,vk,rfl,hq5⟩:=hp.q;have Hq5:=Aa hq5;clear hq5 hp;go_wp2_with fail;refine aE (v:=.tuple #[vp,vr,vk]) (by simp[results,results30,go_sem]) rfl ?_;exact Hq5.o.post ((Aw _ _).alloc (Ar _) _)
theorem Zk(K:List UInt8->Option (Vl × List UInt8)):∀(m:Nat) (s:List UInt8) (vs:List Vl) (q:List UInt8),Cd K m s=some (vs,q)->vs.length<=m
 |0,s,vs,q,h=>by simp[Cd]at h
 |m+1,s,vs,q,h=>by
  unfold Cd at h;cases hk:K s with
  |none=>rw[hk]at h;cases h
  |some y=>
   rw[hk]at h;simp only at h;cases h1:Aj 44 y.2 with
   |some z=>
    rw[h1]at h;simp only at h;cases h2:Cd K m z with
    |none=>rw[h2]at h;cases h
    |some x=>
     rw[h2]at h;injection h with h;injection h with h _;have:=Zk K m z x.1 x.2 h2;rw[<-h];simp;omega
   |none=>
    rw[h1]at h;simp only at h;cases h2:Aj 93 y.2 with
    |none=>rw[h2]at h;cases h
    |some z=>rw[h2]at h;injection h with h;injection h with h _;rw[<-h];simp
theorem Qhw(K:List UInt8->Option (Vl × List UInt8))(z:List UInt8):N3 K 20 (91::z)=Qjc K z:=by
 unfold N3 Qjc;rw[Az];simp only;cases Aj 93 z with
 |some q=>rfl
 |none=>
  simp only;cases h:Cd K 20 z with
  |none=>rfl
  |some x=>simp[Zk K 20 z x.1 x.2 h]
theorem Qh4(w0:World)(S:List Ty)(xv:Value)(hxv:xv.oneCell'=true)(k:Kd)(sg:List UInt8)(hsg:k.signs=91::sg)(hkl:(Bt k).length<=100)(d:Nat)(hd:d<=1000)(s:List UInt8)(w:World)(hw:Below w0 w0 w)(hs:s.length<=1000000)
  (H:SrC w0 S xv k.part d) (HG:∀s v r,Ap S 20 d k.part s=some (v,r)->s=Ay v++r):
  Calls prog 30 #[.agg #[xv],.string ⟨s.toArray⟩,.string ⟨(Bt k).toArray⟩,.int .i64 ((d+1:Nat):Int)] w (Bz S k (Ap S 20 (d+1) k s) w):=by
 have hq:Ap S 20 (d+1) k s=N3 (Ap S 20 d k.part) 20 s:=by unfold Ap;rw[hsg];rfl
 have HN:=@Aa (Aj 91 s=none->Ap S 20 (d+1) k s=none) (fun h=>by rw[hq];unfold N3;rw[h])
 have HC:=Aa (show ∀z,s=91::z->∀W,Below w0 w0 W->Calls prog 66 #[.agg #[xv],.string ⟨z.toArray⟩,.string ⟨(Bt k).toArray⟩,.int .i64 ((d+1:Nat):Int)] W (Bz S k (Ap S 20 (d+1) k s) W)from by
  rintro z rfl W hW;exact Qhz w0 S xv hxv k sg hsg hkl d hd z W hW gW H HG _ (by rw[hq,Qhw]))
 have hkp:Bt k=91::Bt k.part:=dQ;have d1:¬((((d+1:Nat):Int))<1):=aG;have d2:(((d+1:Nat):Int))<=1001:=aG;have HW:=@Aa (Below w0 w0 (w.alloc (.cells #[xv] 35)).drew) ((hw.alloc hw.size _).drew);rw[hkp]at HC hkl ⊢;generalize Bt k.part=kp at *;generalize Ap S 20 (d+1) k s=q at *;generalize (((d+1:Nat):Int))=dd at *;have hkl2:kp.length<=100:=gR;clear H HG hq hkp hsg hkl hw hd;cases s with
 |nil=>
  have HN:=Aa (HN.o rfl);go_enter func30,ntmps30;go_wp2_with fail;refine aE (v:=.tuple #[.pointer none,aa,.bool false]) (by simp[results,results30,go_sem]) rfl ?_;exact mo
 |cons c z=>
  by_cases hc:c=91
  ·subst hc;have HC:=Aa (fun W=>HC.o z rfl W);go_enter func30,ntmps30;go_wp2_with fail;refine Qr [29,30,31,32,33,34,35,36,37,8,9,10]
    (fun ix v W=>match ix with|0=>v=.agg #[xv]|1=>v=.string ⟨(91::z:List UInt8).toArray⟩|2=>v=.string ⟨(z:List UInt8).toArray⟩|3=>v=(91::kp:List UInt8)|4=>v=.int .i64 dd|_=>True)
    (fun L U W=>Jm (SrQ (w.alloc (.cells #[xv] 35)).drew S k q) ((w.alloc (.cells #[xv] 35)).drew) (L 5) (L 5) (L 6) (L 7) (L 8) (L 9) (L 10) (L 11) (U 5) (U 5) (U 6) (U 7) (U 8) (U 9) (U 10) (U 11) W) (⟨fun _=>rfl,fun h=>Bool.noConfusion h⟩) ?_ ?_
   ·repeat (first|exact Av.nil|(refine Av.cons ?_ ?_;rotate_left))
    all_goals
     rintro L U W hL hpre HR Hdep K hK;first|(simp[Region.binds]at hpre;done)|simp[Region.binds]at hpre|clear hpre
    ·have h5:L 5=false:=Bv Hdep.o 5 0 rfl hL;have hW:=HR.o.no h5;exact mn
    ·exact ir
    ·go_simp;rw[if_pos aG];go_simp;exact hK (.string ⟨z.toArray⟩) _ _ rfl Ac HR.o aI
    iterate 2
     ·exact ir
    ·have h6:L 6=false:=Bv Hdep.o 6 5 rfl hL;have h7:L 7=false:=Bv Hdep.o 7 5 rfl hL;have h8:L 8=false:=Bv Hdep.o 8 5 rfl hL;have h9:L 9=false:=Bv Hdep.o 9 6 rfl h6;have h10:L 10=false:=Bv Hdep.o 10 7 rfl h7;have h11:L 11=false:=Bv Hdep.o 11 8 rfl h8;have hW:=HR.o.no hL;subst hW;go_simp;refine(HC.o _ HW.o).mono ?_;rintro e w5 hp;obtain⟨vp,vr,vk,rfl,hq5⟩:=hp.q;go_simp;refine hK (.tuple #[vp,vr,vk]) _ _ Ac Ac ⟨fun h=>by simp at h,fun _=>⟨vp,vr,vk,hq5,rfl,fun _=>rfl,?_,?_,?_,?_,?_,?_⟩⟩ aI;all_goals (intro h;simp_all)
    ·have l5:=hpre;obtain⟨vp,vr,vk,q1,q2,q3,q4,q5,q6,q7,q8,q9⟩:=HR.o.yes l5;simp only[q2];go_simp;exact hK vp _ _ Ac Ac ⟨fun h=>absurd (l5.symm.trans h) aJ,fun _=>⟨vp,vr,vk,q1,q2,q3,fun _=>rfl,q5,q6,q7,q8,q9⟩⟩ fe
    ·have l5:=hpre;obtain⟨vp,vr,vk,q1,q2,q3,q4,q5,q6,q7,q8,q9⟩:=HR.o.yes l5;simp only[q2];go_simp;exact hK vr _ _ Ac Ac ⟨fun h=>absurd (l5.symm.trans h) aJ,fun _=>⟨vp,vr,vk,q1,q2,q3,q4,fun _=>rfl,q6,q7,q8,q9⟩⟩ fe
    ·have l5:=hpre;obtain⟨vp,vr,vk,q1,q2,q3,q4,q5,q6,q7,q8,q9⟩:=HR.o.yes l5;simp only[q2];go_simp;exact hK vk _ _ Ac Ac ⟨fun h=>absurd (l5.symm.trans h) aJ,fun _=>⟨vp,vr,vk,q1,q2,q3,q4,q5,fun _=>rfl,q7,q8,q9⟩⟩ fe
    ·have l6:=hpre.1;have l5:L 5=true:=Ke (Bv Hdep.o 6 5 rfl) l6;obtain⟨vp,vr,vk,q1,q2,q3,q4,q5,q6,q7,q8,q9⟩:=HR.o.yes l5;go_simp;exact hK (U 6) _ _ Ac Ac ⟨fun h=>absurd (l5.symm.trans h) aJ,fun _=>⟨vp,vr,vk,q1,q2,q3,q4,q5,q6,fun _=>q4 l6,q8,q9⟩⟩ (by simp[Act.put,hpre,q2,q4,q5,q6,q7,q8,q9,l6])
    ·have l7:=hpre.1;have l5:L 5=true:=Ke (Bv Hdep.o 7 5 rfl) l7;obtain⟨vp,vr,vk,q1,q2,q3,q4,q5,q6,q7,q8,q9⟩:=HR.o.yes l5;go_simp;exact hK (U 7) _ _ Ac Ac ⟨fun h=>absurd (l5.symm.trans h) aJ,fun _=>⟨vp,vr,vk,q1,q2,q3,q4,q5,q6,q7,fun _=>q5 l7,q9⟩⟩ (by simp[Act.put,hpre,q2,q4,q5,q6,q7,q8,q9,l7])
    ·have l8:=hpre.1;have l5:L 5=true:=Ke (Bv Hdep.o 8 5 rfl) l8;obtain⟨vp,vr,vk,q1,q2,q3,q4,q5,q6,q7,q8,q9⟩:=HR.o.yes l5;go_simp;exact hK (U 8) _ _ Ac Ac ⟨fun h=>absurd (l5.symm.trans h) aJ,fun _=>⟨vp,vr,vk,q1,q2,q3,q4,q5,q6,q7,q8,fun _=>q6 l8⟩⟩ (by simp[Act.put,hpre,q2,q4,q5,q6,q7,q8,q9,l8])
   rintro L U W hL hφ hR;clear hφ;obtain⟨vp,vr,vk,hq5,_,_,_,_,_,q7,q8,q9⟩:=hR.yes (hL 5 aJ);have u11:=q7 (hL 9 aJ);have u12:=q8 (hL 10 aJ);have u13:=q9 (hL 11 aJ);simp only[u11,u12,u13];have Hq5:=Aa hq5;clear hR hL q7 q8 q9 u11 u12 u13 hq5;go_wp2_with fail;refine aE (v:=.tuple #[vp,vr,vk]) (by simp[results,results30,go_sem]) rfl ?_;exact Hq5.o.post ((Aw _ _).alloc (Ar _) _).drew
  have HN:=Aa (HN.o (C9 hc z));have hcn:((c.toNat:Int) != 91)=true:=by have:=At hc;simpa using this
  clear hc;go_enter func30,ntmps30;go_wp2_with fail;refine aE (v:=.tuple #[.pointer none,.string ⟨(c::z:List UInt8).toArray⟩,.bool false]) (by simp[results,results30,go_sem]) rfl ?_;exact mo
theorem Qhy(w0:World)(S:List Ty)(xv:Value)(hxv:xv.oneCell'=true)(k:Kd)(sg:List UInt8)(hsg:k.signs=63::sg)(hkl:(Bt k).length<=100)(d:Nat)(hd:d<=1000)(s:List UInt8)(w:World)(hw:Below w0.heap.size w0 w)(hs:s.length<=1000000)
  (H:SrC w0 S xv k.part d):
  Calls prog 30 #[.agg #[xv],.string ⟨s.toArray⟩,.string ⟨(Bt k).toArray⟩,.int .i64 ((d+1:Nat):Int)] w (Bz S k (Ap S 20 (d+1) k s) w):=by
 have hq:Ap S 20 (d+1) k s=Qeb (Ap S 20 d k.part) s:=by unfold Ap;rw[hsg];rfl
 have HN:=Aa (show Aj 45 s=none->Aj 43 s=none->Ap S 20 (d+1) k s=none from fun h h2=>by rw[hq];unfold Qeb;rw[h];simp only;rw[h2])
 have HM:=Aa (show ∀z,s=45::z->Ap S 20 (d+1) k s=some (.mk 63 [] 0 [],z)from by rintro z rfl;rw[hq];rfl)
 have HP:=Aa (show ∀z,s=43::z->Ap S 20 (d+1) k s=match Ap S 20 d k.part z with|some (v,q)=>some (.mk 63 [] 0 [v],q)|none=>none from by rintro z rfl;rw[hq];rfl)
 have hkp:Bt k=63::Bt k.part:=by unfold Bt Kd.part;rw[hsg];rfl
 have Hsv:=Aa (fun ks=>hkp ▸ Ph S k ks)
 have HC:=Aa (show ∀z,z.length<=1000000->∀W,Below w0.heap.size w0 W->Calls prog 30 #[.agg #[xv],.string ⟨z.toArray⟩,.string ⟨(Bt k.part).toArray⟩,.int .i64 (d:Int)] W (Bz S k.part (Ap S 20 d k.part z) W)from fun z hz W hW=>H z W hW hz)
 have d1:¬((((d+1:Nat):Int))<1):=by omega
 have d2:(((d+1:Nat):Int))<=1001:=by omega
 have d3:(((d+1:Nat):Int)) - 1=(d:Int):=by omega
 have d4:(0:Int)<=(d:Int):=by omega
 have d5:(d:Int)<=1000:=by omega
 have hwd:IntKind.i64.wrap (d:Int)=(d:Int):=IntWalk.i64_in _ (by omega)
 have HW:=Aa (show Below w0.heap.size w0 (w.alloc (.cells #[xv] 35)).drew from(hw.alloc hw.size _).drew)
 rw[hkp]at hkl ⊢
 generalize Bt k.part=kp at *
 generalize Ap S 20 (d+1) k s=q at *
 generalize (((d+1:Nat):Int))=dd at *
 have hkl2:kp.length<=100:=by simp at hkl;omega
 clear H hq hkp hsg hkl hw hd
 cases s with
 |nil=>
  have HN:=Aa (HN.o rfl rfl)
  go_enter func30,ntmps30
  go_wp2_with fail
  refine bodyPost_ret (v:=.tuple #[.pointer none,.string ⟨#[]⟩,.bool false]) (by simp[results,results30,go_sem]) rfl ?_
  exact Bz.no HN.o rfl ((Aw _ _).alloc (Ar _) _)
 |cons c z=>
  by_cases hc:c=45
  ·subst hc
   have HM:=Aa (HM.o z rfl)
   go_enter func30,ntmps30
   go_wp2_with fail
   refine Qr [43,44,45,46,47,8,9,10]
    (fun ix v W=>match ix with|0=>v=.string ⟨(63::kp:List UInt8).toArray⟩|1=>v=.agg #[.string ⟨(63::kp:List UInt8).toArray⟩,.string ⟨#[]⟩,.slice none 0 0,.slice none 0 0]|2=>∃c,v=.pointer (some ⟨c,0,none⟩)|3=>v=.string ⟨(45::z:List UInt8).toArray⟩|4=>v=.string ⟨(z:List UInt8).toArray⟩|5=>∃c,v=.pointer (some ⟨c,0,none⟩)|6=>v=.string ⟨(z:List UInt8).toArray⟩|7=>v=.bool true|_=>True)
    (fun L U W=>(L 2=false->Below w.heap.size w W)/\(L 2=true->∃W7,W=W7.alloc (.cells #[.string ⟨(63::kp:List UInt8).toArray⟩,.string ⟨#[]⟩,.slice none 0 0,.slice none 0 0] 68)/\Below w.heap.size w W7/\U 2=.pointer (some ⟨W7.heap.size,0,none⟩))/\(L 5=true->U 5=U 2)) (⟨fun _=>((Aw w.heap.size w).alloc (Ar _) _).drew,fun h=>Bool.noConfusion h,fun h=>Bool.noConfusion h⟩) ?_ ?_
   ·repeat (first|exact Av.nil|(refine Av.cons ?_ ?_;rotate_left))
    all_goals
     rintro L U W hL hpre HR Hdep K hK
     first|(simp[Region.binds]at hpre;done)|simp[Region.binds]at hpre|clear hpre
    iterate 2
     ·go_simp
      first|exact hK _ _ _ rfl Ac HR.o rfl|exact kF hK HR.o|exact hK undef _ _ Ac Ac HR.o (by simp[Act.put,hpre])|exact hK _ _ _ Ac Ac HR.o rfl|exact kF hK HR.o
    ·obtain⟨R1,R2,R3⟩:=HR.o
     have hB:=R1 hL
     have h10:L 5=false:=Bv Hdep.o 5 2 rfl hL
     go_simp
     exact hK (.pointer (some ⟨W.heap.size,0,none⟩)) _ _ ⟨_,rfl⟩ Ac ⟨fun h=>by simp at h,fun _=>⟨W,rfl,hB,rfl⟩,fun h=>absurd (h10.symm.trans (by simpa using h)) (by decide)⟩ (by simp[Act.put,hpre])
    ·go_simp
     first|exact hK _ _ _ rfl Ac HR.o rfl|exact kF hK HR.o|exact hK undef _ _ Ac Ac HR.o (by simp[Act.put,hpre])|exact hK _ _ _ Ac Ac HR.o rfl|exact kF hK HR.o
    ·go_simp
     rw[if_pos (by omega)]
     go_simp
     exact hK (.string ⟨z.toArray⟩) _ _ rfl Ac HR.o (by simp[Act.put,hpre])
    ·obtain⟨R1,R2,R3⟩:=HR.o
     obtain⟨c,u5⟩:=hpre.1.2
     clear R1 R2 R3
     go_simp
     obtain⟨R1,R2,R3⟩:=HR.o
     exact hK (.pointer (some ⟨c,0,none⟩)) _ _ ⟨c,rfl⟩ Ac ⟨R1,R2,fun _=>u5.symm⟩ (by simp[Act.put,hpre,u5])
    iterate 2
     ·go_simp
      first|exact hK _ _ _ rfl Ac HR.o rfl|exact kF hK HR.o|exact hK undef _ _ Ac Ac HR.o (by simp[Act.put,hpre])|exact hK _ _ _ Ac Ac HR.o rfl|exact kF hK HR.o
   rintro L U W hL hφ hR
   have hφ10:U 5=U 2:=hR.2.2 (hL 5 (by decide))
   have e11:U 6=.string ⟨(z:List UInt8).toArray⟩:=hφ 6 (by decide)
   have e12:U 7=.bool true:=hφ 7 (by decide)
   clear hφ
   obtain⟨_,h2,h3⟩:=hR
   obtain⟨W7,rfl,hb7,u5⟩:=h2 (hL 2 (by decide))
   rw[u5]at hφ10
   clear hL h2
   simp only[hφ10,e11,e12]
   clear hφ10
   go_wp2_with fail
   refine bodyPost_ret (v:=.tuple #[.pointer (some ⟨W7.heap.size,0,none⟩),.string ⟨z.toArray⟩,.bool true]) (by simp[results,results30,go_sem]) rfl ?_
   have hz7:=hb7.size
   have Hb7:=(hb7.alloc (by omega) (.cells #[.string ⟨(63::kp:List UInt8).toArray⟩,.string ⟨#[]⟩,.slice none 0 0,.slice none 0 0] 68))
   rw[HM.o]
   refine⟨⟨W7.heap.size,rfl,?_⟩,Hb7⟩
   rw[Hsv.o]
   exact Gx.leaf (P:=fun c=>w.heap.size<=c) (kind:=63::kp) (text:=[]) (by omega)
  by_cases hc2:c=43
  ·subst hc2
   have HP:=Aa (HP.o z rfl)
   have HC:=Aa (fun W hW=>HC.o z (by simp at hs;omega) W hW)
   clear hc
   go_enter func30,ntmps30
   go_wp2_with fail
   refine Qr [53,54,55,56,57,58,59,60,52,61,62,63,11,12,13]
    (fun ix v W=>match ix with|0=>v=.agg #[xv]|1=>v=.string ⟨(43::z:List UInt8).toArray⟩|2=>v=.string ⟨(z:List UInt8).toArray⟩|3=>v=.string ⟨(63::kp:List UInt8).toArray⟩|4=>v=.string ⟨(kp:List UInt8).toArray⟩|5=>v=.int .i64 dd|6=>v=.int .i64 (d:Int)|_=>True)
    (fun L U W=>Jm (SrQ (w.alloc (.cells #[xv] 35)).drew S k.part (Ap S 20 d k.part z)) ((w.alloc (.cells #[xv] 35)).drew) (L 7) (L 8) (L 9) (L 10) (L 11) (L 12) (L 13) (L 14) (U 7) (U 8) (U 9) (U 10) (U 11) (U 12) (U 13) (U 14) W) (⟨fun _=>rfl,fun h=>Bool.noConfusion h⟩) ?_ ?_
   ·repeat (first|exact Av.nil|(refine Av.cons ?_ ?_;rotate_left))
    all_goals
     rintro L U W hL hpre HR Hdep K hK
     first|(simp[Region.binds]at hpre;done)|simp[Region.binds]at hpre|clear hpre
    ·have h7:L 7=false:=Bv Hdep.o 7 0 rfl hL
     have hW:=HR.o.no h7
     subst hW
     go_simp
     first|exact hK _ _ _ rfl Ac HR.o rfl|exact kF hK HR.o
    ·go_simp
     first|exact hK _ _ _ rfl Ac HR.o rfl|exact kF hK HR.o|exact hK undef _ _ Ac Ac HR.o (by simp[Act.put,hpre])|exact hK _ _ _ Ac Ac HR.o rfl|exact kF hK HR.o
    ·go_simp
     rw[if_pos (by omega)]
     go_simp
     exact hK (.string ⟨z.toArray⟩) _ _ rfl Ac HR.o (by simp[Act.put,hpre])
    ·go_simp
     first|exact hK _ _ _ rfl Ac HR.o rfl|exact kF hK HR.o|exact hK undef _ _ Ac Ac HR.o (by simp[Act.put,hpre])|exact hK _ _ _ Ac Ac HR.o rfl|exact kF hK HR.o
    ·go_simp
     rw[if_pos (by omega)]
     go_simp
     exact hK (.string ⟨kp.toArray⟩) _ _ rfl Ac HR.o (by simp[Act.put,hpre])
    ·go_simp
     first|exact hK _ _ _ rfl Ac HR.o rfl|exact kF hK HR.o|exact hK undef _ _ Ac Ac HR.o (by simp[Act.put,hpre])|exact hK _ _ _ Ac Ac HR.o rfl|exact kF hK HR.o
    ·go_simp
     exact hK (.int .i64 (d:Int)) _ _ rfl Ac HR.o (by simp[Act.put,hpre,hwd])
    ·have h8:L 8=false:=Bv Hdep.o 8 7 rfl hL
     have h9:L 9=false:=Bv Hdep.o 9 8 rfl h8
     have h10:L 10=false:=Bv Hdep.o 10 8 rfl h8
     have h11:L 11=false:=Bv Hdep.o 11 8 rfl h8
     have h12:L 12=false:=Bv Hdep.o 12 9 rfl h9
     have h13:L 13=false:=Bv Hdep.o 13 10 rfl h10
     have h14:L 14=false:=Bv Hdep.o 14 11 rfl h11
     have hW:=HR.o.no hL
     subst hW
     go_simp
     refine(HC.o _ HW.o).mono ?_
     rintro e w5 hp
     obtain⟨vp,vr,vk,rfl,hq5⟩:=hp.q
     go_simp
     refine hK (.tuple #[vp,vr,vk]) _ _ Ac Ac ⟨fun h=>by simp at h,fun _=>⟨vp,vr,vk,hq5,rfl,?_,?_,?_,?_,?_,?_,?_⟩⟩ (by simp[Act.put,hpre])
     all_goals (intro h;simp_all)
    ·have l7:=hpre
     obtain⟨vp,vr,vk,q1,q2,q3,q4,q5,q6,q7,q8,q9⟩:=HR.o.yes l7
     go_simp
     exact hK (U 7) _ _ Ac Ac ⟨fun h=>absurd (l7.symm.trans h) (by decide),fun _=>⟨vp,vr,vk,q1,q2,fun _=>q2,q4,q5,q6,q7,q8,q9⟩⟩ (by simp[Act.put,hpre,q2])
    ·have l8:=hpre
     have l7:L 7=true:=Ke (Bv Hdep.o 8 7 rfl) l8
     obtain⟨vp,vr,vk,q1,q2,q3,q4,q5,q6,q7,q8,q9⟩:=HR.o.yes l7
     have u7:=q3 l8
     simp only[u7]
     go_simp
     exact hK vp _ _ Ac Ac ⟨fun h=>absurd (l7.symm.trans h) (by decide),fun _=>⟨vp,vr,vk,q1,q2,q3,fun _=>rfl,q5,q6,q7,q8,q9⟩⟩ (by simp[Act.put,hpre,u7,q2])
    ·have l8:=hpre
     have l7:L 7=true:=Ke (Bv Hdep.o 8 7 rfl) l8
     obtain⟨vp,vr,vk,q1,q2,q3,q4,q5,q6,q7,q8,q9⟩:=HR.o.yes l7
     have u7:=q3 l8
     simp only[u7]
     go_simp
     exact hK vr _ _ Ac Ac ⟨fun h=>absurd (l7.symm.trans h) (by decide),fun _=>⟨vp,vr,vk,q1,q2,q3,q4,fun _=>rfl,q6,q7,q8,q9⟩⟩ (by simp[Act.put,hpre,u7,q2])
    ·have l8:=hpre
     have l7:L 7=true:=Ke (Bv Hdep.o 8 7 rfl) l8
     obtain⟨vp,vr,vk,q1,q2,q3,q4,q5,q6,q7,q8,q9⟩:=HR.o.yes l7
     have u7:=q3 l8
     simp only[u7]
     go_simp
     exact hK vk _ _ Ac Ac ⟨fun h=>absurd (l7.symm.trans h) (by decide),fun _=>⟨vp,vr,vk,q1,q2,q3,q4,q5,fun _=>rfl,q7,q8,q9⟩⟩ (by simp[Act.put,hpre,u7,q2])
    ·have l9:=hpre.1
     have l8:L 8=true:=Ke (Bv Hdep.o 9 8 rfl) l9
     have l7:L 7=true:=Ke (Bv Hdep.o 8 7 rfl) l8
     obtain⟨vp,vr,vk,q1,q2,q3,q4,q5,q6,q7,q8,q9⟩:=HR.o.yes l7
     go_simp
     exact hK (U 9) _ _ Ac Ac ⟨fun h=>absurd (l7.symm.trans h) (by decide),fun _=>⟨vp,vr,vk,q1,q2,q3,q4,q5,q6,fun _=>q4 l9,q8,q9⟩⟩ (by simp[Act.put,hpre,q2,q3 l8,q4,q5,q6,q7,q8,q9,l9])
    ·have l10:=hpre.1
     have l8:L 8=true:=Ke (Bv Hdep.o 10 8 rfl) l10
     have l7:L 7=true:=Ke (Bv Hdep.o 8 7 rfl) l8
     obtain⟨vp,vr,vk,q1,q2,q3,q4,q5,q6,q7,q8,q9⟩:=HR.o.yes l7
     go_simp
     exact hK (U 10) _ _ Ac Ac ⟨fun h=>absurd (l7.symm.trans h) (by decide),fun _=>⟨vp,vr,vk,q1,q2,q3,q4,q5,q6,q7,fun _=>q5 l10,q9⟩⟩ (by simp[Act.put,hpre,q2,q3 l8,q4,q5,q6,q7,q8,q9,l10])
    ·have l11:=hpre.1
     have l8:L 8=true:=Ke (Bv Hdep.o 11 8 rfl) l11
     have l7:L 7=true:=Ke (Bv Hdep.o 8 7 rfl) l8
     obtain⟨vp,vr,vk,q1,q2,q3,q4,q5,q6,q7,q8,q9⟩:=HR.o.yes l7
     go_simp
     exact hK (U 11) _ _ Ac Ac ⟨fun h=>absurd (l7.symm.trans h) (by decide),fun _=>⟨vp,vr,vk,q1,q2,q3,q4,q5,q6,q7,q8,fun _=>q6 l11⟩⟩ (by simp[Act.put,hpre,q2,q3 l8,q4,q5,q6,q7,q8,q9,l11])
   rintro L U W hL hφ hR
   clear hφ
   obtain⟨vp,vr,vk,hq5,_,_,_,_,_,q7,q8,q9⟩:=hR.yes (hL 7 (by decide))
   have u11:=q7 (hL 12 (by decide))
   have u12:=q8 (hL 13 (by decide))
   have u13:=q9 (hL 14 (by decide))
   simp only[u11,u12,u13]
   clear hR hL q7 q8 q9 u11 u12 u13
   obtain⟨hb5,hm⟩:=hq5
   have Hb5:=Aa (show Below w.heap.size w W from((Aw w.heap.size w).alloc (Ar _) (.cells #[xv] 35)).drew.trans (hb5.mono (by simp)))
   have hz5:=Hb5.o.size
   generalize Ap S 20 d k.part z=o at *
   have HP:=HP
   cases o with
   |none=>
    have HN:=Aa (HP.o)
    obtain⟨⟨q0,rfl⟩,⟨r0,rfl⟩,rfl⟩:=hm
    clear hb5 HP
    go_wp2_with fail
    refine bodyPost_ret (v:=.tuple #[.pointer (some ⟨W.heap.size+1,0,none⟩),.string r0,.bool false]) (by simp[results,results30,go_sem]) rfl ?_
    exact Bz.no HN.o rfl ((Hb5.o.alloc Hb5.o.size _).alloc (by simp;omega) _)
   |some y=>
    obtain⟨v,r⟩:=y
    obtain⟨⟨b,rfl,hsv⟩,rfl,rfl⟩:=hm
    have HY:=Aa (show q=some (.mk 63 [] 0 [v],r)from HP.o)
    have Hsv5:=Aa (hsv.mono (Q:=fun c=>w.heap.size<=c) fun c1 hc _=>Nat.le_trans (by simp) hc)
    clear hb5 HP hsv
    go_wp2_with fail
    refine bodyPost_ret (v:=.tuple #[.pointer (some ⟨W.heap.size+1,0,none⟩),.string ⟨r.toArray⟩,.bool true]) (by simp[results,results30,go_sem]) rfl ?_
    rw[HY.o]
    refine⟨⟨W.heap.size+1,rfl,?_⟩,((Hb5.o.alloc Hb5.o.size _).alloc (by simp;omega) _)⟩
    rw[Hsv.o]
    refine .mk (63::kp) [] [] none (some ⟨W.heap.size,0,none⟩) 0 1 [(b,Cj S k.part v)] rfl (by simp) (by show w.heap.size<=W.heap.size+1;omega) (by go_simp) (by go_simp) (by go_simp) (by go_simp) ⟨rfl,Nat.zero_le _,fun h=>absurd h (by simp)⟩ ⟨rfl,by simp[maxLen],fun _=>⟨W.heap.size,0,rfl,by simp;omega,fun j u hu=>?_⟩⟩ (by simp) (by simp) (fun _ _ h=>absurd h (by simp)) (fun g o _ e=>?_) (fun x hx=>?_)
    ·match j,hu with
     |0,hu=>
      simp[E8]at hu
      subst hu
      go_simp
     |j+1,hu=>simp[E8]at hu
    ·injection e with e;injection e with e;subst e;exact hz5
    simp at hx
    subst hx
    exact Hsv5.o.after (((Aw _ _).alloc (Ar _) _).alloc (by simp) _)
  have HN:=Aa (HN.o (C9 hc z) (C9 hc2 z))
  have hcn:((c.toNat:Int) == 45)=false:=by have:=At hc;simpa using this
  have hcn2:((c.toNat:Int) != 43)=true:=by have:=At hc2;simpa using this
  clear hc hc2
  go_enter func30,ntmps30
  go_wp2_with fail
  refine bodyPost_ret (v:=.tuple #[.pointer none,.string ⟨(c::z:List UInt8).toArray⟩,.bool false]) (by simp[results,results30,go_sem]) rfl ?_
  exact Bz.no HN.o rfl ((Aw _ _).alloc (Ar _) _)
theorem Qac(S:List Ty)(m d:Nat)(k:Kd)(hs0:k.signs=[])(hb:k.base=[64]):Ap S m (d+1) k []=none:=by
 unfold Ap;rw[hs0,hb];simp only[];rw[if_neg aJ,if_neg aJ,if_neg aJ];cases B6 S k.name with
 |none=>rfl
 |some t=>simp[Mc,Aj]
theorem Qi9(w0:World)(S:List Ty)(xv:Value)(hxv:xv.oneCell'=true)(k:Kd)(hs0:k.signs=[])(hb:k.base=[64])(hkl:k.name.length<=100)(d:Nat)(hd:d<=1000)(s:List UInt8)(w:World)(hw:Below w0 w0 w)(hs:s.length<=1000000)
  (H:∀W,Below w0 w0 W->s≠[]->Calls prog 67 #[.agg #[xv],s,.string ⟨(Bt k).toArray⟩,.int .i64 ((d+1:Nat):Int)] W (Bz S k (Ap S 20 (d+1) k s) W)):
  Calls prog 30 #[.agg #[xv],s,.string ⟨(Bt k).toArray⟩,.int .i64 ((d+1:Nat):Int)] w (Bz S k (Ap S 20 (d+1) k s) w):=by
 have HN:=Aa (Qac S 20 d k hs0 hb);have hkb:Bt k=64::(k.name++[59]):=cr;have d1:¬((((d+1:Nat):Int))<1):=aG;have d2:(((d+1:Nat):Int))<=1001:=aG;have HW:=@Aa (Below w0 w0 (w.alloc (.cells #[xv] 35))) (hw.alloc hw.size _);have HH:=Aa H;rw[hkb]at HH ⊢;generalize hnm:k.name++[59]=kn at *;have hkn:kn.length<=101:=by rw[<-hnm];simp;omega
 by_cases hne:s=[]
 ·subst hne;generalize Ap S 20 (d+1) k []=q at *;generalize (((d+1:Nat):Int))=dd at *;clear H hb hs0 hkb hnm HH hw;go_enter func30,ntmps30;go_wp2_with fail;refine aE (v:=.tuple #[.pointer none,aa,.bool false]) (by simp[results,results30,go_sem]) rfl ?_;exact mo
 have he:s.isEmpty=false:=dq;have HP:=Aa (fun W hW=>HH.o W hW hne);generalize Ap S 20 (d+1) k s=q at *;generalize (((d+1:Nat):Int))=dd at *;clear H hb hs0 hkb hnm hne HH hw;go_enter func30,ntmps30;go_wp2_with fail;refine(HP.o _ HW.o).mono ?_;rintro e w5 hp;obtain⟨vp,vr,vk,rfl,hq5⟩:=hp.q;have Hq5:=Aa hq5;clear hq5 hp;go_wp2_with fail;refine aE (v:=.tuple #[vp,vr,vk]) (by simp[results,results30,go_sem]) rfl ?_;exact Hq5.o.post ((Aw _ _).alloc (Ar _) _)
theorem Qfc(S:List Ty)(xv:Value)(hxv:xv.oneCell'=true)(k:Kd)(hkl:(Bt k).length<=100)(s:List UInt8)(w:World)(hs:s.length<=1000000):
  Calls prog 30 #[.agg #[xv],s,.string ⟨(Bt k).toArray⟩,.int .i64 ((0:Nat):Int)] w (Bz S k (Ap S 20 0 k s) w):=by
 have HN:=@Aa (Ap S 20 0 k s=none) rfl;generalize Bt k=kb at *;generalize Ap S 20 0 k s=q at *;by_cases hne:s=[]
 ·subst hne;go_enter func30,ntmps30;go_wp2_with fail;refine aE (v:=.tuple #[.pointer none,aa,.bool false]) (by simp[results,results30,go_sem]) rfl ?_;exact mo
 have he:s.isEmpty=false:=dq;clear hne;go_enter func30,ntmps30;go_wp2_with fail;refine aE (v:=.tuple #[.pointer none,s,.bool false]) (by simp[results,results30,go_sem]) rfl ?_;exact mo
def NmC(w0:World)(S:List Ty)(xv:Value):Prop:=∀d,d<=1000->(∀k,Ch k->SrC w0 S xv k d)->∀k,Ch k->k.signs=[]->k.base=[64]->∀(s:List UInt8),s.length<=1000000->∀W,Below w0 w0 W->s≠[] ->
 Calls prog 67 #[.agg #[xv],s,.string ⟨(Bt k).toArray⟩,.int .i64 ((d+1:Nat):Int)] W (Bz S k (Ap S 20 (d+1) k s) W)
theorem Qi1(w0:World)(S:List Ty)(hS:∀t∈S,Do t)(xv:Value)(hxv:xv.oneCell'=true)(HNm:NmC w0 S xv):∀d,d<=1001->∀k,Ch k->SrC w0 S xv k d:=by
 intro d;induction d with
 |zero=>
  intro _ k hk s W hW hs;exact Qfc S xv hxv k bW s W hs
 |succ d ih=>
  intro hd k hk s W hW hs;have ih:=ih aG;have hkl:=hk.2.2;have hp:=(Kb hk).1;obtain⟨h1,h2,h3⟩:=hk;cases hsg:k.signs with
  |cons c sg=>
   rw[hsg]at h1;simp only[List.all_cons,av,Bo,Bool.or_eq_true,beq_iff_eq]at h1;rcases h1.1 with rfl|rfl
   ·exact Qh4 w0 S xv hxv k sg hsg aG d aG s W hW hs (ih _ hp) (fun s v r h=>(Gn hS 20 d k.part s v r hp h).2)
   exact Qhy w0 S xv hxv k sg hsg aG d aG s W hW hs (ih _ hp)
  |nil=>
   rcases h2 with⟨hb,hn⟩|⟨hb,_⟩
   ·exact Qi9 w0 S xv hxv k hsg hb (by have:=hn;rw[C7]at this;have:=this.2.1;omega) d aG s W hW hs (fun W' hW' hne=>HNm d aG ih k ⟨h1,.inl ⟨hb,hn⟩,h3⟩ hsg hb s hs W' hW' hne)
   exact Qer S xv hxv k hsg (by rcases hb with h|h|h<;>simp[h]) d aG s W hs
theorem Qhu(s:List UInt8)(w:World)(h4:s.length<=400)(h9:¬9<(Ak 10 s).length)(hlast:(Ak 10 s).getLast?=some []):
  Calls prog 41 #[s] w (Kk (Cl s) w):=by
 have HL:=Aa (Qiw h9 hlast);have Hcut:=Aa (fun W=>Ct s 10 10 rfl W aG);have hne:=Ex 10 s;have Hpl:=Aa (Aq 10 s);generalize Ak 10 s=L at h9 hlast HL Hcut hne Hpl;go_enter func41,ntmps41;go_wp2_with fail;refine(Hcut.o _).mono ?_;rintro e w1 ⟨v,rfl,ho,hb⟩;obtain⟨g,c,rfl,hg1,hg2,hcells⟩:=N9 ho hne;have hpos:0<L.length:=List.length_pos_iff.2 hne;have Hb:=Aa hb;have Hcells:=Aa hcells;have hz1:=hb.size;have k1:(0:Int)<=(L.length:Int) - 1:=aG;have k2:(L.length:Int) - 1<(L.length:Int):=aG;have k3:((L.length:Int) - 1).toNat=L.length - 1:=aG;have q1:¬(400:Int)<(s.length:Int):=aG;have q2:¬(9:Int)<(L.length:Int):=aG;have cl:=hcells (L.length - 1) aG;have he:L[L.length - 1]=[]:=by
  rw[List.getLast?_eq_getElem?,List.getElem?_eq_getElem aG]at hlast;simpa using hlast
 rw[he]at cl;have hDl:L.dropLast.length=L.length - 1:=aL;clear he hlast hcells ho hb hne;go_wp2_with fail
 go_loopw [5,6] (fun v i wr=>∃(xs:List (Ty × Value)),i=.int .i64 (xs.length:Nat)/\xs.length+1<=L.length/\Hid (Gk L.dropLast=(Gk (L.dropLast.drop xs.length)).map (Ag xs ++ ·)) /\
   Hid (wr.ownsRow w1 95 3 v xs.length (xs.flatMap stc))/\Hid (M9 wr w1.heap.size xs)/\Hid (Below w1 w1 wr)/\w1.heap.size<=wr.heap.size) (fun _ i _=>L.length - (intOf i).toNat)
 case atStart=>exact⟨[],rfl,by simp;omega,by simp[Hid,Ag],World.ownsRow_lit (base:=w1.heap.size) (e:=95) (size:=3) w1 #[] 0 (Ar _) (ag _) rfl,by intro x hx;simp at hx,(Aw _ _).alloc (Ar _) _,by simp⟩
 case round=>
  obtain⟨xs,rfl,hxl,hty,hown,htys,hbr,hszr⟩:=hrel;obtain⟨A,cA,rfl,hrA⟩:=Bh.ownK hown.o aU;have HrA:=Aa hrA;have HbW:=Aa (Hb.o.trans (hbr.o.mono hz1));clear hrA;by_cases hlt:xs.length+1<L.length
  ·have j1:(xs.length:Int)+1<(L.length:Int):=aG;have j2:(0:Int)<=(xs.length:Int):=aG;have j3:(xs.length:Int)<(L.length:Int):=aG;have cell:_:=(hbr.o.cell (p:=⟨g,xs.length,none⟩) hg2).trans (Hcells.o xs.length aG);have hstep:=Qes (L:=L.dropLast) (k:=xs.length) aG hty.o;have hge:L.dropLast[xs.length]' aG=L[xs.length]:=aL;rw[hge]at hstep;have hpl:=Hpl.o _ (ae (show xs.length<L.length by omega));have Hstep:=Aa hstep;generalize L[xs.length]=p at cell Hstep hpl;have Hread:=Aa (fun W=>Qan p W aG);have Htok:=Aa (fun t (h:Dy p=some t)=>(Gt.1 ((Qdu p).symm.trans h)).1);generalize Dy p=o at Hstep Hread Htok;clear hstep hge hty;go_wp2_with fail;refine(Hread.o _).mono ?_;rintro e w4 ⟨hcase,hb4⟩;have HbW4:=Aa (HbW.o.trans (hb4.mono HbW.o.size));cases o with
   |none=>
    obtain⟨x,a,A2,n2,c2,rfl⟩:=hcase;have Hno:=@Aa (Cl s=none) (Ku (.inr (HL.o.trans Hstep.o)));clear hb4;go_wp2_with fail;refine aE (v:=.tuple #[.slice none 0 0,.bool false]) (by simp[results,results41,go_sem]) rfl ?_;exact Kk.no Hno.o rfl (by(repeat (first|exact HbW4.o|refine Below.setCell ?_ fg _|refine Below.alloc ?_ fg _|refine Below.drew ?_)))
   |some t=>
    obtain⟨fv,rfl,hfv⟩:=hcase;have htk:=Htok.o t rfl;have h8:=htk.2.2.2.1;obtain⟨A2,c2,rfl,_⟩:=Bh.ownK hfv aU;have Hstep2:=@Aa (Gk L.dropLast=(Gk (L.dropLast.drop (xs.length+1))).map ((Ag xs++[t]) ++ ·)) Hstep.o;have Hw5:=Aa ((Ba hown.o hb4).alloc (.cells #[.int .u8 (t.sort.toNat:Int),t.name,.slice A2 t.fields.length c2] 95));have Hbb:=@Aa (Below w1 w1 (w4.alloc (.cells #[.int .u8 (t.sort.toNat:Int),t.name,.slice A2 t.fields.length c2] 95))) ((hbr.o.trans (hb4.mono hszr)).alloc (ad hszr hb4.size) _)
    have Hty5:=Aa (show M9 (w4.alloc (.cells #[.int .u8 (t.sort.toNat:Int),t.name,.slice A2 t.fields.length c2] 95)) w1.heap.size (xs++[(t,.slice A2 t.fields.length c2)])from by
     intro x hx;rcases af.1 hx with hx|hx
     ·exact⟨(Ba ((htys.o x hx).1) hb4).alloc _,(htys.o x hx).2⟩
     simp at hx;subst hx;exact⟨(Sy hfv hszr).alloc _,htk⟩)
    have hz5:w1.heap.size<=w4.heap.size+1:=by have:=hb4.size;omega
    have Hsz5:=@Aa ((w4.alloc (.cells #[.int .u8 (t.sort.toNat:Int),t.name,.slice A2 t.fields.length c2] 95)).heap.size=w4.heap.size+1) aL;clear hfv htk hb4;unfold Rm;go_wp2_with (at_builtin;go_loud (refine Qdk _ rfl _ _ 30 rfl w1 95 (.agg #[.int .u8 0,aa,.slice none 0 0]) 3 48 underlying30 Tryz.infoSt rfl aJ (w4.alloc (.cells #[.int .u8 (t.sort.toNat:Int),t.name,.slice A2 t.fields.length c2] 95)) [.int .u8 (t.sort.toNat:Int),t.name,.slice A2 t.fields.length c2] rfl rfl bB _ xs.length (xs.flatMap stc) rfl (by rw[Hsz5.o];rfl) Hw5.o aU aG aO ?_;intro v5 w5 hown5 hb5 hg5;have Hty6:=Aa ((Hty5.o.below ((Aw _ _).alloc (Ar _) _)).grown (Hw5.o.alloc _) aJ hg5);have Hown5:=Aa hown5;have Hb5:=Aa (Hbb.o.trans hb5);clear hown5 hb5 hg5))
    go_roundw
    case rel=>
     refine⟨xs++[(t,Value.slice A2 t.fields.length c2)],by rw[ah];go_num,by simp;omega,?_,?_,?_,Hb5.o,Hb5.o.size⟩
     ·show Gk L.dropLast=_;rw[Hstep2.o];simp[Ag]
     ·show World.ownsRow _ _ _ _ _ _ _;rw[List.flatMap_append,ah];exact Hown5.o
     ·exact Hty6.o
    case measure=>simp[intOf];omega
  ·have j1:¬(xs.length:Int)+1<(L.length:Int):=aG
   have Hlin:=Aa (show Pl s=some (Ag xs)by
    rw[HL.o,hty.o,List.drop_of_length_le aG];simp[Gk])
   have Hval:=Aa (fun(_:Unit)=>Qgq (.slice A xs.length cA) xs wr (G8.own hown.o aG htys.o) (fun x hx=>(htys.o x hx).2));have Hs:=Aa (G8.own hown.o aG htys.o);clear hty;go_wp2_with fail;refine(Hval.o ()).mono ?_;rintro e w4 ⟨⟨b,rfl,hbv⟩,hb4⟩;have Hfin:=Aa (Qaf h4 Hlin.o b hbv);have HbW4:=Aa (HbW.o.trans (hb4.mono HbW.o.size));have Hs4:=Aa (Hs.o.below hb4);clear hb4 hbv;cases b with
   |true=>
    go_wp2_with fail;refine aE (v:=.tuple #[.slice A xs.length cA,.bool true]) (by simp[results,results41,go_sem]) rfl ?_;exact Kk.yes (xs:=xs) Hfin.o rfl Hs4.o HbW4.o
   |false=>
    go_wp2_with fail;refine aE (v:=.tuple #[.slice A xs.length cA,.bool false]) (by simp[results,results41,go_sem]) rfl ?_;exact Kk.no Hfin.o rfl HbW4.o
theorem X8(s:List UInt8)(w:World)(hs:s.length<=4000000):
  Calls prog 41 #[s] w (Kk (Cl s) w):=by
 by_cases h1:400<s.length
 ·exact Vj s w hs (.inl h1)
 by_cases h2:9<(Ak 10 s).length
 ·exact Vj s w hs (.inr (.inl h2))
 by_cases h3:(Ak 10 s).getLast?=some []
 ·exact Qhu s w aG h2 h3
 exact Vj s w hs (.inr (.inr h3))
def J4(o:Option (List Ty × Kd))(w:World)(e:Ending)(w':World):Prop:=
 (match o with
  |some x=>∃v xs,e=.returned (.tuple #[v,.bool true])/\Ag xs=x.1/\G8 w' v xs
  |none=>∃A n c,e=.returned (.tuple #[.slice A n c,.bool false]))/\Below w w w'
theorem J4.no{w w':World}{e:Ending}{o:Option (List Ty × Kd)}(ho:o=none){A:Option Addr}{n c:Nat}(he:e=.returned (.tuple #[.slice A n c,.bool false]))(hb:Below w w w'):J4 o w e w':=by
 rw[ho];exact⟨⟨A,n,c,he⟩,hb⟩
theorem Yc(s d:List UInt8)(w:World)(hs:s.length<=4000000)(h:Cl s=none):
  Calls prog 19 #[s,d] w (J4 (Cx s d) w):=by
 have HF:=Aa (show Cx s d=none by unfold Cx;rw[h]);have Hof:=Aa (fun W=>X8 s W hs);rw[h]at Hof;clear h;go_enter func19,ntmps19;go_wp2_with fail;refine(Hof.o _).mono ?_;rintro e w1 ⟨⟨A,n,c,rfl⟩,hb⟩;go_wp2_with fail;refine aE (v:=.tuple #[.slice none 0 0,.bool false]) (by simp[results,results19,go_sem]) rfl ?_;exact J4.no HF.o rfl hb
theorem Qbt(s d:List UInt8)(w:World)(hs:s.length<=4000000)(hd:d.length<=4000000)(S:List Ty)(h:Cl s=some S)(hk:C4 d=none):
  Calls prog 19 #[s,d] w (J4 (Cx s d) w):=by
 have HF:=Aa (show Cx s d=none by unfold Cx;rw[h,hk]);have Hof:=Aa (fun W=>X8 s W hs);have Hkd:=Aa (fun W=>Pq d.length d W (Ar _) aG);rw[h]at Hof;rw[hk]at Hkd;clear h hk;go_enter func19,ntmps19;go_wp2_with fail;refine(Hof.o _).mono ?_;rintro e w1 ⟨⟨v,xs,rfl,hx,hsc⟩,hb⟩;clear hsc;go_wp2_with fail;refine(Hkd.o _).mono ?_;rintro e w2 ⟨rfl,rfl⟩;go_wp2_with fail;refine aE (v:=.tuple #[.slice none 0 0,.bool false]) (by simp[results,results19,go_sem]) rfl ?_;exact J4.no HF.o rfl hb
theorem J4.of{w w':World}{e:Ending}{S:List Ty}{k:Kd}{v:Value}{xs:List (Ty × Value)}{b:Bool}{o:Option (List Ty × Kd)}(ho:o=if b=true then some (S,k)else none)(he:e=.returned (.tuple #[v,.bool b]))(hx:Ag xs=S)(hs:G8 w' v xs)(hb:Below w w w'):J4 o w e w':=by
 cases b with
 |true=>rw[ho];exact⟨⟨v,xs,he,hx,hs⟩,hb⟩
 |false=>
  obtain⟨A,c,rfl,_⟩:=hs;rw[ho];exact⟨⟨A,_,c,he⟩,hb⟩
theorem Qib(s d:List UInt8)(w:World)(hs:s.length<=4000000)(S:List Ty)(h:Cl s=some S)(k:Kd)(hk:C4 d=some k):
  Calls prog 19 #[s,d] w (J4 (Cx s d) w):=by
 obtain⟨hok,rfl⟩:=Fr.1 hk;have HF:=Aa (show Cx s (Bt k)=if Ce S k then some (S,k)else none by unfold Cx;rw[h,hk]);have Hof:=Aa (fun W=>X8 s W hs);have hl:=hok.2.2;have Hkd:=Aa (fun W=>Pq (Bt k).length (Bt k) W (Ar _) aG);have Hok:=Aa hok;rw[h]at Hof;rw[hk]at Hkd;clear h hk hok;go_enter func19,ntmps19;go_wp2_with fail;refine(Hof.o _).mono ?_;rintro e w1 ⟨⟨v,xs,rfl,hx,hsc⟩,hb⟩;subst hx;have Hsc:=Aa hsc;obtain⟨A,c,rfl,_,_,hfds⟩:=hsc;have Hfds:=Aa hfds;have Hb:=Aa hb;clear hb hfds;go_wp2_with fail;refine(Hkd.o _).mono ?_;rintro e w2 ⟨rfl,rfl⟩;go_wp2_with fail;refine(Vr k Hok.o _).mono ?_;rintro e w2 ⟨rfl,rfl⟩;go_wp2_with fail;refine(Rq k Hok.o _).mono ?_;rintro e w2 ⟨rfl,rfl⟩;go_wp2_with fail;refine(Tp _ xs (Vp k) _ Hsc.o).mono ?_;rintro e w2 ⟨rfl,hb2⟩;have Hb2:=Aa (Hb.o.trans (hb2.mono Hb.o.size));have Hs2:=Aa (Hsc.o.below hb2);clear hb2;cases hx2:E3 xs (Vp k)with
 |none=>
  unfold T6 P2;rcases hir:V6 k with _|_
  ·have Hr:=Aa (show (if Ce (Ag xs) k then some (Ag xs,k)else none)=if (true:Bool)=true then some (Ag xs,k)else none by
    have:=Mz xs k;rw[hx2,hir]at this;simp at this;simp[this])
   go_wp2_with fail;refine aE (v:=.tuple #[.slice A xs.length c,.bool true]) (by simp[results,results19,go_sem]) rfl ?_;exact mp
  have Hr:=Aa (show (if Ce (Ag xs) k then some (Ag xs,k)else none)=if (false:Bool)=true then some (Ag xs,k)else none by
   have:=Mz xs k;rw[hx2,hir]at this;simp at this;simp[this])
  go_wp2_with fail;refine aE (v:=.tuple #[.slice A xs.length c,.bool false]) (by simp[results,results19,go_sem]) rfl ?_;exact J4.of (b:=false) (HF.o.trans Hr.o) rfl rfl (Hs2.o.below ((Aw _ _).alloc (Ar _) _)) ba
 |some y=>
  obtain⟨ty,yv⟩:=y;obtain⟨A5,c5,e5,_⟩:=Hfds.o _ (Db hx2).1;simp only[]at e5;subst e5;unfold T6 Rm;rcases hir:V6 k with _|_
  ·have Hr:=Aa (show (if Ce (Ag xs) k then some (Ag xs,k)else none)=if (true:Bool)=true then some (Ag xs,k)else none by
    have:=Mz xs k;rw[hx2,hir]at this;simp at this;simp[this])
   go_wp2_with fail;refine aE (v:=.tuple #[.slice A xs.length c,.bool true]) (by simp[results,results19,go_sem]) rfl ?_;exact mp
  have Hr:=Aa (show (if Ce (Ag xs) k then some (Ag xs,k)else none)=if (true:Bool)=true then some (Ag xs,k)else none by
   have:=Mz xs k;rw[hx2,hir]at this;simp at this;simp[this])
  go_wp2_with fail;refine aE (v:=.tuple #[.slice A xs.length c,.bool true]) (by simp[results,results19,go_sem]) rfl ?_;exact mp
theorem Tq(s d:List UInt8)(w:World)(hs:s.length<=4000000)(hd:d.length<=4000000):
  Calls prog 19 #[s,d] w (J4 (Cx s d) w):=by
 cases h:Cl s with
 |none=>exact Yc s d w hs h
 |some S=>cases hk:C4 d with
  |none=>exact Qbt s d w hs hd S h hk
  |some k=>exact Qib s d w hs S h k hk
theorem Mv.no{s d x:List UInt8}{w w':World}{v:Value}{q:Option Addr}(hb:Below w w w')(h:∀y,Cx s d=some y->Kz y.1 y.2 x=none):Mv s d x w (.returned (.tuple #[v,.pointer q,.bool false])) w':=by
 refine⟨hb,?_⟩;cases hy:Cx s d with
 |none=>exact⟨v,q,rfl⟩
 |some y=>simp only;rw[h y hy];exact⟨v,q,rfl⟩
theorem Qjn(HNm:∀(w0:World) (xs:List (Ty × Value)) (xv:Value),G8 w0 xv xs->Nv (Ag xs)->NmC w0 (Ag xs) xv)(s d x:List UInt8)(w:World)(hs:s.length<=4000000)(hd:d.length<=4000000)(hx:x.length<=4000000):
  Calls prog 15 #[s,d,x] w (Mv s d x w):=by
 have Hk:=Aa (fun W=>Tq s d W hs hd);go_enter func15,ntmps15;go_wp2_with fail;refine(Hk.o _).mono ?_;rintro e w1 ⟨hm,hb1⟩;have Hb1:=Aa hb1;clear hb1;cases hbo:Cx s d with
 |none=>
  have HB:=Aa hbo;rw[hbo]at hm;obtain⟨A,n,c,rfl⟩:=hm;clear hbo;go_wp2_with fail;refine aE (v:=.tuple #[.slice none 0 0,.pointer none,.bool false]) (by simp[results,results15,go_sem]) rfl ?_;exact Mv.no Hb1.o fun y hy=>by rw[HB.o]at hy;cases hy
 |some y=>
  obtain⟨S,k⟩:=y;have HB:=Aa hbo;rw[hbo]at hm;obtain⟨xv,xs,rfl,hty,hsc⟩:=hm;obtain⟨g1,_,_,g4,g5,_⟩:=Jz hbo;obtain⟨A9,c9,rfl,hl9,_⟩:=hsc;have Hsc:=@Aa (G8 w1 (.slice A9 xs.length c9) xs) ⟨A9,c9,rfl,hl9,by assumption⟩;clear hbo;by_cases h400:400<x.length
  ·have t4:decide ((400:Int)<(x.length:Int))=true:=aC aG;have t5:(400:Int)<(x.length:Int):=aG;have HV:=@Aa (Kz S k x=none) (by unfold Kz;rw[if_pos h400]);clear h400 g1 g4 g5;go_wp2_with fail;refine aE (v:=.tuple #[.slice none 0 0,.pointer none,.bool false]) (by simp[results,results15,go_sem]) rfl ?_;exact Mv.no Hb1.o fun y hy=>dh
  have t5:¬((400:Int)<(x.length:Int)):=aG;have hr:Calls prog 30 #[.agg #[.slice A9 xs.length c9],x,.string ⟨(Bt k).toArray⟩,.int .i64 ((12:Nat):Int)] w1 (Bz S k (Ap S 20 12 k x) w1):=by
   have:=Qi1 w1 (Ag xs) (by rw[hty];exact g1.1.1) (.slice A9 xs.length c9) rfl (HNm w1 xs _ Hsc.o (by rw[hty];exact g1)) 12 aG k g4 x w1 (Aw _ _) aG;rw[hty]at this;exact this
  rw[g5,show (((12:Nat)):Int)=12 from rfl]at hr;have HR:=Aa hr;have HV:=@Aa (Kz S k x=match Ap S 20 12 k x with|some (v,[])=>some v|_=>none) (by unfold Kz;rw[if_neg h400];rfl);have Hty:=Aa hty;generalize Ap S 20 12 k x=o at *;clear h400 g1 g4 g5 hr hty;go_wp2_with fail;refine HR.o.mono ?_;rintro e w5 hp;obtain⟨vp,vr,vk,rfl,hb5,hm⟩:=hp.q;have Hb5:=Aa (Hb1.o.trans (hb5.mono Hb1.o.size));have Hsc5:=Aa (Hsc.o.below hb5);have hz:=Hb1.o.size;clear hb5 hp;cases o with
  |none=>
   obtain⟨⟨q0,rfl⟩,⟨r0,rfl⟩,rfl⟩:=hm;go_wp2_with fail;refine aE (v:=.tuple #[.slice A9 xs.length c9,.pointer q0,.bool false]) (by simp[results,results15,go_sem]) rfl ?_;exact Mv.no Hb5.o fun y hy=>dh
  |some y=>
   obtain⟨v,r⟩:=y;obtain⟨⟨b,rfl,hsv⟩,rfl,rfl⟩:=hm;have Hsv:=Aa hsv;clear hsv;cases r with
   |nil=>
    go_wp2_with fail;refine aE (v:=.tuple #[.slice A9 xs.length c9,b,.bool true]) (by simp[results,results15,go_sem]) rfl ?_;refine⟨Hb5.o,?_⟩;rw[HB.o];simp only;rw[HV.o];exact⟨_,xs,b,rfl,Hty.o,Hsc5.o,Hsv.o.mono fun c1 hc _=>ad hz hc⟩
   |cons c z=>
    go_wp2_with fail;refine aE (v:=.tuple #[.slice A9 xs.length c9,b,.bool false]) (by simp[results,results15,go_sem]) rfl ?_;exact Mv.no Hb5.o fun y hy=>dh
def Nr(o:Option (Fd × List UInt8))(s:List UInt8)(w:World)(e:Ending)(w':World):Prop:=
 ∃(n:Nat) (a b c r:List UInt8),e=.returned (.tuple #[.agg #[(n:Int),a,b,c],r,.bool o.isSome])/\Below w w w'/\r.length<=s.length/\n<=1000000000 /\
  ∀f q,o=some (f,q)->n=f.tag/\a=f.name/\b=Bt f.kind/\c=f.given/\r=q
theorem Ql4(fs:List Fd)(s:List UInt8):Ha fs s=if Ei (s.takeWhile Bm) 200 then(match Cz (s.takeWhile Bm)with|some n=>(Bj fs n).map (fun f=>(f,s.dropWhile Bm))|none=>none)else none:=by
 unfold Ha Sg Ei;cases h:Cz (s.takeWhile Bm)with
 |none=>rfl
 |some n=>
  simp only;by_cases hn:n<=200
  ·simp only[hn,if_true,decide_true];cases Bj fs n<;>rfl
  simp[hn]
theorem Yk(xv st nm fv:Value)(hxv:xv.oneCell'=true)(hst:st.oneCell'=true)(hnm:nm.oneCell'=true)(fs:List Fd)(s:List UInt8)(w:World)(h:Ef w fv fs)(htg:∀f∈fs,f.tag<=200)(hs:s.length<=4000000):
  Calls prog 108 #[.agg #[xv],s,.agg #[st,nm,fv]] w (Nr (Ha fs s) s w):=by
 obtain⟨A9,c9,rfl,hl9,hr9⟩:=h;have Hfs:=@Aa (Ef w (.slice A9 fs.length c9) fs) ⟨A9,c9,rfl,hl9,hr9⟩;have HQ:=Aa (Ql4 fs s);obtain⟨e1,e2,hle⟩:=Tk Bm s;have Hd:=Aa (fun W=>V7 s W hs);have Hn:=Aa (fun W=>D7 (s.takeWhile Bm) 200 W aG aJ);have E1:=Aa e1;have E2:=Aa e2;have k1:((s.takeWhile Bm).length:Int)<=(s.length:Int):=aG;have Hdl:=Aa (show (s.dropWhile Bm).length<=s.length by rw[<-e2];simp);generalize (s.takeWhile Bm).length=n at *;generalize s.takeWhile Bm=tw at *;generalize s.dropWhile Bm=dw at *;have k2:(0:Int)<=(n:Int):=aG;have k3:((n:Int)).toNat=n:=aG;have hn8:n<=4000000:=aG;have Htg:=Aa htg;clear e1 e2 hr9 htg;go_enter func108,ntmps108;go_wp2_with fail;refine(Hd.o _).mono ?_;rintro e w1 ⟨rfl,rfl⟩;go_wp2_with fail;rw[E1.o];refine(Hn.o _).mono ?_;rintro e w2 ⟨m,hm,rfl,hdm,hb2⟩;have Hdm:=Aa hdm;have Hb2:=Aa ((((Aw w.heap.size w).alloc (Ar _) (.cells #[xv] 35)).alloc aL (.cells #[st,nm,.slice A9 fs.length c9] 95)).alloc aO (.cells #[.int .i64 0,aa,aa,aa] 118) |>.trans (hb2.mono aO));obtain⟨hc2,hfz2,hzz2⟩:=Ck hb2;have hz2:=hb2.size;simp only[World.size_alloc]at hz2;have Hf2:=Aa (fun W (hW:Below w w W)=>Yv st nm (.slice A9 fs.length c9) fs m W (Hfs.o.below hW) aG);generalize hok0:Ei tw 200=ok at *;have Hok:=Aa hok0;clear hok0;clear hdm hb2;go_wp2_with fail;refine(Hf2.o _ Hb2.o).mono ?_;rintro e w3 ⟨rfl,hb3⟩;have Hb3:=Aa (Hb2.o.trans (hb3.mono Hb2.o.size));obtain⟨hc3,hfz3,hzz3⟩:=Ck hb3;have hz3:=hb3.size;have hcc:∀b o,b<w.heap.size+3->w3.cell? ⟨b,o,none⟩=w2.cell? ⟨b,o,none⟩:=fun b o h=>hc3 b o aG;clear hb3 Hf2 hzz2 hzz3;obtain⟨n0,a,b,c,is,hsf,hn0,his,hfd⟩:∃(n0:Nat) (a b c:List UInt8) (is:Bool),sfR (Bj fs m)=.tuple #[.agg #[(n0:Int),a,.string ⟨b.toArray⟩,c],.bool is]/\n0<=1000000000/\(Bj fs m).isSome=is/\∀f,Bj fs m=some f->n0=f.tag/\a=f.name/\b=Bt f.kind/\c=f.given:=by
  cases hf:Bj fs m with
  |none=>exact⟨0,[],[],[],false,rfl,by omega,rfl,fun f h=>by cases h⟩
  |some f=>exact⟨f.tag,f.name,Bt f.kind,f.given,true,rfl,by have:=Htg.o f (List.mem_of_find?_eq_some hf);omega,rfl,fun g h=>by injection h with h;subst h;exact⟨rfl,rfl,rfl,rfl⟩⟩
 rw[hsf];have Hfd:=Aa (And.intro his hfd);clear hsf his hfd;go_wp2_with fail;have F0:w3.cell? (w.heap.size+1+1,0)=some (.int .i64 0):=ip;have F1:w3.cell? (w.heap.size+1+1,1)=aa:=ip;have F2:w3.cell? (w.heap.size+1+1,2)=aa:=ip;have F3:w3.cell? (w.heap.size+1+1,3)=aa:=ip;have Z0:w3.frozen? (w.heap.size+1+1,0)=false:=ij;have Z1:w3.frozen? (w.heap.size+1+1,1)=false:=ij;have Z2:w3.frozen? (w.heap.size+1+1,2)=false:=ij;have Z3:w3.frozen? (w.heap.size+1+1,3)=false:=ij;have hb6:w.heap.size+1+1<w3.heap.size:=aG;clear hc2 hfz2 hc3 hfz3 hcc;cases ok with
 |true=>
  refine Qr [29,30,31,32,33,34,35,36,999,7,8]
   (fun ix v W=>match ix with|0=>v=.agg #[(n0:Int),a,.string ⟨b.toArray⟩,c]|1=>v=(s:List UInt8)|2=>v=(n:Int)|3=>v=(dw:List UInt8)|4=>v=.bool true|5=>v=.bool true|6=>v=.bool is|7=>v=.bool is|9=>v=(dw:List UInt8)|10=>v=.bool is|_=>True)
   (fun L U W=>(L 8=false->W=(w3.alloc (.cells #[(n0:Int),a,.string ⟨b.toArray⟩,c] 118)).drew)/\(L 8=true->Below w w W/\W.cell? (w.heap.size+1+1,0)=(n0:Int)/\W.cell? (w.heap.size+1+1,1)=a/\W.cell? (w.heap.size+1+1,2)=some (.string ⟨b.toArray⟩)/\W.cell? (w.heap.size+1+1,3)=c)) (⟨fun _=>rfl,fun h=>Bool.noConfusion h⟩) ?_ ?_
  ·exact iC
  rintro L U W hL hφ hR;have e9:U 9=(dw:List UInt8):=hφ 9 aJ;have e10:U 10=.bool is:=hφ 10 aJ;clear hφ;obtain⟨Hbw,c0,c1,c2,c3⟩:=hR.2 (hL 8 aJ);have HBW:=Aa Hbw;clear hL hR Hbw;simp only[e9,e10];go_wp2_with fail;refine aE (v:=.tuple #[.agg #[(n0:Int),a,.string ⟨b.toArray⟩,c],dw,.bool is]) (by simp[results,results108,go_sem,c0,c1,c2,c3]) rfl ?_;obtain⟨his,hfd⟩:=Hfd.o;have HQ:=HQ.o;have hok:=Hok.o;cases hdm:Cz tw with
  |none=>rw[Pb hdm]at hok;cases hok
  |some m'=>
   rw[hdm]at HQ;simp only[if_true]at HQ;have hm':=Hdm.o m' hdm;subst hm';rw[HQ];refine⟨n0,a,b,c,dw,by rw[Option.isSome_map,his],HBW.o,Hdl.o,hn0,fun f q h=>?_⟩;cases hf:Bj fs m' with
   |none=>rw[hf]at h;cases h
   |some g=>
    rw[hf]at h;injection h with h;injection h with h1 h2;subst h1 h2;obtain⟨q1,q2,q3,q4⟩:=hfd g hf;exact⟨q1,q2,q3,q4,rfl⟩
 |false=>
  refine Qr [29,30,31,32,33,34,35,36,999,7,8]
   (fun ix v W=>match ix with|0=>v=.agg #[(n0:Int),a,.string ⟨b.toArray⟩,c]|1=>v=(s:List UInt8)|2=>v=(n:Int)|3=>v=(dw:List UInt8)|4=>v=.bool false|5=>v=.bool false|7=>v=.bool false|9=>v=(dw:List UInt8)|10=>v=.bool false|_=>True)
   (fun L U W=>(L 8=false->W=(w3.alloc (.cells #[(n0:Int),a,.string ⟨b.toArray⟩,c] 118)).drew)/\(L 8=true->Below w w W/\W.cell? (w.heap.size+1+1,0)=(n0:Int)/\W.cell? (w.heap.size+1+1,1)=a/\W.cell? (w.heap.size+1+1,2)=some (.string ⟨b.toArray⟩)/\W.cell? (w.heap.size+1+1,3)=c)) (⟨fun _=>rfl,fun h=>Bool.noConfusion h⟩) ?_ ?_
  ·exact iC
  rintro L U W hL hφ hR;have e9:U 9=(dw:List UInt8):=hφ 9 aJ;have e10:U 10=.bool false:=hφ 10 aJ;clear hφ;obtain⟨Hbw,c0,c1,c2,c3⟩:=hR.2 (hL 8 aJ);have HBW:=Aa Hbw;clear hL hR Hbw;simp only[e9,e10];go_wp2_with fail;refine aE (v:=.tuple #[.agg #[(n0:Int),a,.string ⟨b.toArray⟩,c],dw,.bool false]) (by simp[results,results108,go_sem,c0,c1,c2,c3]) rfl ?_;obtain⟨his,hfd⟩:=Hfd.o;have HQ:=HQ.o;have hok:=Hok.o;simp only[an,if_false]at HQ;rw[HQ];exact⟨n0,a,b,c,dw,rfl,HBW.o,Hdl.o,hn0,fun f q h=>by cases h⟩
end
def enL(o:Option (Fd × List UInt8)):Option (Vl × List UInt8):=match o with|some (f,q)=>some (.mk 69 [] f.tag [],q)|none=>none
def unL(R:Kd->List UInt8->Option (Vl × List UInt8))(o:Option (Fd × List UInt8)):Option (Vl × List UInt8):=match o with
 |none=>none
 |some (f,r)=>match Aj 61 r with
  |none=>none
  |some q=>match R f.kind q with
   |none=>none
   |some (v,q)=>match Aj 62 q with|some z'=>some (.mk 85 [] f.tag [v],z')|none=>none
def StF(o:Option (Fd × List UInt8))(s:List UInt8)(n:Nat)(a b c r:List UInt8):Prop:=
 r.length<=s.length/\n<=1000000000/\∀f q,o=some (f,q)->n=f.tag/\a=f.name/\b=Bt f.kind/\c=f.given/\r=q
theorem Nr.q{o:Option (Fd × List UInt8)}{s:List UInt8}{w w':World}{e:Ending}(h:Nr o s w e w'):∃(n:Nat) (a b c r:List UInt8),e=.returned (.tuple #[.agg #[(n:Int),a,b,c],r,.bool o.isSome])/\StF o s n a b c r/\Below w w w':=by
 obtain⟨n,a,b,c,r,h1,h2,h3,h4,h5⟩:=h;exact⟨n,a,b,c,r,h1,⟨h3,h4,h5⟩,h2⟩
structure Jy(w1:World)(o:Option (Fd × List UInt8))(s:List UInt8)(l m x y z al st p q:Bool)(ul um ux uy uz ual up uq:Value)(W:World):Prop where
 be:Below w1 w1 W
 yes:l=true->∃(n:Nat) (a b c r:List UInt8),StF o s n a b c r/\ul=.tuple #[.agg #[(n:Int),a,b,c],r,.bool o.isSome] /\
  (m=true->um=.tuple #[.agg #[(n:Int),a,b,c],r,.bool o.isSome]) /\
  (x=true->ux=.agg #[(n:Int),a,b,c])/\(y=true->uy=r)/\(z=true->uz=.bool o.isSome)/\(p=true->up=r)/\(q=true->uq=.bool o.isSome)
 al:al=true->∃B,ual=.pointer (some ⟨B,0,none⟩)/\w1.heap.size<=B/\B<W.heap.size/\W.there B 0 4/\(st=true->∃cs:List Value,ux=.agg cs.toArray/\W.rangeAt B 0 cs)
section
variable {w1 W W':World} {o:Option (Fd × List UInt8)} {s:List UInt8} {l m x y z al st p q:Bool} {ul um ux uy uz ual up uq:Value} {n:Nat} {a b c r:List UInt8} {B:Nat}
theorem Jy.start:Jy w1 o s false m x y z false st p q ul um ux uy uz ual up uq w1:=⟨Aw _ _,fun h=>Bool.noConfusion h,fun h=>Bool.noConfusion h⟩
theorem Jy.call(h:Jy w1 o s l m x y z al st p q ul um ux uy uz ual up uq W)(hm:m=false)(hx:x=false)(hy:y=false)(hz:z=false)(hst:st=false)(hp:p=false)(hq:q=false)(hF:StF o s n a b c r)(hb:Below W W W'):
  Jy w1 o s true m x y z al st p q (.tuple #[.agg #[(n:Int),a,b,c],r,.bool o.isSome]) um ux uy uz ual up uq W':=by
 subst hm hx hy hz hst hp hq;refine⟨h.be.trans (hb.mono h.be.size),fun _=>⟨n,a,b,c,r,hF,rfl,fun h=>Bool.noConfusion h,fun h=>Bool.noConfusion h,fun h=>Bool.noConfusion h,fun h=>Bool.noConfusion h,fun h=>Bool.noConfusion h,fun h=>Bool.noConfusion h⟩,fun ha=>?_⟩;obtain⟨B,h1,h2,h3,h4,_⟩:=h.al ha;exact⟨B,h1,h2,ac h3 hb.size,Bc h4 h3 hb,fun h=>Bool.noConfusion h⟩
theorem Jy.move(h:Jy w1 o s l m x y z al st p q ul um ux uy uz ual up uq W)(hl:l=true):Jy w1 o s l true x y z al st p q ul ul ux uy uz ual up uq W:=
 ⟨h.be,fun hl=>by obtain⟨n,a,b,c,r,h1,h2,_,h4⟩:=h.yes hl;exact⟨n,a,b,c,r,h1,h2,fun _=>h2,h4⟩,h.al⟩
theorem Jy.get(h:Jy w1 o s l m x y z al st p q ul um ux uy uz ual up uq W)(hl:l=true)(hm:m=true)(hst:x=false->st=false):∃(n:Nat) (a b c r:List UInt8),um=.tuple #[.agg #[(n:Int),a,b,c],r,.bool o.isSome] /\
  (x=false->Jy w1 o s l m true y z al st p q ul um (.agg #[(n:Int),a,b,c]) uy uz ual up uq W)/\Jy w1 o s l m x true z al st p q ul um ux r uz ual up uq W/\Jy w1 o s l m x y true al st p q ul um ux uy (.bool o.isSome) ual up uq W:=by
 obtain⟨n,a,b,c,r,h1,h2,h3,h4,h5,h6,h7⟩:=h.yes hl;refine⟨n,a,b,c,r,h3 hm,fun hx=>⟨h.be,fun _=>⟨n,a,b,c,r,h1,h2,h3,fun _=>rfl,h5,h6,h7⟩,fun ha=>?_⟩,⟨h.be,fun _=>⟨n,a,b,c,r,h1,h2,h3,h4,fun _=>rfl,h6,h7⟩,h.al⟩,⟨h.be,fun _=>⟨n,a,b,c,r,h1,h2,h3,h4,h5,fun _=>rfl,h7⟩,h.al⟩⟩;obtain⟨B,g1,g2,g3,g4,_⟩:=h.al ha;exact⟨B,g1,g2,g3,g4,fun hs=>absurd ((hst hx).symm.trans hs) aJ⟩
theorem Jy.as1(h:Jy w1 o s l m x y z al st p q ul um ux uy uz ual up uq W)(hy:y=true):Jy w1 o s l m x y z al st true q ul um ux uy uz ual uy uq W:=
 ⟨h.be,fun hl=>by obtain⟨n,a,b,c,r,h1,h2,h3,h4,h5,h6,_,h7⟩:=h.yes hl;exact⟨n,a,b,c,r,h1,h2,h3,h4,h5,h6,fun _=>h5 hy,h7⟩,h.al⟩
theorem Jy.as2(h:Jy w1 o s l m x y z al st p q ul um ux uy uz ual up uq W)(hz:z=true):Jy w1 o s l m x y z al st p true ul um ux uy uz ual up uz W:=
 ⟨h.be,fun hl=>by obtain⟨n,a,b,c,r,h1,h2,h3,h4,h5,h6,h7,_⟩:=h.yes hl;exact⟨n,a,b,c,r,h1,h2,h3,h4,h5,h6,h7,fun _=>h6 hz⟩,h.al⟩
theorem Jy.alloc(h:Jy w1 o s l m x y z al st p q ul um ux uy uz ual up uq W)(hst:st=false)(T:TypeId):Jy w1 o s l m x y z true st p q ul um ux uy uz W.heap.size up uq (W.alloc (.cells #[.int .i64 0,aa,aa,aa] T)):=
 ⟨h.be.alloc h.be.size _,h.yes,fun _=>⟨_,rfl,h.be.size,by simp,Dk W [.int .i64 0,aa,aa,aa] T,fun h=>absurd (hst.symm.trans h) aJ⟩⟩
theorem Jy.store(h:Jy w1 o s l m x y z al st p q ul um ux uy uz ual up uq W)(ha:al=true)(ex:ux=.agg #[(n:Int),a,b,c])(el:ual=B):
  W.there B 0 4/\Jy w1 o s l m x y z al true p q ul um ux uy uz ual up uq (W.setCells B 0 [(n:Int),a,b,c]):=by
 obtain⟨B',g1,g2,g3,g4,_⟩:=h.al ha;rw[el]at g1;injection g1 with g1;injection g1 with g1;injection g1 with g1;subst g1;exact⟨g4,Ao _ g2 _ _ _ h.be,h.yes,fun _=>⟨B,el,g2,by rw[Cy];exact g3,ai g4 _ _ _,fun _=>⟨_,ex,ab _ _ _ _ g4⟩⟩⟩
theorem Jy.fin(h:Jy w1 o s l m x y z al st p q ul um ux uy uz ual up uq W)(hl:l=true)(hx:x=true)(ha:al=true)(hs:st=true)(hp:p=true)(hq:q=true):
  ∃(n:Nat) (a b c r:List UInt8) (B:Nat),StF o s n a b c r/\ual=.pointer (some ⟨B,0,none⟩)/\up=.string ⟨r.toArray⟩/\uq=.bool o.isSome/\w1.heap.size<=B/\B<W.heap.size/\W.rangeAt B 0 [.int .i64 (n:Int),.string ⟨a.toArray⟩,.string ⟨b.toArray⟩,.string ⟨c.toArray⟩]/\Below w1.heap.size w1 W:=by
 obtain⟨n,a,b,c,r,h1,h2,h3,h4,h5,h6,h7,h8⟩:=h.yes hl;obtain⟨B,g1,g2,g3,g4,g5⟩:=h.al ha;obtain⟨cs,e1,e2⟩:=g5 hs;have e3:=h4 hx;rw[e1]at e3;injection e3 with e3;have e4:cs=[.int .i64 (n:Int),.string ⟨a.toArray⟩,.string ⟨b.toArray⟩,.string ⟨c.toArray⟩]:=by simpa using e3
 exact⟨n,a,b,c,r,B,h1,g1,h7 hp,h8 hq,g2,g3,e4 ▸ e2,h.be⟩
end
section
variable {Q:World->Value->Value->Value->Prop} {w1 W W':World} {l m x y z a b e:Bool} {ul um ux uy uz ua ub ue vp vr vk:Value}
theorem Jm.call(hm:m=false)(hx:x=false)(hy:y=false)(hz:z=false)(ha:a=false)(hb:b=false)(he:e=false)(h:Q W vp vr vk):Jm Q w1 true m x y z a b e (.tuple #[vp,vr,vk]) um ux uy uz ua ub ue W:=by
 subst hm hx hy hz ha hb he;exact⟨fun h=>Bool.noConfusion h,fun _=>⟨vp,vr,vk,h,rfl,fun h=>Bool.noConfusion h,fun h=>Bool.noConfusion h,fun h=>Bool.noConfusion h,fun h=>Bool.noConfusion h,fun h=>Bool.noConfusion h,fun h=>Bool.noConfusion h,fun h=>Bool.noConfusion h⟩⟩
theorem Jm.call2(hx:x=false)(hy:y=false)(hz:z=false)(ha:a=false)(hb:b=false)(he:e=false)(h:Q W vp vr vk):Jm Q w1 true true x y z a b e (.tuple #[vp,vr,vk]) (.tuple #[vp,vr,vk]) ux uy uz ua ub ue W:=by
 subst hx hy hz ha hb he;exact⟨fun h=>Bool.noConfusion h,fun _=>⟨vp,vr,vk,h,rfl,fun _=>rfl,fun h=>Bool.noConfusion h,fun h=>Bool.noConfusion h,fun h=>Bool.noConfusion h,fun h=>Bool.noConfusion h,fun h=>Bool.noConfusion h,fun h=>Bool.noConfusion h⟩⟩
theorem Jm.move(h:Jm Q w1 l m x y z a b e ul um ux uy uz ua ub ue W)(hl:l=true):Jm Q w1 l true x y z a b e ul ul ux uy uz ua ub ue W:=
 ⟨h.no,fun hl=>by obtain⟨p,r,k,h1,h2,_,h3⟩:=h.yes hl;exact⟨p,r,k,h1,h2,fun _=>h2,h3⟩⟩
theorem Jm.get(h:Jm Q w1 l m x y z a b e ul um ux uy uz ua ub ue W)(hl:l=true)(hm:m=true):∃vp vr vk,um=.tuple #[vp,vr,vk]/\Jm Q w1 l m true y z a b e ul um vp uy uz ua ub ue W/\Jm Q w1 l m x true z a b e ul um ux vr uz ua ub ue W/\Jm Q w1 l m x y true a b e ul um ux uy vk ua ub ue W:=by
 obtain⟨p,r,k,h1,h2,h3,h4,h5,h6,h7⟩:=h.yes hl;exact⟨p,r,k,h3 hm,⟨h.no,fun _=>⟨p,r,k,h1,h2,h3,fun _=>rfl,h5,h6,h7⟩⟩,⟨h.no,fun _=>⟨p,r,k,h1,h2,h3,h4,fun _=>rfl,h6,h7⟩⟩,⟨h.no,fun _=>⟨p,r,k,h1,h2,h3,h4,h5,fun _=>rfl,h7⟩⟩⟩
theorem Jm.as0(h:Jm Q w1 l m x y z a b e ul um ux uy uz ua ub ue W)(hx:x=true):Jm Q w1 l m x y z true b e ul um ux uy uz ux ub ue W:=
 ⟨h.no,fun hl=>by obtain⟨p,r,k,h1,h2,h3,h4,h5,h6,_,h8,h9⟩:=h.yes hl;exact⟨p,r,k,h1,h2,h3,h4,h5,h6,fun _=>h4 hx,h8,h9⟩⟩
theorem Jm.as1(h:Jm Q w1 l m x y z a b e ul um ux uy uz ua ub ue W)(hy:y=true):Jm Q w1 l m x y z a true e ul um ux uy uz ua uy ue W:=
 ⟨h.no,fun hl=>by obtain⟨p,r,k,h1,h2,h3,h4,h5,h6,h7,_,h9⟩:=h.yes hl;exact⟨p,r,k,h1,h2,h3,h4,h5,h6,h7,fun _=>h5 hy,h9⟩⟩
theorem Jm.as2(h:Jm Q w1 l m x y z a b e ul um ux uy uz ua ub ue W)(hz:z=true):Jm Q w1 l m x y z a b true ul um ux uy uz ua ub uz W:=
 ⟨h.no,fun hl=>by obtain⟨p,r,k,h1,h2,h3,h4,h5,h6,h7,h8,_⟩:=h.yes hl;exact⟨p,r,k,h1,h2,h3,h4,h5,h6,h7,h8,fun _=>h6 hz⟩⟩
theorem Jm.fin(h:Jm Q w1 l m x y z a b e ul um ux uy uz ua ub ue W)(hl:l=true)(ha:a=true)(hb:b=true)(he:e=true):∃vp vr vk,Q W vp vr vk/\ua=vp/\ub=vr/\ue=vk:=by
 obtain⟨p,r,k,h1,_,_,_,_,_,h7,h8,h9⟩:=h.yes hl;exact⟨p,r,k,h1,h7 ha,h8 hb,h9 he⟩
end
structure G6(w1:World)(kb:List UInt8)(n x:Nat)(l3 l5 l6 l7 l10:Bool)(u3 u5 u6 u7 u10:Value)(W:World):Prop where
 be:Below w1 w1 W
 a3:l3=true->∃B,u3=.slice (some ⟨B,0,none⟩) 1 1/\w1.heap.size<=B/\B<W.heap.size/\W.cell? ⟨B,0,none⟩=(n:Int)
 a5:l5=true->∃B,u5=.slice (some ⟨B,0,none⟩) 1 1/\w1.heap.size<=B/\B<W.heap.size/\W.cell? ⟨B,0,none⟩=x
 a6:l6=true->l3=true/\l5=true/\u6=.agg #[kb,.string ⟨#[85]⟩,u3,u5]
 a7:l7=true->l3=true/\l5=true/\∃B,u7=.pointer (some ⟨B,0,none⟩)/\w1.heap.size<=B/\B<W.heap.size/\W.cell? ⟨B,0,none⟩=kb/\W.cell? ⟨B,1,none⟩=some (.string ⟨#[85]⟩)/\W.cell? ⟨B,2,none⟩=some u3/\W.cell? ⟨B,3,none⟩=some u5
 a10:l10=true->u10=u7
section
variable {w1 W:World} {kb:List UInt8} {n x:Nat} {l3 l5 l6 l7 l10:Bool} {u3 u5 u6 u7 u10:Value}
theorem Gj{w:World}{b o:Nat}{v:Value}{B:Obj}(hb:b<w.heap.size)(h:w.cell? ⟨b,o,none⟩=some v):(w.alloc B).cell? ⟨b,o,none⟩=some v:=
 ((Aw w.heap.size w).alloc (Ar _) B |>.cell (p:=⟨b,o,none⟩) hb).trans h
theorem G6.start:G6 w1 kb n x false false false false false u3 u5 u6 u7 u10 w1:=
 ⟨Aw _ _,fun h=>Bool.noConfusion h,fun h=>Bool.noConfusion h,fun h=>Bool.noConfusion h,fun h=>Bool.noConfusion h,fun h=>Bool.noConfusion h⟩
theorem G6.grow(h:G6 w1 kb n x l3 l5 l6 l7 l10 u3 u5 u6 u7 u10 W)(B:Obj):G6 w1 kb n x l3 l5 l6 l7 l10 u3 u5 u6 u7 u10 (W.alloc B):=by
 refine⟨h.be.alloc h.be.size _,fun q=>?_,fun q=>?_,h.a6,fun q=>?_,h.a10⟩
 ·obtain⟨b,e,h1,h2,h3⟩:=h.a3 q;exact⟨b,e,h1,by simp;omega,Gj h2 h3⟩
 ·obtain⟨b,e,h1,h2,h3⟩:=h.a5 q;exact⟨b,e,h1,by simp;omega,Gj h2 h3⟩
 obtain⟨q3,q5,b,e,h1,h2,c0,c1,c2,c3⟩:=h.a7 q;exact⟨q3,q5,b,e,h1,by simp;omega,Gj h2 c0,Gj h2 c1,Gj h2 c2,Gj h2 c3⟩
theorem G6.put3(h:G6 w1 kb n x l3 l5 l6 l7 l10 u3 u5 u6 u7 u10 W)(h6:l6=false)(h7:l7=false)(T:TypeId):G6 w1 kb n x true l5 l6 l7 l10 (.slice (W,0) 1 1) u5 u6 u7 u10 (W.alloc (.cells #[(n:Int)] T)):=by
 have g:=h.grow (.cells #[(n:Int)] T);exact⟨g.be,fun _=>⟨_,rfl,h.be.size,by simp,by simp[go_sem]⟩,g.a5,fun q=>absurd (h6.symm.trans q) aJ,fun q=>absurd (h7.symm.trans q) aJ,g.a10⟩
theorem G6.put5(h:G6 w1 kb n x l3 l5 l6 l7 l10 u3 u5 u6 u7 u10 W)(h6:l6=false)(h7:l7=false)(T:TypeId):G6 w1 kb n x l3 true l6 l7 l10 u3 (.slice (W,0) 1 1) u6 u7 u10 (W.alloc (.cells #[x] T)):=by
 have g:=h.grow (.cells #[x] T);exact⟨g.be,g.a3,fun _=>⟨_,rfl,h.be.size,by simp,by simp[go_sem]⟩,fun q=>absurd (h6.symm.trans q) aJ,fun q=>absurd (h7.symm.trans q) aJ,g.a10⟩
theorem G6.put6(h:G6 w1 kb n x l3 l5 l6 l7 l10 u3 u5 u6 u7 u10 W)(h3:l3=true)(h5:l5=true){u:Value}(hu:u=.agg #[kb,.string ⟨#[85]⟩,u3,u5]):G6 w1 kb n x l3 l5 true l7 l10 u3 u5 u u7 u10 W:=
 ⟨h.be,h.a3,h.a5,fun _=>⟨h3,h5,hu⟩,h.a7,h.a10⟩
theorem G6.put7(h:G6 w1 kb n x l3 l5 l6 l7 l10 u3 u5 u6 u7 u10 W)(h6:l6=true)(h10:l10=false){T:TypeId}{W':World}(hW:W'=W.alloc (.cells #[kb,.string ⟨#[85]⟩,u3,u5] T)):G6 w1 kb n x l3 l5 l6 true l10 u3 u5 u6 W.heap.size u10 W':=by
 subst hW;have g:=h.grow (.cells #[kb,.string ⟨#[85]⟩,u3,u5] T);obtain⟨h3,h5,_⟩:=h.a6 h6;exact⟨g.be,g.a3,g.a5,g.a6,fun _=>⟨h3,h5,_,rfl,h.be.size,by simp,by simp[go_sem],by simp[go_sem],by simp[go_sem],by simp[go_sem]⟩,fun q=>absurd (h10.symm.trans q) aJ⟩
theorem G6.put10(h:G6 w1 kb n x l3 l5 l6 l7 l10 u3 u5 u6 u7 u10 W):G6 w1 kb n x l3 l5 l6 l7 true u3 u5 u6 u7 u7 W:=⟨h.be,h.a3,h.a5,h.a6,h.a7,fun _=>rfl⟩
theorem G6.fin(h:G6 w1 kb n x l3 l5 l6 l7 l10 u3 u5 u6 u7 u10 W)(h7:l7=true)(h10:l10=true){lo:Nat}(hlo:lo<=w1.heap.size){y:SV}(hy:Gx (fun c=>lo<=c) w1 x y):∃B,u10=.pointer (some ⟨B,0,none⟩)/\Gx (fun c=>lo<=c) W B (.mk kb [85] [n] [y]):=by
 obtain⟨h3,h5,B,e,h1,h2,c0,c1,c2,c3⟩:=h.a7 h7;obtain⟨B3,e3,p1,p2,p3⟩:=h.a3 h3;obtain⟨B5,e5,r1,r2,r3⟩:=h.a5 h5;refine⟨B,(h.a10 h10).trans e,?_⟩;rw[e3]at c2;rw[e5]at c3;refine .mk kb [85] [n] (B3,0) (B5,0) 1 1 [(x,y)] rfl h2 (ad hlo h1) c0 c1 c2 c3 ⟨rfl,by simp[maxLen],fun _=>⟨B3,0,rfl,p2,fun j u hu=>?_⟩⟩ ⟨rfl,by simp[maxLen],fun _=>⟨B5,0,rfl,r2,fun j u hu=>?_⟩⟩ aL aL (fun g o _ e=>?_) (fun g o _ e=>?_) (fun p hp=>?_)
 ·match j,hu with
  |0,hu=>simp[De]at hu;subst hu;simpa using p3
  |j+1,hu=>simp[De]at hu
 ·match j,hu with
  |0,hu=>simp[E8]at hu;subst hu;simpa using r3
  |j+1,hu=>simp[E8]at hu
 ·injection e with e;injection e with e;subst e;omega
 ·injection e with e;injection e with e;subst e;omega
 simp at hp;subst hp;exact hy.after h.be
end
structure RS(S:List Ty)(K:Kd->List UInt8->Option (Vl × List UInt8))(fs:List Fd)(s:List UInt8)(ps:List (Fd × Vl))(last:Nat)(tt:List UInt8):Prop where
 eq:Er S K fs 201 0 s=Qm ps (Er S K fs (201 - ps.length) last tt)
 lo:ps.length<=last
 hi:last<=200
 la:last=(ps.map (·.1.tag)).getLastD 0
 fd:∀p∈ps,Bj fs p.1.tag=some p.1
 le:tt.length<=s.length
section
variable {S:List Ty} {K:Kd->List UInt8->Option (Vl × List UInt8)} {fs:List Fd} {s tt r q z z':List UInt8} {ps:List (Fd × Vl)} {last:Nat} {f:Fd} {v:Vl}
theorem RS.init:RS S K fs s [] 0 s:=⟨by cases h:Er S K fs 201 0 s<;>simp[Qm,h],Ar _,by omega,rfl,by simp,Ar _⟩
theorem RS.one(h:RS S K fs s ps last tt):∃m,201 - ps.length=m+1/\Er S K fs 201 0 s=Qm ps (match Dm K fs tt with
  |none=>none
  |some (p,r)=>if p.1.tag<=last\/Ay p.2=Mh S p.1 then none else match Aj 44 r with
   |some q=>(match Er S K fs m p.1.tag q with|some (ps,z)=>some (p::ps,z)|none=>none)
   |none=>match Aj 125 r with|some q=>some ([p],q)|none=>none):=
 ⟨200 - ps.length,by have:=h.lo;have:=h.hi;omega,by rw[h.eq,show 201 - ps.length=(200 - ps.length)+1 by have:=h.lo;have:=h.hi;omega];rfl⟩
theorem RS.tagN(h:RS S K fs s ps last tt)(h1:Ha fs tt=none):Er S K fs 201 0 s=none:=by
 obtain⟨m,_,e⟩:=h.one;rw[e];simp[Dm,h1,Qm]
theorem RS.sign(h:RS S K fs s ps last tt)(h1:Ha fs tt=some (f,r))(h2:Aj 61 r=none):Er S K fs 201 0 s=none:=by
 obtain⟨m,_,e⟩:=h.one;rw[e];simp[Dm,h1,h2,Qm]
theorem RS.ord(h:RS S K fs s ps last tt)(h1:Ha fs tt=some (f,r))(h3:f.tag<=last):Er S K fs 201 0 s=none:=by
 obtain⟨m,_,e⟩:=h.one;rw[e];cases h2:Aj 61 r with
 |none=>simp[Dm,h1,h2,Qm]
 |some q=>
  cases hk:K f.kind q with
  |none=>simp[Dm,h1,h2,hk,Qm]
  |some x=>simp[Dm,h1,h2,hk,Qm,h3]
theorem RS.rd(h:RS S K fs s ps last tt)(h1:Ha fs tt=some (f,r))(h2:Aj 61 r=some q)(hk:K f.kind q=none):Er S K fs 201 0 s=none:=by
 obtain⟨m,_,e⟩:=h.one;rw[e];simp[Dm,h1,h2,hk,Qm]
theorem RS.sam(h:RS S K fs s ps last tt)(h1:Ha fs tt=some (f,r))(h2:Aj 61 r=some q)(hk:K f.kind q=some (v,z))(h4:Ay v=Mh S f):Er S K fs 201 0 s=none:=by
 obtain⟨m,_,e⟩:=h.one;rw[e];simp[Dm,h1,h2,hk,Qm,h4]
theorem RS.sep(h:RS S K fs s ps last tt)(h1:Ha fs tt=some (f,r))(h2:Aj 61 r=some q)(hk:K f.kind q=some (v,z))(h5:Aj 44 z=none)(h6:Aj 125 z=none):Er S K fs 201 0 s=none:=by
 obtain⟨m,_,e⟩:=h.one;rw[e];simp[Dm,h1,h2,hk,Qm,h5,h6]
theorem RS.go(h:RS S K fs s ps last tt)(h1:Ha fs tt=some (f,r))(h2:Aj 61 r=some q)(h3:last<f.tag)(hk:K f.kind q=some (v,z))(h4:Ay v≠Mh S f)(h5:Aj 44 z=some z')(hl:z'.length<=tt.length):
  RS S K fs s (ps++[(f,v)]) f.tag z':=by
 obtain⟨m,hm,e⟩:=h.one;obtain⟨g1,g2,_,_⟩:=Kn h1;refine⟨?_,by have:=h.lo;simp;omega,g1,by simp,fun p hp=>?_,ad hl h.le⟩
 ·rw[e,show 201 - (ps++[(f,v)]).length=m by simp;omega];simp only[Dm,h1,h2,hk,h5];rw[if_neg cR];cases Er S K fs m f.tag z'<;>simp[Qm]
 rcases af.1 hp with hp|hp
 ·exact h.fd p hp
 rw[ap]at hp;subst hp;exact g2
theorem RS.fin(h:RS S K fs s ps last tt)(h1:Ha fs tt=some (f,r))(h2:Aj 61 r=some q)(h3:last<f.tag)(hk:K f.kind q=some (v,z))(h4:Ay v≠Mh S f)(h5:Aj 44 z=none)(h6:Aj 125 z=some z'):
  Er S K fs 201 0 s=some (ps++[(f,v)],z')/\∀p∈ps++[(f,v)],Bj fs p.1.tag=some p.1:=by
 obtain⟨m,hm,e⟩:=h.one;obtain⟨g1,g2,_,_⟩:=Kn h1;refine⟨?_,fun p hp=>?_⟩
 ·rw[e];simp only[Dm,h1,h2,hk,h5,h6];rw[if_neg cR];simp[Qm]
 rcases af.1 hp with hp|hp
 ·exact h.fd p hp
 rw[ap]at hp;subst hp;exact g2
end
structure Qie(w:World)(xv y0 y1 y2 h0 h1:Value)(S:List Ty)(K:Kd->List UInt8->Option (Vl × List UInt8))(fs:List Fd)(s:List UInt8)(wr:World)(tv kv:Value)(ps:List (Fd × Vl))(xs:List (Nat × SV))(last:Nat)(tt:List UInt8):Prop where
 bel:Below w w wr
 st:Fk (w.heap.size+3) (w.heap.size+2) wr h0 h1 tv tv kv kv (ps.map fun p=>p.1.tag) xs
 box:wr.cell? (w,0)=some xv
 b0:wr.cell? (w,1,0)=some y0
 b1:wr.cell? (w,1,1)=some y1
 b2:wr.cell? (w,1,2)=some y2
 len:xs.length=ps.length
 eq:xs.map (·.2)=ps.map fun p=>Cj S p.1.kind p.2
 rs:RS S K fs s ps last tt
theorem Qie.after{w wr W:World}{xv y0 y1 y2 h0 h1:Value}{S:List Ty}{K:Kd->List UInt8->Option (Vl × List UInt8)}{fs:List Fd}{s tt:List UInt8}{tv kv:Value}{ps:List (Fd × Vl)}{xs:List (Nat × SV)}{last:Nat}
  (h:Qie w xv y0 y1 y2 h0 h1 S K fs s wr tv kv ps xs last tt) (hb:Below wr wr W):Qie w xv y0 y1 y2 h0 h1 S K fs s W tv kv ps xs last tt:=by
 have hlt:=h.st.lt;have hc:∀b o,b<w.heap.size+3->W.cell? ⟨b,o,none⟩=wr.cell? ⟨b,o,none⟩:=fun b o hb'=>hb.cell (p:=⟨b,o,none⟩) (show b<wr.heap.size by omega);exact⟨h.bel.trans (hb.mono h.bel.size),h.st.after hb,(hc _ _ aG).trans h.box,(hc _ _ aG).trans h.b0,(hc _ _ aG).trans h.b1,(hc _ _ aG).trans h.b2,h.len,h.eq,h.rs⟩
theorem Fk.last{base B n c g:Nat}{W:World}{A:Option Addr}{h0 h1 tu ku kv:Value}{gs:List Nat}{xs:List (Nat × SV)}(h:Fk base B W h0 h1 tu (.slice A n c) ku kv (gs++[g]) xs):
  ∃b,A=some ⟨b,0,none⟩/\n=gs.length+1/\b<W.heap.size/\W.cell? ⟨b,gs.length,none⟩=(g:Int):=by
 have hn:=Qjo h.tags;have e:(gs++[g]).length=gs.length+1:=aL;rcases h.tags.2 with⟨e0,h0⟩|⟨b,cap,cur,e1,_⟩
 ·omega
 injection e1 with e1 _ _;subst e1;refine⟨b,rfl,by omega,(h.tags.lt b rfl).2,?_⟩;have:=h.tags.cells (g:=b) rfl gs.length (g:Int) (by simp[De]);have e2:(⟨b,0,none⟩:Addr).add gs.length=⟨b,0+gs.length,none⟩:=bi;rw[e2]at this;simpa using this
def Q4(base:Nat)(tv kv:Value)(W:World)(x:Nat × SV):Prop:=Gx (fun c=>base<=c/\kv.ownBlock≠some c/\tv.ownBlock≠some c) W x.1 x.2
theorem Q4.appT{base:Nat}{W W':World}{tv tv' kv:Value}{x:Nat × SV}(h:Q4 base tv kv W x)(hg:W.grownBy W' tv.ownBlock)(hwh:tv'.ownBlock=tv.ownBlock\/∃k,tv'.ownBlock=some k/\W.heap.size<=k):Q4 base tv' kv W' x:=by
 refine Gx.kept h (fun b o v hb _ hv=>hg.cell hv fun e=>hb.2.2 e.symm) hg.size fun c hc hl=>⟨hc.1,hc.2.1,?_⟩
 rcases hwh with e|⟨k,e,hk⟩
 ·rw[e];exact hc.2.2
 exact lL
structure J7(base B:Nat)(W1:World)(h0 h1:Value)(A:Option Addr)(n c:Nat)(ku:Value)(gs:List Nat)(xs ks:List (Nat × SV))(g:Nat)(l7 l8 l11:Bool)(u7 u8:Value)(W:World):Prop where
 p0:l7=false->W=W1
 p1:l7=true->l8=false->W=W1.alloc (.cells [.int .i64 (g:Int)].toArray 3)/\u7=.slice (some ⟨W1.heap.size,0,none⟩) 1 1
 p2:l8=true->l11=false->∃A6 c6,u8=.slice A6 (gs++[g]).length c6/\Fk base B W h0 h1 (.slice A n c) u8 ku ku (gs++[g]) xs/\Below base W1 W/\∀x∈ks,Q4 base u8 ku W x
 p3:l11=true->∃A6 c6,Fk base B W h0 h1 (.slice A6 (gs++[g]).length c6) (.slice A6 (gs++[g]).length c6) ku ku (gs++[g]) xs/\Below B W1 W/\∀x∈ks,Q4 base (.slice A6 (gs++[g]).length c6) ku W x
 p4:l11=true->∀b o,b<base->b≠B->W.cell? ⟨b,o,none⟩=W1.cell? ⟨b,o,none⟩
section
variable {base B n c g:Nat} {W1 W:World} {h0 h1 ku u7 u8:Value} {A:Option Addr} {gs:List Nat} {xs:List (Nat × SV)} {ks:List (Nat × SV)} {l7 l8 l11:Bool}
theorem J7.start:J7 base B W1 h0 h1 A n c ku gs xs ks g false false false u7 u8 W1:=⟨fun _=>rfl,fun h=>Bool.noConfusion h,fun h=>Bool.noConfusion h,fun h=>Bool.noConfusion h,fun h=>Bool.noConfusion h⟩
theorem J7.be(h:J7 base B W1 h0 h1 A n c ku gs xs ks g l7 l8 l11 u7 u8 W)(h8:l8=false):Below W1 W1 W:=by
 cases l7 with
 |false=>rw[h.p0 rfl];exact Aw _ _
 |true=>rw[(h.p1 rfl h8).1];exact(Aw _ _).alloc (Ar _) _
theorem J7.put7(h8:l8=false)(h11:l11=false):J7 base B W1 h0 h1 A n c ku gs xs ks g true l8 l11 (.slice (W1,0) 1 1) u8 (W1.alloc (.cells #[(g:Int)] 3)):=
 ⟨fun h=>Bool.noConfusion h,fun _ _=>⟨rfl,rfl⟩,fun h=>absurd (h8.symm.trans h) aJ,fun h=>absurd (h11.symm.trans h) aJ,fun h=>absurd (h11.symm.trans h) aJ⟩
theorem J7.put8(h7:l7=true)(h11:l11=false){v:Value}(hS:Fk base B W1 h0 h1 (.slice A n c) (.slice A n c) ku ku gs xs)(hk:∀x∈ks,Q4 base (.slice A n c) ku W1 x)
  (hown:W.ownsRow base 3 1 v (gs.length+1) (De gs++[.int .i64 (g:Int)])) (hg:W1.grownBy W (Value.slice A n c).ownBlock) (hwh:v.ownBlock=(Value.slice A n c).ownBlock\/∃k,v.ownBlock=some k/\W1.heap.size<=k):
  J7 base B W1 h0 h1 A n c ku gs xs ks g l7 true l11 u7 v W/\∃A6 c6,v=.slice A6 (gs++[g]).length c6:=by
 obtain⟨A6,c6,e,h1,h2⟩:=hS.pushT hown hg hwh;exact⟨⟨fun h=>absurd (h7.symm.trans h) aJ,fun _ h=>Bool.noConfusion h,fun _ _=>⟨A6,c6,e,h1,h2,fun x hx=>(hk x hx).appT hg hwh⟩,fun h=>absurd (h11.symm.trans h) aJ,fun h=>absurd (h11.symm.trans h) aJ⟩,A6,c6,e⟩
theorem J7.put11(h:J7 base B W1 h0 h1 A n c ku gs xs ks g l7 l8 l11 u7 u8 W)(h7:l7=true)(h8:l8=true)(h11:l11=false){W':World}(hW:W'=W.setCell ⟨B,2,none⟩ u8):J7 base B W1 h0 h1 A n c ku gs xs ks g l7 l8 true u7 u8 W':=by
 subst hW;obtain⟨A6,c6,e,hS,hb,hk⟩:=h.p2 h8 h11;have hB:=hS.hB;have hk2:∀x∈ks,Q4 base u8 ku (W.setCell ⟨B,2,none⟩ u8) x:=fun x hx=>Gx.grown (hk x hx) (Al W B 2 u8) fun c hc e=>by injection e with e;have:=hc.1;omega
 have hS2:=hS.set2;rw[e]at hS2 hk2 ⊢;exact⟨fun h=>absurd (h7.symm.trans h) aJ,fun _ h=>absurd (h8.symm.trans h) aJ,fun _ h=>Bool.noConfusion h,fun _=>⟨A6,c6,hS2,(hb.mono (Nat.le_of_lt hS.hB)).setCell (p:=⟨B,2,none⟩) (Ar B) _,hk2⟩,fun _ b o h1 h2=>((Al W B 2 _).cell_far ⟨b,o,none⟩ (ac (ac h1 hS.bs) (Ar _)) (by simp;exact h2)).trans (hb.cell (p:=⟨b,o,none⟩) h1)⟩
end
section
attribute [local go_sem] Qo1 Qof Qnv Qlx ByteArray.mk_append_mk
theorem Qog(w0:World)(xs:List (Ty × Value))(xv:Value)(hxv:xv.oneCell'=true)(hsc:G8 w0 xv xs)(k:Kd)(hk:Ch k)(hsg:k.signs=[])(hbs:k.base=[64])(nm:List UInt8)(fs:List Fd)(tv:Value)(hx:E3 xs k.name=some (⟨69,nm,fs⟩,tv))(hfs:Ef w0 tv fs)(htg:∀f∈fs,f.tag<=200)
  (d:Nat) (hd:d<=1000) (z:List UInt8) (w:World) (hw:Below w0 w0 w) (hz:z.length<=1000000) (o:Option (Fd × List UInt8)) (ho:o=Ha fs z):
  Calls prog 67 #[.agg #[xv],(35::z:List UInt8),.string ⟨(Bt k).toArray⟩,.int .i64 ((d+1:Nat):Int)] w (Bz (Ag xs) k (enL o) w):=by
 have hkd:∀g,Cj (Ag xs) k (.mk 69 [] g [])=.mk (Bt k) [69] [g] []:=Th (Ag xs) k;generalize (((d+1:Nat):Int))=dd at *;obtain⟨A9,c9,rfl,hl9,_⟩:=hfs;have HFs:=@Aa (∀W,Below w0 w0 W->Ef W (.slice A9 fs.length c9) fs) (fun W hW=>Ef.below (show Ef w0 (.slice A9 fs.length c9) fs from⟨A9,c9,rfl,hl9,by assumption⟩) hW)
 have Hr:=Aa (show ∀W,Below w0 w0 W->Calls prog 47 #[xv,.string ⟨(Bt k).toArray⟩] W fun e w'=>e=.returned (.tuple #[.agg #[.int .u8 69,nm,.slice A9 fs.length c9],.bool true])/\Below W W w' from fun W hW=>by
  have h:=Gf xv xs k W (hsc.below hW) hk;rw[show J3 xs k=some (⟨69,nm,fs⟩,.slice A9 fs.length c9)from by unfold J3;rw[if_pos ⟨hsg,hbs⟩];exact hx]at h;exact h)
 have HT:=@Aa (∀W,Below w0 w0 W->Calls prog 108 #[.agg #[xv],z,.agg #[.int .u8 69,nm,.slice A9 fs.length c9]] W (Nr (Ha fs z) z W)) (fun W hW=>Yk xv (.int .u8 69) nm _ hxv rfl rfl fs z W (HFs.o W hW) htg aG);have hkl:(Bt k).length<=100:=bW;have hzl:z.length<=1000000:=hz;have Ho:=Aa ho;rw[<-ho]at HT;have Hw:=Aa hw;have Hkd:=Aa hkd;generalize Bt k=kb at *;clear hw hx hsc htg ho;go_enter func67,ntmps67;go_wp2_with fail;refine(Hr.o _ (Hw.o.alloc Hw.o.size _)).mono ?_;rintro e w1 ⟨rfl,hb1⟩;have hz1:=hb1.size;simp only[World.size_alloc]at hz1;have Hb1:=Aa (((Aw w.heap.size w).alloc (Ar _) _).trans (hb1.mono aL));have X0:=@Aa (w1.cell? (w,0)=some xv) eM;clear hb1;go_upto_region 5 with fail
 obtain⟨w2,hw2⟩:∃w2,w2=w1.alloc (.cells #[.int .u8 69,nm,.slice A9 fs.length c9] 95):=⟨_,rfl⟩
 have Hb2:=@Aa (Below w w w2) eE;have Hl0:=@Aa (w.heap.size<w2.drew.heap.size) gL;have Hl1:=@Aa (w1.heap.size<w2.drew.heap.size) gC;have X0:=@Aa (w2.drew.cell? (w,0)=some xv) eS;have X1:=@Aa (w2.drew.cell? (w1,0)=some (.int .u8 69)) cQ;have X2:=@Aa (w2.drew.cell? (w1,1)=nm) cQ;have X3:=@Aa (w2.drew.cell? (w1,2)=some (.slice A9 fs.length c9)) cQ;have HC:=@Aa (∀W,Below w2.drew.heap.size w2.drew W->Calls prog 108 #[.agg #[xv],z,.agg #[.int .u8 69,nm,.slice A9 fs.length c9]] W (Nr o z W)) (fun W hW=>HT.o W ((Hw.o.trans (Hb2.o.mono Hw.o.size)).trans ((Aw _ _).drew.trans (hW.mono aL) |>.mono (ad Hw.o.size Hb2.o.size))));rw[<-hw2];clear hw2;refine Qr [58,59,60,61,62,57,63,64,65,13,999,14,15]
  (fun ix v W=>match ix with|0=>v=.agg #[xv]|1=>v=(35::z:List UInt8)|2=>v=(z:List UInt8)|3=>v=.agg #[.int .u8 69,nm,.slice A9 fs.length c9]|_=>True)
  (fun L U W=>Jy w2.drew o z (L 4) (L 5) (L 6) (L 7) (L 8) (L 9) (L 10) (L 11) (L 12) (U 4) (U 5) (U 6) (U 7) (U 8) (U 9) (U 11) (U 12) W) (Jy.start) ?_ ?_
 ·exact iw
 rintro L U W hL hφ hR;clear hφ;obtain⟨n,a,b,c,r,B,hF,u9,u11,u12,hB1,hB2,hrg,hbe⟩:=hR.fin (hL 4 aJ) (hL 6 aJ) (hL 9 aJ) (hL 10 aJ) (hL 11 aJ) (hL 12 aJ);simp only[u9,u11,u12];clear hR hL u9 u11 u12;have y0:W.cell? (B,0)=(n:Int):=by simpa using Ab hrg 0 rfl
 have HF:=Aa hF;have HB:=@Aa (Below w w W) (Hb2.o.trans (((Aw _ _).drew.trans (hbe.mono aL)).mono Hb2.o.size));clear hbe hrg hF;go_wp2_with fail;refine aE (v:=.tuple #[.pointer (some ⟨W.heap.size+1,0,none⟩),r,.bool o.isSome]) (by simp[results,results67,go_sem]) rfl ?_;have hbf:=(HB.o.alloc HB.o.size (.cells #[(n:Int)] 3)).alloc (by simp;have:=HB.o.size;omega) (.cells #[kb,.string ⟨#[69]⟩,.slice (some ⟨W.heap.size,0,none⟩) 1 1,.slice none 0 0] 68);cases o with
 |none=>exact Bz.no rfl rfl hbf
 |some y=>
  obtain⟨f,q⟩:=y;obtain⟨rfl,_,_,_,rfl⟩:=HF.o.2.2 f q rfl;refine⟨⟨W.heap.size+1,rfl,?_⟩,hbf⟩;have hsz:=HB.o.size;rw[Hkd.o];refine .mk kb [69] [f.tag] (some ⟨W.heap.size,0,none⟩) none 1 0 [] rfl aL (by show w.heap.size<=W.heap.size+1;omega) (by go_simp) (by go_simp) (by go_simp) (by go_simp) ⟨rfl,by simp[maxLen],fun _=>⟨W.heap.size,0,rfl,by simp;omega,fun j u hu=>?_⟩⟩ ⟨rfl,ag _,fun h=>absurd h aL⟩ aL aL (fun g o _ e=>?_) (fun _ _ h=>absurd h aL) (fun x hx=>?_)
  ·match j,hu with
   |0,hu=>
    simp[De]at hu;subst hu;go_simp
   |j+1,hu=>simp[De]at hu
  ·injection e with e;injection e with e;subst e;exact hsz
  simp at hx
end
end Go.Proofs.YtkigmebejmmikaaGreatDoor
