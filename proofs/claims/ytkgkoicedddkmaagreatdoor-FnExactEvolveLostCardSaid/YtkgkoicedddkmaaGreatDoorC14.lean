/- Texts joined. Conditions: as each theorem names them. -/
import Derived.BigRegion
import Derived.Test.YtkgkoicedddkmaaGreatDoorC03
import Derived.Test.YtkgkoicedddkmaaGreatDoorC13
set_option maxRecDepth 100000
set_option maxHeartbeats 32000000
set_option linter.unusedVariables false
set_option linter.unusedSimpArgs false
namespace Go.Proofs.YtkgkoicedddkmaaGreatDoor
open Go.RowKit Go.Proofs.Tryz
section
attribute [local go_sem] Qiz Qii Qib Qgw ByteArray.mk_append_mk
theorem Zn(s:List UInt8)(nm u:List UInt8)(w:World)(hs:s.length<=1000)(h:s=(82::nm)++61::u)(hp:61∉82::nm)(hnm:Aw nm=true)(hu:u=[]):
  Calls prog 88 #[.string ⟨s.toArray⟩] w (Cr (Cb s) w):=by
 have HF:=Aa (show Cb s=some ⟨82,nm,[]⟩by rw[h];unfold Cb;rw[Ed hp];subst hu;simp[hnm,Dr])
 have Hs:=Aa h
 have Hsl:=Aa (show s.length=(82::nm).length+1+u.length by rw[h];simp;omega)
 have h0:0<s.length:=by have:=Hsl.o;omega
 have Hp:=Aa hp
 have Hu:=Aa (fun W=>Cd nm W (by have:=Hsl.o;simp at this;omega))
 rw[hnm]at Hu
 subst hu
 clear h hp hnm
 go_enter func88,ntmps88
 go_wp2_with fail
 go_loopw [4] (fun i wr=>∃k:Nat,i=.int .i64 k/\k<s.length/\Hid (61∉s.take k)/\wr=w.alloc (.cells #[.int .u8 0,.string ⟨#[]⟩,.slice none 0 0] 100)) (fun i _=>s.length - (intOf i).toNat)
 case atStart=>exact⟨0,rfl,by omega,by simp[Hid],rfl⟩
 case round=>
  obtain⟨k,rfl,hlt,hno,rfl⟩:=hrel
  have k1:(k:Int)<(s.length:Int):=by omega
  obtain⟨hkp,hiff⟩:=G9 Hs.o Hp.o hlt hno.o
  have hb:=(s[k]).toNat_lt
  by_cases hne:s[k]=61
  ·obtain rfl:k=nm.length+1:=hiff.1 hne
   have t1:(((s[nm.length+1]).toNat:Int) != 61)=false:=by have:=Be hne;simpa using this
   have t2:(((s[nm.length+1]).toNat:Int) == 61)=true:=Be hne
   clear hne hiff hkp hno
   have e0:s[0]=82:=by simp[Hs.o]
   have e1:s.tail.take nm.length=nm:=by rw[Hs.o];simp
   have e2:s.drop (nm.length+1+1)=[]:=by rw[Hs.o];simp
   have m1:(nm.length:Int)+1<(s.length:Int):=by have:=Hsl.o;simp at this;omega
   have m2:¬((nm.length:Int)+1<1):=by omega
   have m3:¬((s.length:Int)<=(nm.length:Int)+1):=by omega
   have hn1:¬(w.heap.size+1=w.heap.size):=by omega
   go_wp2_with fail
   go_region
   go_wp2_with fail
   refine(Hu.o _).mono ?_
   rintro e w2 ⟨rfl,rfl⟩
   go_wp2_with fail
   go_region
   go_wp2_with fail
   refine bodyPost_ret (v:=.tuple #[.agg #[.int .u8 82,.string ⟨nm.toArray⟩,.slice none 0 0],.bool true]) (by simp[results,results88,go_sem,hn1]) rfl ?_
   exact Cr.yes HF.o rfl ⟨rfl,.inl ⟨rfl,rfl⟩⟩ (by(repeat (first|exact Aq _ _|refine Below.setCell ?_ (by first|exact Ap _|(simp;done)|(simp;omega)|omega) _|refine Below.alloc ?_ (by first|exact Ap _|(simp;done)|(simp;omega)|omega) _|refine Below.drew ?_|refine below_drewN ?_ _)))
  ·have Hno:=Aa (Dn hlt hno.o hne)
   have hk2:k+1<s.length:=by
    have h1:k≠(82::nm).length:=fun e=>hne (hiff.2 e)
    have h2:=Hsl.o
    omega
   have t1:(((s[k]).toNat:Int) != 61)=true:=by have:=Am hne;simpa using this
   have t2:(((s[k]).toNat:Int) == 61)=false:=Am hne
   clear hne hiff hkp
   go_wp2_with fail
   go_roundw
   case rel=>exact⟨k+1,by go_num,hk2,Hno.o,Ac⟩
   case measure=>simp[intOf];omega
theorem Yv(s:List UInt8)(nm u:List UInt8)(w:World)(hs:s.length<=1000)(h:s=(85::nm)++61::u)(hp:61∉85::nm)(hnm:Aw nm=true)(hu:u=[]):
  Calls prog 88 #[.string ⟨s.toArray⟩] w (Cr (Cb s) w):=by
 have HF:=Aa (show Cb s=none by rw[h];unfold Cb;rw[Ed hp];subst hu;simp[hnm,Dr])
 have Hs:=Aa h
 have Hsl:=Aa (show s.length=(85::nm).length+1+u.length by rw[h];simp;omega)
 have h0:0<s.length:=by have:=Hsl.o;omega
 have Hp:=Aa hp
 have Hu:=Aa (fun W=>Cd nm W (by have:=Hsl.o;simp at this;omega))
 rw[hnm]at Hu
 subst hu
 clear h hp hnm
 go_enter func88,ntmps88
 go_wp2_with fail
 go_loopw [4] (fun i wr=>∃k:Nat,i=.int .i64 k/\k<s.length/\Hid (61∉s.take k)/\wr=w.alloc (.cells #[.int .u8 0,.string ⟨#[]⟩,.slice none 0 0] 100)) (fun i _=>s.length - (intOf i).toNat)
 case atStart=>exact⟨0,rfl,by omega,by simp[Hid],rfl⟩
 case round=>
  obtain⟨k,rfl,hlt,hno,rfl⟩:=hrel
  have k1:(k:Int)<(s.length:Int):=by omega
  obtain⟨hkp,hiff⟩:=G9 Hs.o Hp.o hlt hno.o
  have hb:=(s[k]).toNat_lt
  by_cases hne:s[k]=61
  ·obtain rfl:k=nm.length+1:=hiff.1 hne
   have t1:(((s[nm.length+1]).toNat:Int) != 61)=false:=by have:=Be hne;simpa using this
   have t2:(((s[nm.length+1]).toNat:Int) == 61)=true:=Be hne
   clear hne hiff hkp hno
   have e0:s[0]=85:=by simp[Hs.o]
   have e1:s.tail.take nm.length=nm:=by rw[Hs.o];simp
   have e2:s.drop (nm.length+1+1)=[]:=by rw[Hs.o];simp
   have m1:(nm.length:Int)+1<(s.length:Int):=by have:=Hsl.o;simp at this;omega
   have m2:¬((nm.length:Int)+1<1):=by omega
   have m3:¬((s.length:Int)<=(nm.length:Int)+1):=by omega
   have hn1:¬(w.heap.size+1=w.heap.size):=by omega
   go_wp2_with fail
   go_region
   go_wp2_with fail
   refine(Hu.o _).mono ?_
   rintro e w2 ⟨rfl,rfl⟩
   go_wp2_with fail
   go_region
   go_wp2_with fail
   refine bodyPost_ret (v:=.tuple #[.agg #[.int .u8 85,.string ⟨nm.toArray⟩,.slice none 0 0],.bool false]) (by simp[results,results88,go_sem,hn1]) rfl ?_
   exact Cr.no HF.o rfl (by(repeat (first|exact Aq _ _|refine Below.setCell ?_ (by first|exact Ap _|(simp;done)|(simp;omega)|omega) _|refine Below.alloc ?_ (by first|exact Ap _|(simp;done)|(simp;omega)|omega) _|refine Below.drew ?_|refine below_drewN ?_ _)))
  ·have Hno:=Aa (Dn hlt hno.o hne)
   have hk2:k+1<s.length:=by
    have h1:k≠(85::nm).length:=fun e=>hne (hiff.2 e)
    have h2:=Hsl.o
    omega
   have t1:(((s[k]).toNat:Int) != 61)=true:=by have:=Am hne;simpa using this
   have t2:(((s[k]).toNat:Int) == 61)=false:=Am hne
   clear hne hiff hkp
   go_wp2_with fail
   go_roundw
   case rel=>exact⟨k+1,by go_num,hk2,Hno.o,Ac⟩
   case measure=>simp[intOf];omega
theorem Yz(s:List UInt8)(nm u:List UInt8)(w:World)(hs:s.length<=1000)(h:s=(69::nm)++61::u)(hp:61∉69::nm)(hnm:Aw nm=true)(hu:u=[]):
  Calls prog 88 #[.string ⟨s.toArray⟩] w (Cr (Cb s) w):=by
 have HF:=Aa (show Cb s=none by rw[h];unfold Cb;rw[Ed hp];subst hu;simp[hnm,Dr])
 have Hs:=Aa h
 have Hsl:=Aa (show s.length=(69::nm).length+1+u.length by rw[h];simp;omega)
 have h0:0<s.length:=by have:=Hsl.o;omega
 have Hp:=Aa hp
 have Hu:=Aa (fun W=>Cd nm W (by have:=Hsl.o;simp at this;omega))
 rw[hnm]at Hu
 subst hu
 clear h hp hnm
 go_enter func88,ntmps88
 go_wp2_with fail
 go_loopw [4] (fun i wr=>∃k:Nat,i=.int .i64 k/\k<s.length/\Hid (61∉s.take k)/\wr=w.alloc (.cells #[.int .u8 0,.string ⟨#[]⟩,.slice none 0 0] 100)) (fun i _=>s.length - (intOf i).toNat)
 case atStart=>exact⟨0,rfl,by omega,by simp[Hid],rfl⟩
 case round=>
  obtain⟨k,rfl,hlt,hno,rfl⟩:=hrel
  have k1:(k:Int)<(s.length:Int):=by omega
  obtain⟨hkp,hiff⟩:=G9 Hs.o Hp.o hlt hno.o
  have hb:=(s[k]).toNat_lt
  by_cases hne:s[k]=61
  ·obtain rfl:k=nm.length+1:=hiff.1 hne
   have t1:(((s[nm.length+1]).toNat:Int) != 61)=false:=by have:=Be hne;simpa using this
   have t2:(((s[nm.length+1]).toNat:Int) == 61)=true:=Be hne
   clear hne hiff hkp hno
   have e0:s[0]=69:=by simp[Hs.o]
   have e1:s.tail.take nm.length=nm:=by rw[Hs.o];simp
   have e2:s.drop (nm.length+1+1)=[]:=by rw[Hs.o];simp
   have m1:(nm.length:Int)+1<(s.length:Int):=by have:=Hsl.o;simp at this;omega
   have m2:¬((nm.length:Int)+1<1):=by omega
   have m3:¬((s.length:Int)<=(nm.length:Int)+1):=by omega
   have hn1:¬(w.heap.size+1=w.heap.size):=by omega
   go_wp2_with fail
   go_region
   go_wp2_with fail
   refine(Hu.o _).mono ?_
   rintro e w2 ⟨rfl,rfl⟩
   go_wp2_with fail
   go_region
   go_wp2_with fail
   refine bodyPost_ret (v:=.tuple #[.agg #[.int .u8 69,.string ⟨nm.toArray⟩,.slice none 0 0],.bool false]) (by simp[results,results88,go_sem,hn1]) rfl ?_
   exact Cr.no HF.o rfl (by(repeat (first|exact Aq _ _|refine Below.setCell ?_ (by first|exact Ap _|(simp;done)|(simp;omega)|omega) _|refine Below.alloc ?_ (by first|exact Ap _|(simp;done)|(simp;omega)|omega) _|refine Below.drew ?_|refine below_drewN ?_ _)))
  ·have Hno:=Aa (Dn hlt hno.o hne)
   have hk2:k+1<s.length:=by
    have h1:k≠(69::nm).length:=fun e=>hne (hiff.2 e)
    have h2:=Hsl.o
    omega
   have t1:(((s[k]).toNat:Int) != 61)=true:=by have:=Am hne;simpa using this
   have t2:(((s[k]).toNat:Int) == 61)=false:=Am hne
   clear hne hiff hkp
   go_wp2_with fail
   go_roundw
   case rel=>exact⟨k+1,by go_num,hk2,Hno.o,Ac⟩
   case measure=>simp[intOf];omega
def Nu(c:UInt8)(nm:List UInt8):Option (List Fd)->Option Ty
 |some r=>if r.length<=8 then some ⟨c,nm,r⟩else none
 |none=>none
theorem Nm{c:UInt8}{nm u s:List UInt8}(h:s=(c::nm)++61::u)(hp:61∉c::nm)(hnm:Aw nm=true)(hc:Dr c)(hu:u≠[]):Cb s=Nu c nm (Ct c (Ai 44 u) []):=by
 rw[h];unfold Cb;rw[Ed hp]
 simp only[]
 rw[if_neg (by rw[hnm];simp[hc]),if_neg hu]
 unfold Nu
 cases Ct c (Ai 44 u) []<;>rfl
theorem M9{c:UInt8}{ps:List (List UInt8)}{acc:List Fd}{k:Nat}(hk:k<ps.length):Ct c (ps.drop k) acc=(match Br c ps[k]with|none=>none|some f=>if El acc f=false then none else Ct c (ps.drop (k+1)) (acc++[f])):=by
 rw[List.drop_eq_getElem_cons hk];rfl
theorem Yk(g j:Nat):(⟨g,0,none⟩:Addr).add j=⟨g,j,none⟩:=by unfold Addr.add;split<;>simp_all
def Qd9(W:World)(lo:Nat)(stored:Bool)(o:Option Fd)(v:Value):Prop:=
 ∃b8,v=.pointer (some ⟨b8,0,none⟩)/\lo<=b8/\b8<W.heap.size/\(∀j,W.frozen? ⟨b8,j,none⟩=false) /\
  (∃x0 x1 x2 x3,W.cell? ⟨b8,0,none⟩=some x0/\W.cell? ⟨b8,1,none⟩=some x1/\W.cell? ⟨b8,2,none⟩=some x2/\W.cell? ⟨b8,3,none⟩=some x3) /\
  (stored=true->∀f,o=some f->W.cell? ⟨b8,0,none⟩=some (.int .i64 (f.tag:Int))/\W.cell? ⟨b8,1,none⟩=some (.string ⟨f.name.toArray⟩)/\W.cell? ⟨b8,2,none⟩=some (.string ⟨(Bj f.kind).toArray⟩)/\W.cell? ⟨b8,3,none⟩=some (.string ⟨f.given.toArray⟩))
def Qah(o:Option Fd)(v:Value):Prop:=
 match o with
 |some f=>v=sfV f
 |none=>∃(x:Int) (a b c:ByteArray),v=.agg #[.int .i64 x,.string a,.string b,.string c]
def Xm(o:Option Fd)(v:Value):Prop:=∃rv,v=.tuple #[rv,.bool o.isSome]/\Qah o rv
theorem Qd9.below{W W':World}{lo:Nat}{b:Bool}{o:Option Fd}{v:Value}(h:Qd9 W lo b o v)(hb:Below W.heap.size W W'):Qd9 W' lo b o v:=by
 obtain⟨b8,rfl,h1,h2,h3,⟨x0,x1,x2,x3,e0,e1,e2,e3⟩,h5⟩:=h
 have hc:∀j,W'.cell? ⟨b8,j,none⟩=W.cell? ⟨b8,j,none⟩:=fun j=>hb.cell (p:=⟨b8,j,none⟩) h2
 exact⟨b8,rfl,h1,Nat.lt_of_lt_of_le h2 hb.size,fun j=>(hb.frozen (p:=⟨b8,j,none⟩) h2).trans (h3 j),⟨x0,x1,x2,x3,(hc 0).trans e0,(hc 1).trans e1,(hc 2).trans e2,(hc 3).trans e3⟩,fun hs f hf=>by
  obtain⟨a0,a1,a2,a3⟩:=h5 hs f hf
  exact⟨(hc 0).trans a0,(hc 1).trans a1,(hc 2).trans a2,(hc 3).trans a3⟩⟩
theorem Ze{c:UInt8}{p:List UInt8}{W W':World}{e:Ending}(h:Cp (Br c p) W e W'):(∃rv,e=.returned (.tuple #[rv,.bool (Br c p).isSome])/\Qah (Br c p) rv)/\Below W.heap.size W W':=by
 obtain⟨h1,h2⟩:=h
 refine⟨?_,h2⟩
 cases hf:Br c p with
 |none=>rw[hf]at h1;obtain⟨x,a,b,d,e1⟩:=h1;exact⟨_,e1,x,a,b,d,rfl⟩
 |some f=>rw[hf]at h1;exact⟨_,h1,rfl⟩
theorem J0{w:World}{b0 base k:Nat}{e:TypeId}{v:Value}{n:Nat}{xs:List Value}(h:w.ownsRow base e k v n xs)(hb:b0<=base):w.ownsRow b0 e k v n xs:=by
 refine⟨h.1,?_⟩
 rcases h.2 with hn|⟨g,cap,cur,rfl,hb2,rest⟩
 ·exact .inl hn
 exact .inr ⟨g,cap,cur,rfl,by omega,rest⟩
theorem Ym{acc:List Fd}{f:Fd}{j:Nat}(hj:j<acc.length)(h:f.tag<=acc[j].tag\/acc[j].name=f.name):El acc f=false:=by
 rw[Bool.eq_false_iff]
 intro hf
 have:=Gr.1 hf _ (List.getElem_mem hj)
 rcases h with h|h
 ·omega
 exact this.1 h
theorem Rt{acc:List Fd}{f:Fd}{j:Nat}(hj:j<acc.length)(h:∀g∈acc.take j,g.name≠f.name/\g.tag<f.tag)(h1:¬f.tag<=acc[j].tag)(h2:acc[j].name≠f.name):∀g∈acc.take (j+1),g.name≠f.name/\g.tag<f.tag:=by
 intro g hg
 rw[Ch acc j hj]at hg
 rcases List.mem_append.1 hg with hg|hg
 ·exact h g hg
 simp at hg;subst hg;exact⟨h2,by omega⟩
end
end Go.Proofs.YtkgkoicedddkmaaGreatDoor
