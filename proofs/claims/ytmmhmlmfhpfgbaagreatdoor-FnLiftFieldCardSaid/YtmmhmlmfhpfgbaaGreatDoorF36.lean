/- Texts joined. Conditions: as each theorem names them. -/
import Derived.Test.YtmmhmlmfhpfgbaaGreatDoorF35
set_option maxRecDepth 100000
set_option maxHeartbeats 32000000
set_option linter.unusedVariables false
set_option linter.unusedSimpArgs false
namespace Go.Proofs.YtmmhmlmfhpfgbaaGreatDoor
open Go.RowKit Go.Proofs.Tryz
theorem Qa2{s1 d1 s2 d2 x:List UInt8}{r:Vl × Bool}(h:Jw (Bm s1 d1) (Bm s2 d2) x=some r):∃S a T b v R,Bm s1 d1=some (S,a)/\Bm s2 d2=some (T,b)/\Jk S T a b=true/\Zs S T R/\Q8 R a b /\
  G7 S/\Ck a/\G7 T/\Ck b/\Ha T 12 b v/\Az v=x/\x.length<=400/\r=Dc S 12 a v/\Ha S 12 a r.1/\LOk v r:=by
 cases h1:Bm s1 d1 with
 |none=>rw[h1]at h;cases h
 |some y1=>
  cases h2:Bm s2 d2 with
  |none=>rw[h1,h2]at h;cases h
  |some y2=>
   obtain⟨S,a⟩:=y1;obtain⟨T,b⟩:=y2;rw[h1,h2]at h;have h':(if Jk S T a b=true then(Gs T b x).map (Dc S 12 a)else none)=some r:=h;by_cases hr:Jk S T a b=true
   ·rw[if_pos hr]at h';obtain⟨g1,_,_,g2,_⟩:=Dd h1;obtain⟨g3,_,_,g4,_⟩:=Dd h2;cases hv:Gs T b x with
    |none=>rw[hv]at h';cases h'
    |some v=>
     rw[hv]at h';injection h' with h';obtain⟨v1,v2,v3⟩:=(Gk g3.1.1 g4).1 hv;obtain⟨R,hR,hk⟩:=Pk g1.1.2.1 g3.1.2.1 hr;obtain⟨i1,i2⟩:=Te hR 12 a b v hk v1;subst h';exact⟨S,a,T,b,v,R,rfl,rfl,hr,hR,hk,g1,g2,g3,g4,v1,v2,v3,rfl,i1,i2⟩
   rw[if_neg hr]at h';cases h'
theorem Qd9{s1 d1 s2 d2 x:List UInt8}{r:Vl × Bool}(h:Jw (Bm s1 d1) (Bm s2 d2) x=some r):(Az r.1).length<=400:=by
 obtain⟨S,a,T,b,v,R,_,_,_,_,_,_,_,_,_,_,v2,v3,_,_,i2⟩:=Qa2 h;have:=i2.le;rw[v2]at this;omega
theorem LOk.eq{v:Vl}{r:Vl × Bool}(h:LOk v r)(e:Az r.1=Az v):r.1=v:=by
 cases hr:r.2 with
 |false=>exact h.1 hr
 |true=>have:=h.2 hr;rw[e]at this;omega
theorem N4{p:List UInt8}:∀{l:List (List UInt8)},p∈l->p.length+1<=Dh l
 |x::xs,h=>by
  rw[D7];rcases aA.1 h with rfl|h
  ·omega
  have:=N4 h;omega
theorem Vi{S:List Ty}(hS:∀t∈S,Fi t):∀(d:Nat) (k:Kd) (v:Vl),Ha S d k v->(Az v).length<=900000->Bd v:=by
 intro d;induction d with
 |zero=>intro k v h;cases h
 |succ d ih=>
  intro k v h hl;cases h with
  |@n _ _ m hs hb h=>exact .mk aH dJ (by simp[Az,D3,H4]at hl;omega) aK
  |@t _ _ s hs hb h=>exact .mk aH dJ (by simp[Az,D3,H4]at hl;omega) aK
  |@f _ _ x hs hb=>exact .mk aH dJ (by cases x<;>decide) aK
  |@lst _ _ r ks hs hl2 h=>
   rw[Ji]at hl;simp only[List.length_cons,ah,Bw,List.length_nil]at hl;exact .mk aH aH aK fun x hx=>ih _ x (h x hx) (by have:=N4 (ap (f:=Az) hx);omega)
  |@non _ _ r hs=>exact .mk aH dJ aK aK
  |@som _ _ r x hs h=>
   have hx:(Az x).length<=900000:=by simp[Az,D3,H4,Aw]at hl;omega
   exact .mk aH eW aK fun y hy=>gi
  |@enm _ _ t f hs hb ht h9 hf=>exact .mk (by have:=((hS t (Cf ht).1).2.2.1.1 f (At hf).2).2.1;omega) dJ aK aK
  |@uni _ _ t f x hs hb ht h5 hf h=>
   have hx:(Az x).length<=900000:=by simp[Az,D3,H4,Aw]at hl;omega
   exact .mk (by have:=(K0 hS ht dH (At hf).2).2;omega) eW aK fun y hy=>gi
  |@rcd _ _ t fs hs hb ht h2 hf h hn hp=>
   rw[Kl]at hl;simp only[List.length_cons,ah,Bw,List.length_nil]at hl;refine .mk aH (by rw[List.map_map];show Dh (fs.map fun p=>Az (Dk p))<=_;omega) aK fun y hy=>?_;obtain⟨p,hp',rfl⟩:=ax.1 hy;have h3:=N4 (ap (f:=fun p=>Az (Dk p)) hp');simp only[Ja]at h3;have h4:=(K0 hS ht cW (At (hf p hp')).2).2;exact .mk aH eW aK fun y hy=>by rw[aq]at hy;subst hy;exact ih _ _ (h p hp') aH
section
attribute [local go_sem] Qoe Qnf Qmu Qk2 ByteArray.mk_append_mk
def kNm(s:List UInt8):Option Cn:=(Cs s).bind fun k=>if k.signs=[]/\k.base=[64]then some k.name else none
theorem Qkh{s:List UInt8}{k:Kd}(h:Cs s=some k)(hs:k.signs=[])(hb:k.base=[64]):kNm s=some k.name:=by unfold kNm;rw[h];simp[hs,hb]
theorem Qam(s:List UInt8)(w:World)(hs:s.length<=4000000):
  Calls prog 56 #[.string ⟨s.toArray⟩] w fun e w'=>e=.returned (.tuple #[.string ⟨((kNm s).getD []).toArray⟩,.bool (kNm s).isSome])/\Below w.heap.size w w':=by
 have HK:=Aa (fun W=>Ps s W hs)
 obtain⟨q,hq⟩:∃q,q=kNm s:=⟨_,rfl⟩
 rw[<-hq]
 unfold kNm at hq
 have HQ:=Aa hq
 clear hq
 generalize Cs s=o at *
 go_enter func56,ntmps56
 go_wp2_with fail
 refine(HK.o _).mono ?_
 rintro e w1 ⟨hm,hb1⟩
 have Hb1:=Aa (hb1.alloc hb1.size)
 clear hb1
 cases o with
 |none=>
  obtain⟨a,b,c,rfl⟩:=hm
  go_wp2_with fail
  go_ret2
  exact⟨by rw[HQ.o];rfl,Hb1.o _⟩
 |some k=>
  obtain rfl:=hm
  unfold D9
  by_cases hsg:k.signs=[]
  ·have t1:(!k.signs.isEmpty)=false:=by simp[hsg]
   have t1':k.signs.isEmpty=true:=by simp[hsg]
   by_cases hbs:k.base=[64]
   ·have t2:(k.base != [64])=false:=by simp[hbs]
    have t2':(k.base == [64])=true:=by simp[hbs]
    have HQ:=Aa (show q=some k.name by rw[HQ.o];simp[hsg,hbs])
    clear hsg hbs
    go_wp2_with fail
    go_ret2
    exact⟨by rw[HQ.o];rfl,Hb1.o _⟩
   have t2:(k.base != [64])=true:=by simp[hbs]
   have t2':(k.base == [64])=false:=by simp[hbs]
   have HQ:=Aa (show q=none by rw[HQ.o];simp[hbs])
   clear hsg hbs
   go_wp2_with fail
   go_ret2
   exact⟨by rw[HQ.o];rfl,Hb1.o _⟩
  have t1:(!k.signs.isEmpty)=true:=by simp[hsg]
  have t1':k.signs.isEmpty=false:=by simp[hsg]
  have HQ:=Aa (show q=none by rw[HQ.o];simp[hsg])
  clear hsg
  go_wp2_with fail
  go_ret2
  exact⟨by rw[HQ.o];rfl,Hb1.o _⟩
theorem Sa(s:List UInt8)(w:World)(hs:s.length<=4000000):
  Calls prog 19 #[.string ⟨s.toArray⟩] w fun e w'=>e=.returned (.string ⟨((kNm s).getD []).toArray⟩)/\Below w.heap.size w w':=by
 have HK:=Aa (fun W=>Qam s W hs)
 generalize kNm s=o at *
 go_enter func19,ntmps19
 go_wp2_with fail
 refine(HK.o _).mono ?_
 rintro e w1 ⟨rfl,hb1⟩
 have Hb1:=Aa hb1
 clear hb1
 go_wp2_with fail
 go_ret
 exact⟨rfl,Hb1.o⟩
def tyN(s n:List UInt8):Option (List Ty × Ty):=(B9 s).bind fun S=>(Bk S n).map fun t=>(S,t)
def Qmp(o:Option (List Ty × Ty))(n:Cn)(w:World)(e:Ending)(w':World):Prop:=
 (match o with
  |none=>e=.returned (.tuple #[.pointer none,.pointer none,.bool false])
  |some y=>∃p xs x,e=.returned (.tuple #[p,.pointer (some ⟨x.blk,0,none⟩),.bool true])/\Ag xs=y.1/\Sd w' p xs/\D8 xs n=some x/\x.ty=y.2)/\Below w.heap.size w w'
theorem Q7(s n:List UInt8)(w:World)(hs:s.length<=4000000)(hn:n.length<=4000000):
  Calls prog 55 #[.string ⟨s.toArray⟩,.string ⟨n.toArray⟩] w (Qmp (tyN s n) n w):=by
 have HS:=Aa (fun W=>Mz s W hs)
 obtain⟨q,hq⟩:∃q,q=tyN s n:=⟨_,rfl⟩
 rw[<-hq]
 unfold tyN at hq
 have HQ:=Aa hq
 clear hq
 generalize B9 s=o at *
 go_enter func55,ntmps55
 go_wp2_with fail
 refine(HS.o _).mono ?_
 rintro e w1 ⟨hm,hb1⟩
 have Hb1:=Aa hb1
 clear hb1
 cases o with
 |none=>
  obtain⟨p,rfl⟩:=hm
  have HQ:=Aa (show q=none from HQ.o)
  go_wp2_with fail
  go_ret3
  exact⟨by rw[HQ.o];rfl,Hb1.o⟩
 |some S=>
  obtain⟨p,xs,rfl,rfl,hsl⟩:=hm
  have Hsc:=Aa hsl.isc
  obtain⟨b,mb,rfl,hb,hm,hnd⟩:=hsl.isc.map
  have HL:=Aa (fun W (hW:Below w1.heap.size w1 W)=>E8 (Dp.below hnd hW) n (by omega))
  have hlk:=HL.o w1 (Ao _ _)
  have HQ:=Aa (show q=(Bk (Ag xs) n).map fun t=>(Ag xs,t)from HQ.o)
  rw[Gg]at HQ
  clear hsl hnd
  cases hx:D8 xs n with
  |none=>
   rw[hx]at hlk HQ
   have HQ:=Aa (show q=none from HQ.o)
   unfold Pq at hlk
   clear hx
   have hlj:=fun j=>HL.o (w1.drewN j) (below_drewN (Ao _ _) j)
   go_wp2_with fail
   go_ret3
   exact⟨by rw[HQ.o];rfl,Hb1.o⟩
  |some x=>
   have HX:=Aa hx
   rw[hx]at hlk HQ HL
   have HQ:=Aa (show q=some (Ag xs,x.ty)from HQ.o)
   unfold Pq PT.ptr at hlk HL
   clear hx
   go_wp2_with fail
   refine rgB ?_
   iterate 6 refine sq ?_
   refine sqX (fun v=>v=.pointer (some ⟨x.blk,0,none⟩)) ?_ ?_
   ·intro l u W hl hp hF hG hi K hK
    have hlk:=HL.o W hF.o
    unfold Jz at hG
    simp[Region.binds,Fb]at hp
    go_simp
    exact hK _ _ _ rfl hF.o (by simp[Act.put,hp])
   iterate 3 refine sq ?_
   refine dnB fun w5 HB=>?_
   have Hb5:=Aa (Hb1.o.trans (HB.o.mono Hb1.o.size))
   have Hsc5:=Aa (Hsc.o.below HB.o)
   clear HB HL hlk
   go_wp2_with fail
   go_ret3
   exact⟨by rw[HQ.o];exact⟨_,xs,x,rfl,rfl,Hsc5.o,HX.o,rfl⟩,Hb5.o⟩
end
end Go.Proofs.YtmmhmlmfhpfgbaaGreatDoor
