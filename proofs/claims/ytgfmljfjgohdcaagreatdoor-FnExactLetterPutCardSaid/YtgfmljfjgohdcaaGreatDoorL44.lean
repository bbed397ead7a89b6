/- Texts joined. Conditions: as each theorem names them. -/
import Derived.Test.YtgfmljfjgohdcaaGreatDoorL43
set_option maxRecDepth 100000
set_option maxHeartbeats 32000000
set_option linter.unusedVariables false
set_option linter.unusedSimpArgs false
namespace Go.Proofs.YtgfmljfjgohdcaaGreatDoor
open Go.RowKit Go.Proofs.Tryz
section
attribute [local go_sem] Qls Qkr Qj4 Qig ByteArray.mk_append_mk
theorem Qf4(u:Value)(vs:List J0)(n:Int)(w:World)(h:Fi w u vs)(hn:vs.length<=1048577)(hl:∀x∈vs,x.1.length<=4000000/\x.2.length<=4000000)(hlo:-9223372036854775808<=n)(hhi:n<=9223372036854775807):
  Calls prog 62 #[.agg #[u],.int .i64 n] w (G6 vs n w):=by
 have Hv:=Aa h;have Hl:=Aa hl;obtain⟨A,c,rfl,hcap,hvm,hr⟩:=h;have Hr:=Aa hr;clear hl hr;go_enter func62,ntmps62;go_wp2_with fail;obtain⟨W1,hW1⟩:∃W1,W1=(w.alloc (.cells #[.slice A vs.length c] 31)).alloc (.cells #[a6,a6] 36):=⟨_,rfl⟩
 rw[<-hW1];have hz1:W1.heap.size=w.heap.size+2:=ei;have B1:=Aa (show Below w w W1 by rw[hW1];exact((Ar _ _).alloc (Am _) _).alloc aH _);have C1:=Aa (show W1.cell? (w,0)=some (.slice A vs.length c)by rw[hW1];simp[go_sem]);have T1:=Aa (show W1.there (w.heap.size+1) 0 2 by rw[hW1];have:=B9 (w.alloc (.cells #[.slice A vs.length c] 31)) [a6,a6] 36;simpa using this);clear hW1;refine(Qdr _ vs _ (Hv.o.below B1.o) hn Hl.o).mono ?_;rintro e w1 ⟨rfl,hb1⟩;have hz2:=hb1.size;have C2:=Aa ((hb1.cell (p:=⟨w.heap.size,0,none⟩) (show w.heap.size<W1.heap.size by omega)).trans C1.o);have T2:=Aa (An T1.o aF hb1);have B2:=Aa (B1.o.trans (hb1.mono aF));clear hb1;have c2:=C2.o;cases hok:Ms vs with
 |false=>
  have HN:=Aa (Qdz (n:=n) hok);clear hok;go_wp2_with ((with_reducible refine Ad (op:=⟨none,.store 36 _ _,_,_,_,none⟩) rfl 36 _ _ rfl (w.heap.size+1) 0 [a6,a6] ?_ ?_ ?_ ?_ ?_ ?_);rfl;rfl;(exact T2.o);kernel_rfl;(simp[Value.oneCell']);intro w9 HS9)
  have HZ:=(by rw[HS9.o];exact a7 _ _ _ _ T2.o:w9.rangeAt (w.heap.size+1) 0 [a6,a6])
  refine aD (v:=.tuple #[.agg ([a6,a6]:List Value).toArray,.bool false]) (Aj results62 _ _ (w.heap.size+1) _ _ _ rfl rfl HZ underlying36 rfl aJ) rfl ?_;exact je
 |true=>
  have HOK:=Aa hok;clear hok;go_wp2_with fail;refine(Qa7 _ _ _ _).mono ?_;rintro e w7 ⟨rfl,rfl⟩;by_cases hin:1<=n/\n<=(vs.length:Int)
  ·obtain⟨k,rfl,hk⟩:∃k:Nat,n=(k:Int)+1/\k<vs.length:=⟨(n - 1).toNat,by omega,by omega⟩
   have HA:=Aa (Qg5 HOK.o hk);obtain⟨b,off,rfl,hbl,x0,x1⟩:=Fi.at_ (Hr.o.below B2.o) hk;have Hxv:=@Aa (Dq vs k=vs[k]) (Kf hk);generalize vs[k]=x at x0 x1 Hxv;have t1:(decide ((1:Int)<=(k:Int)+1) && decide ((k:Int)+1<=(vs.length:Int)))=true:=aL;have hcap2:(k:Int)<(c:Int):=aF;go_wp2_with ((with_reducible refine Ad (op:=⟨none,.store 36 _ _,_,_,_,none⟩) rfl 36 _ _ rfl (w.heap.size+1) 0 [x.1,x.2] ?_ ?_ ?_ ?_ ?_ ?_);rfl;rfl;(exact T2.o);kernel_rfl;(simp[Value.oneCell']);intro w9 HS9)
   have HZ:=(by rw[HS9.o];exact a7 _ _ _ _ T2.o:w9.rangeAt (w.heap.size+1) 0 [x.1,x.2])
   refine aD (v:=.tuple #[.agg ([x.1,x.2]:List Value).toArray,.bool true]) (Aj results62 _ _ (w.heap.size+1) _ _ _ rfl rfl HZ underlying36 rfl aJ) rfl ?_;exact jf
  have HN:=Aa (Qei hin);have t1:(decide ((1:Int)<=n) && decide (n<=(vs.length:Int)))=false:=aL;go_wp2_with ((with_reducible refine Ad (op:=⟨none,.store 36 _ _,_,_,_,none⟩) rfl 36 _ _ rfl (w.heap.size+1) 0 [a6,a6] ?_ ?_ ?_ ?_ ?_ ?_);rfl;rfl;(exact T2.o);kernel_rfl;(simp[Value.oneCell']);intro w9 HS9)
  have HZ:=(by rw[HS9.o];exact a7 _ _ _ _ T2.o:w9.rangeAt (w.heap.size+1) 0 [a6,a6])
  refine aD (v:=.tuple #[.agg ([a6,a6]:List Value).toArray,.bool false]) (Aj results62 _ _ (w.heap.size+1) _ _ _ rfl rfl HZ underlying36 rfl aJ) rfl ?_;exact je
end
end Go.Proofs.YtgfmljfjgohdcaaGreatDoor
