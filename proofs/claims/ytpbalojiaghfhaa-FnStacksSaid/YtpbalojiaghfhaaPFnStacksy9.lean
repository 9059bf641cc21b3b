import Derived.Test.YtpbalojiaghfhaaPFnStacksy0
import Derived.Test.YtpbalojiaghfhaaPFnStacksy8
namespace Go.Proofs.Ytpbalojiaghfhaa.PFnStacks
open Go.RowKit Go.Proofs.YtpbalojiaghfhaaW.PrintWords Go.Proofs.YtpbalojiaghfhaaW.PrintLast Go.Proofs.YtpbalojiaghfhaaW.PrintMore Go.Proofs.YtpbalojiaghfhaaW.Z
open Kd
attribute [local go_sem] isS max2_int min2_int max_two min_two max_three min_three max_four min_four
set_option linter.unusedVariables false
set_option linter.unusedSimpArgs false
mutual
def spec_l10Put.l0:Nat→List Int→Int→List Int→Int→Option (List Int)
  | 0,_,_,_,_=>none
  | k+1,l,E,p,ah=>if ah<(l.length:Int)then(if 0≤ah then(if(rd l ah)<E then(if p.length<17592186044416 then(spec_l10Put.l0 k l E (p ++ [rd l ah]) (wrap64 (ah+1)))else(none))else(spec_l10Put.l0 k l E p (wrap64 (ah+1))))else(none))else(if p.length<17592186044416 then(spec_l10Put.l1 k l E (p ++ [E]) 0)else(none))
def spec_l10Put.l1:Nat→List Int→Int→List Int→Int→Option (List Int)
  | 0,_,_,_,_=>none
  | k+1,l,E,p,ai=>if ai<(l.length:Int)then(if 0≤ai then(if(rd l ai)>E then(if p.length<17592186044416 then(spec_l10Put.l1 k l E (p ++ [rd l ai]) (wrap64 (ai+1)))else(none))else(spec_l10Put.l1 k l E p (wrap64 (ai+1))))else(none))else(some p)
end
def spec_l10Put.f (k:Nat) (b:List Int) (d:Int):Option (List Int):=(spec_l09In.f k b d).bind fun aX=>(if aX=true then(some b)else(spec_l10Put.l0 k b d (([] :List Int)) 0))
theorem q9x0 {P:Prop} (h:P:=by repeat(first|(with_reducible first|exact HK.out|apply Kept.alloc|apply Kept.drewN|apply Kept.drew)|exact HK.out)):P:=h
set_option maxHeartbeats 8000000 in
set_option maxRecDepth 100000 in
theorem spec_l10Put.calls (k:Nat) (P0_:Nat→Prop) (u9000_:Value) (b:List Int) (d:Int) (r:List Int) (w0 w:World) (hB:Below w0.heap.size w0 w) (aI:Kd.R (Kd.int .i64) 3 w w0.heap.size P0_ u9000_ b) (h:spec_l10Put.f k b d=some r) :
 Calls Try.prog 53 #[u9000_,.int .i64 d] w fun e w'=> ∃ v0_:Value,e= .returned (v0_)∧Kd.R (Kd.int .i64) 3 w' w0.heap.size (fun k_=>(P0_ k_∨w.heap.size≤k_)) v0_ r∧Below w0.heap.size w0 w'∧Kept w w' (fun k_=>P0_ k_):=by
 have x:=aM (show Kd.R (Kd.int .i64) 3 w w0.heap.size (fun k_=>(P0_ k_∨w.heap.size≤k_)) u9000_ b from R_mono aI (fun k_ hk=>(.inl hk)))
 have HK:=aM (Kept.refl w (fun k_=>P0_ k_))
 have HW0:=aM hB.size;have HB:=aM hB;clear hB
 unfold spec_l10Put.f at h;have H:=h
 clear h;replace H:=bE H;obtain⟨aX,bl,H⟩:=H;by_cases t:aX=true
 ·subst t;replace H:=iT H;obtain rfl:=Option.some.inj H;obtain⟨cQ,cR,bT⟩:=R_slice x.out;subst bT;go_enter Try.func53,Try.ntmps53
  go_wp2_with (first|((with_reducible refine gF 92 ?_);refine gX (some 10) Try.func92 (spec_l09In.calls bl.out (rX x) ((rY x))) ?_;rintro w' ⟨nd,rfl⟩))
  go_ret;exact⟨_,rE,mR x,cB,q9x0⟩
 ·replace t:=Bool.eq_false_iff.mpr t;subst t;replace H:=iF H;obtain⟨bU,aY⟩ : ∃ y_:List Int,Aside0 (y_=(([] :List Int))):=⟨_,⟨rfl⟩⟩;rw[← aY.out]at H;have H':=aM H;clear H;obtain⟨ax,W,bV⟩:=R_slice x.out;subst bV;go_enter Try.func53,Try.ntmps53
  go_wp2_with (first|((with_reducible refine gF 92 ?_);refine gX (some 10) Try.func92 (spec_l09In.calls bl.out (rX x) ((rY x))) ?_;rintro w' ⟨nd,rfl⟩)|((with_reducible refine gN 12 ?_);refine R_lit (Kd.int .i64) _ 3 ?hg (N:=12) ?hd (xs:=([] :List Int)) (inner:=[]) (ok:=fun _=>True) (okp:=fun _=>True) ?hr ?hp (fun _ hk=>hk) trivial (Below.refl _ _) (Nat.le_refl _) (by simp) ?_;(case hd=>rfl);(case hg=>rfl);(case hr=>exact rG);(case hp=>exact(Reps.none _ _));intro cS cT aj hb hg_ hnew_;clear hg_ hnew_;(first|rw[← aY.out]at aj|(simp only[Int.reduceToNat]at aj;rw[← aY.out]at aj));have bW:=aM (R_lower (R_new' (R_newM (M:=fun k_=>(P0_ k_∨w.heap.size≤k_)) aj (by first|exact HK.out.1|exact(show Kept w _ (fun k_=>P0_ k_)from q9x0).1) (fun k_ h_=> .inr h_)) (R_lt (mR x))) (below_size cB));replace x:=eB x (R_base aj) hb;replace HK:=aM (Kept.below (S:=(fun k_=>P0_ k_)) q9x0 hb);replace HB:=sB hb;clear hb aj))
  go_loopg [5,6] k (fun kq X bX w'=> ∃ (I:List Int) (m:Int),bX= .int .i64 m∧Aside0 (spec_l10Put.l0 kq b d I m=some r)∧Aside0 (kq≤k)∧Aside0 (Kd.R (Kd.int .i64) 3 w' w0.heap.size (fun k_=>(P0_ k_∨w.heap.size≤k_)∧some k_≠(X:Value).ownBlock) (.slice ax b.length W) b)∧Aside0 (Kd.R (Kd.int .i64) 3 w' w0.heap.size (fun k_=>(P0_ k_∨w.heap.size≤k_)∧some k_≠((.slice ax b.length W):Value).ownBlock) X I)∧Aside0 (Kept w w' (fun k_=>P0_ k_))∧Aside0 (Below w0.heap.size w0 w'))
  case atStart=>exact⟨(bU),(0),rS,H',⟨Nat.le_refl _⟩,⟨mR x⟩,⟨rM bW (fun _ hk=>⟨hk.1.1,hk.2⟩)⟩,⟨q9x0⟩,⟨cB⟩⟩
  case round=>
   clear H';(try clear t);obtain⟨I,m,rfl,HA,HK1,g,u,HK,HB⟩:=hrel
   cases gk with
   | zero=>exact absurd HA.out (by simp[spec_l10Put.l0])
   | succ k1=>
    have H:=HA.out;clear HA;simp only[spec_l10Put.l0]at H;by_cases s:m<(b.length:Int)
    ·rw[if_pos s]at H;have aJ:=decide_eq_true s;clear s;replace H:=gD H;obtain⟨bm,H⟩:=H;by_cases Y:(rd b m)<d
     ·rw[if_pos Y]at H;have bn:=decide_eq_true Y;clear Y;replace H:=gC H;obtain⟨aZ,H⟩:=H;have bY:=aM aZ;clear aZ;obtain⟨bZ,bo⟩ : ∃ y_:List Int,Aside0 (y_=(I ++ [rd b m])):=⟨_,⟨rfl⟩⟩;rw[← bo.out]at H;have H':=aM H;clear H;have J:0≤(m:Int):=dA;have L:m<(b.length:Int):=dA;obtain⟨a0,a1,bp⟩:=at_int (R_reads' g.out).2.2 m J L;cases a1;replace J:=eq_true J;replace L:=eq_true L;have aK:0≤(m:Int):=dA;have aN:m<(b.length:Int):=dA;obtain⟨b0,b1,b5⟩:=at_int (R_reads' g.out).2.2 m aK aN
      obtain rfl:a0=b0:=(by injection b1)
      replace aK:=eq_true aK;replace aN:=eq_true aN
      go_wp2_with (first|((with_reducible refine gA 25 30 ?_);at_builtin;refine R_append (Kd.int .i64) (w0:=w0) w0.heap.size rfl (.tmp 25) (.tmp 30) 46 3 (.int .i64 0) 8 rfl Try.underlying46 info3 rfl (by decide) (by omega) u5 I (rd b m) [.int .i64 (rd b m)] (fun k_=>(P0_ k_∨w.heap.size≤k_)∧some k_≠(.slice (some a0) b.length W:Value).ownBlock) (fun _=>False) rfl rfl ?aP (fun _ hk=>hk.elim) ?aF ?aO ?aB ?aS ?aL ?_;(case aP=>exact rfl);(case aB=>exact cB);(case aF=>exact(fun k_ hk=>⟨(.inr (Nat.le_trans (by first|exact HK.out.1|exact(show Kept w _ (fun k_=>P0_ k_)from q9x0).1) hk)),Kd.fresh' (R_lt (mR g)) k_ hk⟩));(case aO=>exact(mR u));(case aS=>exact(below_size cB));(case aL=>have:=bY.out;omega);intro cU cV ho hb hg hat;rw[← bo.out]at ho;replace g:=aM (R_after (ok:=(fun k_=>(P0_ k_∨w.heap.size≤k_))) (mR g) hg hat);replace HB:=aM hb;replace HK:=aM (Kept.of_grown (S:=(fun k_=>P0_ k_)) hg q9x0 (fun k_ e_=>(u.out.1 k_ e_).1));have b8:=aM ho;clear u ho hb hg hat))
      go_roundg k1
      case measure=>exact oK
      case rel=>exact⟨(bZ),(wrap64 (m+1)),rS,H',⟨oK⟩,⟨mR g⟩,⟨mR b8⟩,⟨q9x0⟩,⟨cB⟩⟩
     ·rw[if_neg Y]at H;have bn:=decide_eq_false Y;clear Y;have H':=aM H;clear H;have J:0≤(m:Int):=dA;have L:m<(b.length:Int):=dA;obtain⟨a0,a1,bp⟩:=at_int (R_reads' g.out).2.2 m J L;cases a1;replace J:=eq_true J;replace L:=eq_true L;go_wp2;go_roundg k1
      case measure=>exact oK
      case rel=>exact⟨(I),(wrap64 (m+1)),rS,H',⟨oK⟩,⟨mR g⟩,⟨mR u⟩,⟨q9x0⟩,⟨cB⟩⟩
    ·rw[if_neg s]at H;have aJ:=decide_eq_false s;clear s;replace H:=gC H;obtain⟨a2,H⟩:=H;have b9:=aM a2;clear a2;obtain⟨ca,bq⟩ : ∃ y_:List Int,Aside0 (y_=(I ++ [d])):=⟨_,⟨rfl⟩⟩;rw[← bq.out]at H;have H':=aM H;clear H
     go_wp2_with (first|((with_reducible refine gA 32 34 ?_);at_builtin;refine R_append (Kd.int .i64) (w0:=w0) w0.heap.size rfl (.tmp 32) (.tmp 34) 46 3 (.int .i64 0) 8 rfl Try.underlying46 info3 rfl (by decide) (by omega) u5 I d [.int .i64 d] (fun k_=>(P0_ k_∨w.heap.size≤k_)∧some k_≠(.slice ax b.length W:Value).ownBlock) (fun _=>False) rfl rfl ?aP (fun _ hk=>hk.elim) ?aF ?aO ?aB ?aS ?aL ?_;(case aP=>exact rfl);(case aB=>exact cB);(case aF=>exact(fun k_ hk=>⟨(.inr (Nat.le_trans (by first|exact HK.out.1|exact(show Kept w _ (fun k_=>P0_ k_)from q9x0).1) hk)),Kd.fresh' (R_lt (mR g)) k_ hk⟩));(case aO=>exact(mR u));(case aS=>exact(below_size cB));(case aL=>have:=b9.out;omega);intro cW cX ho hb hg hat;rw[← bq.out]at ho;replace g:=aM (R_after (ok:=(fun k_=>(P0_ k_∨w.heap.size≤k_))) (mR g) hg hat);replace HB:=aM hb;replace HK:=aM (Kept.of_grown (S:=(fun k_=>P0_ k_)) hg q9x0 (fun k_ e_=>(u.out.1 k_ e_).1));have cb:=aM ho;clear u ho hb hg hat))
     go_loopg [5,7] k1 (fun kq X cc w'=> ∃ (o:List Int) (i:Int),cc= .int .i64 i∧Aside0 (spec_l10Put.l1 kq b d o i=some r)∧Aside0 (kq≤k1)∧Aside0 (Kd.R (Kd.int .i64) 3 w' w0.heap.size (fun k_=>(P0_ k_∨w.heap.size≤k_)∧some k_≠(X:Value).ownBlock) (.slice ax b.length W) b)∧Aside0 (Kd.R (Kd.int .i64) 3 w' w0.heap.size (fun k_=>(P0_ k_∨w.heap.size≤k_)∧some k_≠((.slice ax b.length W):Value).ownBlock) X o)∧Aside0 (Kept w w' (fun k_=>P0_ k_))∧Aside0 (Below w0.heap.size w0 w'))
     case atStart=>exact⟨(ca),(0),rS,H',⟨Nat.le_refl _⟩,⟨mR g⟩,⟨mR cb⟩,⟨q9x0⟩,⟨cB⟩⟩
     case round=>
      clear H';(try clear t);(try clear s);(try clear aJ);(try clear cY);(try clear bm);(try clear Y);(try clear bn);(try clear aZ);(try clear a2);(try clear bp);(try clear b5);(try clear J);(try clear aK);(try clear L);(try clear aN);obtain⟨o,i,rfl,HA,HK2,g,u,HK,HB⟩:=hrel
      cases gk with
      | zero=>exact absurd HA.out (by simp[spec_l10Put.l1])
      | succ k2=>
       have H:=HA.out;clear HA;simp only[spec_l10Put.l1]at H;by_cases ak:i<(b.length:Int)
       ·rw[if_pos ak]at H;have cd:=decide_eq_true ak;clear ak;replace H:=gD H;obtain⟨cZ,H⟩:=H;by_cases al:(rd b i)>d
        ·rw[if_pos al]at H;have ce:decide (d<(rd b i))=true:=decide_eq_true al;clear al;replace H:=gC H;obtain⟨br,H⟩:=H;have cf:=aM br;clear br;obtain⟨cg,bs⟩ : ∃ y_:List Int,Aside0 (y_=(o ++ [rd b i])):=⟨_,⟨rfl⟩⟩;rw[← bs.out]at H;have H':=aM H;clear H;have aa:0≤(i:Int):=dA;have ab:i<(b.length:Int):=dA;obtain⟨a3,a4,ch⟩:=at_int (R_reads' g.out).2.2 i aa ab;cases a4;replace aa:=eq_true aa;replace ab:=eq_true ab;have a5:0≤(i:Int):=dA;have a6:i<(b.length:Int):=dA;obtain⟨ci,cj,c0⟩:=at_int (R_reads' g.out).2.2 i a5 a6
         obtain rfl:a3=ci:=(by injection cj)
         replace a5:=eq_true a5;replace a6:=eq_true a6
         go_wp2_with (first|((with_reducible refine gA 48 53 ?_);at_builtin;refine R_append (Kd.int .i64) (w0:=w0) w0.heap.size rfl (.tmp 48) (.tmp 53) 46 3 (.int .i64 0) 8 rfl Try.underlying46 info3 rfl (by decide) (by omega) u5 o (rd b i) [.int .i64 (rd b i)] (fun k_=>(P0_ k_∨w.heap.size≤k_)∧some k_≠(.slice (some a3) b.length W:Value).ownBlock) (fun _=>False) rfl rfl ?aP (fun _ hk=>hk.elim) ?aF ?aO ?aB ?aS ?aL ?_;(case aP=>exact rfl);(case aB=>exact cB);(case aF=>exact(fun k_ hk=>⟨(.inr (Nat.le_trans (by first|exact HK.out.1|exact(show Kept w _ (fun k_=>P0_ k_)from q9x0).1) hk)),Kd.fresh' (R_lt (mR g)) k_ hk⟩));(case aO=>exact(mR u));(case aS=>exact(below_size cB));(case aL=>have:=cf.out;omega);intro c1 c2 ho hb hg hat;rw[← bs.out]at ho;replace g:=aM (R_after (ok:=(fun k_=>(P0_ k_∨w.heap.size≤k_))) (mR g) hg hat);replace HB:=aM hb;replace HK:=aM (Kept.of_grown (S:=(fun k_=>P0_ k_)) hg q9x0 (fun k_ e_=>(u.out.1 k_ e_).1));have ck:=aM ho;clear u ho hb hg hat))
         go_roundg k2
         case measure=>have:=HK1.out;have:=HK2.out;omega
         case rel=>exact⟨(cg),(wrap64 (i+1)),rS,H',⟨by have:=HK1.out;have:=HK2.out;omega⟩,⟨mR g⟩,⟨mR ck⟩,⟨q9x0⟩,⟨cB⟩⟩
        ·rw[if_neg al]at H;have ce:decide (d<(rd b i))=false:=decide_eq_false al;clear al;have H':=aM H;clear H;have aa:0≤(i:Int):=dA;have ab:i<(b.length:Int):=dA;obtain⟨a3,a4,ch⟩:=at_int (R_reads' g.out).2.2 i aa ab;cases a4;replace aa:=eq_true aa;replace ab:=eq_true ab;go_wp2;go_roundg k2
         case measure=>have:=HK1.out;have:=HK2.out;omega
         case rel=>exact⟨(o),(wrap64 (i+1)),rS,H',⟨by have:=HK1.out;have:=HK2.out;omega⟩,⟨mR g⟩,⟨mR u⟩,⟨q9x0⟩,⟨cB⟩⟩
       ·rw[if_neg ak]at H;have cd:=decide_eq_false ak;clear ak;obtain rfl:=Option.some.inj H;go_wp2;go_ret
        exact⟨_,rE,by(with_reducible repeat(first|apply R_alloc|apply R_drewN|apply R_drew));exact R_mono u.out (fun _ hk=>hk.1),cB,q9x0⟩
mutual
def spec_NumsOf.l0:Nat→List Int→Int→Int→Int→Int→List (S81)→Option (List Int)
  | 0,_,_,_,_,_,_=>none
  | k+1,G,n,aQ,aR,aT,O=>if n<(O.length:Int)then(spec_NumsOf.l1 k G n 0 aQ aR aT O)else(some G)
def spec_NumsOf.l1:Nat→List Int→Int→Int→Int→Int→Int→List (S81)→Option (List Int)
  | 0,_,_,_,_,_,_,_=>none
  | k+1,G,n,p,aQ,aR,aT,O=>if 0≤n then(if n<(O.length:Int)then(if p<(((rd_T81 O n).f0).length:Int)then(if 0≤p then((spec_l10Put.f k G (rd ((rd_T81 O n).f0) p)).bind fun aU=>(spec_NumsOf.l1 k aU n (wrap64 (p+1)) aQ aR aT O))else(none))else(spec_NumsOf.l0 k G (wrap64 (n+1)) aQ aR aT O))else(none))else(none)
end
def spec_NumsOf.f (k:Nat) (z:Int) (A:Int) (D:Int) (j:List (S81)):Option (List Int):=spec_NumsOf.l0 k (([] :List Int)) 0 z A D j
set_option maxHeartbeats 8000000 in
set_option maxRecDepth 100000 in
theorem spec_NumsOf.calls {k:Nat}{z:Int}{A:Int}{D:Int}{ay:Option Addr}{az:Nat}{j:List (S81)}{r:List Int}{w:World}(h:spec_NumsOf.f k z A D j=some r)(bu:Kd.C k81 w ay j.length j)(bv:j.length≤az) :
 Calls Try.prog 19 #[.agg #[.int .i64 z,.int .i64 A,.int .i64 D,.slice ay j.length az]] w fun e w'=> ∃ v0_:Value,e= .returned (v0_)∧Kd.R (Kd.int .i64) 3 w' w.heap.size (fun _=>True) v0_ r∧Below w.heap.size w w':=by
 have hu41:=Try.underlying41;have HR0_3:=aM bu;have HC0_3:=aM bv;clear bu bv;have HB:=rW w;have H:(spec_NumsOf.l0 k (([] :List Int)) 0 z A D j)=some r:=h;clear h;obtain⟨cl,a7⟩ : ∃ y_:List Int,Aside0 (y_=(([] :List Int))):=⟨_,⟨rfl⟩⟩;rw[← a7.out]at H;have H':=aM H;clear H;go_enter Try.func19,Try.ntmps19
 go_wp2_with (first|((with_reducible refine gN 1 ?_);refine boxZ 1 #[.int .i64 z,.int .i64 A,.int .i64 D,.slice ay j.length az] 41 ?_;intro bw hg c3 hbox hb;have q:=aM hbox;have GW466:=gS hg;have GE466:=gS hg;replace HB:=sB hb;clear hb hbox hg)|((with_reducible refine gN 6 ?_);refine R_lit (Kd.int .i64) _ 3 ?hg (N:=6) ?hd (xs:=([] :List Int)) (inner:=[]) (ok:=fun _=>True) (okp:=fun _=>True) ?hr ?hp (fun _ hk=>hk) trivial (Below.refl _ _) (Nat.le_refl _) (by simp) ?_;(case hd=>rfl);(case hg=>rfl);(case hr=>exact rG);(case hp=>exact(Reps.none _ _));intro c4 cm aA hb hg_ hnew_;clear hg_ hnew_;(first|rw[← a7.out]at aA|(simp only[Int.reduceToNat]at aA;rw[← a7.out]at aA));have cn:=rL aA;replace q:=kB q hb;replace HB:=sB hb;clear hb aA))
 go_loopg [3,4] k (fun kq a8 a9 w'=> ∃ (aV:List Int) (c:Int),a9= .int .i64 c∧Aside0 (spec_NumsOf.l0 kq aV c z A D j=some r)∧Aside0 (kq≤k)∧Aside0 (Kd.R (Kd.int .i64) 3 w' w.heap.size (fun _=>True) a8 aV)∧Aside0 (w'.heap[bw]?=some (.cells #[.int .i64 z,.int .i64 A,.int .i64 D,(.slice ay j.length az)] 41 (0,0)))∧Aside0 (Below w.heap.size w w'))
 case atStart=>exact⟨(cl),(0),rS,H',⟨Nat.le_refl _⟩,⟨mR cn⟩,⟨mK q⟩,⟨cB⟩⟩
 case round=>
  clear H';obtain⟨aV,c,rfl,HA,HK1,U,q,HB⟩:=hrel
  cases gk with
  | zero=>exact absurd HA.out (by simp[spec_NumsOf.l0])
  | succ k1=>
   have H:=HA.out;clear HA;simp only[spec_NumsOf.l0]at H;by_cases y:c<(j.length:Int)
   ·rw[if_pos y]at H;have ba:=decide_eq_true y;clear y;have H':=aM H;clear H;obtain⟨bx,bz,bA,bB,bC,bD,bF,bG⟩:=cz4 q;go_wp2
    go_loopg [3,5] k1 (fun kq a8 X w'=> ∃ (ac:List Int) (o:Int),X= .int .i64 o∧Aside0 (spec_NumsOf.l1 kq ac c o z A D j=some r)∧Aside0 (kq≤k1)∧Aside0 (Kd.R (Kd.int .i64) 3 w' w.heap.size (fun _=>True) a8 ac)∧Aside0 (w'.heap[bw]?=some (.cells #[.int .i64 z,.int .i64 A,.int .i64 D,(.slice ay j.length az)] 41 (0,0)))∧Aside0 (Below w.heap.size w w'))
    case atStart=>exact⟨(aV),(0),rS,H',⟨Nat.le_refl _⟩,⟨mR U⟩,⟨mK q⟩,⟨cB⟩⟩
    case round=>
     clear H';(try clear y);(try clear ba);(try clear bx bz bA bB);(try clear bC bD bF bG);obtain⟨ac,o,rfl,HA,HK2,U,q,HB⟩:=hrel
     cases gk with
     | zero=>exact absurd HA.out (by simp[spec_NumsOf.l1])
     | succ k2=>
      have H:=HA.out;clear HA;simp only[spec_NumsOf.l1]at H;replace H:=gD H;obtain⟨c5,H⟩:=H;replace H:=gD H;obtain⟨co,H⟩:=H;by_cases s:o<(((rd_T81 j c).f0).length:Int)
      ·rw[if_pos s]at H;have aJ:=decide_eq_true s;clear s;replace H:=gD H;obtain⟨bm,H⟩:=H;replace H:=bE H;obtain⟨aU,cp,H⟩:=H;have H':=aM H;clear H;obtain⟨c6,c8,c9,da,db,dc,dd,de⟩:=cz4 q;have ad:0≤(c:Int):=dA;have ae:c<(j.length:Int):=dA;obtain⟨bH,cq,cr,cs,ct,bb,am,an,aC,aD,hl470_0,hi470_0,hl470_1,hi470_1⟩:=at_T81 HR0_3.out c ad ae;cases bb;replace am:=(bc HB am :);replace an:=(bc HB an :);replace aC:=(bc HB aC :);replace aD:=(bc HB aD :);have HR470_0:=aM hi470_0;have HC470_0:=aM hl470_0;clear hi470_0 hl470_0;have HR470_1:=aM hi470_1;have HC470_1:=aM hl470_1;clear hi470_1 hl470_1;replace ad:=eq_true ad;replace ae:=eq_true ae;have bd:0≤(c:Int):=dA;have be:c<(j.length:Int):=dA;obtain⟨cu,df,dg,dh,di,cv,bf,bg,bI,bJ,hl471_0,hi471_0,hl471_1,hi471_1⟩:=at_T81 HR0_3.out c bd be
       obtain rfl:bH=cu:=(by injection cv)
       replace bf:=(bc HB bf :);replace bg:=(bc HB bg :);replace bI:=(bc HB bI :);replace bJ:=(bc HB bJ :);have HR471_0:=aM hi471_0;have HC471_0:=aM hl471_0;clear hi471_0 hl471_0;have HR471_1:=aM hi471_1;have HC471_1:=aM hl471_1;clear hi471_1 hl471_1;replace bd:=eq_true bd;replace be:=eq_true be;have ea_:=Option.some.inj (am.symm.trans bf)
       injection ea_ with ea_ en_ ec_
       subst ea_;subst ec_;clear en_;have ea_:=Option.some.inj (an.symm.trans bg)
       injection ea_ with ea_ en_ ec_
       subst ea_;subst ec_;clear en_;have bh:0≤(o:Int):=dA;have bi:o<(((rd_T81 j c).f0).length:Int):=dA;obtain⟨dj,cw,bL⟩:=at_int HR471_0.out o bh bi;cases cw;replace bL:=(bc HB bL :);replace bh:=eq_true bh;replace bi:=eq_true bi;obtain⟨bM,bN,cx⟩:=R_slice U.out;subst cx
       go_wp2_with (first|((with_reducible refine gF 53 ?_);refine gY (some 35) Try.func53 (spec_l10Put.calls k2 (fun k_=>some k_=(.slice bM ac.length bN:Value).ownBlock) (.slice bM ac.length bN) ac (rd ((rd_T81 j c).f0) o) aU w _ cB (R_tight rfl U.out) cp.out) ?_;rintro dk cy ⟨aI,hb,hkp⟩;replace q:=aM (blk_kept (mK q) hkp (fun hs_=>(fun e_=>(R_ne U.out q.out (by decide)) e_) hs_));have cz:=aM (R_mono (ok':=fun k_=>True) aI (fun k_ hk_=>trivial));replace HB:=aM hb;clear U;(try clear hb);(try clear hkp);(try clear aI)))
       go_roundg k2
       case measure=>have:=HK1.out;have:=HK2.out;omega
       case rel=>exact⟨(aU),(wrap64 (o+1)),rS,H',⟨by have:=HK1.out;have:=HK2.out;omega⟩,⟨mR cz⟩,⟨mK q⟩,⟨cB⟩⟩
      ·rw[if_neg s]at H;have aJ:=decide_eq_false s;clear s;have H':=aM H;clear H;obtain⟨dl,dm,dn,dp,dq,dr,ds,dt⟩:=cz4 q;have ad:0≤(c:Int):=dA;have ae:c<(j.length:Int):=dA;obtain⟨bH,cq,cr,cs,ct,bb,am,an,aC,aD,hl470_0,hi470_0,hl470_1,hi470_1⟩:=at_T81 HR0_3.out c ad ae;cases bb;replace am:=(bc HB am :);replace an:=(bc HB an :);replace aC:=(bc HB aC :);replace aD:=(bc HB aD :);have HR470_0:=aM hi470_0;have HC470_0:=aM hl470_0;clear hi470_0 hl470_0;have HR470_1:=aM hi470_1;have HC470_1:=aM hl470_1;clear hi470_1 hl470_1;replace ad:=eq_true ad;replace ae:=eq_true ae;go_wp2;go_roundg k2
       case measure=>have:=HK1.out;have:=HK2.out;omega
       case rel=>exact⟨(ac),(wrap64 (c+1)),rS,H',⟨by have:=HK1.out;have:=HK2.out;omega⟩,⟨mR U⟩,⟨mK q⟩,⟨cB⟩⟩
   ·rw[if_neg y]at H;have ba:=decide_eq_false y;clear y;obtain rfl:=Option.some.inj H;obtain⟨du,dv,dw,dx,dy,dz,dC,dD⟩:=cz4 q;go_wp2;go_ret;exact⟨_,rE,mR U,cB⟩
def spec_l11Word.f (a:Int) (d:Int):Option (ByteArray×Int×Int×Int×Int×ByteArray×ByteArray):=some ((⟨#[]⟩ :ByteArray),a,d,0,0,(⟨#[]⟩ :ByteArray),(⟨#[]⟩ :ByteArray))
set_option maxHeartbeats 8000000 in
set_option maxRecDepth 100000 in
theorem spec_l11Word.calls {a:Int}{d:Int}{r1:ByteArray}{r2:Int}{r3:Int}{r4:Int}{r5:Int}{r6:ByteArray}{r7:ByteArray}{w:World}(h:spec_l11Word.f a d=some (r1,r2,r3,r4,r5,r6,r7)) :
 Calls Try.prog 125 #[.int .i64 a,.int .i64 d] w fun e w'=>e= .returned (.agg #[.string r1,.int .i64 r2,.int .i64 r3,.int .i64 r4,.int .i64 r5,.string r6,.string r7])∧Below w.heap.size w w':=by
 have hu104:=Try.underlying104;have hu34:=Try.underlying34;have HB:=rW w;have H:(some ((⟨#[]⟩ :ByteArray),a,d,0,0,(⟨#[]⟩ :ByteArray),(⟨#[]⟩ :ByteArray)))=some (r1,r2,r3,r4,r5,r6,r7):=h;clear h;simp only[Option.some.injEq,Prod.mk.injEq]at H;obtain⟨rfl,rfl,rfl,rfl,rfl,rfl,rfl⟩:=H;go_enter Try.func125,Try.ntmps125
 go_wp2_with (first|((with_reducible refine gN 4 ?_);refine boxZ 4 #[.string (⟨#[]⟩ :ByteArray),.int .i64 0,.int .i64 0,.int .i64 0,.int .i64 0,.string (⟨#[]⟩ :ByteArray),.string (⟨#[]⟩ :ByteArray)] 104 ?_;intro cA hg cm hbox hb;have bO:=aM hbox;have GW476:=gS hg;have GE476:=gS hg;replace HB:=sB hb;clear hb hbox hg;obtain⟨dE,dF,dG,dH,dI,dJ,dK,dL,dM,dN,dO,dP,dQ,dS⟩:=cz7 bO))
 refine bodyPost_ret (results_cell_row rfl _ _ cA 104 #[.string (⟨#[]⟩ :ByteArray),.int .i64 a,.int .i64 d,.int .i64 0,.int .i64 0,.string (⟨#[]⟩ :ByteArray),.string (⟨#[]⟩ :ByteArray)] (0,0) _ rfl (kS bO _) Try.underlying104 rfl (by kernel_rfl)) rfl ?_
 exact⟨rE,cB⟩
def spec_l11Asks.f (a:Int) (d:Int) (ao:ByteArray) (ap:ByteArray):Option (ByteArray×Int×Int×Int×Int×ByteArray×ByteArray):=some ((⟨#[]⟩ :ByteArray),a,d,0,0,ao,ap)
set_option maxHeartbeats 8000000 in
set_option maxRecDepth 100000 in
theorem spec_l11Asks.calls {a:Int}{d:Int}{ao:ByteArray}{ap:ByteArray}{r1:ByteArray}{r2:Int}{r3:Int}{r4:Int}{r5:Int}{r6:ByteArray}{r7:ByteArray}{w:World}(h:spec_l11Asks.f a d ao ap=some (r1,r2,r3,r4,r5,r6,r7)) :
 Calls Try.prog 126 #[.int .i64 a,.int .i64 d,.string ao,.string ap] w fun e w'=>e= .returned (.agg #[.string r1,.int .i64 r2,.int .i64 r3,.int .i64 r4,.int .i64 r5,.string r6,.string r7])∧Below w.heap.size w w':=by
 have hu104:=Try.underlying104;have hu34:=Try.underlying34;have HB:=rW w;have H:(some ((⟨#[]⟩ :ByteArray),a,d,0,0,ao,ap))=some (r1,r2,r3,r4,r5,r6,r7):=h;clear h;simp only[Option.some.injEq,Prod.mk.injEq]at H;obtain⟨rfl,rfl,rfl,rfl,rfl,rfl,rfl⟩:=H;go_enter Try.func126,Try.ntmps126
 go_wp2_with (first|((with_reducible refine gN 8 ?_);refine boxZ 8 #[.string (⟨#[]⟩ :ByteArray),.int .i64 0,.int .i64 0,.int .i64 0,.int .i64 0,.string (⟨#[]⟩ :ByteArray),.string (⟨#[]⟩ :ByteArray)] 104 ?_;intro cD hg dT hbox hb;have bP:=aM hbox;have GW477:=gS hg;have GE477:=gS hg;replace HB:=sB hb;clear hb hbox hg;obtain⟨bx,bz,bA,bB,dU,dV,dX,bC,bD,bF,bG,dY,dZ,d0⟩:=cz7 bP))
 refine bodyPost_ret (results_cell_row rfl _ _ cD 104 #[.string (⟨#[]⟩ :ByteArray),.int .i64 a,.int .i64 d,.int .i64 0,.int .i64 0,.string ao,.string ap] (0,0) _ rfl (kS bP _) Try.underlying104 rfl (by kernel_rfl)) rfl ?_
 exact⟨rE,cB⟩
def spec_l01Figure.f (a:Int):Option (Int):=if a<10 then(some ((wrap64 (48+a)) % 256))else(some ((wrap64 ((wrap64 (97+a)) - 10)) % 256))
set_option maxHeartbeats 8000000 in
set_option maxRecDepth 100000 in
theorem spec_l01Figure.calls {a:Int}{r:Int}{w:World}(h:spec_l01Figure.f a=some r) :
 Calls Try.prog 153 #[.int .i64 a] w fun e w'=>e= .returned (.int .u8 r)∧Drawn0 w w':=by
 have H:(if a<10 then(some ((wrap64 (48+a)) % 256))else(some ((wrap64 ((wrap64 (97+a)) - 10)) % 256)))=some r:=h;clear h;by_cases v:a<10
 ·rw[if_pos v]at H;have aW:=decide_eq_true v;clear v;obtain rfl:=Option.some.inj H;go_enter Try.func153,Try.ntmps153;go_wp2;go_ret
  exact⟨by first|rfl|(simp;done)|(simp[*];done),by repeat(first|exact Drawn0.refl _|apply Drawn0.step)⟩
 ·rw[if_neg v]at H;have aW:=decide_eq_false v;clear v;obtain rfl:=Option.some.inj H;go_enter Try.func153,Try.ntmps153;go_wp2;go_ret
  exact⟨by first|rfl|(simp;done)|(simp[*];done),by repeat(first|exact Drawn0.refl _|apply Drawn0.step)⟩
def spec_Decimal.l0:Nat→Int→Bool→ByteArray→Option (ByteArray)
  | 0,_,_,_=>none
  | k+1,l,G,n=>if l=0 then(if G=true then(if 1+n.size≤9223372036854775807 then(some ((⟨#[45]⟩ :ByteArray) ++ n))else(none))else(some n))else(if(Int.tmod l 10)<0 then((spec_l01Figure.f (wrap64 (-(Int.tmod l 10)))).bind fun aq=>((some (([aq] :List Int):List Int)).bind fun ar=>(if(strOfNums ar).size+n.size≤9223372036854775807 then(spec_Decimal.l0 k (wrap64 (Int.tdiv l 10)) G ((strOfNums ar) ++ n))else(none))))else((spec_l01Figure.f (Int.tmod l 10)).bind fun au=>((some (([au] :List Int):List Int)).bind fun av=>(if(strOfNums av).size+n.size≤9223372036854775807 then(spec_Decimal.l0 k (wrap64 (Int.tdiv l 10)) G ((strOfNums av) ++ n))else(none)))))
def spec_Decimal.f (k:Nat) (a:Int):Option (ByteArray):=if a=0 then(some (⟨#[48]⟩ :ByteArray))else(spec_Decimal.l0 k a (decide (a<0)) (⟨#[]⟩ :ByteArray))
set_option maxHeartbeats 8000000 in
set_option maxRecDepth 100000 in
theorem spec_Decimal.calls {k:Nat}{a:Int}{r:ByteArray}{w:World}(h:spec_Decimal.f k a=some r) :
 Calls Try.prog 151 #[.int .i64 a] w fun e w'=>e= .returned (.string r)∧Below w.heap.size w w':=by
 have HB:=rW w;have H:(if a=0 then(some (⟨#[48]⟩ :ByteArray))else(spec_Decimal.l0 k a (decide (a<0)) (⟨#[]⟩ :ByteArray)))=some r:=h;clear h;by_cases v:a=0
 ·rw[if_pos v]at H;obtain⟨aW,bQ⟩:=eT v;clear v;obtain rfl:=Option.some.inj H;go_enter Try.func151,Try.ntmps151;go_wp2;go_ret;exact⟨rE,cB⟩
 ·rw[if_neg v]at H;obtain⟨aW,bQ⟩:=eF v;have H':=aM H;clear H;go_enter Try.func151,Try.ntmps151;go_wp2
  go_loopg [0,4] k (fun kq cE a9 w'=> ∃ (af:Int) (c:ByteArray),cE= .int .i64 af∧a9= .string c∧Aside0 (spec_Decimal.l0 kq af (decide (a<0)) c=some r)∧Aside0 (kq≤k)∧Aside0 (Below w.heap.size w w'))
  case atStart=>exact⟨(a),((⟨#[]⟩ :ByteArray)),rS,rS,H',⟨Nat.le_refl _⟩,⟨cB⟩⟩
  case round=>
   clear H';(try clear v);(try clear aW);(try clear bQ);obtain⟨af,c,rfl,rfl,HA,HK1,HB⟩:=hrel
   cases gk with
   | zero=>exact absurd HA.out (by simp[spec_Decimal.l0])
   | succ k1=>
    have H:=HA.out;clear HA;simp only[spec_Decimal.l0]at H;by_cases aE:af=0
    ·rw[if_pos aE]at H;obtain⟨cF,cG⟩:=eT aE;clear aE;by_cases t:(decide (a<0))=true
     ·rw[if_pos t]at H;have ag:(decide (a<0))=true:=t;(try have cI:(0≤a)=False:=eq_false (by have h_:=of_decide_eq_true ag;omega));(try have cJ:(a<0)=True:=eq_true (of_decide_eq_true ag));clear t;replace H:=gC H;obtain⟨y,H⟩:=H;have ba:=eq_true y;have d1:decide (1+c.size≤9223372036854775807)=true:=decide_eq_true y
      try have d2:(9223372036854775807<1+c.size)=False:=eq_false (Nat.not_lt.2 y)
      obtain rfl:=Option.some.inj H;go_wp2;(try any_goals (exfalso;have h_:=of_decide_eq_true ag;omega));go_ret;exact⟨rE,cB⟩
     ·rw[if_neg t]at H
      have ag:(decide (a<0))=false:=by simpa using t
      (try have cI:(0≤a)=True:=eq_true (by have h_:=of_decide_eq_false ag;omega));(try have cJ:(a<0)=False:=eq_false (of_decide_eq_false ag))
      clear t;obtain rfl:=Option.some.inj H;go_wp2;(try any_goals (exfalso;have h_:=of_decide_eq_false ag;omega));go_ret;exact⟨rE,cB⟩
    ·rw[if_neg aE]at H;obtain⟨cF,cG⟩:=eF aE;by_cases aw:(Int.tmod af 10)<0
     ·rw[if_pos aw]at H;have cL:=decide_eq_true aw;clear aw;replace H:=bE H;obtain⟨aq,cM,H⟩:=H;replace H:=nE H;obtain⟨ar,bR,H⟩:=H;replace H:=gC H;obtain⟨bj,H⟩:=H;have co:=eq_true bj;have d3:decide ((strOfNums ar).size+c.size≤9223372036854775807)=true:=decide_eq_true bj
      try have d4:(9223372036854775807<(strOfNums ar).size+c.size)=False:=eq_false (Nat.not_lt.2 bj)
      have H':=aM H;clear H
      go_wp2_with (first|((with_reducible refine gF 153 ?_);refine gX (some 19) Try.func153 (spec_l01Figure.calls cM.out) ?_;rintro w' ⟨nd,rfl⟩)|((with_reducible refine gN 20 ?_);refine R_lit (Kd.int .u8) _ 5 ?hg (N:=20) ?hd (xs:=([aq] :List Int)) (inner:=[.int .u8 aq]) (ok:=fun _=>True) (okp:=fun _=>True) ?hr ?hp (fun _ hk=>hk) trivial (Below.refl _ _) (Nat.le_refl _) (by simp) ?_;(case hd=>rfl);(case hg=>rfl);(case hr=>exact rG);(case hp=>exact(Reps.one (show Kd.M (Kd.int .u8) _ _ _ aq [.int .u8 aq]from rfl) (Reps.none _ _)));intro d5 d6 aG hb hg_ hnew_;clear hg_ hnew_;(first|rw[← bR.out]at aG|(simp only[Int.reduceToNat]at aG;rw[← bR.out]at aG));have cN:=rL aG;replace HB:=sB hb;clear hb aG;have hcv11:=own_string (P:=Try.prog) Try.underlying22 Try.underlying5 Try.underlying9 (own_of_R cN.out)))
      go_roundg k1
      case measure=>exact oK
      case rel=>exact⟨(wrap64 (Int.tdiv af 10)),((strOfNums ar) ++ c),rS,rS,H',⟨oK⟩,⟨cB⟩⟩
     ·rw[if_neg aw]at H;have cL:=decide_eq_false aw;clear aw;replace H:=bE H;obtain⟨au,cO,H⟩:=H;replace H:=nE H;obtain⟨av,bS,H⟩:=H;replace H:=gC H;obtain⟨bk,H⟩:=H;have d7:=eq_true bk;have d8:decide ((strOfNums av).size+c.size≤9223372036854775807)=true:=decide_eq_true bk
      try have d9:(9223372036854775807<(strOfNums av).size+c.size)=False:=eq_false (Nat.not_lt.2 bk)
      have H':=aM H;clear H
      go_wp2_with (first|((with_reducible refine gF 153 ?_);refine gX (some 19) Try.func153 (spec_l01Figure.calls cO.out) ?_;rintro w' ⟨nd,rfl⟩)|((with_reducible refine gN 20 ?_);refine R_lit (Kd.int .u8) _ 5 ?hg (N:=20) ?hd (xs:=([au] :List Int)) (inner:=[.int .u8 au]) (ok:=fun _=>True) (okp:=fun _=>True) ?hr ?hp (fun _ hk=>hk) trivial (Below.refl _ _) (Nat.le_refl _) (by simp) ?_;(case hd=>rfl);(case hg=>rfl);(case hr=>exact rG);(case hp=>exact(Reps.one (show Kd.M (Kd.int .u8) _ _ _ au [.int .u8 au]from rfl) (Reps.none _ _)));intro ea cy aH hb hg_ hnew_;clear hg_ hnew_;(first|rw[← bS.out]at aH|(simp only[Int.reduceToNat]at aH;rw[← bS.out]at aH));have cP:=rL aH;replace HB:=sB hb;clear hb aH;have hcv16:=own_string (P:=Try.prog) Try.underlying22 Try.underlying5 Try.underlying9 (own_of_R cP.out)))
      go_roundg k1
      case measure=>exact oK
      case rel=>exact⟨(wrap64 (Int.tdiv af 10)),((strOfNums av) ++ c),rS,rS,H',⟨oK⟩,⟨cB⟩⟩
end Go.Proofs.Ytpbalojiaghfhaa.PFnStacks
