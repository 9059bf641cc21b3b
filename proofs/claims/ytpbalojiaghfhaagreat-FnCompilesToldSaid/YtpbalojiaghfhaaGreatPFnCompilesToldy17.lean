import Derived.Test.YtpbalojiaghfhaaGreatPFnCompilesToldy0
import Derived.Test.YtpbalojiaghfhaaGreatPFnCompilesToldy14
import Derived.Test.YtpbalojiaghfhaaGreatPFnCompilesToldy16
namespace Go.Proofs.YtpbalojiaghfhaaGreat.PFnCompilesTold
open Go.RowKit Go.Proofs.YtpbalojiaghfhaaGreatW.PrintWords Go.Proofs.YtpbalojiaghfhaaGreatW.PrintLast Go.Proofs.YtpbalojiaghfhaaGreatW.PrintMore Go.Proofs.YtpbalojiaghfhaaGreatW.Z
open Kd
attribute [local go_sem] isS max2_int min2_int max_two min_two max_three min_three max_four min_four
set_option linter.unusedVariables false
set_option linter.unusedSimpArgs false
theorem qh17x0 {P:Prop} (h:P:=by exact⟨(blk_cell c.out 0).trans rfl,(blk_cell c.out 1).trans rfl,(blk_cell c.out 2).trans rfl,(blk_cell c.out 3).trans rfl,((bc HB aw :))⟩):P:=h
theorem qh17x1 {P:Prop} (h:P:=by exact⟨(blk_cell c.out 0).trans rfl,(blk_cell c.out 1).trans rfl,(blk_cell c.out 2).trans rfl,(blk_cell c.out 3).trans rfl⟩):P:=h
def spec_TreeLines.f:Nat→Int→Int→Int→List (S78)→List Int→ByteArray→Option ((List (S86)))
  | 0,_,_,_,_,_,_=>none
  | k+1,g,i,j,d,a,b=>if(a.length:Int)=0 then((spec_ChainLines.f k g i j d 0 true b).bind fun ax=>(some ax))else(if(a.length:Int)=1 then(if 0<(a.length:Int)then(if b.size+1≤9223372036854775807 then((spec_l11Asks.f 3 (rd a 0) (b ++ (⟨#[121]⟩ :ByteArray)) (b ++ (⟨#[120]⟩ :ByteArray))).bind fun n=>((some (([(⟨n.1,(⟨n.2.1,n.2.2.1,n.2.2.2.1,n.2.2.2.2.1⟩ :S71),n.2.2.2.2.2.1,n.2.2.2.2.2.2⟩ :S86),(⟨b ++ (⟨#[121]⟩ :ByteArray),(⟨0,0,0,0⟩ :S71),(⟨#[]⟩ :ByteArray),(⟨#[]⟩ :ByteArray)⟩ :S86)] :List (S86)):List (S86))).bind fun J=>((spec_ChainLines.f k g i j d (rd a 0) false (b ++ (⟨#[121]⟩ :ByteArray))).bind fun t=>(if J.length+t.length<1759218604441 then((some (J ++ t:List (S86))).bind fun L=>(if L.length<1759218604441 then((some (L ++ [(⟨b ++ (⟨#[120]⟩ :ByteArray),(⟨0,0,0,0⟩ :S71),(⟨#[]⟩ :ByteArray),(⟨#[]⟩ :ByteArray)⟩ :S86)] :List (S86))).bind fun G=>((spec_ChainLines.f k g i j d 0 true (b ++ (⟨#[120]⟩ :ByteArray))).bind fun z=>(if G.length+z.length<1759218604441 then(some (G ++ z))else(none))))else(none)))else(none)))))else(none))else(none))else(if 0≤(wrap64 ((a.length:Int) / 2))then(if(wrap64 ((a.length:Int) / 2))<(a.length:Int)then(if b.size+1≤9223372036854775807 then((spec_l11Asks.f 5 (rd a (wrap64 ((a.length:Int) / 2))) (b ++ (⟨#[104]⟩ :ByteArray)) (b ++ (⟨#[108]⟩ :ByteArray))).bind fun o=>((some (([(⟨o.1,(⟨o.2.1,o.2.2.1,o.2.2.2.1,o.2.2.2.2.1⟩ :S71),o.2.2.2.2.2.1,o.2.2.2.2.2.2⟩ :S86),(⟨b ++ (⟨#[108]⟩ :ByteArray),(⟨0,0,0,0⟩ :S71),(⟨#[]⟩ :ByteArray),(⟨#[]⟩ :ByteArray)⟩ :S86)] :List (S86)):List (S86))).bind fun O=>(if(wrap64 ((a.length:Int) / 2))≤(a.length:Int)then((spec_TreeLines.f k g i j d (a.take ((wrap64 ((a.length:Int) / 2)):Int).toNat) (b ++ (⟨#[108]⟩ :ByteArray))).bind fun s=>(if O.length+s.length<1759218604441 then((some (O ++ s:List (S86))).bind fun U=>(if U.length<1759218604441 then((some (U ++ [(⟨b ++ (⟨#[104]⟩ :ByteArray),(⟨0,0,0,0⟩ :S71),(⟨#[]⟩ :ByteArray),(⟨#[]⟩ :ByteArray)⟩ :S86)] :List (S86))).bind fun I=>((spec_TreeLines.f k g i j d (a.drop ((wrap64 ((a.length:Int) / 2)):Int).toNat) (b ++ (⟨#[104]⟩ :ByteArray))).bind fun u=>(if I.length+u.length<1759218604441 then(some (I ++ u))else(none))))else(none)))else(none)))else(none))))else(none))else(none))else(none)))
def spec_TreeLines.T6:Bool×List (List Nat×List Nat):=(true,[([],[]),([],[]),([],[]),([2],[2]),([3],[3]),([],[]),([5],[5]),([1,4,6],[1,4,6]),([0,7,7],[0,7]),([8,8,0,1,2,3,4,5,6,7,8],[0,8])])
def spec_TreeLines.B6:List Nat:=[0,0,0,4,12,0,32,126,255,511]
theorem spec_TreeLines.tab6:rtab .any (opsOf Tryz.f22 6)=spec_TreeLines.T6:=by kernel_rfl
theorem spec_TreeLines.bits6:waitsOk spec_TreeLines.T6.2 spec_TreeLines.B6=true:=by kernel_rfl
def spec_TreeLines.T11:Bool×List (List Nat×List Nat):=(true,[([],[]),([],[]),([],[]),([],[]),([2,3],[2,3]),([],[]),([5],[5]),([1,4,6],[1,4,6]),([0,7,7],[0,7]),([8,8,0,1,2,3,4,5,6,7,8],[0,8])])
def spec_TreeLines.B11:List Nat:=[0,0,0,0,12,0,32,126,255,511]
theorem spec_TreeLines.tab11:rtab .any (opsOf Tryz.f22 11)=spec_TreeLines.T11:=by kernel_rfl
theorem spec_TreeLines.bits11:waitsOk spec_TreeLines.T11.2 spec_TreeLines.B11=true:=by kernel_rfl
def spec_TreeLines.T13:Bool×List (List Nat×List Nat):=(true,[([],[]),([],[]),([],[]),([],[]),([2,3],[2,3]),([],[]),([5],[5]),([1,4,6],[1,4,6]),([0,7,7],[0,7]),([8,8,0,1,2,3,4,5,6,7,8],[8])])
def spec_TreeLines.B13:List Nat:=[0,0,0,0,12,0,32,126,255,511]
theorem spec_TreeLines.tab13:rtab .any (opsOf Tryz.f22 13)=spec_TreeLines.T13:=by kernel_rfl
theorem spec_TreeLines.bits13:waitsOk spec_TreeLines.T13.2 spec_TreeLines.B13=true:=by kernel_rfl
theorem q17x0 {P:Prop} (h:P:=by
 rintro w' ⟨s0,s1,s2,s3,s4⟩
 go_simp
 with_reducible rfl):P:=h
theorem q17x1 {P:Prop} (h:P:=by
 rintro w' ⟨s0,s1,s2,s3⟩
 go_simp
 with_reducible rfl):P:=h
set_option maxHeartbeats 8000000 in
set_option maxRecDepth 100000 in
theorem spec_TreeLines.calls (k:Nat): ∀ (g:Int) (i:Int) (j:Int) (v:Option Addr) (x:Nat) (d:List (S78)) (aE:Option Addr) (W:Nat) (a:List Int) (b:ByteArray) (r:List (S86)) (w:World) (aG:Kd.C k78 w v d.length d) (aH:d.length≤x) (aI:Kd.C (Kd.int .i64) w aE a.length a) (aJ:a.length≤W) (h:spec_TreeLines.f k g i j d a b=some r),
 Calls Tryz.prog 22 #[.agg #[.int .i64 g,.int .i64 i,.int .i64 j,.slice v d.length x],.slice aE a.length W,.string b] w fun e w'=> ∃ v0_:Value,e= .returned (v0_)∧Kd.R k86 86 w' w.heap.size (fun _=>True) v0_ r∧Below w.heap.size w w':=by
 induction k using Nat.strongRecOn with
 | _ k ih=>
 intro g i j v x d aE W a b r w aG aH aI aJ h
 cases k with
 | zero=>exact absurd h (by simp[spec_TreeLines.f])
 | succ k=>
 simp only[spec_TreeLines.f]at h;have hu26:=Tryz.underlying26;have hu86:=Tryz.underlying86;have HR0_3:=aM aG;have HC0_3:=aM aH;clear aG aH;have HR1:=aM aI;have HC1:=aM aJ;clear aI aJ;have HB:=rW w
 have H:(if(a.length:Int)=0 then((spec_ChainLines.f k g i j d 0 true b).bind fun ax=>(some ax))else(if(a.length:Int)=1 then(if 0<(a.length:Int)then(if b.size+1≤9223372036854775807 then((spec_l11Asks.f 3 (rd a 0) (b ++ (⟨#[121]⟩ :ByteArray)) (b ++ (⟨#[120]⟩ :ByteArray))).bind fun n=>((some (([(⟨n.1,(⟨n.2.1,n.2.2.1,n.2.2.2.1,n.2.2.2.2.1⟩ :S71),n.2.2.2.2.2.1,n.2.2.2.2.2.2⟩ :S86),(⟨b ++ (⟨#[121]⟩ :ByteArray),(⟨0,0,0,0⟩ :S71),(⟨#[]⟩ :ByteArray),(⟨#[]⟩ :ByteArray)⟩ :S86)] :List (S86)):List (S86))).bind fun J=>((spec_ChainLines.f k g i j d (rd a 0) false (b ++ (⟨#[121]⟩ :ByteArray))).bind fun t=>(if J.length+t.length<1759218604441 then((some (J ++ t:List (S86))).bind fun L=>(if L.length<1759218604441 then((some (L ++ [(⟨b ++ (⟨#[120]⟩ :ByteArray),(⟨0,0,0,0⟩ :S71),(⟨#[]⟩ :ByteArray),(⟨#[]⟩ :ByteArray)⟩ :S86)] :List (S86))).bind fun G=>((spec_ChainLines.f k g i j d 0 true (b ++ (⟨#[120]⟩ :ByteArray))).bind fun z=>(if G.length+z.length<1759218604441 then(some (G ++ z))else(none))))else(none)))else(none)))))else(none))else(none))else(if 0≤(wrap64 ((a.length:Int) / 2))then(if(wrap64 ((a.length:Int) / 2))<(a.length:Int)then(if b.size+1≤9223372036854775807 then((spec_l11Asks.f 5 (rd a (wrap64 ((a.length:Int) / 2))) (b ++ (⟨#[104]⟩ :ByteArray)) (b ++ (⟨#[108]⟩ :ByteArray))).bind fun o=>((some (([(⟨o.1,(⟨o.2.1,o.2.2.1,o.2.2.2.1,o.2.2.2.2.1⟩ :S71),o.2.2.2.2.2.1,o.2.2.2.2.2.2⟩ :S86),(⟨b ++ (⟨#[108]⟩ :ByteArray),(⟨0,0,0,0⟩ :S71),(⟨#[]⟩ :ByteArray),(⟨#[]⟩ :ByteArray)⟩ :S86)] :List (S86)):List (S86))).bind fun O=>(if(wrap64 ((a.length:Int) / 2))≤(a.length:Int)then((spec_TreeLines.f k g i j d (a.take ((wrap64 ((a.length:Int) / 2)):Int).toNat) (b ++ (⟨#[108]⟩ :ByteArray))).bind fun s=>(if O.length+s.length<1759218604441 then((some (O ++ s:List (S86))).bind fun U=>(if U.length<1759218604441 then((some (U ++ [(⟨b ++ (⟨#[104]⟩ :ByteArray),(⟨0,0,0,0⟩ :S71),(⟨#[]⟩ :ByteArray),(⟨#[]⟩ :ByteArray)⟩ :S86)] :List (S86))).bind fun I=>((spec_TreeLines.f k g i j d (a.drop ((wrap64 ((a.length:Int) / 2)):Int).toNat) (b ++ (⟨#[104]⟩ :ByteArray))).bind fun u=>(if I.length+u.length<1759218604441 then(some (I ++ u))else(none))))else(none)))else(none)))else(none))))else(none))else(none))else(none))))=some r:=h
 clear h;by_cases X:(a.length:Int)=0
 ·rw[if_pos X]at H;obtain⟨bn,bo⟩:=eT X;clear X;replace H:=bE H;obtain⟨ax,bp,H⟩:=H;obtain rfl:=Option.some.inj H;go_enter Tryz.func22,Tryz.ntmps22
  go_wp2_with (first|((with_reducible refine gN 3 ?_);refine boxZ 3 #[.int .i64 g,.int .i64 i,.int .i64 j,.slice v d.length x] 26 ?_;intro p hg b9 hbox hb;have c:=aM hbox;have GW857:=gS hg;have GE857:=gS hg;replace HB:=sB hb;clear hb hbox hg;obtain⟨ca,cb,cc,cd,ce,cf,cg,ch⟩:=cz4 c)|((with_reducible refine gF 20 ?_);refine gY (some 17) Tryz.func20 (spec_ChainLines.calls bp.out (cH HR0_3) HC0_3.out) ?_;rintro ci cj ⟨l,hb⟩;have bq:=rL l;replace c:=kB c hb;replace HB:=sB hb;(try clear hb);(try clear l)))
  go_ret;exact⟨_,rE,mR bq,cB⟩
 ·rw[if_neg X]at H;obtain⟨bn,bo⟩:=eF X
  have ck: ¬ (a= []):=fun h_=>X (by rw[h_];rfl)
  by_cases ab:(a.length:Int)=1
  ·rw[if_pos ab]at H;obtain⟨br,bs⟩:=eT ab;clear ab;replace H:=gC H;obtain⟨a2,H⟩:=H;have cl:=decide_eq_true a2
   have cm:decide (0<a.length)=true:=decide_eq_true (by omega)
   clear a2;replace H:=gC H;obtain⟨aK,H⟩:=H;have cn:=eq_true aK;have co:decide (b.size+1≤9223372036854775807)=true:=decide_eq_true aK
   try have cp:(9223372036854775807<b.size+1)=False:=eq_false (Nat.not_lt.2 aK)
   replace H:=bE H;obtain⟨⟨ac,ad,ae,af,ag,ah,ai⟩,bu,H⟩:=H;(try dsimp only at H);replace H:=nE H;obtain⟨J,a3,H⟩:=H;replace H:=bE H;obtain⟨t,bv,H⟩:=H;replace H:=gC H;obtain⟨a4,H⟩:=H;have bw:=aM a4;clear a4;replace H:=nE H;obtain⟨L,bx,H⟩:=H;replace H:=gC H;obtain⟨a5,H⟩:=H;have bz:=aM a5;clear a5;replace H:=nE H;obtain⟨G,bA,H⟩:=H;replace H:=bE H;obtain⟨z,bB,H⟩:=H;replace H:=gC H;obtain⟨a6,H⟩:=H;have bC:=aM a6;clear a6;obtain⟨cq,a7⟩ : ∃ y_:List (S86),Aside0 (y_=(G ++ z)):=⟨_,⟨rfl⟩⟩;rw[← a7.out]at H;obtain rfl:=Option.some.inj H;go_enter Tryz.func22,Tryz.ntmps22
   try go_wp2_with (first|((with_reducible refine gN 3 ?_);refine boxZ 3 #[.int .i64 g,.int .i64 i,.int .i64 j,.slice v d.length x] 26 ?_;intro p hg cr hbox hb;have c:=aM hbox;have GW857:=gS hg;have GE857:=gS hg;replace HB:=sB hb;clear hb hbox hg;have aN:0≤(0:Int):=(by omega);have aQ:0<(a.length:Int):=dA;obtain⟨a8,bD,ay⟩:=at_int HR1.out 0 aN aQ;cases bD;have qi861:(0<a.length)=True:=eq_true (by omega);(try rw[show((0:Int)).toNat=0 from rfl]at ay);(try rw[Addr.add_zero']at ay);replace ay:=(bc HB ay :);replace aN:=eq_true aN;replace aQ:=eq_true aQ)|((with_reducible refine gF 62 ?_);refine gX (some 27) Tryz.func62 (spec_l11Asks.calls bu.out) ?_;intro cs hb;replace c:=kB c hb;replace HB:=sB hb;(try clear hb))|((with_reducible refine gN 31 ?_);refine R_lit k86 _ 86 ?hg (N:=31) ?hd (xs:=([(⟨ac,(⟨ad,ae,af,ag⟩ :S71),ah,ai⟩ :S86),(⟨b ++ (⟨#[121]⟩ :ByteArray),(⟨0,0,0,0⟩ :S71),(⟨#[]⟩ :ByteArray),(⟨#[]⟩ :ByteArray)⟩ :S86)] :List (S86))) (inner:=[.string ac,.int .i64 ad,.int .i64 ae,.int .i64 af,.int .i64 ag,.string ah,.string ai,.string (b ++ (⟨#[121]⟩ :ByteArray)),.int .i64 0,.int .i64 0,.int .i64 0,.int .i64 0,.string (⟨#[]⟩ :ByteArray),.string (⟨#[]⟩ :ByteArray)]) (ok:=fun _=>True) (okp:=fun _=>True) ?hr ?hp (fun _ hk=>hk) trivial (Below.refl _ _) (Nat.le_refl _) (by simp) ?_;(case hd=>rfl);(case hg=>rfl);(case hr=>exact rG);(case hp=>exact(Reps.c7 (show Kd.M k86 _ _ _ (⟨ac,(⟨ad,ae,af,ag⟩ :S71),ah,ai⟩ :S86) [.string ac,.int .i64 ad,.int .i64 ae,.int .i64 af,.int .i64 ag,.string ah,.string ai]from (k86_mkM _ _ _ (⟨ac,(⟨ad,ae,af,ag⟩ :S71),ah,ai⟩ :S86))) (Reps.c7 (show Kd.M k86 _ _ _ (⟨b ++ (⟨#[121]⟩ :ByteArray),(⟨0,0,0,0⟩ :S71),(⟨#[]⟩ :ByteArray),(⟨#[]⟩ :ByteArray)⟩ :S86) [.string (b ++ (⟨#[121]⟩ :ByteArray)),.int .i64 0,.int .i64 0,.int .i64 0,.int .i64 0,.string (⟨#[]⟩ :ByteArray),.string (⟨#[]⟩ :ByteArray)]from (k86_mkM _ _ _ (⟨b ++ (⟨#[121]⟩ :ByteArray),(⟨0,0,0,0⟩ :S71),(⟨#[]⟩ :ByteArray),(⟨#[]⟩ :ByteArray)⟩ :S86))) (Reps.none _ _))));intro bF bG aj hb hg_ hnew_;clear hg_ hnew_;(first|rw[← a3.out]at aj|(simp only[Int.reduceToNat]at aj;rw[← a3.out]at aj));have A:=rL aj;replace c:=kB c hb;replace HB:=sB hb;clear hb aj))
   replace A:=dR A;replace c:=dB c;replace HB:=dW HB
   have aT:0≤(0:Int):=(by omega)
   have aU:0<(a.length:Int):=dA;obtain⟨bH,bI,Y⟩:=at_int HR1.out 0 aT aU;have aw:=Y;(try rw[show((0:Int)).toNat=0 from rfl]at aw);(try rw[show 0*1=0 from rfl]at aw);(try rw[Addr.add_zero']at aw)
   obtain rfl:a8=bH:=(by injection bI)
   have qi872:(0<a.length)=True:=eq_true (by omega)
   (try rw[show((0:Int)).toNat=0 from rfl]at Y);(try rw[Addr.add_zero']at Y);replace Y:=(bc HB Y :);replace aT:=eq_true aT;replace aU:=eq_true aU
   refine sZ 10 (fun w'=>w'.cell? ⟨p,0,none⟩=some (.int .i64 g)∧w'.cell? ⟨p,1,none⟩=some (.int .i64 i)∧w'.cell? ⟨p,2,none⟩=some (.int .i64 j)∧w'.cell? ⟨p,3,none⟩=some (.slice v d.length x)∧w'.cell? a8=some (.int .i64 (rd a 0))) spec_TreeLines.tab6 spec_TreeLines.bits6 qh17x0 fun HT_ HW_ hHeld=>?_
   generalize bG.drew=ct at A c HB Y hHeld ⊢;refine pZ 0 32 1 ?_;refine pZ 2 34 5 ?_;refine pZ 3 35 13 ?_;refine pZ 5 37 45 ?_;refine pZ 6 38 109 ?_;refine tZ 1 33 111 (y:=q17x0) (h:=?_);refine tZ 4 36 127 (y:=q17x0) (h:=?_)
   refine oZ 7 39 255 fun K hK=>?_
   refine eY Tryz.func20 (spec_ChainLines.calls bv.out (cH HR0_3) HC0_3.out) ?_
   rintro cu cv ⟨l,hb⟩;have q:=aM (R_lower (R_new' l (R_lt (mR A))) (below_size cB));replace A:=eB A (R_base l) hb;replace c:=kB c hb;replace HB:=sB hb;(try clear hb);(try clear l);obtain⟨az,aA,a9⟩:=R_slice q.out
   (first|subst a9|(injection a9 with f1_ f2_ f3_;have f4_:=f1_.symm;have f5_:=f3_.symm;clear f1_ f2_ f3_;subst f4_;subst f5_))
   refine hK.out _ _ qh17x0 (fun hHeld=>?_)
   clear hK K;refine normZ (some 39) ?_
   refine oZ 8 40 511 fun K hK=>?_
   refine R_append_rows_step k86 (w0:=w) w.heap.size (by rfl) (.tmp 32) (.tmp 39) 47 86 (.agg #[(.string ⟨#[]⟩),(.int .i64 0),(.int .i64 0),(.int .i64 0),(.int .i64 0),(.string ⟨#[]⟩),(.string ⟨#[]⟩)]) 80 rfl Tryz.underlying47 info86 rfl (by decide) (by omega) bF J t _ _ _ (fun k_=>some k_≠(.slice az t.length aA:Value).ownBlock) (fun _=>False) rfl rfl ?aO ?aR (fun _ _ h=>h) (fun _ h=>h.elim) ?aF ?aB ?aS ?aL ?_
   (case aR=>exact rX q)
   (case aB=>exact cB)
   (case aF=>exact(fun k_ hk=>Kd.fresh' (R_lt (mR q)) k_ hk))
   (case aO=>exact(by exact rM A (fun _ hk=>hk.2)))
   (case aS=>exact(below_size cB))
   (case aL=>have:=bw.out;omega)
   intro bJ cw ho hb hg hat;rw[← bx.out]at ho
   replace c:=kN c hg A c
   replace q:=aM (R_after (ok:=(fun _=>True)) (mR q) hg hat)
   replace HB:=aM hb;have aV:=aM ho;clear A ho hb hg hat
   refine hK.out _ _ qh17x0 (fun hHeld=>?_)
   clear hK K;refine normZ (some 40) ?_
   refine pZ 9 8 1023 ?_
   refine done_ (done_of HT_.out (by kernel_rfl)) ?_
   try go_wp2_with (first|((with_reducible refine gA 41 45 ?_);at_builtin;refine R_append k86 (w0:=w) w.heap.size rfl (.tmp 41) (.tmp 45) 47 86 (.agg #[(.string ⟨#[]⟩),(.int .i64 0),(.int .i64 0),(.int .i64 0),(.int .i64 0),(.string ⟨#[]⟩),(.string ⟨#[]⟩)]) 80 rfl Tryz.underlying47 info86 rfl (by decide) (by omega) bJ L (⟨b ++ (⟨#[120]⟩ :ByteArray),(⟨0,0,0,0⟩ :S71),(⟨#[]⟩ :ByteArray),(⟨#[]⟩ :ByteArray)⟩ :S86) [.string (b ++ (⟨#[120]⟩ :ByteArray)),.int .i64 0,.int .i64 0,.int .i64 0,.int .i64 0,.string (⟨#[]⟩ :ByteArray),.string (⟨#[]⟩ :ByteArray)] (fun k_=>some k_≠(.slice az t.length aA:Value).ownBlock) (fun _=>False) rfl rfl ?aP (fun _ hk=>hk.elim) ?aF ?aO ?aB ?aS ?aL ?_;(case aP=>exact k86_mkM _ _ _ (⟨b ++ (⟨#[120]⟩ :ByteArray),(⟨0,0,0,0⟩ :S71),(⟨#[]⟩ :ByteArray),(⟨#[]⟩ :ByteArray)⟩ :S86));(case aB=>exact cB);(case aF=>exact(fun k_ hk=>Kd.fresh' (R_lt (mR q)) k_ hk));(case aO=>exact(mR aV));(case aS=>exact(below_size cB));(case aL=>have:=bz.out;omega);intro bL cx ho hb hg hat;rw[← bA.out]at ho;replace c:=kN c hg aV c;replace q:=aM (R_after (ok:=(fun _=>True)) (mR q) hg hat);replace HB:=aM hb;have aa:=aM ho;clear aV ho hb hg hat;obtain⟨cy,cz,cA,cD,cE,cF,cG,cI⟩:=cz4 c)|((with_reducible refine gF 20 ?_);refine gY (some 51) Tryz.func20 (spec_ChainLines.calls bB.out (cH HR0_3) HC0_3.out) ?_;rintro cJ cL ⟨l,hb⟩;have ak:=aM (R_lower (R_new' (R_new' l (R_lt (mR q))) (R_lt (mR aa))) (below_size cB));replace q:=eB q (R_base l) hb;replace aa:=eB aa (R_base l) hb;replace c:=kB c hb;replace HB:=sB hb;(try clear hb);(try clear l);obtain⟨ba,bb,bM⟩:=R_slice ak.out;subst bM)|((with_reducible refine gA 47 51 ?_);at_builtin;refine R_append_rows k86 (w0:=w) w.heap.size rfl (.tmp 47) (.tmp 51) 47 86 (.agg #[(.string ⟨#[]⟩),(.int .i64 0),(.int .i64 0),(.int .i64 0),(.int .i64 0),(.string ⟨#[]⟩),(.string ⟨#[]⟩)]) 80 rfl Tryz.underlying47 info86 rfl (by decide) (by omega) bL G z _ _ _ (fun k_=>some k_≠(.slice az t.length aA:Value).ownBlock∧some k_≠(.slice ba z.length bb:Value).ownBlock) (fun _=>False) rfl rfl ?aO ?aR (fun _ _ h=>h) (fun _ h=>h.elim) ?aF ?aB ?aS ?aL ?_;(case aR=>exact rX ak);(case aB=>exact cB);(case aF=>exact(fun k_ hk=>⟨Kd.fresh' (R_lt (mR q)) k_ hk,Kd.fresh' (R_lt (mR ak)) k_ hk⟩));(case aO=>exact(mR aa));(case aS=>exact(below_size cB));(case aL=>have:=bC.out;omega);intro cM cN ho hb hg hat;rw[← a7.out]at ho;replace c:=kN c hg aa c;replace q:=aM (R_after (ok:=(fun k_=>some k_≠(.slice ba z.length bb:Value).ownBlock)) (by exact rM q (fun _ hk=>⟨hk.2,hk.1.2⟩)) hg hat);replace ak:=aM (R_after (ok:=(fun k_=>some k_≠(.slice az t.length aA:Value).ownBlock)) (by exact rM ak (fun _ hk=>⟨hk.1.2,hk.2⟩)) hg hat);replace HB:=aM hb;have bN:=aM ho;clear aa ho hb hg hat))
   go_ret
   exact⟨_,rE,by(with_reducible repeat(first|apply R_alloc|apply R_drewN|apply R_drew));exact R_mono bN.out (fun _ hk=>trivial),cB⟩
  ·rw[if_neg ab]at H;obtain⟨br,bs⟩:=eF ab;obtain⟨ji31,hji31⟩ : ∃ j_:Int,(wrap64 ((a.length:Int) / 2))=j_:=⟨_,rfl⟩
   (first|rw[hji31]at H|simp only[hji31]at H)
   have hji31w:(IntKind.i64.wrap ((a.length:Int) / 2))=ji31:=(i64_w _).trans hji31;replace H:=gD H;obtain⟨cO,H⟩:=H;replace H:=gD H;obtain⟨cP,H⟩:=H;replace H:=gC H;obtain⟨aW,H⟩:=H;have cQ:=eq_true aW;have cR:decide (b.size+1≤9223372036854775807)=true:=decide_eq_true aW
   try have cS:(9223372036854775807<b.size+1)=False:=eq_false (Nat.not_lt.2 aW)
   replace H:=bE H;obtain⟨⟨al,am,an,ao,ap,aq,ar⟩,bO,H⟩:=H;(try dsimp only at H);replace H:=nE H;obtain⟨O,bd,H⟩:=H;have cT:=eq_true (dA:0≤(ji31));replace H:=gC H;obtain⟨aX,H⟩:=H;have cU:=eq_true aX;have cV:decide ((ji31)≤(a.length:Int))=true:=decide_eq_true aX;clear aX;replace H:=bE H;obtain⟨s,bP,H⟩:=H;replace H:=gC H;obtain⟨be,H⟩:=H;have bQ:=aM be;clear be;replace H:=nE H;obtain⟨U,bR,H⟩:=H;replace H:=gC H;obtain⟨bf,H⟩:=H;have bS:=aM bf;clear bf;replace H:=nE H;obtain⟨I,bT,H⟩:=H;have cW:=eq_true (dA:0≤(ji31));have cX:=eq_true (dA:(ji31)≤(a.length:Int));replace H:=bE H;obtain⟨u,bU,H⟩:=H;replace H:=gC H;obtain⟨bg,H⟩:=H;have bV:=aM bg;clear bg;obtain⟨cY,bh⟩ : ∃ y_:List (S86),Aside0 (y_=(I ++ u)):=⟨_,⟨rfl⟩⟩;rw[← bh.out]at H;obtain rfl:=Option.some.inj H;go_enter Tryz.func22,Tryz.ntmps22
   try go_wp2_with (first|((with_reducible refine gN 3 ?_);refine boxZ 3 #[.int .i64 g,.int .i64 i,.int .i64 j,.slice v d.length x] 26 ?_;intro p hg cZ hbox hb;have c:=aM hbox;have GW857:=gS hg;have GE857:=gS hg;replace HB:=sB hb;clear hb hbox hg;have aY:0≤((ji31):Int):=dA;have aZ:(ji31)<(a.length:Int):=dA;obtain⟨a0,bW,bi⟩:=at_int HR1.out (ji31) aY aZ;cases bW;replace bi:=(bc HB bi :);replace aY:=eq_true aY;replace aZ:=eq_true aZ)|((with_reducible refine gF 62 ?_);refine goesL_ (some 63) rfl rfl Tryz.func62 (by kernel_rfl) rfl #[.int .i64 5,.int .i64 (rd a (ji31)),.string (b ++ (⟨#[104]⟩ :ByteArray)),.string (b ++ (⟨#[108]⟩ :ByteArray))] rfl (by(try simp only[List.map_toArray,List.map_cons,List.map_nil]);first|done|(simp only[hji31];rfl)|rfl|(simp only[List.length_drop,List.length_take];rfl)) ?_;(with_reducible refine(spec_l11Asks.calls bO.out).mono ?_);rintro e c0 ⟨rfl,hb⟩;refine⟨_,rfl,?_⟩;replace c:=kB c hb;replace HB:=sB hb;(try clear hb))|((with_reducible refine gN 67 ?_);refine R_lit k86 _ 86 ?hg (N:=67) ?hd (xs:=([(⟨al,(⟨am,an,ao,ap⟩ :S71),aq,ar⟩ :S86),(⟨b ++ (⟨#[108]⟩ :ByteArray),(⟨0,0,0,0⟩ :S71),(⟨#[]⟩ :ByteArray),(⟨#[]⟩ :ByteArray)⟩ :S86)] :List (S86))) (inner:=[.string al,.int .i64 am,.int .i64 an,.int .i64 ao,.int .i64 ap,.string aq,.string ar,.string (b ++ (⟨#[108]⟩ :ByteArray)),.int .i64 0,.int .i64 0,.int .i64 0,.int .i64 0,.string (⟨#[]⟩ :ByteArray),.string (⟨#[]⟩ :ByteArray)]) (ok:=fun _=>True) (okp:=fun _=>True) ?hr ?hp (fun _ hk=>hk) trivial (Below.refl _ _) (Nat.le_refl _) (by simp) ?_;(case hd=>rfl);(case hg=>rfl);(case hr=>exact rG);(case hp=>exact(Reps.c7 (show Kd.M k86 _ _ _ (⟨al,(⟨am,an,ao,ap⟩ :S71),aq,ar⟩ :S86) [.string al,.int .i64 am,.int .i64 an,.int .i64 ao,.int .i64 ap,.string aq,.string ar]from (k86_mkM _ _ _ (⟨al,(⟨am,an,ao,ap⟩ :S71),aq,ar⟩ :S86))) (Reps.c7 (show Kd.M k86 _ _ _ (⟨b ++ (⟨#[108]⟩ :ByteArray),(⟨0,0,0,0⟩ :S71),(⟨#[]⟩ :ByteArray),(⟨#[]⟩ :ByteArray)⟩ :S86) [.string (b ++ (⟨#[108]⟩ :ByteArray)),.int .i64 0,.int .i64 0,.int .i64 0,.int .i64 0,.string (⟨#[]⟩ :ByteArray),.string (⟨#[]⟩ :ByteArray)]from (k86_mkM _ _ _ (⟨b ++ (⟨#[108]⟩ :ByteArray),(⟨0,0,0,0⟩ :S71),(⟨#[]⟩ :ByteArray),(⟨#[]⟩ :ByteArray)⟩ :S86))) (Reps.none _ _))));intro bX bY au hb hg_ hnew_;clear hg_ hnew_;(first|rw[← bd.out]at au|(simp only[Int.reduceToNat]at au;rw[← bd.out]at au));have D:=rL au;replace c:=kB c hb;replace HB:=sB hb;clear hb au))
   replace D:=dR D;replace c:=dB c;replace HB:=dW HB;obtain⟨i050,hi050,_,hsz50,_⟩:=info_parts info3;obtain⟨hcut50,hA50,hC50⟩:=print_take_of (P:=Tryz.prog) (Value.int .i64) 0 42 3 .i64 Tryz.underlying42 hi050 hsz50 (some a0) W a (ji31) (dA) (dA) HC1.out
   have HR899:=aM (C_of_reads (h1:=fun _=>rfl) (hA50 _ (reads_of_C HR1.out)))
   have HC899:=aM hC50;clear hA50 hC50 hi050 hsz50
   refine sZ 10 (fun w'=>w'.cell? ⟨p,0,none⟩=some (.int .i64 g)∧w'.cell? ⟨p,1,none⟩=some (.int .i64 i)∧w'.cell? ⟨p,2,none⟩=some (.int .i64 j)∧w'.cell? ⟨p,3,none⟩=some (.slice v d.length x)) spec_TreeLines.tab11 spec_TreeLines.bits11 qh17x1 fun HT_ HW_ hHeld=>?_
   generalize bY.drew=c1 at D c HB HR899 hHeld ⊢;refine pZ 0 68 1 ?_;refine pZ 2 70 5 ?_;refine pZ 3 71 13 ?_;refine pZ 4 72 29 ?_;refine pZ 5 73 61 ?_;refine pZ 6 74 125 ?_;refine tZ 1 69 127 (y:=q17x1) (h:=?_)
   refine oZ 7 75 255 fun K hK=>?_
   refine goes_ Tryz.func22 (by kernel_rfl) rfl #[.agg #[.int .i64 g,.int .i64 i,.int .i64 j,.slice v d.length x],.slice (some a0) (a.take ((ji31):Int).toNat).length W,.string (b ++ (⟨#[108]⟩ :ByteArray))] (by rfl) rfl rfl (by(try simp only[List.map_toArray,List.map_cons,List.map_nil]);first|done|(rw[show(a.take ((ji31):Int).toNat).length=(ji31).toNat from (by rw[List.length_take];have h_:((ji31):Int)≤(a.length:Int):=dA;omega)] <;> rfl)|(simp only[hji31];rfl)|rfl|(simp only[List.length_drop,List.length_take];rfl)) ?_
   with_reducible refine(ih k (by omega) g i j _ _ d _ _ (a.take ((ji31):Int).toNat) (b ++ (⟨#[108]⟩ :ByteArray)) s _ ?side1 ?side2 ?side3 ?side4 bP.out).mono ?_
   (case side1=>exact cH HR0_3)
   (case side2=>exact HC0_3.out)
   (case side3=>exact cH HR899)
   (case side4=>exact HC899.out)
   rintro e c4 ⟨c9,rfl,l,hb⟩;refine⟨_,rfl,?_⟩;have m:=aM (R_lower (R_new' l (R_lt (mR D))) (below_size cB));replace D:=eB D (R_base l) hb;replace c:=kB c hb;replace HB:=sB hb;(try clear hb);(try clear l);obtain⟨aC,aD,bj⟩:=R_slice m.out
   (first|subst bj|(injection bj with f1_ f2_ f3_;have f4_:=f1_.symm;have f5_:=f3_.symm;clear f1_ f2_ f3_;subst f4_;subst f5_))
   refine hK.out _ _ qh17x1 (fun hHeld=>?_)
   clear hK K;refine normZ (some 75) ?_
   refine oZ 8 76 511 fun K hK=>?_
   refine R_append_rows_step k86 (w0:=w) w.heap.size (by rfl) (.tmp 68) (.tmp 75) 47 86 (.agg #[(.string ⟨#[]⟩),(.int .i64 0),(.int .i64 0),(.int .i64 0),(.int .i64 0),(.string ⟨#[]⟩),(.string ⟨#[]⟩)]) 80 rfl Tryz.underlying47 info86 rfl (by decide) (by omega) bX O s _ _ _ (fun k_=>some k_≠(.slice aC s.length aD:Value).ownBlock) (fun _=>False) rfl rfl ?aO ?aR (fun _ _ h=>h) (fun _ h=>h.elim) ?aF ?aB ?aS ?aL ?_
   (case aR=>exact rX m)
   (case aB=>exact cB)
   (case aF=>exact(fun k_ hk=>Kd.fresh' (R_lt (mR m)) k_ hk))
   (case aO=>exact(by exact rM D (fun _ hk=>hk.2)))
   (case aS=>exact(below_size cB))
   (case aL=>have:=bQ.out;omega)
   intro bZ da ho hb hg hat;rw[← bR.out]at ho
   replace c:=kN c hg D c
   replace m:=aM (R_after (ok:=(fun _=>True)) (mR m) hg hat)
   replace HB:=aM hb;have a1:=aM ho;clear D ho hb hg hat
   refine hK.out _ _ qh17x1 (fun hHeld=>?_)
   clear hK K;refine normZ (some 76) ?_
   refine pZ 9 10 1023 ?_
   refine done_ (done_of HT_.out (by kernel_rfl)) ?_
   try go_wp2_with (first|((with_reducible refine gA 77 81 ?_);at_builtin;refine R_append k86 (w0:=w) w.heap.size rfl (.tmp 77) (.tmp 81) 47 86 (.agg #[(.string ⟨#[]⟩),(.int .i64 0),(.int .i64 0),(.int .i64 0),(.int .i64 0),(.string ⟨#[]⟩),(.string ⟨#[]⟩)]) 80 rfl Tryz.underlying47 info86 rfl (by decide) (by omega) bZ U (⟨b ++ (⟨#[104]⟩ :ByteArray),(⟨0,0,0,0⟩ :S71),(⟨#[]⟩ :ByteArray),(⟨#[]⟩ :ByteArray)⟩ :S86) [.string (b ++ (⟨#[104]⟩ :ByteArray)),.int .i64 0,.int .i64 0,.int .i64 0,.int .i64 0,.string (⟨#[]⟩ :ByteArray),.string (⟨#[]⟩ :ByteArray)] (fun k_=>some k_≠(.slice aC s.length aD:Value).ownBlock) (fun _=>False) rfl rfl ?aP (fun _ hk=>hk.elim) ?aF ?aO ?aB ?aS ?aL ?_;(case aP=>exact k86_mkM _ _ _ (⟨b ++ (⟨#[104]⟩ :ByteArray),(⟨0,0,0,0⟩ :S71),(⟨#[]⟩ :ByteArray),(⟨#[]⟩ :ByteArray)⟩ :S86));(case aB=>exact cB);(case aF=>exact(fun k_ hk=>Kd.fresh' (R_lt (mR m)) k_ hk));(case aO=>exact(mR a1));(case aS=>exact(below_size cB));(case aL=>have:=bS.out;omega);intro b0 b1 ho hb hg hat;rw[← bT.out]at ho;replace c:=kN c hg a1 c;replace m:=aM (R_after (ok:=(fun _=>True)) (mR m) hg hat);replace HB:=aM hb;have E:=aM ho;clear a1 ho hb hg hat))
   replace m:=dR m;replace E:=dR E;replace c:=dB c;replace HB:=dW HB;obtain⟨i056,hi056,_,hsz56,_⟩:=info_parts info3;obtain⟨b5,hcut56,hA56,hC56⟩:=print_drop_of (P:=Tryz.prog) (Value.int .i64) 0 42 3 .i64 Tryz.underlying42 hi056 hsz56 (some a0) W a (ji31) (dA) (dA) HC1.out
   have HR909:=aM (C_of_reads (h1:=fun _=>rfl) (hA56 _ (reads_of_C HR1.out)))
   have HC909:=aM hC56;clear hA56 hC56 hi056 hsz56
   refine sZ 10 (fun w'=>w'.cell? ⟨p,0,none⟩=some (.int .i64 g)∧w'.cell? ⟨p,1,none⟩=some (.int .i64 i)∧w'.cell? ⟨p,2,none⟩=some (.int .i64 j)∧w'.cell? ⟨p,3,none⟩=some (.slice v d.length x)) spec_TreeLines.tab13 spec_TreeLines.bits13 qh17x1 fun HT_ HW_ hHeld=>?_
   generalize b1.drew=db at m E c HB HR909 hHeld ⊢;refine pZ 0 83 1 ?_;refine pZ 2 85 5 ?_;refine pZ 3 86 13 ?_;refine pZ 4 87 29 ?_;refine pZ 5 88 61 ?_;refine pZ 6 89 125 ?_;refine tZ 1 84 127 (y:=q17x1) (h:=?_)
   refine oZ 7 90 255 fun K hK=>?_
   refine goes_ Tryz.func22 (by kernel_rfl) rfl #[.agg #[.int .i64 g,.int .i64 i,.int .i64 j,.slice v d.length x],.slice b5 (a.drop ((ji31):Int).toNat).length (W - (ji31).toNat),.string (b ++ (⟨#[104]⟩ :ByteArray))] (by rfl) rfl rfl (by(try simp only[List.map_toArray,List.map_cons,List.map_nil]);first|done|(rw[show(a.drop ((ji31):Int).toNat).length=(a.length - (ji31).toNat)from List.length_drop] <;> rfl)|(simp only[hji31];rfl)|rfl|(simp only[List.length_drop,List.length_take];rfl)) ?_
   with_reducible refine(ih k (by omega) g i j _ _ d _ _ (a.drop ((ji31):Int).toNat) (b ++ (⟨#[104]⟩ :ByteArray)) u _ ?side1 ?side2 ?side3 ?side4 bU.out).mono ?_
   (case side1=>exact cH HR0_3)
   (case side2=>exact HC0_3.out)
   (case side3=>exact cH HR909)
   (case side4=>exact HC909.out)
   rintro e dc ⟨dd,rfl,l,hb⟩;refine⟨_,rfl,?_⟩;have av:=aM (R_lower (R_new' (R_new' l (R_lt (mR m))) (R_lt (mR E))) (below_size cB));replace m:=eB m (R_base l) hb;replace E:=eB E (R_base l) hb;replace c:=kB c hb;replace HB:=sB hb;(try clear hb);(try clear l);obtain⟨bk,bl,bm⟩:=R_slice av.out
   (first|subst bm|(injection bm with f1_ f2_ f3_;have f4_:=f1_.symm;have f5_:=f3_.symm;clear f1_ f2_ f3_;subst f4_;subst f5_))
   refine hK.out _ _ qh17x1 (fun hHeld=>?_)
   clear hK K;refine normZ (some 90) ?_
   refine oZ 8 91 511 fun K hK=>?_
   refine R_append_rows_step k86 (w0:=w) w.heap.size (by rfl) (.tmp 83) (.tmp 90) 47 86 (.agg #[(.string ⟨#[]⟩),(.int .i64 0),(.int .i64 0),(.int .i64 0),(.int .i64 0),(.string ⟨#[]⟩),(.string ⟨#[]⟩)]) 80 rfl Tryz.underlying47 info86 rfl (by decide) (by omega) b0 I u _ _ _ (fun k_=>some k_≠(.slice aC s.length aD:Value).ownBlock∧some k_≠(.slice bk u.length bl:Value).ownBlock) (fun _=>False) rfl rfl ?aO ?aR (fun _ _ h=>h) (fun _ h=>h.elim) ?aF ?aB ?aS ?aL ?_
   (case aR=>exact rX av)
   (case aB=>exact cB)
   (case aF=>exact(fun k_ hk=>⟨Kd.fresh' (R_lt (mR m)) k_ hk,Kd.fresh' (R_lt (mR av)) k_ hk⟩))
   (case aO=>exact(mR E))
   (case aS=>exact(below_size cB))
   (case aL=>have:=bV.out;omega)
   intro de df ho hb hg hat;rw[← bh.out]at ho
   replace c:=kN c hg E c
   replace m:=aM (R_after (ok:=(fun k_=>some k_≠(.slice bk u.length bl:Value).ownBlock)) (by exact rM m (fun _ hk=>⟨hk.2,hk.1.2⟩)) hg hat)
   replace av:=aM (R_after (ok:=(fun k_=>some k_≠(.slice aC s.length aD:Value).ownBlock)) (by exact rM av (fun _ hk=>⟨hk.1.2,hk.2⟩)) hg hat)
   replace HB:=aM hb;have b8:=aM ho;clear E ho hb hg hat
   refine hK.out _ _ qh17x1 (fun hHeld=>?_)
   clear hK K;refine normZ (some 91) ?_
   refine pZ 9 6 1023 ?_
   refine done_ (done_of HT_.out (by kernel_rfl)) ?_
   try go_wp2
   go_ret
   exact⟨_,by first|rfl|(simp[errW_none,errW_some] <;> rfl)|(simp only[← hji31];first|rfl|(simp[errW_none,errW_some] <;> rfl))|(simp[*,errW_none,errW_some] <;> rfl),by(with_reducible repeat(first|apply R_alloc|apply R_drewN|apply R_drew));exact R_mono b8.out (fun _ hk=>trivial),cB⟩
end Go.Proofs.YtpbalojiaghfhaaGreat.PFnCompilesTold
