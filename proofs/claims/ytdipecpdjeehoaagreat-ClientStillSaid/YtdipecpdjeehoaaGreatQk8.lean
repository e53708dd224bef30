import Derived.Test.YtdipecpdjeehoaaGreatQk7
open Go.Proofs
set_option maxRecDepth 8000
namespace Go.Lk
open Asn renaming cells→Cl,row→Rw,kn→Kk,all→Al
theorem sz227:∀ (w:World),(sizeOf 227).run Tryz.prog w = .ok 2 w:=fun _=>by kernel_rfl
theorem sz272:∀ (w:World),(sizeOf 272).run Tryz.prog w = .ok 1 w:=fun _=>by kernel_rfl
theorem sz3:∀ (w:World),(sizeOf 3).run Tryz.prog w = .ok 1 w:=fun _=>by kernel_rfl
theorem sz31:∀ (w:World),(sizeOf 31).run Tryz.prog w = .ok 1 w:=fun _=>by kernel_rfl
theorem sz33:∀ (w:World),(sizeOf 33).run Tryz.prog w = .ok 9 w:=fun _=>by kernel_rfl
theorem fa227_0:∀ (b k:Nat) (w:World),(Instr.fieldAt 227 (vptr b k) 0).run Tryz.prog w = .ok (vptr b (k)) w:=fun _ _ _=>by kernel_rfl
theorem fa227_1:∀ (b k:Nat) (w:World),(Instr.fieldAt 227 (vptr b k) 1).run Tryz.prog w = .ok (vptr b (k+1)) w:=fun _ _ _=>by kernel_rfl
theorem fa33_0:∀ (b k:Nat) (w:World),(Instr.fieldAt 33 (vptr b k) 0).run Tryz.prog w = .ok (vptr b (k)) w:=fun _ _ _=>by kernel_rfl
theorem fa33_1:∀ (b k:Nat) (w:World),(Instr.fieldAt 33 (vptr b k) 1).run Tryz.prog w = .ok (vptr b (k+1)) w:=fun _ _ _=>by kernel_rfl
theorem fa33_2:∀ (b k:Nat) (w:World),(Instr.fieldAt 33 (vptr b k) 2).run Tryz.prog w = .ok (vptr b (k+2)) w:=fun _ _ _=>by kernel_rfl
theorem fa33_3:∀ (b k:Nat) (w:World),(Instr.fieldAt 33 (vptr b k) 3).run Tryz.prog w = .ok (vptr b (k+3)) w:=fun _ _ _=>by kernel_rfl
theorem fa33_4:∀ (b k:Nat) (w:World),(Instr.fieldAt 33 (vptr b k) 4).run Tryz.prog w = .ok (vptr b (k+4)) w:=fun _ _ _=>by kernel_rfl
theorem fa33_5:∀ (b k:Nat) (w:World),(Instr.fieldAt 33 (vptr b k) 5).run Tryz.prog w = .ok (vptr b (k+5)) w:=fun _ _ _=>by kernel_rfl
theorem fa33_6:∀ (b k:Nat) (w:World),(Instr.fieldAt 33 (vptr b k) 6).run Tryz.prog w = .ok (vptr b (k+6)) w:=fun _ _ _=>by kernel_rfl
theorem fa33_7:∀ (b k:Nat) (w:World),(Instr.fieldAt 33 (vptr b k) 7).run Tryz.prog w = .ok (vptr b (k+7)) w:=fun _ _ _=>by kernel_rfl
theorem fa33_8:∀ (b k:Nat) (w:World),(Instr.fieldAt 33 (vptr b k) 8).run Tryz.prog w = .ok (vptr b (k+8)) w:=fun _ _ _=>by kernel_rfl
theorem ix31:∀ (a:Addr) (m c:Nat) (p:Int) (w:World),0≤p→p < m→(Instr.indexAt 31 (.slice (some a) m c) (vint p)).run Tryz.prog w = .ok (.pointer (some (a.add (p.toNat*2)))) w:=run_indexAt_slice Tryz.runUnderlying31 sz227
theorem ld227:∀ (a:Addr) (w:World),(loadVar 227 a).run Tryz.prog w=((loadCells a 2).bind fun c=>.pure (Value.agg c)).run Tryz.prog w:=fun _ _=>by kernel_rfl
theorem ld272:∀ (a:Addr) (w:World),(loadVar 272 a).run Tryz.prog w=(Go.load a).run Tryz.prog w:=fun _ _=>by kernel_rfl
theorem ld3:∀ (a:Addr) (w:World),(loadVar 3 a).run Tryz.prog w=(Go.load a).run Tryz.prog w:=fun _ _=>by kernel_rfl
theorem ld31:∀ (a:Addr) (w:World),(loadVar 31 a).run Tryz.prog w=(Go.load a).run Tryz.prog w:=fun _ _=>by kernel_rfl
theorem ld33:∀ (a:Addr) (w:World),(loadVar 33 a).run Tryz.prog w=((loadCells a 9).bind fun c=>.pure (Value.agg c)).run Tryz.prog w:=fun _ _=>by kernel_rfl
theorem len31 (ty:TypeId):∀ (a:Option Addr) (n c:Nat) (w:World),(Builtin.len_ #[31] ty #[.slice a n c]).run Tryz.prog w = .ok (vint n) w:=fun _ _ _ _=>by kernel_rfl
theorem zv227:∀ (w:World),(zeroValue 227).run Tryz.prog w = .ok (.agg #[.int .i64 0,.slice none 0 0]) w:=fun _=>by kernel_rfl
theorem zv272:∀ (w:World),(zeroValue 272).run Tryz.prog w = .ok (.pointer none) w:=fun _=>by kernel_rfl
theorem zv33:∀ (w:World),(zeroValue 33).run Tryz.prog w = .ok (.agg #[.int .i64 0,.int .i64 0,.int .i64 0,.slice none 0 0,.slice none 0 0,.int .i64 0,.int .i64 0,.int .i64 0,.slice none 0 0]) w:=fun _=>by kernel_rfl
theorem take_eq_succ {α:Type} {xs ys:List α} {k:Nat} {d:α} (hx:k < xs.length) (hy:k < ys.length) (h:xs.take k=ys.take k) (e:xs.getD k d=ys.getD k d):xs.take (k+1)=ys.take (k+1):=by
  rw [List.take_succ_eq_append_getElem hx,List.take_succ_eq_append_getElem hy,h]
  simp only [List.getD_eq_getElem?_getD,List.getElem?_eq_getElem hx,List.getElem?_eq_getElem hy,Option.getD_some] at e
  rw [e]
theorem u8_inj {a b:UInt8} (h:¬ ((a.toNat:Int)≠b.toNat)):a=b:=UInt8.toNat_inj.1 (by omega)
theorem EqualB_fn (a:Value) (b:Value) (xs:Bytes) (ys:Bytes):Fn Tryz.prog 149 #[a,b] [KB a xs,KB b ys] (fun v M=>.bool (decide (xs=ys))=v∧M=[]):=by
 refine Fi 26 Tryz.func149 fun g R=>?_
 refine Ww [(0,a),(1,b)] [KB a xs,KB b ys,Al R] ?_
 refine Sn (Qa (k:=Nl [(0,a),(1,b),(4,.bool false)] ?_))
 refine W.seq (Sn (Qm (k:=?_)))
 refine Nk 0 fun hl1=>?_
 refine Qu (OpQ.lenSl (i:=0) rfl rfl rfl (len22 _)) (k:=Qm (k:=?_))
 refine Nk 1 fun hl2=>?_
 refine Qu (OpQ.lenSl (i:=1) rfl rfl rfl (len22 _)) (k:=Qu (OpQ.neq rfl rfl rfl) (k:=Nl [(0,a),(1,b),(4,.bool false),(10,.bool (decide ((xs.length:Int)≠(ys.length:Int))))] ?_))
 refine Cp rfl (fun h3=>?_) (fun h3=>?_)
 ·refine Sn (Qa (k:=Nl [(0,a),(1,b),(4,.bool false)] ?_))
  refine W.ret (thn_r (ret1 (M:=[]) rfl rfl (⟨(congrArg Value.bool (decide_eq_false (by intro h; subst h; exact h3 rfl))),rfl⟩) (es [2] rfl)))
 refine W.skip (thn_n (Wl [(0,a),(1,b),(4,.bool false)] ?_))
 refine W.seq (Sn (Qm (k:=?_)))
 refine Qu (OpQ.lenSl (i:=0) rfl rfl rfl (len22 _)) (k:=Qm (k:=Nl [(0,a),(1,b),(4,.bool false),(12,vint (xs.length:Int)),(13,vint 0)] ?_))
 refine W.block (W.loop (X:=Nat) (fun k=>[(0,a),(1,b),(12,vint (xs.length:Int)),(13,vint (k:Int))]) (fun k=>[Asn.pure (k≤xs.length∧xs.take k=ys.take k),KB a xs,KB b ys,Al R]) (fun k=>xs.length - k) 0 ⟨rfl,rfl,rfl,rfl,trivial⟩ ((es [0,0,0] rfl).trans (Ent.pure_in (by exact ⟨Nat.zero_le _,rfl⟩))) (fun x=>?_))
 obtain ⟨k,rfl⟩:∃ y,y=x:=⟨x,rfl⟩
 show W _ _ _ _ _ [(0,a),(1,b),(12,vint (xs.length:Int)),(13,vint (k:Int))] [Asn.pure (k≤xs.length∧xs.take k=ys.take k),KB a xs,KB b ys,Al R]
 refine W.opens Opens.pure (i:=0) rfl (fun _ hI4=>?_)
 replace hI4:=hI4
 show W _ _ _ _ _ [(0,a),(1,b),(12,vint (xs.length:Int)),(13,vint (k:Int))] [KB a xs,KB b ys,Al R]
 refine Sn (Qu (OpQ.lss rfl rfl rfl) (k:=Nl [(0,a),(1,b),(12,vint (xs.length:Int)),(13,vint (k:Int)),(14,.bool (decide ((k:Int) < (xs.length:Int))))] ?_))
 refine W.seq (Cp rfl (fun h5=>?_) (fun h5=>?_))
 ·refine W.skip (thn_n (Wl [(0,a),(1,b),(12,vint (xs.length:Int)),(13,vint (k:Int))] ?_))
  refine W.seq (W.block (Sn (Qm (k:=?_))))
  refine Qa (k:=Nl [(0,a),(1,b),(5,vint (k:Int)),(12,vint (xs.length:Int)),(13,vint (k:Int))] ?_)
  refine W.seq (W.drawG mixed ?_)
  refine Gq 0 [] rfl (OpQ.move rfl rfl) ?_
  refine Gq 1 [] rfl (OpQ.move rfl rfl) ?_
  refine WG.hold (KB a xs,[]) ?_
  refine Gq 2 [0] rfl (OpQ.indexSl (i:=0) (j:=k) rfl rfl rfl rfl (by omega) (by omega) (by simp only [Enc.u8]; omega) ix22) ?_
  refine Gq 3 [0] rfl (OpQ.loadU8 (i:=0) rfl rfl rfl (by omega) ld5) ?_
  refine Gq 4 [0] rfl (OpQ.move rfl rfl) ?_
  refine Gq 5 [0] rfl (OpQ.move rfl rfl) ?_
  refine WG.hold (KB b ys,[]) ?_
  refine Gq 6 [1,0] rfl (OpQ.indexSl (i:=0) (j:=k) rfl rfl rfl rfl (by omega) (by omega) (by simp only [Enc.u8]; omega) ix22) ?_
  refine Gq 7 [1,0] rfl (OpQ.loadU8 (i:=0) rfl rfl rfl (by omega) ld5) ?_
  refine Gq 8 [1,0] rfl (OpQ.neq rfl rfl rfl) ?_
  refine WG.done (by kernel_rfl) ?_
  refine thn_n (Wl [(0,a),(1,b),(12,vint (xs.length:Int)),(13,vint (k:Int)),(24,.bool (decide (((xs.getD k 0).toNat:Int)≠((ys.getD k 0).toNat:Int))))] ?_)
  refine Cp rfl (fun h6=>?_) (fun h6=>?_)
  ·refine Sn (Qa (k:=Nl [(0,a),(1,b),(4,.bool false),(12,vint (xs.length:Int)),(13,vint (k:Int))] ?_))
   refine W.ret (inblk_r (thn_r (thn_r (inblk_r (thn_r (ret1 (M:=[]) rfl rfl (⟨(congrArg Value.bool (decide_eq_false (by intro h; subst h; exact h6 rfl))),rfl⟩) (es [2] rfl)))))))
  refine W.skip (inblk_n (thn_n (Wl [(0,a),(1,b),(12,vint (xs.length:Int)),(13,vint (k:Int))] ?_)))
  refine W.region (Qu (OpQ.add rfl rfl rfl ⟨by omega,by omega⟩) (k:=?_))
  refine Qm (k:=?_)
  refine WN.nil (thn_n ⟨(k+1),by (show xs.length - (k+1) < xs.length - k); omega,⟨rfl,rfl,rfl,(Eq.trans (b:=some (vint ((k:Int)+1))) rfl (by first | rfl | (congr 2; omega))),trivial⟩,?_⟩)
  exact (es [0,0,0] rfl).trans (Ent.pure_in (by exact ⟨by omega,take_eq_succ (by omega) (by omega) hI4.2 (u8_inj h6)⟩))
 obtain rfl:k=xs.length:=by omega
 refine W.exit (thn_x (thn_x (inblk_x (thn_n (Wl [] ?_)))))
 refine Sn (Qa (k:=Nl [(4,.bool true)] ?_))
 refine W.ret (ret1 (M:=[]) rfl rfl (⟨(congrArg Value.bool (decide_eq_true (by have:=hI4.2; rwa [List.take_length,List.take_of_length_le (by omega)] at this))),rfl⟩) (es [2] rfl))
theorem Same1_fn (x:Wrap) (y:Wrap) (p:Value) (q:Value):Fn Tryz.prog 151 #[.agg #[vint x.who,p],.agg #[vint y.who,q]] [KB p x.box,KB q y.box] (fun v M=>.bool (decide (x=y))=v∧M=[]):=by
 refine Fi 17 Tryz.func151 fun g R=>?_
 refine Ww [(0,.agg #[vint x.who,p]),(1,.agg #[vint y.who,q])] [KB p x.box,KB q y.box,Al R] ?_
 refine Sn (Ru (OpRun.box rfl rfl rfl) ?_)
 rintro _ _ ⟨b1,rfl,rfl⟩
 refine Ru (OpRun.box rfl rfl rfl) ?_
 rintro _ _ ⟨b2,rfl,rfl⟩
 refine Qa (k:=Nw [(2,vptr b1 0),(3,vptr b2 0),(4,.bool false)] [Cl b2 227 [vint y.who,q],Cl b1 227 [vint x.who,p],KB p x.box,KB q y.box,Al R] ?_)
 refine Sn (Qu (Of (fa227_0 _ _)) (k:=Qu (Ol 1 ld3) (k:=Qu (Of (fa227_0 _ _)) (k:=Qu (Ol 0 ld3) (k:=?_)))))
 by_cases h3:x.who=y.who
 ·refine Qu (OpQ.decT (OpQ.eql rfl rfl rfl) h3) (k:=Qm (k:=Qu (Of (fa227_1 _ _)) (k:=Qu (Ol 1 ld22) (k:=Qu (Of (fa227_1 _ _)) (k:=Qu (Ol 0 ld22) (k:=?_))))))
  refine Wc [.tmp 12,.tmp 14] [p,q] Tryz.call149 (EqualB_fn p q x.box y.box) ((ed 2 rfl).trans ((ed 4 rfl).trans (ep [1,0] rfl))) ?_
  rintro _ _ ⟨rfl,rfl⟩
  refine Qt (k:=Qa (k:=Nw [(4,.bool (decide (x.box=y.box)))] [Cl b2 227 [vint y.who,q],Cl b1 227 [vint x.who,p],KB p x.box,KB q y.box,Al R] ?_))
  refine W.ret (ret1 (M:=[]) rfl rfl (⟨(by cases x; cases y; simp_all),rfl⟩) (es [4] rfl))
 refine Qu (OpQ.decF (OpQ.eql rfl rfl rfl) h3) (k:=Qm (k:=Qs (k:=Qs (k:=Qs (k:=Qs (k:=Qs (k:=Qf (k:=Qa (k:=Nl [(4,.bool false)] ?_)))))))))
 refine W.ret (ret1 (M:=[]) rfl rfl (⟨(by cases x; cases y; simp_all),rfl⟩) (es [4] rfl))
theorem EqualWraps_fn (a:Value) (b:Value) (xs:List Wrap) (ys:List Wrap):Fn Tryz.prog 150 #[a,b,.func (.func 151) #[] #[]] [KW a xs,KW b ys] (fun v M=>.bool (decide (xs=ys))=v∧M=[]):=by
 refine Fi 32 Tryz.func150 fun g R=>?_
 refine Ww [(0,a),(1,b),(2,.func (.func 151) #[] #[])] [KW a xs,KW b ys,Al R] ?_
 refine Sn (Qa (k:=Nl [(0,a),(1,b),(2,.func (.func 151) #[] #[]),(6,.bool false)] ?_))
 refine W.seq (Sn (Qm (k:=?_)))
 refine Nk 0 fun hl1=>?_
 refine Qu (OpQ.lenSl (i:=0) rfl rfl rfl (len31 _)) (k:=Qm (k:=?_))
 refine Nk 1 fun hl2=>?_
 refine Qu (OpQ.lenSl (i:=1) rfl rfl rfl (len31 _)) (k:=Qu (OpQ.neq rfl rfl rfl) (k:=Nl [(0,a),(1,b),(2,.func (.func 151) #[] #[]),(6,.bool false),(14,.bool (decide ((xs.length:Int)≠(ys.length:Int))))] ?_))
 refine Cp rfl (fun h3=>?_) (fun h3=>?_)
 ·refine Sn (Qa (k:=Nl [(0,a),(1,b),(2,.func (.func 151) #[] #[]),(6,.bool false)] ?_))
  refine W.ret (thn_r (ret1 (M:=[]) rfl rfl (⟨(congrArg Value.bool (decide_eq_false (by intro h; subst h; exact h3 rfl))),rfl⟩) (es [2] rfl)))
 refine W.skip (thn_n (Wl [(0,a),(1,b),(2,.func (.func 151) #[] #[]),(6,.bool false)] ?_))
 refine W.seq (Sn (Qm (k:=?_)))
 refine Qu (OpQ.lenSl (i:=0) rfl rfl rfl (len31 _)) (k:=Qm (k:=Nl [(1,b),(2,.func (.func 151) #[] #[]),(6,.bool false),(15,a),(16,vint (xs.length:Int)),(17,vint 0)] ?_))
 refine W.block (W.opens Opens.sl (i:=0) rfl (fun f4 _=>?_))
 refine We [Ka 227 2 a xs.length f4,Kr Enc.wrap f4 xs,KW b ys,Al R] ?_
 refine W.opens Opens.sl (i:=2) rfl (fun f5 _=>?_)
 refine We [Ka 227 2 b ys.length f5,Kr Enc.wrap f5 ys,Ka 227 2 a xs.length f4,Kr Enc.wrap f4 xs,Al R] ?_
 refine W.loop (X:=Nat) (fun k=>[(1,b),(2,.func (.func 151) #[] #[]),(15,a),(16,vint (xs.length:Int)),(17,vint (k:Int))]) (fun k=>[Asn.pure (k≤xs.length∧xs.take k=ys.take k),Ka 227 2 b ys.length f5,Kr Enc.wrap f5 ys,Ka 227 2 a xs.length f4,Kr Enc.wrap f4 xs,Al R]) (fun k=>xs.length - k) 0 ⟨rfl,rfl,rfl,rfl,rfl,trivial⟩ ((es [0,0,0,0,0] rfl).trans (Ent.pure_in (by exact ⟨Nat.zero_le _,rfl⟩))) (fun x=>?_)
 obtain ⟨k,rfl⟩:∃ y,y=x:=⟨x,rfl⟩
 show W _ _ _ _ _ [(1,b),(2,.func (.func 151) #[] #[]),(15,a),(16,vint (xs.length:Int)),(17,vint (k:Int))] [Asn.pure (k≤xs.length∧xs.take k=ys.take k),Ka 227 2 b ys.length f5,Kr Enc.wrap f5 ys,Ka 227 2 a xs.length f4,Kr Enc.wrap f4 xs,Al R]
 refine W.opens Opens.pure (i:=0) rfl (fun _ hI6=>?_)
 replace hI6:=hI6
 show W _ _ _ _ _ [(1,b),(2,.func (.func 151) #[] #[]),(15,a),(16,vint (xs.length:Int)),(17,vint (k:Int))] [Ka 227 2 b ys.length f5,Kr Enc.wrap f5 ys,Ka 227 2 a xs.length f4,Kr Enc.wrap f4 xs,Al R]
 refine Sn (Qu (OpQ.lss rfl rfl rfl) (k:=Nl [(1,b),(2,.func (.func 151) #[] #[]),(15,a),(16,vint (xs.length:Int)),(17,vint (k:Int)),(18,.bool (decide ((k:Int) < (xs.length:Int))))] ?_))
 refine W.seq (Cp rfl (fun h7=>?_) (fun h7=>?_))
 ·refine W.skip (thn_n (Wl [(1,b),(2,.func (.func 151) #[] #[]),(15,a),(16,vint (xs.length:Int)),(17,vint (k:Int))] ?_))
  refine W.seq (W.block (Sn (WN.opens (Opens.wrap (xs:=xs) (i:=k) (by omega)) (i:=3) rfl (fun z1 he8=>?_))))
  refine Ne [KB z1 ((xs.getD k default).box),Kr Enc.wrap f4 xs,Ka 227 2 b ys.length f5,Kr Enc.wrap f5 ys,Ka 227 2 a xs.length f4,Al R] (Qm (k:=Qu (OpQ.indexAddr (i:=4) (j:=k*2) rfl rfl rfl rfl (by omega) (by omega) (by omega) ix31) (k:=Qu (OpQ.loadSubN (i:=4) rfl rfl rfl he8 rfl (by omega) (by decide) ld227) (k:=?_))))
  refine Ru (OpRun.alloc rfl zv227 rfl) ?_
  rintro _ _ ⟨b9,rfl,rfl⟩
  refine Qa (k:=?_)
  refine Nf 1 fun ho10=>?_
  refine Rn (OpRun.store (i:=0) (vs:=[vint ((xs.getD k default).who),z1]) (cs':=[vint ((xs.getD k default).who),z1]) rfl rfl rfl sz227 rfl rfl (one_cons rfl (one_cons ho10 one_nil)) rfl (Lb rfl) rfl) (k:=Nw [(1,b),(2,.func (.func 151) #[] #[]),(7,vint (k:Int)),(8,vptr b9 0),(15,a),(16,vint (xs.length:Int)),(17,vint (k:Int))] [Cl b9 227 [vint ((xs.getD k default).who),z1],KB z1 ((xs.getD k default).box),Kr Enc.wrap f4 xs,Ka 227 2 b ys.length f5,Kr Enc.wrap f5 ys,Ka 227 2 a xs.length f4,Al R] ?_)
  refine Sn (WN.opens (Opens.wrap (xs:=ys) (i:=k) (by omega)) (i:=4) rfl (fun z2 he11=>(Ne [KB z2 ((ys.getD k default).box),Kr Enc.wrap f5 ys,Cl b9 227 [vint ((xs.getD k default).who),z1],KB z1 ((xs.getD k default).box),Kr Enc.wrap f4 xs,Ka 227 2 b ys.length f5,Ka 227 2 a xs.length f4,Al R] (Qm (k:=Qm (k:=Qu (OpQ.indexAddr (i:=5) (j:=k*2) rfl rfl rfl rfl (by omega) (by omega) (by omega) ix31) (k:=Qu (OpQ.loadSubN (i:=5) rfl rfl rfl he11 rfl (by omega) (by decide) ld227) (k:=?_))))))))
  refine Ru (OpRun.alloc rfl zv227 rfl) ?_
  rintro _ _ ⟨b12,rfl,rfl⟩
  refine Nf 1 fun ho13=>?_
  refine Rn (OpRun.store (i:=0) (vs:=[vint ((ys.getD k default).who),z2]) (cs':=[vint ((ys.getD k default).who),z2]) rfl rfl rfl sz227 rfl rfl (one_cons rfl (one_cons ho13 one_nil)) rfl (Lb rfl) rfl) (k:=Nw [(1,b),(2,.func (.func 151) #[] #[]),(8,vptr b9 0),(9,vptr b12 0),(15,a),(16,vint (xs.length:Int)),(17,vint (k:Int))] [Cl b12 227 [vint ((ys.getD k default).who),z2],KB z2 ((ys.getD k default).box),Kr Enc.wrap f5 ys,Cl b9 227 [vint ((xs.getD k default).who),z1],KB z1 ((xs.getD k default).box),Kr Enc.wrap f4 xs,Ka 227 2 b ys.length f5,Ka 227 2 a xs.length f4,Al R] ?_)
  refine Sn (Qm (k:=Qu (OpQ.loadN (i:=3) rfl rfl ld227 rfl rfl rfl) (k:=Qu (OpQ.loadN (i:=0) rfl rfl ld227 rfl rfl rfl) (k:=?_))))
  refine WN.call rfl rfl (OpCall.clo (xs:=[.tmp 27,.tmp 28]) (vs:=[.agg #[vint ((xs.getD k default).who),z1],.agg #[vint ((ys.getD k default).who),z2]]) rfl rfl ⟨rfl,rfl,trivial⟩ Tryz.call151) (Same1_fn (xs.getD k default) (ys.getD k default) z1 z2) ((ed 4 rfl).trans ((ed 2 rfl).trans (ep [1,0] rfl))) ?_
  rintro _ _ ⟨rfl,rfl⟩
  refine Qu (OpQ.notP rfl rfl) (k:=Nw [(1,b),(2,.func (.func 151) #[] #[]),(15,a),(16,vint (xs.length:Int)),(17,vint (k:Int)),(30,.bool (decide (¬ ((xs.getD k default)=(ys.getD k default)))))] [Cl b12 227 [vint ((ys.getD k default).who),z2],KB z2 ((ys.getD k default).box),Kr Enc.wrap f5 ys,Cl b9 227 [vint ((xs.getD k default).who),z1],KB z1 ((xs.getD k default).box),Kr Enc.wrap f4 xs,Ka 227 2 b ys.length f5,Ka 227 2 a xs.length f4,Al R] ?_)
  refine Cp rfl (fun h14=>?_) (fun h14=>?_)
  ·refine Sn (Qa (k:=Nl [(1,b),(2,.func (.func 151) #[] #[]),(6,.bool false),(15,a),(16,vint (xs.length:Int)),(17,vint (k:Int))] ?_))
   refine W.ret (inblk_r (thn_r (thn_r (inblk_r (thn_r (ret1 (M:=[]) rfl rfl (⟨(congrArg Value.bool (decide_eq_false (by intro h; subst h; exact h14 rfl))),rfl⟩) (es [8] rfl)))))))
  refine W.skip (inblk_n (thn_n (Wl [(1,b),(2,.func (.func 151) #[] #[]),(15,a),(16,vint (xs.length:Int)),(17,vint (k:Int))] ?_)))
  refine W.region (Qu (OpQ.add rfl rfl rfl ⟨by omega,by omega⟩) (k:=?_))
  refine Qm (k:=?_)
  refine WN.nil (thn_n ⟨(k+1),by (show xs.length - (k+1) < xs.length - k); omega,⟨rfl,rfl,rfl,rfl,(Eq.trans (b:=some (vint ((k:Int)+1))) rfl (by first | rfl | (congr 2; omega))),trivial⟩,?_⟩)
  exact (es [6,2,5,4,4] rfl).trans (Ent.pure_in (by exact ⟨by omega,take_eq_succ (by omega) (by omega) hI6.2 (Decidable.of_not_not h14)⟩))
 obtain rfl:k=xs.length:=by omega
 refine W.exit (thn_x (thn_x (inblk_x (thn_n (Wl [] ?_)))))
 refine Sn (Qa (k:=Nl [(6,.bool true)] ?_))
 refine W.ret (ret1 (M:=[]) rfl rfl (⟨(congrArg Value.bool (decide_eq_true (by have:=hI6.2; rwa [List.take_length,List.take_of_length_le (by omega)] at this))),rfl⟩) (es [4] rfl))
theorem Same_fn (a:Entry) (b:Entry) (nva:Value) (vva:Value) (wva:Value) (nvb:Value) (vvb:Value) (wvb:Value):Fn Tryz.prog 68 #[.agg #[vint a.kind,vint a.writer,vint a.seq,nva,vva,vint a.who,vint a.rights,vint a.epoch,wva],.agg #[vint b.kind,vint b.writer,vint b.seq,nvb,vvb,vint b.who,vint b.rights,vint b.epoch,wvb]] [KB nva a.name,KB vva a.value,KW wva a.wraps,KB nvb b.name,KB vvb b.value,KW wvb b.wraps] (fun v M=>.bool (decide (a=b))=v∧M=[]):=by
 refine Fi 66 Tryz.func68 fun g R=>?_
 refine Ww [(0,.agg #[vint a.kind,vint a.writer,vint a.seq,nva,vva,vint a.who,vint a.rights,vint a.epoch,wva]),(1,.agg #[vint b.kind,vint b.writer,vint b.seq,nvb,vvb,vint b.who,vint b.rights,vint b.epoch,wvb])] [KB nva a.name,KB vva a.value,KW wva a.wraps,KB nvb b.name,KB vvb b.value,KW wvb b.wraps,Al R] ?_
 refine Sn (Ru (OpRun.box rfl rfl rfl) ?_)
 rintro _ _ ⟨b1,rfl,rfl⟩
 refine Ru (OpRun.box rfl rfl rfl) ?_
 rintro _ _ ⟨b2,rfl,rfl⟩
 refine Qa (k:=Nw [(2,vptr b1 0),(3,vptr b2 0),(4,.bool false)] [Cl b2 33 (ecs b nvb vvb wvb),Cl b1 33 (ecs a nva vva wva),KB nva a.name,KB vva a.value,KW wva a.wraps,KB nvb b.name,KB vvb b.value,KW wvb b.wraps,Al R] ?_)
 refine Sn (Qu (Of (fa33_0 _ _)) (k:=Qu (Ol 1 ld3) (k:=Qu (Of (fa33_0 _ _)) (k:=Qu (Ol 0 ld3) (k:=?_)))))
 by_cases h3:a.kind=b.kind
 ·refine Qu (OpQ.decT (OpQ.eql rfl rfl rfl) h3) (k:=Qm (k:=Qu (Of (fa33_1 _ _)) (k:=Qu (Ol 1 ld3) (k:=Qu (Of (fa33_1 _ _)) (k:=Qu (Ol 0 ld3) (k:=Qu (OpQ.eql rfl rfl rfl) (k:=?_)))))))
  by_cases h4:a.writer=b.writer
  ·refine Qu (OpQ.decT (OpQ.pickT rfl rfl rfl) h4) (k:=Qm (k:=Qu (Of (fa33_2 _ _)) (k:=Qu (Ol 1 ld3) (k:=Qu (Of (fa33_2 _ _)) (k:=Qu (Ol 0 ld3) (k:=Qu (OpQ.eql rfl rfl rfl) (k:=?_)))))))
   by_cases h5:a.seq=b.seq
   ·refine Qu (OpQ.decT (OpQ.pickT rfl rfl rfl) h5) (k:=Qm (k:=Qu (Of (fa33_3 _ _)) (k:=Qu (Ol 1 ld22) (k:=Qu (Of (fa33_3 _ _)) (k:=Qu (Ol 0 ld22) (k:=?_))))))
    refine Wc [.tmp 26,.tmp 28] [nva,nvb] Tryz.call149 (EqualB_fn nva nvb a.name b.name) ((ed 2 rfl).trans ((ed 6 rfl).trans (ep [1,0] rfl))) ?_
    rintro _ _ ⟨rfl,rfl⟩
    by_cases h6:a.name=b.name
    ·refine Qu (OpQ.decT (OpQ.pickT rfl rfl rfl) h6) (k:=Qm (k:=Qu (Of (fa33_4 _ _)) (k:=Qu (Ol 1 ld22) (k:=Qu (Of (fa33_4 _ _)) (k:=Qu (Ol 0 ld22) (k:=?_))))))
     refine Wc [.tmp 33,.tmp 35] [vva,vvb] Tryz.call149 (EqualB_fn vva vvb a.value b.value) ((ed 3 rfl).trans ((ed 7 rfl).trans (ep [1,0] rfl))) ?_
     rintro _ _ ⟨rfl,rfl⟩
     by_cases h7:a.value=b.value
     ·refine Qu (OpQ.decT (OpQ.pickT rfl rfl rfl) h7) (k:=Qm (k:=Qu (Of (fa33_5 _ _)) (k:=Qu (Ol 1 ld3) (k:=Qu (Of (fa33_5 _ _)) (k:=Qu (Ol 0 ld3) (k:=Qu (OpQ.eql rfl rfl rfl) (k:=?_)))))))
      by_cases h8:a.who=b.who
      ·refine Qu (OpQ.decT (OpQ.pickT rfl rfl rfl) h8) (k:=Qm (k:=Qu (Of (fa33_6 _ _)) (k:=Qu (Ol 1 ld3) (k:=Qu (Of (fa33_6 _ _)) (k:=Qu (Ol 0 ld3) (k:=Qu (OpQ.eql rfl rfl rfl) (k:=?_)))))))
       by_cases h9:a.rights=b.rights
       ·refine Qu (OpQ.decT (OpQ.pickT rfl rfl rfl) h9) (k:=Qm (k:=Qu (Of (fa33_7 _ _)) (k:=Qu (Ol 1 ld3) (k:=Qu (Of (fa33_7 _ _)) (k:=Qu (Ol 0 ld3) (k:=Qu (OpQ.eql rfl rfl rfl) (k:=?_)))))))
        by_cases h10:a.epoch=b.epoch
        ·refine Qu (OpQ.decT (OpQ.pickT rfl rfl rfl) h10) (k:=Qm (k:=Qu (Of (fa33_8 _ _)) (k:=Qu (Ol 1 ld31) (k:=Qu (Of (fa33_8 _ _)) (k:=Qu (Ol 0 ld31) (k:=?_))))))
         refine Wc [.tmp 61,.tmp 63,.func 151] [wva,wvb,.func (.func 151) #[] #[]] Tryz.call150 (EqualWraps_fn wva wvb a.wraps b.wraps) ((ed 4 rfl).trans ((ed 8 rfl).trans (ep [1,0] rfl))) ?_
         rintro _ _ ⟨rfl,rfl⟩
         refine Qt (k:=Qa (k:=Nw [(4,.bool (decide (a.wraps=b.wraps)))] [Cl b2 33 (ecs b nvb vvb wvb),Cl b1 33 (ecs a nva vva wva),KB nva a.name,KB vva a.value,KW wva a.wraps,KB nvb b.name,KB vvb b.value,KW wvb b.wraps,Al R] ?_))
         refine W.ret (ret1 (M:=[]) rfl rfl (⟨(by cases a; cases b; simp_all),rfl⟩) (es [8] rfl))
        refine Qu (OpQ.decF (OpQ.pickT rfl rfl rfl) h10) (k:=Qm (k:=Qs (k:=Qs (k:=Qs (k:=Qs (k:=Qs (k:=Qf (k:=Qa (k:=Nw [(4,.bool false)] [Cl b2 33 (ecs b nvb vvb wvb),Cl b1 33 (ecs a nva vva wva),KB nva a.name,KB vva a.value,KW wva a.wraps,KB nvb b.name,KB vvb b.value,KW wvb b.wraps,Al R] ?_)))))))))
        refine W.ret (ret1 (M:=[]) rfl rfl (⟨(by cases a; cases b; simp_all),rfl⟩) (es [8] rfl))
       refine Qu (OpQ.decF (OpQ.pickT rfl rfl rfl) h9) (k:=Qm (k:=Qs (k:=Qs (k:=Qs (k:=Qs (k:=Qs (k:=Qf (k:=Qm (k:=Qs (k:=Qs (k:=Qs (k:=Qs (k:=Qs (k:=?_))))))))))))))
       refine Qf (k:=Qa (k:=Nw [(4,.bool false)] [Cl b2 33 (ecs b nvb vvb wvb),Cl b1 33 (ecs a nva vva wva),KB nva a.name,KB vva a.value,KW wva a.wraps,KB nvb b.name,KB vvb b.value,KW wvb b.wraps,Al R] ?_))
       refine W.ret (ret1 (M:=[]) rfl rfl (⟨(by cases a; cases b; simp_all),rfl⟩) (es [8] rfl))
      refine Qu (OpQ.decF (OpQ.pickT rfl rfl rfl) h8) (k:=Qm (k:=Qs (k:=Qs (k:=Qs (k:=Qs (k:=Qs (k:=Qf (k:=Qm (k:=Qs (k:=Qs (k:=Qs (k:=Qs (k:=Qs (k:=?_))))))))))))))
      refine Qf (k:=Qm (k:=Qs (k:=Qs (k:=Qs (k:=Qs (k:=Qs (k:=Qf (k:=Qa (k:=Nw [(4,.bool false)] [Cl b2 33 (ecs b nvb vvb wvb),Cl b1 33 (ecs a nva vva wva),KB nva a.name,KB vva a.value,KW wva a.wraps,KB nvb b.name,KB vvb b.value,KW wvb b.wraps,Al R] ?_)))))))))
      refine W.ret (ret1 (M:=[]) rfl rfl (⟨(by cases a; cases b; simp_all),rfl⟩) (es [8] rfl))
     refine Qu (OpQ.decF (OpQ.pickT rfl rfl rfl) h7) (k:=Qm (k:=Qs (k:=Qs (k:=Qs (k:=Qs (k:=Qs (k:=Qf (k:=Qm (k:=Qs (k:=Qs (k:=Qs (k:=Qs (k:=Qs (k:=?_))))))))))))))
     refine Qf (k:=Qm (k:=Qs (k:=Qs (k:=Qs (k:=Qs (k:=Qs (k:=Qf (k:=Qm (k:=Qs (k:=Qs (k:=Qs (k:=Qs (k:=Qs (k:=?_))))))))))))))
     refine Qf (k:=Qa (k:=Nw [(4,.bool false)] [Cl b2 33 (ecs b nvb vvb wvb),Cl b1 33 (ecs a nva vva wva),KB nva a.name,KB vva a.value,KW wva a.wraps,KB nvb b.name,KB vvb b.value,KW wvb b.wraps,Al R] ?_))
     refine W.ret (ret1 (M:=[]) rfl rfl (⟨(by cases a; cases b; simp_all),rfl⟩) (es [8] rfl))
    refine Qu (OpQ.decF (OpQ.pickT rfl rfl rfl) h6) (k:=Qm (k:=Qs (k:=Qs (k:=Qs (k:=Qs (k:=Qs (k:=Qf (k:=Qm (k:=Qs (k:=Qs (k:=Qs (k:=Qs (k:=Qs (k:=?_))))))))))))))
    refine Qf (k:=Qm (k:=Qs (k:=Qs (k:=Qs (k:=Qs (k:=Qs (k:=Qf (k:=Qm (k:=Qs (k:=Qs (k:=Qs (k:=Qs (k:=Qs (k:=?_))))))))))))))
    refine Qf (k:=Qm (k:=Qs (k:=Qs (k:=Qs (k:=Qs (k:=Qs (k:=Qf (k:=Qa (k:=Nw [(4,.bool false)] [Cl b2 33 (ecs b nvb vvb wvb),Cl b1 33 (ecs a nva vva wva),KB nva a.name,KB vva a.value,KW wva a.wraps,KB nvb b.name,KB vvb b.value,KW wvb b.wraps,Al R] ?_)))))))))
    refine W.ret (ret1 (M:=[]) rfl rfl (⟨(by cases a; cases b; simp_all),rfl⟩) (es [8] rfl))
   refine Qu (OpQ.decF (OpQ.pickT rfl rfl rfl) h5) (k:=Qm (k:=Qs (k:=Qs (k:=Qs (k:=Qs (k:=Qs (k:=Qf (k:=Qm (k:=Qs (k:=Qs (k:=Qs (k:=Qs (k:=Qs (k:=?_))))))))))))))
   refine Qf (k:=Qm (k:=Qs (k:=Qs (k:=Qs (k:=Qs (k:=Qs (k:=Qf (k:=Qm (k:=Qs (k:=Qs (k:=Qs (k:=Qs (k:=Qs (k:=?_))))))))))))))
   refine Qf (k:=Qm (k:=Qs (k:=Qs (k:=Qs (k:=Qs (k:=Qs (k:=Qf (k:=Qm (k:=Qs (k:=Qs (k:=Qs (k:=Qs (k:=Qs (k:=?_))))))))))))))
   refine Qf (k:=Qa (k:=Nl [(4,.bool false)] ?_))
   refine W.ret (ret1 (M:=[]) rfl rfl (⟨(by cases a; cases b; simp_all),rfl⟩) (es [8] rfl))
  refine Qu (OpQ.decF (OpQ.pickT rfl rfl rfl) h4) (k:=Qm (k:=Qs (k:=Qs (k:=Qs (k:=Qs (k:=Qs (k:=Qf (k:=Qm (k:=Qs (k:=Qs (k:=Qs (k:=Qs (k:=Qs (k:=?_))))))))))))))
  refine Qf (k:=Qm (k:=Qs (k:=Qs (k:=Qs (k:=Qs (k:=Qs (k:=Qf (k:=Qm (k:=Qs (k:=Qs (k:=Qs (k:=Qs (k:=Qs (k:=?_))))))))))))))
  refine Qf (k:=Qm (k:=Qs (k:=Qs (k:=Qs (k:=Qs (k:=Qs (k:=Qf (k:=Qm (k:=Qs (k:=Qs (k:=Qs (k:=Qs (k:=Qs (k:=?_))))))))))))))
  refine Qf (k:=Qm (k:=Qs (k:=Qs (k:=Qs (k:=Qs (k:=Qs (k:=Qf (k:=Qa (k:=Nl [(4,.bool false)] ?_)))))))))
  refine W.ret (ret1 (M:=[]) rfl rfl (⟨(by cases a; cases b; simp_all),rfl⟩) (es [8] rfl))
 refine Qu (OpQ.decF (OpQ.eql rfl rfl rfl) h3) (k:=Qm (k:=Qs (k:=Qs (k:=Qs (k:=Qs (k:=Qs (k:=Qf (k:=Qm (k:=Qs (k:=Qs (k:=Qs (k:=Qs (k:=Qs (k:=?_))))))))))))))
 refine Qf (k:=Qm (k:=Qs (k:=Qs (k:=Qs (k:=Qs (k:=Qs (k:=Qf (k:=Qm (k:=Qs (k:=Qs (k:=Qs (k:=Qs (k:=Qs (k:=?_))))))))))))))
 refine Qf (k:=Qm (k:=Qs (k:=Qs (k:=Qs (k:=Qs (k:=Qs (k:=Qf (k:=Qm (k:=Qs (k:=Qs (k:=Qs (k:=Qs (k:=Qs (k:=?_))))))))))))))
 refine Qf (k:=Qm (k:=Qs (k:=Qs (k:=Qs (k:=Qs (k:=Qs (k:=Qf (k:=Qm (k:=Qs (k:=Qs (k:=Qs (k:=Qs (k:=Qs (k:=?_))))))))))))))
 refine Qf (k:=Qa (k:=Nl [(4,.bool false)] ?_))
 refine W.ret (ret1 (M:=[]) rfl rfl (⟨(by cases a; cases b; simp_all),rfl⟩) (es [8] rfl))
theorem bare_fn (e:Entry) (nv:Value) (vv:Value) (wv:Value):Fn Tryz.prog 283 #[.agg #[vint e.kind,vint e.writer,vint e.seq,nv,vv,vint e.who,vint e.rights,vint e.epoch,wv]] [KB nv e.name,KB vv e.value,KW wv e.wraps] (fun v M=>∃ (b:Entry) (n2:Value) (v2:Value) (w2:Value),Spec.bare e=b∧.agg #[vint b.kind,vint b.writer,vint b.seq,n2,v2,vint b.who,vint b.rights,vint b.epoch,w2]=v∧M=[KB n2 b.name,KB v2 b.value,KW w2 b.wraps]):=by
 refine Fi 48 Tryz.func283 fun g R=>?_
 refine Ww [(0,.agg #[vint e.kind,vint e.writer,vint e.seq,nv,vv,vint e.who,vint e.rights,vint e.epoch,wv])] [KB nv e.name,KB vv e.value,KW wv e.wraps,Al R] ?_
 refine Sn (Ru (OpRun.box rfl rfl rfl) ?_)
 rintro _ _ ⟨b1,rfl,rfl⟩
 refine Ru (OpRun.alloc rfl zv33 rfl) ?_
 rintro _ _ ⟨b2,rfl,rfl⟩
 refine Nw [(1,vptr b1 0),(2,vptr b2 0)] [Cl b2 33 [vint 0,vint 0,vint 0,N0,N0,vint 0,vint 0,vint 0,N0],Cl b1 33 (ecs e nv vv wv),KB nv e.name,KB vv e.value,KW wv e.wraps,Al R] ?_
 refine Sn (Qu (Of (fa33_0 _ _)) (k:=Qu (Ol 1 ld3) (k:=Qu (Of (fa33_1 _ _)) (k:=Qu (Ol 1 ld3) (k:=Qu (Of (fa33_2 _ _)) (k:=Qu (Ol 1 ld3) (k:=Qu (OpQ.build (qs:=[(0,vint e.kind),(1,vint e.writer),(2,vint e.seq)]) (v:=.agg #[vint e.kind,vint e.writer,vint e.seq,N0,N0,vint 0,vint 0,vint 0,N0]) rfl ⟨rfl,rfl,rfl,rfl,rfl,rfl,trivial⟩ (fun _=>by kernel_rfl)) (k:=?_))))))))
 refine Ru (OpRun.alloc rfl zv33 rfl) ?_
 rintro _ _ ⟨b3,rfl,rfl⟩
 refine Rn (OpRun.store (i:=0) (vs:=[vint e.kind,vint e.writer,vint e.seq,N0,N0,vint 0,vint 0,vint 0,N0]) (cs':=[vint e.kind,vint e.writer,vint e.seq,N0,N0,vint 0,vint 0,vint 0,N0]) rfl rfl rfl sz33 rfl rfl (O3 (O3 (O3 one_nil))) rfl (Lb rfl) rfl) (k:=Nw [(1,vptr b1 0),(2,vptr b2 0),(3,vptr b3 0)] [Cl b3 33 [vint e.kind,vint e.writer,vint e.seq,N0,N0,vint 0,vint 0,vint 0,N0],Cl b2 33 [vint 0,vint 0,vint 0,N0,N0,vint 0,vint 0,vint 0,N0],Cl b1 33 (ecs e nv vv wv),KB nv e.name,KB vv e.value,KW wv e.wraps,Al R] ?_)
 refine W.seq (Sn (Qu (Of (fa33_0 _ _)) (k:=?_)))
 refine Qu (Ol 2 ld3) (k:=Nl [(1,vptr b1 0),(2,vptr b2 0),(3,vptr b3 0),(12,vint e.kind)] ?_)
 refine W.block (Sn (Qu (OpQ.eql rfl rfl rfl) (k:=?_)))
 refine Qa (k:=Nl [(1,vptr b1 0),(2,vptr b2 0),(3,vptr b3 0),(12,vint e.kind),(13,.bool (decide (e.kind=1)))] ?_)
 refine Cp rfl (fun h4=>?_) (fun h4=>?_)
 ·refine W.drawG mixed ?_
  refine Gq 0 [] rfl (Of (fa33_3 _ _)) ?_
  refine WG.hold (Cl b1 33 (ecs e nv vv wv),[]) ?_
  refine Gq 1 [2] rfl (Ol 0 ld22) ?_
  refine Gq 2 [2] rfl (Of (fa33_4 _ _)) ?_
  refine Gq 3 [2] rfl (Ol 0 ld22) ?_
  refine Gq 4 [2] rfl (Of (fa33_3 _ _)) ?_
  refine WG.fact (fun _ _ s=>(sl_facts (i:=3) rfl s).2.2) (fun ho5=>?_)
  refine WG.one (i:=5) (by kernel_rfl) (UpG.run rfl rfl rfl (OpRun.store (i:=0) (vs:=[nv]) (cs':=[vint e.kind,vint e.writer,vint e.seq,nv,N0,vint 0,vint 0,vint 0,N0]) rfl rfl rfl sz22 (cells_one ho5) rfl (one_cons ho5 one_nil) rfl (Lb rfl) rfl) ?_)
  rintro _ _ ⟨rfl,rfl⟩
  refine ⟨es [2] rfl,?_⟩
  refine Gq 6 [2] rfl (Of (fa33_4 _ _)) ?_
  refine WG.fact (fun _ _ s=>(sl_facts (i:=4) rfl s).2.2) (fun ho6=>?_)
  refine WG.one (i:=7) (by kernel_rfl) (UpG.run rfl rfl rfl (OpRun.store (i:=0) (vs:=[vv]) (cs':=[vint e.kind,vint e.writer,vint e.seq,nv,vv,vint 0,vint 0,vint 0,N0]) rfl rfl rfl sz22 (cells_one ho6) rfl (one_cons ho6 one_nil) rfl (Lb rfl) rfl) ?_)
  rintro _ _ ⟨rfl,rfl⟩
  refine ⟨es [2] rfl,?_⟩
  refine WG.done (by kernel_rfl) ?_
  refine inblk_n (thn_n (Ww [(2,vptr b2 0),(3,vptr b3 0)] [Cl b3 33 [vint e.kind,vint e.writer,vint e.seq,nv,vv,vint 0,vint 0,vint 0,N0],Cl b2 33 [vint 0,vint 0,vint 0,N0,N0,vint 0,vint 0,vint 0,N0],Cl b1 33 (ecs e nv vv wv),KB nv e.name,KB vv e.value,KW wv e.wraps,Al R] ?_))
  refine Sn (Qu (OpQ.loadN (i:=0) rfl rfl ld33 rfl rfl rfl) (k:=Rn (OpRun.store (i:=1) (vs:=[vint e.kind,vint e.writer,vint e.seq,nv,vv,vint 0,vint 0,vint 0,N0]) (cs':=[vint e.kind,vint e.writer,vint e.seq,nv,vv,vint 0,vint 0,vint 0,N0]) rfl rfl rfl sz33 rfl rfl (O3 (one_cons ho5 (one_cons ho6 (O3 (one_cons rfl one_nil))))) rfl (Lb rfl) rfl) (k:=Nw [(2,vptr b2 0)] [Cl b2 33 [vint e.kind,vint e.writer,vint e.seq,nv,vv,vint 0,vint 0,vint 0,N0],Cl b3 33 [vint e.kind,vint e.writer,vint e.seq,nv,vv,vint 0,vint 0,vint 0,N0],Cl b1 33 (ecs e nv vv wv),KB nv e.name,KB vv e.value,KW wv e.wraps,Al R] ?_)))
  refine W.ent (Ent.slNil (e:=Enc.wrap) (T:=227)) ?_
  refine W.ent (L':=[KW (N0) ([]),Cl b2 33 [vint e.kind,vint e.writer,vint e.seq,nv,vv,vint 0,vint 0,vint 0,N0],Cl b3 33 [vint e.kind,vint e.writer,vint e.seq,nv,vv,vint 0,vint 0,vint 0,N0],Cl b1 33 (ecs e nv vv wv),KB nv e.name,KB vv e.value,KW wv e.wraps,Al R]) (es [0,0,0,0,0,0,0,0] rfl) ?_
  refine W.ret (retC (M:=[KB nv ((⟨e.kind,e.writer,e.seq,e.name,e.value,0,0,0,[]⟩:Entry).name),KB vv ((⟨e.kind,e.writer,e.seq,e.name,e.value,0,0,0,[]⟩:Entry).value),KW (N0) ((⟨e.kind,e.writer,e.seq,e.name,e.value,0,0,0,[]⟩:Entry).wraps)]) (i:=1) rfl rfl rfl rfl ld33 (⟨(⟨e.kind,e.writer,e.seq,e.name,e.value,0,0,0,[]⟩:Entry),nv,vv,N0,(by unfold Spec.bare; simp [*]),rfl,rfl⟩) (es [4,4,0,4] rfl))
 refine Sn (Qu (OpQ.eql rfl rfl rfl) (k:=Qa (k:=Nl [(1,vptr b1 0),(2,vptr b2 0),(3,vptr b3 0),(12,vint e.kind),(21,.bool (decide (e.kind=2)))] ?_)))
 refine Cp rfl (fun h7=>?_) (fun h7=>?_)
 ·refine W.region (Qu (Of (fa33_3 _ _)) (k:=?_))
  refine Qu (Ol 2 ld22) (k:=Qu (Of (fa33_3 _ _)) (k:=?_))
  refine Nf 3 fun ho8=>?_
  refine Rn (OpRun.store (i:=0) (vs:=[nv]) (cs':=[vint e.kind,vint e.writer,vint e.seq,nv,N0,vint 0,vint 0,vint 0,N0]) rfl rfl rfl sz22 (cells_one ho8) rfl (one_cons ho8 one_nil) rfl (Lb rfl) rfl) (k:=?_)
  refine WN.nil (inblk_n (thn_n (Ww [(2,vptr b2 0),(3,vptr b3 0)] [Cl b3 33 [vint e.kind,vint e.writer,vint e.seq,nv,N0,vint 0,vint 0,vint 0,N0],Cl b2 33 [vint 0,vint 0,vint 0,N0,N0,vint 0,vint 0,vint 0,N0],Cl b1 33 (ecs e nv vv wv),KB nv e.name,KB vv e.value,KW wv e.wraps,Al R] ?_)))
  refine Sn (Qu (OpQ.loadN (i:=0) rfl rfl ld33 rfl rfl rfl) (k:=Rn (OpRun.store (i:=1) (vs:=[vint e.kind,vint e.writer,vint e.seq,nv,N0,vint 0,vint 0,vint 0,N0]) (cs':=[vint e.kind,vint e.writer,vint e.seq,nv,N0,vint 0,vint 0,vint 0,N0]) rfl rfl rfl sz33 rfl rfl (O3 (one_cons ho8 (O3 (one_cons rfl (one_cons rfl one_nil))))) rfl (Lb rfl) rfl) (k:=Nw [(2,vptr b2 0)] [Cl b2 33 [vint e.kind,vint e.writer,vint e.seq,nv,N0,vint 0,vint 0,vint 0,N0],Cl b3 33 [vint e.kind,vint e.writer,vint e.seq,nv,N0,vint 0,vint 0,vint 0,N0],Cl b1 33 (ecs e nv vv wv),KB nv e.name,KB vv e.value,KW wv e.wraps,Al R] ?_)))
  refine W.ent (Ent.slNil (e:=Enc.u8) (T:=5)) ?_
  refine W.ent (L':=[KB (N0) ([]),Cl b2 33 [vint e.kind,vint e.writer,vint e.seq,nv,N0,vint 0,vint 0,vint 0,N0],Cl b3 33 [vint e.kind,vint e.writer,vint e.seq,nv,N0,vint 0,vint 0,vint 0,N0],Cl b1 33 (ecs e nv vv wv),KB nv e.name,KB vv e.value,KW wv e.wraps,Al R]) (es [0,0,0,0,0,0,0,0] rfl) ?_
  refine W.ent (Ent.slNil (e:=Enc.wrap) (T:=227)) ?_
  refine W.ent (L':=[KW (N0) ([]),KB (N0) ([]),Cl b2 33 [vint e.kind,vint e.writer,vint e.seq,nv,N0,vint 0,vint 0,vint 0,N0],Cl b3 33 [vint e.kind,vint e.writer,vint e.seq,nv,N0,vint 0,vint 0,vint 0,N0],Cl b1 33 (ecs e nv vv wv),KB nv e.name,KB vv e.value,KW wv e.wraps,Al R]) (es [0,0,0,0,0,0,0,0,0] rfl) ?_
  refine W.ret (retC (M:=[KB nv ((⟨e.kind,e.writer,e.seq,e.name,[],0,0,0,[]⟩:Entry).name),KB (N0) ((⟨e.kind,e.writer,e.seq,e.name,[],0,0,0,[]⟩:Entry).value),KW (N0) ((⟨e.kind,e.writer,e.seq,e.name,[],0,0,0,[]⟩:Entry).wraps)]) (i:=2) rfl rfl rfl rfl ld33 (⟨(⟨e.kind,e.writer,e.seq,e.name,[],0,0,0,[]⟩:Entry),nv,N0,N0,(by unfold Spec.bare; simp [*]),rfl,rfl⟩) (es [5,1,0,5] rfl))
 refine Sn (Qu (OpQ.eql rfl rfl rfl) (k:=Qa (k:=Nl [(1,vptr b1 0),(2,vptr b2 0),(3,vptr b3 0),(12,vint e.kind),(26,.bool (decide (e.kind=3)))] ?_)))
 refine Cp rfl (fun h9=>?_) (fun h9=>?_)
 ·refine W.drawG mixed ?_
  refine Gq 0 [] rfl (Of (fa33_5 _ _)) ?_
  refine WG.hold (Cl b1 33 (ecs e nv vv wv),[]) ?_
  refine Gq 1 [2] rfl (Ol 0 ld3) ?_
  refine Gq 2 [2] rfl (Of (fa33_6 _ _)) ?_
  refine Gq 3 [2] rfl (Ol 0 ld3) ?_
  refine Gq 4 [2] rfl (Of (fa33_5 _ _)) ?_
  refine WG.one (i:=5) (by kernel_rfl) (UpG.run rfl rfl rfl (OpRun.store (i:=0) (vs:=[vint e.who]) (cs':=[vint e.kind,vint e.writer,vint e.seq,N0,N0,vint e.who,vint 0,vint 0,N0]) rfl rfl rfl sz3 rfl rfl (one_cons rfl one_nil) rfl (Lb rfl) rfl) ?_)
  rintro _ _ ⟨rfl,rfl⟩
  refine ⟨es [2] rfl,?_⟩
  refine Gq 6 [2] rfl (Of (fa33_6 _ _)) ?_
  refine WG.one (i:=7) (by kernel_rfl) (UpG.run rfl rfl rfl (OpRun.store (i:=0) (vs:=[vint e.rights]) (cs':=[vint e.kind,vint e.writer,vint e.seq,N0,N0,vint e.who,vint e.rights,vint 0,N0]) rfl rfl rfl sz3 rfl rfl (one_cons rfl one_nil) rfl (Lb rfl) rfl) ?_)
  rintro _ _ ⟨rfl,rfl⟩
  refine ⟨es [2] rfl,?_⟩
  refine WG.done (by kernel_rfl) ?_
  refine inblk_n (thn_n (Ww [(2,vptr b2 0),(3,vptr b3 0)] [Cl b3 33 [vint e.kind,vint e.writer,vint e.seq,N0,N0,vint e.who,vint e.rights,vint 0,N0],Cl b2 33 [vint 0,vint 0,vint 0,N0,N0,vint 0,vint 0,vint 0,N0],Cl b1 33 (ecs e nv vv wv),KB nv e.name,KB vv e.value,KW wv e.wraps,Al R] ?_))
  refine Sn (Qu (OpQ.loadN (i:=0) rfl rfl ld33 rfl rfl rfl) (k:=Rn (OpRun.store (i:=1) (vs:=[vint e.kind,vint e.writer,vint e.seq,N0,N0,vint e.who,vint e.rights,vint 0,N0]) (cs':=[vint e.kind,vint e.writer,vint e.seq,N0,N0,vint e.who,vint e.rights,vint 0,N0]) rfl rfl rfl sz33 rfl rfl (O3 (O3 (O3 one_nil))) rfl (Lb rfl) rfl) (k:=Nw [(2,vptr b2 0)] [Cl b2 33 [vint e.kind,vint e.writer,vint e.seq,N0,N0,vint e.who,vint e.rights,vint 0,N0],Cl b3 33 [vint e.kind,vint e.writer,vint e.seq,N0,N0,vint e.who,vint e.rights,vint 0,N0],Cl b1 33 (ecs e nv vv wv),KB nv e.name,KB vv e.value,KW wv e.wraps,Al R] ?_)))
  refine W.ent (Ent.slNil (e:=Enc.u8) (T:=5)) ?_
  refine W.ent (L':=[KB (N0) ([]),Cl b2 33 [vint e.kind,vint e.writer,vint e.seq,N0,N0,vint e.who,vint e.rights,vint 0,N0],Cl b3 33 [vint e.kind,vint e.writer,vint e.seq,N0,N0,vint e.who,vint e.rights,vint 0,N0],Cl b1 33 (ecs e nv vv wv),KB nv e.name,KB vv e.value,KW wv e.wraps,Al R]) (es [0,0,0,0,0,0,0,0] rfl) ?_
  refine W.ent (Ent.slNil (e:=Enc.u8) (T:=5)) ?_
  refine W.ent (L':=[KB (N0) ([]),KB (N0) ([]),Cl b2 33 [vint e.kind,vint e.writer,vint e.seq,N0,N0,vint e.who,vint e.rights,vint 0,N0],Cl b3 33 [vint e.kind,vint e.writer,vint e.seq,N0,N0,vint e.who,vint e.rights,vint 0,N0],Cl b1 33 (ecs e nv vv wv),KB nv e.name,KB vv e.value,KW wv e.wraps,Al R]) (es [0,0,0,0,0,0,0,0,0] rfl) ?_
  refine W.ent (Ent.slNil (e:=Enc.wrap) (T:=227)) ?_
  refine W.ent (L':=[KW (N0) ([]),KB (N0) ([]),KB (N0) ([]),Cl b2 33 [vint e.kind,vint e.writer,vint e.seq,N0,N0,vint e.who,vint e.rights,vint 0,N0],Cl b3 33 [vint e.kind,vint e.writer,vint e.seq,N0,N0,vint e.who,vint e.rights,vint 0,N0],Cl b1 33 (ecs e nv vv wv),KB nv e.name,KB vv e.value,KW wv e.wraps,Al R]) (es [0,0,0,0,0,0,0,0,0,0] rfl) ?_
  refine W.ret (retC (M:=[KB (N0) ((⟨e.kind,e.writer,e.seq,[],[],e.who,e.rights,0,[]⟩:Entry).name),KB (N0) ((⟨e.kind,e.writer,e.seq,[],[],e.who,e.rights,0,[]⟩:Entry).value),KW (N0) ((⟨e.kind,e.writer,e.seq,[],[],e.who,e.rights,0,[]⟩:Entry).wraps)]) (i:=3) rfl rfl rfl rfl ld33 (⟨(⟨e.kind,e.writer,e.seq,[],[],e.who,e.rights,0,[]⟩:Entry),N0,N0,N0,(by unfold Spec.bare; simp [*]),rfl,rfl⟩) (es [1,1,0,6] rfl))
 refine Sn (Qu (OpQ.eql rfl rfl rfl) (k:=Qa (k:=Nl [(1,vptr b1 0),(2,vptr b2 0),(3,vptr b3 0),(12,vint e.kind),(34,.bool (decide (e.kind=4)))] ?_)))
 refine Cp rfl (fun h10=>?_) (fun h10=>?_)
 ·refine W.region (Qu (Of (fa33_5 _ _)) (k:=?_))
  refine Qu (Ol 2 ld3) (k:=Qu (Of (fa33_5 _ _)) (k:=Rn (OpRun.store (i:=0) (vs:=[vint e.who]) (cs':=[vint e.kind,vint e.writer,vint e.seq,N0,N0,vint e.who,vint 0,vint 0,N0]) rfl rfl rfl sz3 rfl rfl (one_cons rfl one_nil) rfl (Lb rfl) rfl) (k:=?_)))
  refine WN.nil (inblk_n (thn_n (Ww [(2,vptr b2 0),(3,vptr b3 0)] [Cl b3 33 [vint e.kind,vint e.writer,vint e.seq,N0,N0,vint e.who,vint 0,vint 0,N0],Cl b2 33 [vint 0,vint 0,vint 0,N0,N0,vint 0,vint 0,vint 0,N0],Cl b1 33 (ecs e nv vv wv),KB nv e.name,KB vv e.value,KW wv e.wraps,Al R] ?_)))
  refine Sn (Qu (OpQ.loadN (i:=0) rfl rfl ld33 rfl rfl rfl) (k:=Rn (OpRun.store (i:=1) (vs:=[vint e.kind,vint e.writer,vint e.seq,N0,N0,vint e.who,vint 0,vint 0,N0]) (cs':=[vint e.kind,vint e.writer,vint e.seq,N0,N0,vint e.who,vint 0,vint 0,N0]) rfl rfl rfl sz33 rfl rfl (O3 (O3 (O3 one_nil))) rfl (Lb rfl) rfl) (k:=Nw [(2,vptr b2 0)] [Cl b2 33 [vint e.kind,vint e.writer,vint e.seq,N0,N0,vint e.who,vint 0,vint 0,N0],Cl b3 33 [vint e.kind,vint e.writer,vint e.seq,N0,N0,vint e.who,vint 0,vint 0,N0],Cl b1 33 (ecs e nv vv wv),KB nv e.name,KB vv e.value,KW wv e.wraps,Al R] ?_)))
  refine W.ent (Ent.slNil (e:=Enc.u8) (T:=5)) ?_
  refine W.ent (L':=[KB (N0) ([]),Cl b2 33 [vint e.kind,vint e.writer,vint e.seq,N0,N0,vint e.who,vint 0,vint 0,N0],Cl b3 33 [vint e.kind,vint e.writer,vint e.seq,N0,N0,vint e.who,vint 0,vint 0,N0],Cl b1 33 (ecs e nv vv wv),KB nv e.name,KB vv e.value,KW wv e.wraps,Al R]) (es [0,0,0,0,0,0,0,0] rfl) ?_
  refine W.ent (Ent.slNil (e:=Enc.u8) (T:=5)) ?_
  refine W.ent (L':=[KB (N0) ([]),KB (N0) ([]),Cl b2 33 [vint e.kind,vint e.writer,vint e.seq,N0,N0,vint e.who,vint 0,vint 0,N0],Cl b3 33 [vint e.kind,vint e.writer,vint e.seq,N0,N0,vint e.who,vint 0,vint 0,N0],Cl b1 33 (ecs e nv vv wv),KB nv e.name,KB vv e.value,KW wv e.wraps,Al R]) (es [0,0,0,0,0,0,0,0,0] rfl) ?_
  refine W.ent (Ent.slNil (e:=Enc.wrap) (T:=227)) ?_
  refine W.ent (L':=[KW (N0) ([]),KB (N0) ([]),KB (N0) ([]),Cl b2 33 [vint e.kind,vint e.writer,vint e.seq,N0,N0,vint e.who,vint 0,vint 0,N0],Cl b3 33 [vint e.kind,vint e.writer,vint e.seq,N0,N0,vint e.who,vint 0,vint 0,N0],Cl b1 33 (ecs e nv vv wv),KB nv e.name,KB vv e.value,KW wv e.wraps,Al R]) (es [0,0,0,0,0,0,0,0,0,0] rfl) ?_
  refine W.ret (retC (M:=[KB (N0) ((⟨e.kind,e.writer,e.seq,[],[],e.who,0,0,[]⟩:Entry).name),KB (N0) ((⟨e.kind,e.writer,e.seq,[],[],e.who,0,0,[]⟩:Entry).value),KW (N0) ((⟨e.kind,e.writer,e.seq,[],[],e.who,0,0,[]⟩:Entry).wraps)]) (i:=3) rfl rfl rfl rfl ld33 (⟨(⟨e.kind,e.writer,e.seq,[],[],e.who,0,0,[]⟩:Entry),N0,N0,N0,(by unfold Spec.bare; simp [*]),rfl,rfl⟩) (es [1,1,0,6] rfl))
 refine Sn (Qu (OpQ.eql rfl rfl rfl) (k:=Qa (k:=Nl [(1,vptr b1 0),(2,vptr b2 0),(3,vptr b3 0),(39,.bool (decide (e.kind=5)))] ?_)))
 refine Cp rfl (fun h11=>?_) (fun h11=>?_)
 ·refine W.drawG mixed ?_
  refine Gq 0 [] rfl (Of (fa33_7 _ _)) ?_
  refine WG.hold (Cl b1 33 (ecs e nv vv wv),[]) ?_
  refine Gq 1 [2] rfl (Ol 0 ld3) ?_
  refine Gq 2 [2] rfl (Of (fa33_8 _ _)) ?_
  refine Gq 3 [2] rfl (Ol 0 ld31) ?_
  refine Gq 4 [2] rfl (Of (fa33_7 _ _)) ?_
  refine WG.one (i:=5) (by kernel_rfl) (UpG.run rfl rfl rfl (OpRun.store (i:=0) (vs:=[vint e.epoch]) (cs':=[vint e.kind,vint e.writer,vint e.seq,N0,N0,vint 0,vint 0,vint e.epoch,N0]) rfl rfl rfl sz3 rfl rfl (one_cons rfl one_nil) rfl (Lb rfl) rfl) ?_)
  rintro _ _ ⟨rfl,rfl⟩
  refine ⟨es [2] rfl,?_⟩
  refine Gq 6 [2] rfl (Of (fa33_8 _ _)) ?_
  refine WG.fact (fun _ _ s=>(sl_facts (i:=5) rfl s).2.2) (fun ho12=>?_)
  refine WG.one (i:=7) (by kernel_rfl) (UpG.run rfl rfl rfl (OpRun.store (i:=0) (vs:=[wv]) (cs':=[vint e.kind,vint e.writer,vint e.seq,N0,N0,vint 0,vint 0,vint e.epoch,wv]) rfl rfl rfl sz31 (cells_one ho12) rfl (one_cons ho12 one_nil) rfl (Lb rfl) rfl) ?_)
  rintro _ _ ⟨rfl,rfl⟩
  refine ⟨es [2] rfl,?_⟩
  refine WG.done (by kernel_rfl) ?_
  refine inblk_n (thn_n (Ww [(2,vptr b2 0),(3,vptr b3 0)] [Cl b3 33 [vint e.kind,vint e.writer,vint e.seq,N0,N0,vint 0,vint 0,vint e.epoch,wv],Cl b2 33 [vint 0,vint 0,vint 0,N0,N0,vint 0,vint 0,vint 0,N0],Cl b1 33 (ecs e nv vv wv),KB nv e.name,KB vv e.value,KW wv e.wraps,Al R] ?_))
  refine Sn (Qu (OpQ.loadN (i:=0) rfl rfl ld33 rfl rfl rfl) (k:=Rn (OpRun.store (i:=1) (vs:=[vint e.kind,vint e.writer,vint e.seq,N0,N0,vint 0,vint 0,vint e.epoch,wv]) (cs':=[vint e.kind,vint e.writer,vint e.seq,N0,N0,vint 0,vint 0,vint e.epoch,wv]) rfl rfl rfl sz33 rfl rfl (O3 (O3 (one_cons rfl (one_cons rfl (one_cons ho12 one_nil))))) rfl (Lb rfl) rfl) (k:=Nw [(2,vptr b2 0)] [Cl b2 33 [vint e.kind,vint e.writer,vint e.seq,N0,N0,vint 0,vint 0,vint e.epoch,wv],Cl b3 33 [vint e.kind,vint e.writer,vint e.seq,N0,N0,vint 0,vint 0,vint e.epoch,wv],Cl b1 33 (ecs e nv vv wv),KB nv e.name,KB vv e.value,KW wv e.wraps,Al R] ?_)))
  refine W.ent (Ent.slNil (e:=Enc.u8) (T:=5)) ?_
  refine W.ent (L':=[KB (N0) ([]),Cl b2 33 [vint e.kind,vint e.writer,vint e.seq,N0,N0,vint 0,vint 0,vint e.epoch,wv],Cl b3 33 [vint e.kind,vint e.writer,vint e.seq,N0,N0,vint 0,vint 0,vint e.epoch,wv],Cl b1 33 (ecs e nv vv wv),KB nv e.name,KB vv e.value,KW wv e.wraps,Al R]) (es [0,0,0,0,0,0,0,0] rfl) ?_
  refine W.ent (Ent.slNil (e:=Enc.u8) (T:=5)) ?_
  refine W.ent (L':=[KB (N0) ([]),KB (N0) ([]),Cl b2 33 [vint e.kind,vint e.writer,vint e.seq,N0,N0,vint 0,vint 0,vint e.epoch,wv],Cl b3 33 [vint e.kind,vint e.writer,vint e.seq,N0,N0,vint 0,vint 0,vint e.epoch,wv],Cl b1 33 (ecs e nv vv wv),KB nv e.name,KB vv e.value,KW wv e.wraps,Al R]) (es [0,0,0,0,0,0,0,0,0] rfl) ?_
  refine W.ret (retC (M:=[KB (N0) ((⟨e.kind,e.writer,e.seq,[],[],0,0,e.epoch,e.wraps⟩:Entry).name),KB (N0) ((⟨e.kind,e.writer,e.seq,[],[],0,0,e.epoch,e.wraps⟩:Entry).value),KW wv ((⟨e.kind,e.writer,e.seq,[],[],0,0,e.epoch,e.wraps⟩:Entry).wraps)]) (i:=2) rfl rfl rfl rfl ld33 (⟨(⟨e.kind,e.writer,e.seq,[],[],0,0,e.epoch,e.wraps⟩:Entry),N0,N0,wv,(by unfold Spec.bare; simp [*]),rfl,rfl⟩) (es [0,0,5,5] rfl))
 refine W.skip (inblk_n (thn_n (Wl [(2,vptr b2 0),(3,vptr b3 0)] ?_)))
 refine Sn (Qu (OpQ.loadN (i:=0) rfl rfl ld33 rfl rfl rfl) (k:=Rn (OpRun.store (i:=1) (vs:=[vint e.kind,vint e.writer,vint e.seq,N0,N0,vint 0,vint 0,vint 0,N0]) (cs':=[vint e.kind,vint e.writer,vint e.seq,N0,N0,vint 0,vint 0,vint 0,N0]) rfl rfl rfl sz33 rfl rfl (O3 (O3 (O3 one_nil))) rfl (Lb rfl) rfl) (k:=Nw [(2,vptr b2 0)] [Cl b2 33 [vint e.kind,vint e.writer,vint e.seq,N0,N0,vint 0,vint 0,vint 0,N0],Cl b3 33 [vint e.kind,vint e.writer,vint e.seq,N0,N0,vint 0,vint 0,vint 0,N0],Cl b1 33 (ecs e nv vv wv),KB nv e.name,KB vv e.value,KW wv e.wraps,Al R] ?_)))
 refine W.ent (Ent.slNil (e:=Enc.u8) (T:=5)) ?_
 refine W.ent (L':=[KB (N0) ([]),Cl b2 33 [vint e.kind,vint e.writer,vint e.seq,N0,N0,vint 0,vint 0,vint 0,N0],Cl b3 33 [vint e.kind,vint e.writer,vint e.seq,N0,N0,vint 0,vint 0,vint 0,N0],Cl b1 33 (ecs e nv vv wv),KB nv e.name,KB vv e.value,KW wv e.wraps,Al R]) (es [0,0,0,0,0,0,0,0] rfl) ?_
 refine W.ent (Ent.slNil (e:=Enc.u8) (T:=5)) ?_
 refine W.ent (L':=[KB (N0) ([]),KB (N0) ([]),Cl b2 33 [vint e.kind,vint e.writer,vint e.seq,N0,N0,vint 0,vint 0,vint 0,N0],Cl b3 33 [vint e.kind,vint e.writer,vint e.seq,N0,N0,vint 0,vint 0,vint 0,N0],Cl b1 33 (ecs e nv vv wv),KB nv e.name,KB vv e.value,KW wv e.wraps,Al R]) (es [0,0,0,0,0,0,0,0,0] rfl) ?_
 refine W.ent (Ent.slNil (e:=Enc.wrap) (T:=227)) ?_
 refine W.ent (L':=[KW (N0) ([]),KB (N0) ([]),KB (N0) ([]),Cl b2 33 [vint e.kind,vint e.writer,vint e.seq,N0,N0,vint 0,vint 0,vint 0,N0],Cl b3 33 [vint e.kind,vint e.writer,vint e.seq,N0,N0,vint 0,vint 0,vint 0,N0],Cl b1 33 (ecs e nv vv wv),KB nv e.name,KB vv e.value,KW wv e.wraps,Al R]) (es [0,0,0,0,0,0,0,0,0,0] rfl) ?_
 refine W.ret (retC (M:=[KB (N0) ((⟨e.kind,e.writer,e.seq,[],[],0,0,0,[]⟩:Entry).name),KB (N0) ((⟨e.kind,e.writer,e.seq,[],[],0,0,0,[]⟩:Entry).value),KW (N0) ((⟨e.kind,e.writer,e.seq,[],[],0,0,0,[]⟩:Entry).wraps)]) (i:=3) rfl rfl rfl rfl ld33 (⟨(⟨e.kind,e.writer,e.seq,[],[],0,0,0,[]⟩:Entry),N0,N0,N0,(by unfold Spec.bare; simp [*]),rfl,rfl⟩) (es [1,1,0,6] rfl))
theorem wraps_fn (l:Value) (ws:List Wrap):Fn Tryz.prog 284 #[l] [KW l ws] (fun v M=>.bool (Spec.wrapsOk ws)=v∧M=[]):=by
 refine Fi 41 Tryz.func284 fun g R=>?_
 refine Ww [(0,l)] [KW l ws,Al R] ?_
 refine Sn (Qa (k:=Nl [(0,l),(2,.bool false)] ?_))
 refine W.seq (Sn (Qm (k:=?_)))
 refine Nk 0 fun hl1=>?_
 refine Qu (OpQ.lenSl (i:=0) rfl rfl rfl (len31 _)) (k:=Qm (k:=Nl [(0,l),(2,.bool false),(5,l),(6,vint (ws.length:Int)),(7,vint 0)] ?_))
 refine W.block (W.opens Opens.sl (i:=0) rfl (fun f2 _=>?_))
 refine We [Ka 227 2 l ws.length f2,Kr Enc.wrap f2 ws,Al R] ?_
 refine W.loop (X:=Nat) (fun k=>[(0,l),(5,l),(6,vint (ws.length:Int)),(7,vint (k:Int))]) (fun k=>[Asn.pure (k≤ws.length∧∀ i,i < k→Spec.wrapAt ws i),Ka 227 2 l ws.length f2,Kr Enc.wrap f2 ws,Al R]) (fun k=>ws.length - k) 0 ⟨rfl,rfl,rfl,rfl,trivial⟩ ((es [0,0,0] rfl).trans (Ent.pure_in (by exact ⟨Nat.zero_le _,fun i hi=>absurd hi (Nat.not_lt_zero _)⟩))) (fun x=>?_)
 obtain ⟨k,rfl⟩:∃ y,y=x:=⟨x,rfl⟩
 show W _ _ _ _ _ [(0,l),(5,l),(6,vint (ws.length:Int)),(7,vint (k:Int))] [Asn.pure (k≤ws.length∧∀ i,i < k→Spec.wrapAt ws i),Ka 227 2 l ws.length f2,Kr Enc.wrap f2 ws,Al R]
 refine W.opens Opens.pure (i:=0) rfl (fun _ hI3=>?_)
 replace hI3:=hI3
 show W _ _ _ _ _ [(0,l),(5,l),(6,vint (ws.length:Int)),(7,vint (k:Int))] [Ka 227 2 l ws.length f2,Kr Enc.wrap f2 ws,Al R]
 refine Sn (Qu (OpQ.lss rfl rfl rfl) (k:=Nl [(0,l),(5,l),(6,vint (ws.length:Int)),(7,vint (k:Int)),(8,.bool (decide ((k:Int) < (ws.length:Int))))] ?_))
 refine W.seq (Cp rfl (fun h4=>?_) (fun h4=>?_))
 ·refine W.skip (thn_n (Wl [(0,l),(5,l),(6,vint (ws.length:Int)),(7,vint (k:Int))] ?_))
  refine W.seq (W.block (Sn (Qm (k:=?_))))
  refine WN.opens (Opens.wrap (xs:=ws) (i:=k) (by omega)) (i:=1) rfl (fun z he5=>?_)
  refine Ne [KB z ((ws.getD k default).box),Kr Enc.wrap f2 ws,Ka 227 2 l ws.length f2,Al R] (Qu (OpQ.indexAddr (i:=2) (j:=k*2) rfl rfl rfl rfl (by omega) (by omega) (by omega) ix31) (k:=Qu (OpQ.loadSubN (i:=2) rfl rfl rfl he5 rfl (by omega) (by decide) ld227) (k:=?_)))
  refine Ru (OpRun.alloc rfl zv227 rfl) ?_
  rintro _ _ ⟨b6,rfl,rfl⟩
  refine Qa (k:=?_)
  refine Nf 1 fun ho7=>?_
  refine Rn (OpRun.store (i:=0) (vs:=[vint ((ws.getD k default).who),z]) (cs':=[vint ((ws.getD k default).who),z]) rfl rfl rfl sz227 rfl rfl (one_cons rfl (one_cons ho7 one_nil)) rfl (Lb rfl) rfl) (k:=Nw [(0,l),(3,vint (k:Int)),(4,vptr b6 0),(5,l),(6,vint (ws.length:Int)),(7,vint (k:Int))] [Cl b6 227 [vint ((ws.getD k default).who),z],KB z ((ws.getD k default).box),Kr Enc.wrap f2 ws,Ka 227 2 l ws.length f2,Al R] ?_)
  refine W.seq (W.drawG mixed ?_)
  refine Gq 0 [] rfl (Of (fa227_0 _ _)) ?_
  refine WG.hold (Cl b6 227 [vint ((ws.getD k default).who),z],[]) ?_
  refine Gq 1 [0] rfl (Ol 0 ld3) ?_
  refine WG.one (i:=2) (by kernel_rfl) (UpG.call rfl rfl rfl (OpCall.mk (xs:=[.tmp 13,.const (.int .i64 1),.const (.int .i64 16)]) (vs:=[vint ((ws.getD k default).who),vint 1,vint 16]) rfl ⟨rfl,rfl,rfl,trivial⟩ Tryz.call282) (within_fn ((ws.getD k default).who) 1 16) (ep [] rfl) ?_)
  rintro _ _ ⟨rfl,rfl⟩
  refine ⟨es [0] rfl,?_⟩
  by_cases h8:¬ (1≤((ws.getD k default).who)∧((ws.getD k default).who)≤16)
  ·refine Gq 3 [0] rfl (OpQ.decT (OpQ.notP rfl rfl) h8) ?_
   refine Gq 4 [0] rfl (OpQ.move rfl rfl) ?_
   refine Gs 5 [0] ?_
   refine Gs 6 [0] ?_
   refine Gs 7 [0] ?_
   refine Gs 8 [0] ?_
   refine Gq 9 [0] rfl (OpQ.pickT rfl rfl rfl) ?_
   refine Gq 10 [0] rfl (OpQ.move rfl rfl) ?_
   refine Gs 11 [0] ?_
   refine Gs 12 [0] ?_
   refine Gs 13 [0] ?_
   refine Gs 14 [0] ?_
   refine Gs 15 [0] ?_
   refine Gs 16 [0] ?_
   refine Gs 17 [0] ?_
   refine Gs 18 [0] ?_
   refine Gs 19 [0] ?_
   refine Gs 20 [0] ?_
   refine Gs 21 [0] ?_
   refine Gs 22 [0] ?_
   refine Gs 23 [0] ?_
   refine Gq 24 [0] rfl (OpQ.pickT rfl rfl rfl) ?_
   refine WG.done (by kernel_rfl) ?_
   refine thn_n (Ww [(0,l),(5,l),(6,vint (ws.length:Int)),(7,vint (k:Int)),(36,.bool true)] [Cl b6 227 [vint ((ws.getD k default).who),z],KB z ((ws.getD k default).box),Kr Enc.wrap f2 ws,Ka 227 2 l ws.length f2,Al R] ?_)
   refine W.condT rfl ?_
   refine Sn (Qa (k:=Nl [(0,l),(2,.bool false),(5,l),(6,vint (ws.length:Int)),(7,vint (k:Int))] ?_))
   refine W.ret (inblk_r (thn_r (thn_r (inblk_r (thn_r (ret1 (M:=[]) rfl rfl (⟨(congrArg Value.bool (Spec.wrapsOk_F (k:=k) (by omega) (by unfold Spec.wrapAt; omega))),rfl⟩) (es [4] rfl)))))))
  refine Gq 3 [0] rfl (OpQ.decF (OpQ.notP rfl rfl) h8) ?_
  refine Gq 4 [0] rfl (OpQ.move rfl rfl) ?_
  refine Gq 5 [0] rfl (Of (fa227_1 _ _)) ?_
  refine Gq 6 [0] rfl (Ol 0 ld22) ?_
  refine WG.hold (KB z ((ws.getD k default).box),[]) ?_
  refine WG.fact (fun _ _ s=>(sl_facts (i:=1) rfl s).2.1) (fun hl9=>?_)
  refine Gq 7 [1,0] rfl (OpQ.lenSl (i:=0) rfl rfl rfl (len22 _)) ?_
  refine Gq 8 [1,0] rfl (OpQ.neq rfl rfl rfl) ?_
  by_cases h10:(((ws.getD k default).box).length:Int)≠48
  ·refine Gq 9 [1,0] rfl (OpQ.decT (OpQ.pickF rfl rfl rfl) h10) ?_
   refine Gq 10 [1,0] rfl (OpQ.move rfl rfl) ?_
   refine Gs 11 [1,0] ?_
   refine Gs 12 [1,0] ?_
   refine Gs 13 [1,0] ?_
   refine Gs 14 [1,0] ?_
   refine Gs 15 [1,0] ?_
   refine Gs 16 [1,0] ?_
   refine Gs 17 [1,0] ?_
   refine Gs 18 [1,0] ?_
   refine Gs 19 [1,0] ?_
   refine Gs 20 [1,0] ?_
   refine Gs 21 [1,0] ?_
   refine Gs 22 [1,0] ?_
   refine Gs 23 [1,0] ?_
   refine Gq 24 [1,0] rfl (OpQ.pickT rfl rfl rfl) ?_
   refine WG.done (by kernel_rfl) ?_
   refine thn_n (Ww [(0,l),(5,l),(6,vint (ws.length:Int)),(7,vint (k:Int)),(36,.bool true)] [Cl b6 227 [vint ((ws.getD k default).who),z],KB z ((ws.getD k default).box),Kr Enc.wrap f2 ws,Ka 227 2 l ws.length f2,Al R] ?_)
   refine W.condT rfl ?_
   refine Sn (Qa (k:=Nl [(0,l),(2,.bool false),(5,l),(6,vint (ws.length:Int)),(7,vint (k:Int))] ?_))
   refine W.ret (inblk_r (thn_r (thn_r (inblk_r (thn_r (ret1 (M:=[]) rfl rfl (⟨(congrArg Value.bool (Spec.wrapsOk_F (k:=k) (by omega) (by unfold Spec.wrapAt; omega))),rfl⟩) (es [4] rfl)))))))
  refine Gq 9 [1,0] rfl (OpQ.decF (OpQ.pickF rfl rfl rfl) h10) ?_
  refine Gq 10 [1,0] rfl (OpQ.move rfl rfl) ?_
  refine Gq 11 [1,0] rfl (OpQ.move rfl rfl) ?_
  by_cases h11:(k:Int) > 0
  ·refine Gq 12 [1,0] rfl (OpQ.decT (OpQ.gtr rfl rfl rfl) h11) ?_
   refine Gq 13 [1,0] rfl (OpQ.move rfl rfl) ?_
   refine Gq 14 [1,0] rfl (Of (fa227_0 _ _)) ?_
   refine Gq 15 [1,0] rfl (Ol 1 ld3) ?_
   refine Gq 16 [1,0] rfl (OpQ.move rfl rfl) ?_
   refine Gq 17 [1,0] rfl (OpQ.move rfl rfl) ?_
   refine Gq 18 [1,0] rfl (OpQ.sub rfl rfl rfl ⟨by omega,by omega⟩) ?_
   refine WG.opens (Opens.wrap (xs:=ws) (i:=(k - 1)) (by omega)) (j:=2) rfl (fun y he12=>?_)
   refine WG.ent (L':=[KB y ((ws.getD (k - 1) default).box),Kr Enc.wrap f2 ws,Cl b6 227 [vint ((ws.getD k default).who),z],KB z ((ws.getD k default).box),Ka 227 2 l ws.length f2,Al R]) er ?_
   refine WG.hold (Ka 227 2 l ws.length f2,[]) ?_
   refine Gq 19 [4,3,2] rfl (OpQ.indexAddr (i:=0) (j:=(k - 1)*2) rfl rfl rfl rfl (by omega) (by omega) (by omega) ix31) ?_
   refine Gq 20 [4,3,2] rfl (OpQ.fieldE (i:=0) (k:=0) rfl rfl rfl (by omega) (fun b o w=>fa227_0 b o w) rfl) ?_
   refine Gq 21 [4,3,2] rfl (OpQ.loadSub (i:=0) (c:=0) rfl rfl rfl he12 (by omega) (by omega) rfl ld3) ?_
   refine Gq 22 [4,3,2] rfl (OpQ.leq rfl rfl rfl) ?_
   refine Gq 23 [4,3,2] rfl (OpQ.pickT rfl rfl rfl) ?_
   refine Gq 24 [4,3,2] rfl (OpQ.pickF rfl rfl rfl) ?_
   refine WG.done (by kernel_rfl) ?_
   refine thn_n (Wl [(0,l),(5,l),(6,vint (ws.length:Int)),(7,vint (k:Int)),(36,.bool (decide ((ws.getD k default).who≤(ws.getD (k - 1) default).who)))] ?_)
   refine Cp rfl (fun h13=>?_) (fun h13=>?_)
   ·refine Sn (Qa (k:=Nl [(0,l),(2,.bool false),(5,l),(6,vint (ws.length:Int)),(7,vint (k:Int))] ?_))
    refine W.ret (inblk_r (thn_r (thn_r (inblk_r (thn_r (ret1 (M:=[]) rfl rfl (⟨(congrArg Value.bool (Spec.wrapsOk_F (k:=k) (by omega) (by unfold Spec.wrapAt; omega))),rfl⟩) (es [5] rfl)))))))
   refine W.skip (inblk_n (thn_n (Wl [(0,l),(5,l),(6,vint (ws.length:Int)),(7,vint (k:Int))] ?_)))
   refine W.region (Qu (OpQ.add rfl rfl rfl ⟨by omega,by omega⟩) (k:=?_))
   refine Qm (k:=?_)
   refine WN.nil (thn_n ⟨(k+1),by (show ws.length - (k+1) < ws.length - k); omega,⟨rfl,rfl,rfl,(Eq.trans (b:=some (vint ((k:Int)+1))) rfl (by first | rfl | (congr 2; omega))),trivial⟩,?_⟩)
   exact (es [4,1,3] rfl).trans (Ent.pure_in (by exact ⟨by omega,Spec.all_succ hI3.2 (by unfold Spec.wrapAt; omega)⟩))
  refine Gq 12 [1,0] rfl (OpQ.decF (OpQ.gtr rfl rfl rfl) h11) ?_
  refine Gq 13 [1,0] rfl (OpQ.move rfl rfl) ?_
  refine Gs 14 [1,0] ?_
  refine Gs 15 [1,0] ?_
  refine Gs 16 [1,0] ?_
  refine Gs 17 [1,0] ?_
  refine Gs 18 [1,0] ?_
  refine Gs 19 [1,0] ?_
  refine Gs 20 [1,0] ?_
  refine Gs 21 [1,0] ?_
  refine Gs 22 [1,0] ?_
  refine Gq 23 [1,0] rfl (OpQ.pickF rfl rfl rfl) ?_
  refine Gq 24 [1,0] rfl (OpQ.pickF rfl rfl rfl) ?_
  refine WG.done (by kernel_rfl) ?_
  refine thn_n (Ww [(0,l),(5,l),(6,vint (ws.length:Int)),(7,vint (k:Int)),(36,.bool false)] [Cl b6 227 [vint ((ws.getD k default).who),z],KB z ((ws.getD k default).box),Kr Enc.wrap f2 ws,Ka 227 2 l ws.length f2,Al R] ?_)
  refine W.condF rfl ?_
  refine W.skip (inblk_n (thn_n (Wl [(0,l),(5,l),(6,vint (ws.length:Int)),(7,vint (k:Int))] ?_)))
  refine W.region (Qu (OpQ.add rfl rfl rfl ⟨by omega,by omega⟩) (k:=?_))
  refine Qm (k:=?_)
  refine WN.nil (thn_n ⟨(k+1),by (show ws.length - (k+1) < ws.length - k); omega,⟨rfl,rfl,rfl,(Eq.trans (b:=some (vint ((k:Int)+1))) rfl (by first | rfl | (congr 2; omega))),trivial⟩,?_⟩)
  exact (es [3,2,2] rfl).trans (Ent.pure_in (by exact ⟨by omega,Spec.all_succ hI3.2 (by unfold Spec.wrapAt; omega)⟩))
 obtain rfl:k=ws.length:=by omega
 refine W.exit (thn_x (thn_x (inblk_x (thn_n (Wl [(0,l)] ?_)))))
 refine Sn (Qm (k:=?_))
 refine WN.fact (fun _ _ s=>(slat_facts (i:=0) rfl s).2.1) (fun hl14=>?_)
 refine Qu (OpQ.lenAt (i:=0) rfl rfl rfl (len31 _)) (k:=Qu (OpQ.leq rfl rfl rfl) (k:=Qa (k:=Nl [(2,.bool (decide ((ws.length:Int)≤16)))] ?_)))
 refine W.ret (ret1 (M:=[]) rfl rfl (⟨(by rw [Spec.wrapsOk_all hI3.2]; exact bool_dec (by omega)),rfl⟩) (es [2] rfl))
theorem Right_fn (e:Entry) (nv:Value) (vv:Value) (wv:Value):Fn Tryz.prog 204 #[.agg #[vint e.kind,vint e.writer,vint e.seq,nv,vv,vint e.who,vint e.rights,vint e.epoch,wv]] [KB nv e.name,KB vv e.value,KW wv e.wraps] (fun v M=>.bool (Spec.right e)=v∧M=[]):=by
 refine Fi 64 Tryz.func204 fun g R=>?_
 refine Ww [(0,.agg #[vint e.kind,vint e.writer,vint e.seq,nv,vv,vint e.who,vint e.rights,vint e.epoch,wv])] [KB nv e.name,KB vv e.value,KW wv e.wraps,Al R] ?_
 refine Sn (Ru (OpRun.box rfl rfl rfl) ?_)
 rintro _ _ ⟨b1,rfl,rfl⟩
 refine Qa (k:=Nw [(1,vptr b1 0),(2,.bool false)] [Cl b1 33 (ecs e nv vv wv),KB nv e.name,KB vv e.value,KW wv e.wraps,Al R] ?_)
 refine W.seq (W.seq (W.drawG mixed ?_))
 refine Gq 0 [] rfl (Of (fa33_0 _ _)) ?_
 refine WG.hold (Cl b1 33 (ecs e nv vv wv),[]) ?_
 refine Gq 1 [0] rfl (Ol 0 ld3) ?_
 refine WG.one (i:=2) (by kernel_rfl) (UpG.call rfl rfl rfl (OpCall.mk (xs:=[.tmp 4,.const (.int .i64 1),.const (.int .i64 5)]) (vs:=[vint e.kind,vint 1,vint 5]) rfl ⟨rfl,rfl,rfl,trivial⟩ Tryz.call282) (within_fn e.kind 1 5) (ep [] rfl) ?_)
 rintro _ _ ⟨rfl,rfl⟩
 refine ⟨es [0] rfl,?_⟩
 by_cases h2:¬ (1≤e.kind∧e.kind≤5)
 ·refine Gq 3 [0] rfl (OpQ.decT (OpQ.notP rfl rfl) h2) ?_
  refine Gq 4 [0] rfl (OpQ.move rfl rfl) ?_
  refine Gs 5 [0] ?_
  refine Gs 6 [0] ?_
  refine Gs 7 [0] ?_
  refine Gs 8 [0] ?_
  refine Gq 9 [0] rfl (OpQ.pickT rfl rfl rfl) ?_
  refine Gq 10 [0] rfl (OpQ.move rfl rfl) ?_
  refine Gs 11 [0] ?_
  refine Gs 12 [0] ?_
  refine Gs 13 [0] ?_
  refine Gs 14 [0] ?_
  refine Gq 15 [0] rfl (OpQ.pickT rfl rfl rfl) ?_
  refine Gq 16 [0] rfl (OpQ.move rfl rfl) ?_
  refine Gs 17 [0] ?_
  refine Gs 18 [0] ?_
  refine Gs 19 [0] ?_
  refine Gs 20 [0] ?_
  refine Gs 21 [0] ?_
  refine Gq 22 [0] rfl (OpQ.pickT rfl rfl rfl) ?_
  refine WG.done (by kernel_rfl) ?_
  refine thn_n (Ww [(1,vptr b1 0),(2,.bool false),(25,.bool true)] [Cl b1 33 (ecs e nv vv wv),KB nv e.name,KB vv e.value,KW wv e.wraps,Al R] ?_)
  refine W.condT rfl ?_
  refine Sn (Qa (k:=Nl [(1,vptr b1 0),(2,.bool false)] ?_))
  refine W.ret (thn_r (ret1 (M:=[]) rfl rfl (⟨(congrArg Value.bool (Spec.right_F' (by omega))),rfl⟩) (es [4] rfl)))
 refine Gq 3 [0] rfl (OpQ.decF (OpQ.notP rfl rfl) h2) ?_
 refine Gq 4 [0] rfl (OpQ.move rfl rfl) ?_
 refine Gq 5 [0] rfl (Of (fa33_1 _ _)) ?_
 refine Gq 6 [0] rfl (Ol 0 ld3) ?_
 refine WG.one (i:=7) (by kernel_rfl) (UpG.call rfl rfl rfl (OpCall.mk (xs:=[.tmp 9,.const (.int .i64 1),.const (.int .i64 16)]) (vs:=[vint e.writer,vint 1,vint 16]) rfl ⟨rfl,rfl,rfl,trivial⟩ Tryz.call282) (within_fn e.writer 1 16) (ep [] rfl) ?_)
 rintro _ _ ⟨rfl,rfl⟩
 refine ⟨es [0] rfl,?_⟩
 refine Gq 8 [0] rfl (OpQ.notP rfl rfl) ?_
 by_cases h3:¬ (1≤e.writer∧e.writer≤16)
 ·refine Gq 9 [0] rfl (OpQ.decT (OpQ.pickF rfl rfl rfl) h3) ?_
  refine Gq 10 [0] rfl (OpQ.move rfl rfl) ?_
  refine Gs 11 [0] ?_
  refine Gs 12 [0] ?_
  refine Gs 13 [0] ?_
  refine Gs 14 [0] ?_
  refine Gq 15 [0] rfl (OpQ.pickT rfl rfl rfl) ?_
  refine Gq 16 [0] rfl (OpQ.move rfl rfl) ?_
  refine Gs 17 [0] ?_
  refine Gs 18 [0] ?_
  refine Gs 19 [0] ?_
  refine Gs 20 [0] ?_
  refine Gs 21 [0] ?_
  refine Gq 22 [0] rfl (OpQ.pickT rfl rfl rfl) ?_
  refine WG.done (by kernel_rfl) ?_
  refine thn_n (Ww [(1,vptr b1 0),(2,.bool false),(25,.bool true)] [Cl b1 33 (ecs e nv vv wv),KB nv e.name,KB vv e.value,KW wv e.wraps,Al R] ?_)
  refine W.condT rfl ?_
  refine Sn (Qa (k:=Nl [(1,vptr b1 0),(2,.bool false)] ?_))
  refine W.ret (thn_r (ret1 (M:=[]) rfl rfl (⟨(congrArg Value.bool (Spec.right_F' (by omega))),rfl⟩) (es [4] rfl)))
 refine Gq 9 [0] rfl (OpQ.decF (OpQ.pickF rfl rfl rfl) h3) ?_
 refine Gq 10 [0] rfl (OpQ.move rfl rfl) ?_
 refine Gq 11 [0] rfl (Of (fa33_2 _ _)) ?_
 refine Gq 12 [0] rfl (Ol 0 ld3) ?_
 refine WG.one (i:=13) (by kernel_rfl) (UpG.call rfl rfl rfl (OpCall.mk (xs:=[.tmp 15,.const (.int .i64 1),.const (.int .i64 1099511627776)]) (vs:=[vint e.seq,vint 1,vint 1099511627776]) rfl ⟨rfl,rfl,rfl,trivial⟩ Tryz.call282) (within_fn e.seq 1 1099511627776) (ep [] rfl) ?_)
 rintro _ _ ⟨rfl,rfl⟩
 refine ⟨es [0] rfl,?_⟩
 refine Gq 14 [0] rfl (OpQ.notP rfl rfl) ?_
 by_cases h4:¬ (1≤e.seq∧e.seq≤1099511627776)
 ·refine Gq 15 [0] rfl (OpQ.decT (OpQ.pickF rfl rfl rfl) h4) ?_
  refine Gq 16 [0] rfl (OpQ.move rfl rfl) ?_
  refine Gs 17 [0] ?_
  refine Gs 18 [0] ?_
  refine Gs 19 [0] ?_
  refine Gs 20 [0] ?_
  refine Gs 21 [0] ?_
  refine Gq 22 [0] rfl (OpQ.pickT rfl rfl rfl) ?_
  refine WG.done (by kernel_rfl) ?_
  refine thn_n (Ww [(1,vptr b1 0),(2,.bool false),(25,.bool true)] [Cl b1 33 (ecs e nv vv wv),KB nv e.name,KB vv e.value,KW wv e.wraps,Al R] ?_)
  refine W.condT rfl ?_
  refine Sn (Qa (k:=Nl [(1,vptr b1 0),(2,.bool false)] ?_))
  refine W.ret (thn_r (ret1 (M:=[]) rfl rfl (⟨(congrArg Value.bool (Spec.right_F' (by omega))),rfl⟩) (es [4] rfl)))
 refine Gq 15 [0] rfl (OpQ.decF (OpQ.pickF rfl rfl rfl) h4) ?_
 refine Gq 16 [0] rfl (OpQ.move rfl rfl) ?_
 refine Gq 17 [0] rfl (OpQ.loadN (i:=0) rfl rfl ld33 rfl rfl rfl) ?_
 refine Gq 18 [0] rfl (OpQ.loadN (i:=0) rfl rfl ld33 rfl rfl rfl) ?_
 refine WG.one (i:=19) (by kernel_rfl) (UpG.call rfl rfl rfl (OpCall.mk (xs:=[.tmp 21]) (vs:=[.agg #[vint e.kind,vint e.writer,vint e.seq,nv,vv,vint e.who,vint e.rights,vint e.epoch,wv]]) rfl ⟨rfl,trivial⟩ Tryz.call283) (bare_fn e nv vv wv) ((ed 1 rfl).trans ((ed 3 rfl).trans ((ed 5 rfl).trans (ep [2,1,0] rfl)))) ?_)
 rintro _ _ ⟨b5,n6,v7,w8,h9,rfl,rfl⟩
 refine ⟨es [3] rfl,?_⟩
 refine WG.one (i:=20) (by kernel_rfl) (UpG.call rfl rfl rfl (OpCall.mk (xs:=[.tmp 20,.tmp 22]) (vs:=[.agg #[vint e.kind,vint e.writer,vint e.seq,nv,vv,vint e.who,vint e.rights,vint e.epoch,wv],.agg #[vint b5.kind,vint b5.writer,vint b5.seq,n6,v7,vint b5.who,vint b5.rights,vint b5.epoch,w8]]) rfl ⟨rfl,rfl,trivial⟩ Tryz.call68) (Same_fn e b5 nv vv wv n6 v7 w8) ((ed 4 rfl).trans ((ed 6 rfl).trans ((ed 8 rfl).trans ((ed 3 rfl).trans ((ed 5 rfl).trans ((ed 7 rfl).trans (ep [5,4,3,2,1,0] rfl))))))) ?_)
 rintro _ _ ⟨rfl,rfl⟩
 refine ⟨es [3] rfl,?_⟩
 refine Gq 21 [3] rfl (OpQ.notP rfl rfl) ?_
 refine Gq 22 [3] rfl (OpQ.pickF rfl rfl rfl) ?_
 refine WG.done (by kernel_rfl) ?_
 refine thn_n (Ww [(1,vptr b1 0),(2,.bool false),(25,.bool (decide (¬ (e=b5))))] [KB n6 b5.name,KB v7 b5.value,KW w8 b5.wraps,Cl b1 33 (ecs e nv vv wv),KB nv e.name,KB vv e.value,KW wv e.wraps,Al R] ?_)
 refine Cp rfl (fun h10=>?_) (fun h10=>?_)
 ·refine Sn (Qa (k:=Nl [(1,vptr b1 0),(2,.bool false)] ?_))
  refine W.ret (thn_r (ret1 (M:=[]) rfl rfl (⟨(congrArg Value.bool (Spec.right_F h9 (fun h=>h10 h.2.2.2.2.2.2))),rfl⟩) (es [7] rfl)))
 refine W.skip (thn_n (Wl [(1,vptr b1 0),(2,.bool false)] ?_))
 refine W.seq (Sn (Qu (Of (fa33_0 _ _)) (k:=?_)))
 refine Qu (Ol 3 ld3) (k:=Nl [(1,vptr b1 0),(2,.bool false),(27,vint e.kind)] ?_)
 refine W.block (W.seq (Sn (Qu (OpQ.eql rfl rfl rfl) (k:=?_))))
 refine Qa (k:=Nl [(1,vptr b1 0),(2,.bool false),(27,vint e.kind),(28,.bool (decide (e.kind=1)))] ?_)
 refine Cp rfl (fun h11=>?_) (fun h11=>?_)
 ·refine W.skip (thn_n (Cp rfl (fun h12=>?_) (fun h12=>absurd h11 h12)))
  refine Sn (Qu (Of (fa33_3 _ _)) (k:=Qu (Ol 3 ld22) (k:=?_)))
  refine Nk 4 fun hl13=>?_
  refine Qu (OpQ.lenSl (i:=4) rfl rfl rfl (len22 _)) (k:=?_)
  refine Wc [.tmp 33,.const (.int .i64 1),.const (.int .i64 64)] [vint (e.name.length:Int),vint 1,vint 64] Tryz.call282 (within_fn (e.name.length:Int) 1 64) (ep [] rfl) ?_
  rintro _ _ ⟨rfl,rfl⟩
  by_cases h14:1≤(e.name.length:Int)∧(e.name.length:Int)≤64
  ·refine Qu (OpQ.decT (OpQ.move rfl rfl) h14) (k:=Qu (Of (fa33_4 _ _)) (k:=Qu (Ol 3 ld22) (k:=?_)))
   refine Nk 5 fun hl15=>?_
   refine Qu (OpQ.lenSl (i:=5) rfl rfl rfl (len22 _)) (k:=Qu (OpQ.leq rfl rfl rfl) (k:=Qt (k:=Qa (k:=Nw [(1,vptr b1 0),(2,.bool (decide ((e.value.length:Int)≤512)))] [KB n6 b5.name,KB v7 b5.value,KW w8 b5.wraps,Cl b1 33 (ecs e nv vv wv),KB nv e.name,KB vv e.value,KW wv e.wraps,Al R] ?_))))
   refine W.ret (inblk_r (thn_r (ret1 (M:=[]) rfl rfl (⟨(by rw [Spec.right_T h9 (by omega) (Decidable.of_not_not h10)]; rw [if_pos (by omega)] <;> first | exact bool_dec (by omega) | exact (bool_F (by omega)).symm | exact (bool_T (by omega)).symm),rfl⟩) (es [7] rfl))))
  refine Qu (OpQ.decF (OpQ.move rfl rfl) h14) (k:=Qs (k:=Qs (k:=Qs (k:=Qs (k:=Qf (k:=Qa (k:=Nw [(1,vptr b1 0),(2,.bool false)] [KB n6 b5.name,KB v7 b5.value,KW w8 b5.wraps,Cl b1 33 (ecs e nv vv wv),KB nv e.name,KB vv e.value,KW wv e.wraps,Al R] ?_)))))))
  refine W.ret (inblk_r (thn_r (ret1 (M:=[]) rfl rfl (⟨(by rw [Spec.right_T h9 (by omega) (Decidable.of_not_not h10)]; rw [if_pos (by omega)] <;> first | exact bool_dec (by omega) | exact (bool_F (by omega)).symm | exact (bool_T (by omega)).symm),rfl⟩) (es [7] rfl))))
 refine W.region (Qu (OpQ.eql rfl rfl rfl) (k:=?_))
 refine Qa (k:=Nl [(1,vptr b1 0),(2,.bool false),(27,vint e.kind),(28,.bool (decide (e.kind=2)))] ?_)
 refine Cp rfl (fun h16=>?_) (fun h16=>?_)
 ·refine Sn (Qu (Of (fa33_3 _ _)) (k:=Qu (Ol 3 ld22) (k:=?_)))
  refine Nk 4 fun hl17=>?_
  refine Qu (OpQ.lenSl (i:=4) rfl rfl rfl (len22 _)) (k:=?_)
  refine Wc [.tmp 33,.const (.int .i64 1),.const (.int .i64 64)] [vint (e.name.length:Int),vint 1,vint 64] Tryz.call282 (within_fn (e.name.length:Int) 1 64) (ep [] rfl) ?_
  rintro _ _ ⟨rfl,rfl⟩
  by_cases h18:1≤(e.name.length:Int)∧(e.name.length:Int)≤64
  ·refine Qu (OpQ.decT (OpQ.move rfl rfl) h18) (k:=Qu (Of (fa33_4 _ _)) (k:=Qu (Ol 3 ld22) (k:=?_)))
   refine Nk 5 fun hl19=>?_
   refine Qu (OpQ.lenSl (i:=5) rfl rfl rfl (len22 _)) (k:=Qu (OpQ.leq rfl rfl rfl) (k:=Qt (k:=Qa (k:=Nw [(1,vptr b1 0),(2,.bool (decide ((e.value.length:Int)≤512)))] [KB n6 b5.name,KB v7 b5.value,KW w8 b5.wraps,Cl b1 33 (ecs e nv vv wv),KB nv e.name,KB vv e.value,KW wv e.wraps,Al R] ?_))))
   refine W.ret (inblk_r (thn_r (ret1 (M:=[]) rfl rfl (⟨(by rw [Spec.right_T h9 (by omega) (Decidable.of_not_not h10)]; rw [if_pos (by omega)] <;> first | exact bool_dec (by omega) | exact (bool_F (by omega)).symm | exact (bool_T (by omega)).symm),rfl⟩) (es [7] rfl))))
  refine Qu (OpQ.decF (OpQ.move rfl rfl) h18) (k:=Qs (k:=Qs (k:=Qs (k:=Qs (k:=Qf (k:=Qa (k:=Nw [(1,vptr b1 0),(2,.bool false)] [KB n6 b5.name,KB v7 b5.value,KW w8 b5.wraps,Cl b1 33 (ecs e nv vv wv),KB nv e.name,KB vv e.value,KW wv e.wraps,Al R] ?_)))))))
  refine W.ret (inblk_r (thn_r (ret1 (M:=[]) rfl rfl (⟨(by rw [Spec.right_T h9 (by omega) (Decidable.of_not_not h10)]; rw [if_pos (by omega)] <;> first | exact bool_dec (by omega) | exact (bool_F (by omega)).symm | exact (bool_T (by omega)).symm),rfl⟩) (es [7] rfl))))
 refine Sn (Qu (OpQ.eql rfl rfl rfl) (k:=Qa (k:=Nl [(1,vptr b1 0),(2,.bool false),(27,vint e.kind),(41,.bool (decide (e.kind=3)))] ?_)))
 refine Cp rfl (fun h20=>?_) (fun h20=>?_)
 ·refine Sn (Qu (Of (fa33_5 _ _)) (k:=Qu (Ol 3 ld3) (k:=?_)))
  refine Wc [.tmp 44,.const (.int .i64 1),.const (.int .i64 16)] [vint e.who,vint 1,vint 16] Tryz.call282 (within_fn e.who 1 16) (ep [] rfl) ?_
  rintro _ _ ⟨rfl,rfl⟩
  by_cases h21:1≤e.who∧e.who≤16
  ·refine Qu (OpQ.decT (OpQ.move rfl rfl) h21) (k:=Qu (Of (fa33_6 _ _)) (k:=Qu (Ol 3 ld3) (k:=?_)))
   refine Wc [.tmp 48,.const (.int .i64 1),.const (.int .i64 7)] [vint e.rights,vint 1,vint 7] Tryz.call282 (within_fn e.rights 1 7) (ep [] rfl) ?_
   rintro _ _ ⟨rfl,rfl⟩
   refine Qt (k:=Qa (k:=Nw [(1,vptr b1 0),(2,.bool (decide (1≤e.rights∧e.rights≤7)))] [KB n6 b5.name,KB v7 b5.value,KW w8 b5.wraps,Cl b1 33 (ecs e nv vv wv),KB nv e.name,KB vv e.value,KW wv e.wraps,Al R] ?_))
   refine W.ret (inblk_r (thn_r (ret1 (M:=[]) rfl rfl (⟨(by rw [Spec.right_T h9 (by omega) (Decidable.of_not_not h10)]; rw [if_neg (by omega),if_pos (by omega)] <;> first | exact bool_dec (by omega) | exact (bool_F (by omega)).symm | exact (bool_T (by omega)).symm),rfl⟩) (es [7] rfl))))
  refine Qu (OpQ.decF (OpQ.move rfl rfl) h21) (k:=Qs (k:=Qs (k:=Qs (k:=Qf (k:=Qa (k:=Nw [(1,vptr b1 0),(2,.bool false)] [KB n6 b5.name,KB v7 b5.value,KW w8 b5.wraps,Cl b1 33 (ecs e nv vv wv),KB nv e.name,KB vv e.value,KW wv e.wraps,Al R] ?_))))))
  refine W.ret (inblk_r (thn_r (ret1 (M:=[]) rfl rfl (⟨(by rw [Spec.right_T h9 (by omega) (Decidable.of_not_not h10)]; rw [if_neg (by omega),if_pos (by omega)] <;> first | exact bool_dec (by omega) | exact (bool_F (by omega)).symm | exact (bool_T (by omega)).symm),rfl⟩) (es [7] rfl))))
 refine Sn (Qu (OpQ.eql rfl rfl rfl) (k:=Qa (k:=Nl [(1,vptr b1 0),(2,.bool false),(51,.bool (decide (e.kind=4)))] ?_)))
 refine Cp rfl (fun h22=>?_) (fun h22=>?_)
 ·refine Sn (Qu (Of (fa33_5 _ _)) (k:=Qu (Ol 3 ld3) (k:=?_)))
  refine Wc [.tmp 54,.const (.int .i64 1),.const (.int .i64 16)] [vint e.who,vint 1,vint 16] Tryz.call282 (within_fn e.who 1 16) (ep [] rfl) ?_
  rintro _ _ ⟨rfl,rfl⟩
  refine Qa (k:=Nw [(1,vptr b1 0),(2,.bool (decide (1≤e.who∧e.who≤16)))] [KB n6 b5.name,KB v7 b5.value,KW w8 b5.wraps,Cl b1 33 (ecs e nv vv wv),KB nv e.name,KB vv e.value,KW wv e.wraps,Al R] ?_)
  refine W.ret (inblk_r (thn_r (ret1 (M:=[]) rfl rfl (⟨(by rw [Spec.right_T h9 (by omega) (Decidable.of_not_not h10)]; rw [if_neg (by omega),if_neg (by omega),if_pos (by omega)] <;> first | exact bool_dec (by omega) | exact (bool_F (by omega)).symm | exact (bool_T (by omega)).symm),rfl⟩) (es [7] rfl))))
 refine W.skip (inblk_n (thn_n (Wl [(1,vptr b1 0),(2,.bool false)] ?_)))
 refine Sn (Qu (Of (fa33_7 _ _)) (k:=Qu (Ol 3 ld3) (k:=?_)))
 refine Wc [.tmp 57,.const (.int .i64 1),.const (.int .i64 16)] [vint e.epoch,vint 1,vint 16] Tryz.call282 (within_fn e.epoch 1 16) (ep [] rfl) ?_
 rintro _ _ ⟨rfl,rfl⟩
 by_cases h23:1≤e.epoch∧e.epoch≤16
 ·refine Qu (OpQ.decT (OpQ.move rfl rfl) h23) (k:=Qu (Of (fa33_8 _ _)) (k:=Qu (Ol 3 ld31) (k:=?_)))
  refine Wc [.tmp 61] [wv] Tryz.call284 (wraps_fn wv e.wraps) ((ed 6 rfl).trans (ep [0] rfl)) ?_
  rintro _ _ ⟨rfl,rfl⟩
  refine Qt (k:=Qa (k:=Nw [(2,.bool (Spec.wrapsOk e.wraps))] [KB n6 b5.name,KB v7 b5.value,KW w8 b5.wraps,Cl b1 33 (ecs e nv vv wv),KB nv e.name,KB vv e.value,KW wv e.wraps,Al R] ?_))
  refine W.ret (ret1 (M:=[]) rfl rfl (⟨(by rw [Spec.right_T h9 (by omega) (Decidable.of_not_not h10)]; rw [if_neg (by omega),if_neg (by omega),if_neg (by omega)] <;> first | (rw [decide_eq_false (by omega)]; done) | (rw [decide_eq_true (by omega)]; done) | (rw [decide_eq_false (by omega)]; rfl) | (rw [decide_eq_true (by omega)]; rfl)),rfl⟩) (es [7] rfl))
 refine Qu (OpQ.decF (OpQ.move rfl rfl) h23) (k:=Qs (k:=Qs (k:=Qs (k:=Qf (k:=Qa (k:=Nw [(2,.bool false)] [KB n6 b5.name,KB v7 b5.value,KW w8 b5.wraps,Cl b1 33 (ecs e nv vv wv),KB nv e.name,KB vv e.value,KW wv e.wraps,Al R] ?_))))))
 refine W.ret (ret1 (M:=[]) rfl rfl (⟨(by rw [Spec.right_T h9 (by omega) (Decidable.of_not_not h10)]; rw [if_neg (by omega),if_neg (by omega),if_neg (by omega)] <;> first | (rw [decide_eq_false (by omega)]; done) | (rw [decide_eq_true (by omega)]; done) | (rw [decide_eq_false (by omega)]; rfl) | (rw [decide_eq_true (by omega)]; rfl)),rfl⟩) (es [7] rfl))
theorem Encode_fn (e:Entry) (nv:Value) (vv:Value) (wv:Value):Fn Tryz.prog 121 #[.agg #[vint e.kind,vint e.writer,vint e.seq,nv,vv,vint e.who,vint e.rights,vint e.epoch,wv]] [KB nv e.name,KB vv e.value,KW wv e.wraps] (fun v M=>(∃ (r:Value) (bs:Bytes),Spec.encode e = .ok bs∧bs.length≤200000∧.tuple #[r,vint 0]=v∧M=[KB r bs])∨(∃ (e2:Int),Spec.encode e = .error e2∧e2≠0∧.tuple #[.slice none 0 0,vint e2]=v∧M=[])):=by
 refine Fi 93 Tryz.func121 fun g R=>?_
 refine Ww [(0,.agg #[vint e.kind,vint e.writer,vint e.seq,nv,vv,vint e.who,vint e.rights,vint e.epoch,wv])] [KB nv e.name,KB vv e.value,KW wv e.wraps,Al R] ?_
 refine Sn (Ru (OpRun.box rfl rfl rfl) ?_)
 rintro _ _ ⟨b1,rfl,rfl⟩
 refine Qa (k:=Qa (k:=Nw [(1,vptr b1 0),(2,N0),(3,vint 0)] [Cl b1 33 (ecs e nv vv wv),KB nv e.name,KB vv e.value,KW wv e.wraps,Al R] ?_))
 refine W.seq (Sn (Qu (OpQ.loadN (i:=0) rfl rfl ld33 rfl rfl rfl) (k:=?_)))
 refine Wc [.tmp 7] [.agg #[vint e.kind,vint e.writer,vint e.seq,nv,vv,vint e.who,vint e.rights,vint e.epoch,wv]] Tryz.call204 (Right_fn e nv vv wv) ((ed 1 rfl).trans ((ed 3 rfl).trans ((ed 5 rfl).trans (ep [2,1,0] rfl)))) ?_
 rintro _ _ ⟨rfl,rfl⟩
 refine Qu (OpQ.not rfl rfl) (k:=Nw [(1,vptr b1 0),(2,N0),(3,vint 0),(9,.bool (!(Spec.right e)))] [Cl b1 33 (ecs e nv vv wv),KB nv e.name,KB vv e.value,KW wv e.wraps,Al R] ?_)
 refine W.cond rfl (fun h2=>?_) (fun h2=>?_)
 ·refine Sn (Qa (k:=Qa (k:=Nl [(1,vptr b1 0),(2,N0),(3,vint 10)] ?_)))
  refine W.ret (thn_r (ret2 (M:=[]) rfl rfl rfl (.inr (⟨10,(by unfold Spec.encode; rw [if_neg (by simp_all)]),(by omega),rfl,rfl⟩)) (es [4] rfl)))
 refine W.skip (thn_n (Wl [(1,vptr b1 0),(2,N0),(3,vint 0)] ?_))
 refine Sn (Qu (Of (fa33_0 _ _)) (k:=Qu (Ol 0 ld3) (k:=Qu (OpQ.mkiface (v:=vint e.kind) (u:=Value.iface 3 (vint e.kind)) rfl rfl (fun _=>by kernel_rfl)) (k:=Qu (Of (fa33_1 _ _)) (k:=Qu (Ol 0 ld3) (k:=Qu (OpQ.mkiface (v:=vint e.writer) (u:=Value.iface 3 (vint e.writer)) rfl rfl (fun _=>by kernel_rfl)) (k:=Qu (Of (fa33_2 _ _)) (k:=Qu (Ol 0 ld3) (k:=Qu (OpQ.mkiface (v:=vint e.seq) (u:=Value.iface 3 (vint e.seq)) rfl rfl (fun _=>by kernel_rfl)) (k:=?_))))))))))
 refine Ru (OpRun.buildSlice (qs:=[(0,Value.iface 3 (vint e.kind)),(1,Value.iface 3 (vint e.writer)),(2,Value.iface 3 (vint e.seq))]) (cs:=[Value.iface 3 (vint e.kind),Value.iface 3 (vint e.writer),Value.iface 3 (vint e.seq)]) (E:=20) (sz:=1) rfl ⟨rfl,rfl,rfl,rfl,rfl,rfl,trivial⟩ (fun _=>by kernel_rfl) (O3 one_nil) rfl (by decide)) ?_
 rintro v3 _ ⟨h4a,h4b,h4c,rfl⟩
 refine WN.ent (Ent.know (m:=CellsRel Enc.part ([Value.iface 3 (vint e.kind),Value.iface 3 (vint e.writer),Value.iface 3 (vint e.seq)]) ([Part.n e.kind,Part.n e.writer,Part.n e.seq])) (fun K h s=>(CellsRel.cons (cs:=[Value.iface 3 (vint e.kind)]) (ds:=[Value.iface 3 (vint e.writer),Value.iface 3 (vint e.seq)]) rfl Enc.part_n (CellsRel.cons (cs:=[Value.iface 3 (vint e.writer)]) (ds:=[Value.iface 3 (vint e.seq)]) rfl Enc.part_n (CellsRel.cons (cs:=[Value.iface 3 (vint e.seq)]) (ds:=[]) rfl Enc.part_n CellsRel.nil))))) ?_
 refine Ne [Kx Enc.part ([Value.iface 3 (vint e.kind),Value.iface 3 (vint e.writer),Value.iface 3 (vint e.seq)]) ([Part.n e.kind,Part.n e.writer,Part.n e.seq]),Rw 20 1 v3 ([Value.iface 3 (vint e.kind),Value.iface 3 (vint e.writer),Value.iface 3 (vint e.seq)]),Cl b1 33 (ecs e nv vv wv),KB nv e.name,KB vv e.value,KW wv e.wraps,Al R] (Qa (k:=Nl [(1,vptr b1 0),(2,N0),(3,vint 0),(4,v3)] ?_))
 refine W.seq (Sn (Qu (Of (fa33_0 _ _)) (k:=?_)))
 refine Qu (Ol 2 ld3) (k:=Nl [(1,vptr b1 0),(2,N0),(3,vint 0),(4,v3),(21,vint e.kind)] ?_)
 refine W.block (Sn (Qu (OpQ.eql rfl rfl rfl) (k:=?_)))
 refine Qa (k:=Nl [(1,vptr b1 0),(2,N0),(3,vint 0),(4,v3),(21,vint e.kind),(22,.bool (decide (e.kind=1)))] ?_)
 refine Cp rfl (fun h5=>?_) (fun h5=>?_)
 ·refine W.region (Qm (k:=?_))
  refine Qu (Of (fa33_3 _ _)) (k:=Qu (Ol 2 ld22) (k:=?_))
  refine WN.fact (fun _ _ s=>sl_isS (i:=3) rfl s) (fun hS6=>?_)
  refine Qu (OpQ.mkiface (v:=nv) (u:=Value.iface 22 (nv)) rfl rfl (fun _=>by obtain ⟨_,_,_,e1⟩:=hS6; rw [e1]; kernel_rfl)) (k:=Qu (Of (fa33_4 _ _)) (k:=Qu (Ol 2 ld22) (k:=?_)))
  refine WN.fact (fun _ _ s=>sl_isS (i:=4) rfl s) (fun hS7=>?_)
  refine Qu (OpQ.mkiface (v:=vv) (u:=Value.iface 22 (vv)) rfl rfl (fun _=>by obtain ⟨_,_,_,e1⟩:=hS7; rw [e1]; kernel_rfl)) (k:=?_)
  refine Ru (OpRun.buildSlice (qs:=[(0,Value.iface 22 (nv)),(1,Value.iface 22 (vv))]) (cs:=[Value.iface 22 (nv),Value.iface 22 (vv)]) (E:=20) (sz:=1) rfl ⟨rfl,rfl,rfl,rfl,trivial⟩ (fun _=>by kernel_rfl) (one_cons rfl (one_cons rfl one_nil)) rfl (by decide)) ?_
  rintro v8 _ ⟨h9a,h9b,h9c,rfl⟩
  refine WN.ent (Ent.know (m:=CellsRel Enc.part ([Value.iface 22 (nv),Value.iface 22 (vv)]) ([Part.b e.name,Part.b e.value])) (fun K h s=>(CellsRel.cons (cs:=[Value.iface 22 (nv)]) (ds:=[Value.iface 22 (vv)]) rfl (Enc.part_b (kat 4 s rfl)) (CellsRel.cons (cs:=[Value.iface 22 (vv)]) (ds:=[]) rfl (Enc.part_b (kat 5 s rfl)) CellsRel.nil)))) ?_
  refine Ne [Kx Enc.part ([Value.iface 22 (nv),Value.iface 22 (vv)]) ([Part.b e.name,Part.b e.value]),Rw 20 1 v8 ([Value.iface 22 (nv),Value.iface 22 (vv)]),Kx Enc.part ([Value.iface 3 (vint e.kind),Value.iface 3 (vint e.writer),Value.iface 3 (vint e.seq)]) ([Part.n e.kind,Part.n e.writer,Part.n e.seq]),Rw 20 1 v3 ([Value.iface 3 (vint e.kind),Value.iface 3 (vint e.writer),Value.iface 3 (vint e.seq)]),Cl b1 33 (ecs e nv vv wv),KB nv e.name,KB vv e.value,KW wv e.wraps,Al R] ?_
  refine Nr 3 fun hr12a hr12b hr12c=>?_
  try simp only [La,Lc,Ln] at hr12a
  refine Nr 1 fun hr13a hr13b hr13c=>?_
  try simp only [La,Lc,Ln] at hr13a
  refine Ru (OpRun.appendRow (i:=3) (j:=1) rfl rfl rfl rfl rfl Tryz.underlying274 (inf:=Tryz.t20) (by kernel_rfl) rfl rfl rfl (by_:=16) rfl (by first | omega | (simp; omega)) (by first | omega | (simp; omega))) ?_
  rintro v10 _ ⟨h11a,h11b,rfl⟩
  refine WN.ent (Ent.know (m:=CellsRel Enc.part (([Value.iface 3 (vint e.kind),Value.iface 3 (vint e.writer),Value.iface 3 (vint e.seq)])++([Value.iface 22 (nv),Value.iface 22 (vv)])) (([Part.n e.kind,Part.n e.writer,Part.n e.seq])++([Part.b e.name,Part.b e.value]))) (fun K h s=>CellsRel.append (e:=Enc.part) (cs:=[Value.iface 3 (vint e.kind),Value.iface 3 (vint e.writer),Value.iface 3 (vint e.seq)]) (ds:=[Value.iface 22 (nv),Value.iface 22 (vv)]) (xs:=[Part.n e.kind,Part.n e.writer,Part.n e.seq]) (ys:=[Part.b e.name,Part.b e.value]) (kat 2 s rfl) (kat 1 s rfl))) ?_
  refine Ne [Kx Enc.part (([Value.iface 3 (vint e.kind),Value.iface 3 (vint e.writer),Value.iface 3 (vint e.seq)])++([Value.iface 22 (nv),Value.iface 22 (vv)])) (([Part.n e.kind,Part.n e.writer,Part.n e.seq])++([Part.b e.name,Part.b e.value])),Rw 20 1 v10 (([Value.iface 3 (vint e.kind),Value.iface 3 (vint e.writer),Value.iface 3 (vint e.seq)])++([Value.iface 22 (nv),Value.iface 22 (vv)])),Kx Enc.part ([Value.iface 22 (nv),Value.iface 22 (vv)]) ([Part.b e.name,Part.b e.value]),Kx Enc.part ([Value.iface 3 (vint e.kind),Value.iface 3 (vint e.writer),Value.iface 3 (vint e.seq)]) ([Part.n e.kind,Part.n e.writer,Part.n e.seq]),Cl b1 33 (ecs e nv vv wv),KB nv e.name,KB vv e.value,KW wv e.wraps,Al R] (Qa (k:=?_))
  refine WN.nil (inblk_n (thn_n (Wl [(2,N0),(3,vint 0),(4,v10)] ?_)))
  refine Sn (Qm (k:=?_))
  refine WN.freezeRel (e:=Enc.part) (i:=1) (j:=0) (Lb rfl) rfl rfl ?_
  refine Ne [Kk (Sl Enc.part 20 v10 (([Part.n e.kind,Part.n e.writer,Part.n e.seq])++([Part.b e.name,Part.b e.value]))),Kx Enc.part (([Value.iface 3 (vint e.kind),Value.iface 3 (vint e.writer),Value.iface 3 (vint e.seq)])++([Value.iface 22 (nv),Value.iface 22 (vv)])) (([Part.n e.kind,Part.n e.writer,Part.n e.seq])++([Part.b e.name,Part.b e.value])),Kx Enc.part ([Value.iface 22 (nv),Value.iface 22 (vv)]) ([Part.b e.name,Part.b e.value]),Kx Enc.part ([Value.iface 3 (vint e.kind),Value.iface 3 (vint e.writer),Value.iface 3 (vint e.seq)]) ([Part.n e.kind,Part.n e.writer,Part.n e.seq]),Cl b1 33 (ecs e nv vv wv),KB nv e.name,KB vv e.value,KW wv e.wraps,Al R] ?_
  refine Wc [.tmp 89] [v10] Tryz.call148 (Put_fn v10 (([Part.n e.kind,Part.n e.writer,Part.n e.seq])++([Part.b e.name,Part.b e.value])) (by first | omega | (simp; done) | (simp; omega) | (simp at *; omega))) ((ed 0 rfl).trans (ep [0] rfl)) ?_
  rintro _ _ (⟨r14,bs15,h16,h17,rfl,rfl⟩ | ⟨e18,h19,h20,rfl,rfl⟩)
  ·refine Qe (k:=Qe (k:=Qa (k:=Qa (k:=Nw [(2,r14),(3,vint 0)] [KB r14 bs15,Kk (Sl Enc.part 20 v10 (([Part.n e.kind,Part.n e.writer,Part.n e.seq])++([Part.b e.name,Part.b e.value]))),Kx Enc.part (([Value.iface 3 (vint e.kind),Value.iface 3 (vint e.writer),Value.iface 3 (vint e.seq)])++([Value.iface 22 (nv),Value.iface 22 (vv)])) (([Part.n e.kind,Part.n e.writer,Part.n e.seq])++([Part.b e.name,Part.b e.value])),Kx Enc.part ([Value.iface 22 (nv),Value.iface 22 (vv)]) ([Part.b e.name,Part.b e.value]),Kx Enc.part ([Value.iface 3 (vint e.kind),Value.iface 3 (vint e.writer),Value.iface 3 (vint e.seq)]) ([Part.n e.kind,Part.n e.writer,Part.n e.seq]),Cl b1 33 (ecs e nv vv wv),KB nv e.name,KB vv e.value,KW wv e.wraps,Al R] ?_))))
   refine W.ret (ret2 (M:=[KB r14 bs15]) rfl rfl rfl (.inl ⟨r14,bs15,(by unfold Spec.encode Spec.eparts; rw [if_pos (by simp_all)]; rw [if_pos (by omega)]; have hp:=h16; exact hp),(by have:=h17; first | omega | (simp at this; omega)),rfl,rfl⟩) (es [0,8] rfl))
  refine Qe (k:=Qe (k:=Qa (k:=Qa (k:=Nw [(2,N0),(3,vint e18)] [Kk (Sl Enc.part 20 v10 (([Part.n e.kind,Part.n e.writer,Part.n e.seq])++([Part.b e.name,Part.b e.value]))),Kx Enc.part (([Value.iface 3 (vint e.kind),Value.iface 3 (vint e.writer),Value.iface 3 (vint e.seq)])++([Value.iface 22 (nv),Value.iface 22 (vv)])) (([Part.n e.kind,Part.n e.writer,Part.n e.seq])++([Part.b e.name,Part.b e.value])),Kx Enc.part ([Value.iface 22 (nv),Value.iface 22 (vv)]) ([Part.b e.name,Part.b e.value]),Kx Enc.part ([Value.iface 3 (vint e.kind),Value.iface 3 (vint e.writer),Value.iface 3 (vint e.seq)]) ([Part.n e.kind,Part.n e.writer,Part.n e.seq]),Cl b1 33 (ecs e nv vv wv),KB nv e.name,KB vv e.value,KW wv e.wraps,Al R] ?_))))
  refine W.ret (ret2 (M:=[]) rfl rfl rfl (.inr (⟨e18,(by unfold Spec.encode Spec.eparts; rw [if_pos (by simp_all)]; rw [if_pos (by omega)]; have hp:=h19; exact hp),(by first | assumption | rfl | omega | (simp; done) | (simp; omega) | (simp [*]; done) | (simp [*]; omega)),rfl,rfl⟩)) (es [8] rfl))
 refine Sn (Qu (OpQ.eql rfl rfl rfl) (k:=Qa (k:=Nl [(1,vptr b1 0),(2,N0),(3,vint 0),(4,v3),(21,vint e.kind),(33,.bool (decide (e.kind=2)))] ?_)))
 refine Cp rfl (fun h21=>?_) (fun h21=>?_)
 ·refine W.region (Qm (k:=?_))
  refine Qu (Of (fa33_3 _ _)) (k:=Qu (Ol 2 ld22) (k:=?_))
  refine WN.fact (fun _ _ s=>sl_isS (i:=3) rfl s) (fun hS22=>?_)
  refine Qu (OpQ.mkiface (v:=nv) (u:=Value.iface 22 (nv)) rfl rfl (fun _=>by obtain ⟨_,_,_,e1⟩:=hS22; rw [e1]; kernel_rfl)) (k:=?_)
  refine Ru (OpRun.buildSlice (qs:=[(0,Value.iface 22 (nv))]) (cs:=[Value.iface 22 (nv)]) (E:=20) (sz:=1) rfl ⟨rfl,rfl,trivial⟩ (fun _=>by kernel_rfl) (one_cons rfl one_nil) rfl (by decide)) ?_
  rintro v23 _ ⟨h24a,h24b,h24c,rfl⟩
  refine WN.ent (Ent.know (m:=CellsRel Enc.part ([Value.iface 22 (nv)]) ([Part.b e.name])) (fun K h s=>(CellsRel.cons (cs:=[Value.iface 22 (nv)]) (ds:=[]) rfl (Enc.part_b (kat 4 s rfl)) CellsRel.nil))) ?_
  refine Ne [Kx Enc.part ([Value.iface 22 (nv)]) ([Part.b e.name]),Rw 20 1 v23 ([Value.iface 22 (nv)]),Kx Enc.part ([Value.iface 3 (vint e.kind),Value.iface 3 (vint e.writer),Value.iface 3 (vint e.seq)]) ([Part.n e.kind,Part.n e.writer,Part.n e.seq]),Rw 20 1 v3 ([Value.iface 3 (vint e.kind),Value.iface 3 (vint e.writer),Value.iface 3 (vint e.seq)]),Cl b1 33 (ecs e nv vv wv),KB nv e.name,KB vv e.value,KW wv e.wraps,Al R] ?_
  refine Nr 3 fun hr27a hr27b hr27c=>?_
  try simp only [La,Lc,Ln] at hr27a
  refine Nr 1 fun hr28a hr28b hr28c=>?_
  try simp only [La,Lc,Ln] at hr28a
  refine Ru (OpRun.appendRow (i:=3) (j:=1) rfl rfl rfl rfl rfl Tryz.underlying274 (inf:=Tryz.t20) (by kernel_rfl) rfl rfl rfl (by_:=16) rfl (by first | omega | (simp; omega)) (by first | omega | (simp; omega))) ?_
  rintro v25 _ ⟨h26a,h26b,rfl⟩
  refine WN.ent (Ent.know (m:=CellsRel Enc.part (([Value.iface 3 (vint e.kind),Value.iface 3 (vint e.writer),Value.iface 3 (vint e.seq)])++([Value.iface 22 (nv)])) (([Part.n e.kind,Part.n e.writer,Part.n e.seq])++([Part.b e.name]))) (fun K h s=>CellsRel.append (e:=Enc.part) (cs:=[Value.iface 3 (vint e.kind),Value.iface 3 (vint e.writer),Value.iface 3 (vint e.seq)]) (ds:=[Value.iface 22 (nv)]) (xs:=[Part.n e.kind,Part.n e.writer,Part.n e.seq]) (ys:=[Part.b e.name]) (kat 2 s rfl) (kat 1 s rfl))) ?_
  refine Ne [Kx Enc.part (([Value.iface 3 (vint e.kind),Value.iface 3 (vint e.writer),Value.iface 3 (vint e.seq)])++([Value.iface 22 (nv)])) (([Part.n e.kind,Part.n e.writer,Part.n e.seq])++([Part.b e.name])),Rw 20 1 v25 (([Value.iface 3 (vint e.kind),Value.iface 3 (vint e.writer),Value.iface 3 (vint e.seq)])++([Value.iface 22 (nv)])),Kx Enc.part ([Value.iface 22 (nv)]) ([Part.b e.name]),Kx Enc.part ([Value.iface 3 (vint e.kind),Value.iface 3 (vint e.writer),Value.iface 3 (vint e.seq)]) ([Part.n e.kind,Part.n e.writer,Part.n e.seq]),Cl b1 33 (ecs e nv vv wv),KB nv e.name,KB vv e.value,KW wv e.wraps,Al R] (Qa (k:=?_))
  refine WN.nil (inblk_n (thn_n (Wl [(2,N0),(3,vint 0),(4,v25)] ?_)))
  refine Sn (Qm (k:=?_))
  refine WN.freezeRel (e:=Enc.part) (i:=1) (j:=0) (Lb rfl) rfl rfl ?_
  refine Ne [Kk (Sl Enc.part 20 v25 (([Part.n e.kind,Part.n e.writer,Part.n e.seq])++([Part.b e.name]))),Kx Enc.part (([Value.iface 3 (vint e.kind),Value.iface 3 (vint e.writer),Value.iface 3 (vint e.seq)])++([Value.iface 22 (nv)])) (([Part.n e.kind,Part.n e.writer,Part.n e.seq])++([Part.b e.name])),Kx Enc.part ([Value.iface 22 (nv)]) ([Part.b e.name]),Kx Enc.part ([Value.iface 3 (vint e.kind),Value.iface 3 (vint e.writer),Value.iface 3 (vint e.seq)]) ([Part.n e.kind,Part.n e.writer,Part.n e.seq]),Cl b1 33 (ecs e nv vv wv),KB nv e.name,KB vv e.value,KW wv e.wraps,Al R] ?_
  refine Wc [.tmp 89] [v25] Tryz.call148 (Put_fn v25 (([Part.n e.kind,Part.n e.writer,Part.n e.seq])++([Part.b e.name])) (by first | omega | (simp; done) | (simp; omega) | (simp at *; omega))) ((ed 0 rfl).trans (ep [0] rfl)) ?_
  rintro _ _ (⟨r29,bs30,h31,h32,rfl,rfl⟩ | ⟨e33,h34,h35,rfl,rfl⟩)
  ·refine Qe (k:=Qe (k:=Qa (k:=Qa (k:=Nw [(2,r29),(3,vint 0)] [KB r29 bs30,Kk (Sl Enc.part 20 v25 (([Part.n e.kind,Part.n e.writer,Part.n e.seq])++([Part.b e.name]))),Kx Enc.part (([Value.iface 3 (vint e.kind),Value.iface 3 (vint e.writer),Value.iface 3 (vint e.seq)])++([Value.iface 22 (nv)])) (([Part.n e.kind,Part.n e.writer,Part.n e.seq])++([Part.b e.name])),Kx Enc.part ([Value.iface 22 (nv)]) ([Part.b e.name]),Kx Enc.part ([Value.iface 3 (vint e.kind),Value.iface 3 (vint e.writer),Value.iface 3 (vint e.seq)]) ([Part.n e.kind,Part.n e.writer,Part.n e.seq]),Cl b1 33 (ecs e nv vv wv),KB nv e.name,KB vv e.value,KW wv e.wraps,Al R] ?_))))
   refine W.ret (ret2 (M:=[KB r29 bs30]) rfl rfl rfl (.inl ⟨r29,bs30,(by unfold Spec.encode Spec.eparts; rw [if_pos (by simp_all)]; rw [if_neg (by omega),if_pos (by omega)]; have hp:=h31; exact hp),(by have:=h32; first | omega | (simp at this; omega)),rfl,rfl⟩) (es [0,8] rfl))
  refine Qe (k:=Qe (k:=Qa (k:=Qa (k:=Nw [(2,N0),(3,vint e33)] [Kk (Sl Enc.part 20 v25 (([Part.n e.kind,Part.n e.writer,Part.n e.seq])++([Part.b e.name]))),Kx Enc.part (([Value.iface 3 (vint e.kind),Value.iface 3 (vint e.writer),Value.iface 3 (vint e.seq)])++([Value.iface 22 (nv)])) (([Part.n e.kind,Part.n e.writer,Part.n e.seq])++([Part.b e.name])),Kx Enc.part ([Value.iface 22 (nv)]) ([Part.b e.name]),Kx Enc.part ([Value.iface 3 (vint e.kind),Value.iface 3 (vint e.writer),Value.iface 3 (vint e.seq)]) ([Part.n e.kind,Part.n e.writer,Part.n e.seq]),Cl b1 33 (ecs e nv vv wv),KB nv e.name,KB vv e.value,KW wv e.wraps,Al R] ?_))))
  refine W.ret (ret2 (M:=[]) rfl rfl rfl (.inr (⟨e33,(by unfold Spec.encode Spec.eparts; rw [if_pos (by simp_all)]; rw [if_neg (by omega),if_pos (by omega)]; have hp:=h34; exact hp),(by first | assumption | rfl | omega | (simp; done) | (simp; omega) | (simp [*]; done) | (simp [*]; omega)),rfl,rfl⟩)) (es [8] rfl))
 refine Sn (Qu (OpQ.eql rfl rfl rfl) (k:=Qa (k:=Nl [(1,vptr b1 0),(2,N0),(3,vint 0),(4,v3),(21,vint e.kind),(41,.bool (decide (e.kind=3)))] ?_)))
 refine Cp rfl (fun h36=>?_) (fun h36=>?_)
 ·refine W.region (Qm (k:=?_))
  refine Qu (Of (fa33_5 _ _)) (k:=Qu (Ol 2 ld3) (k:=Qu (OpQ.mkiface (v:=vint e.who) (u:=Value.iface 3 (vint e.who)) rfl rfl (fun _=>by kernel_rfl)) (k:=Qu (Of (fa33_6 _ _)) (k:=Qu (Ol 2 ld3) (k:=Qu (OpQ.mkiface (v:=vint e.rights) (u:=Value.iface 3 (vint e.rights)) rfl rfl (fun _=>by kernel_rfl)) (k:=?_))))))
  refine Ru (OpRun.buildSlice (qs:=[(0,Value.iface 3 (vint e.who)),(1,Value.iface 3 (vint e.rights))]) (cs:=[Value.iface 3 (vint e.who),Value.iface 3 (vint e.rights)]) (E:=20) (sz:=1) rfl ⟨rfl,rfl,rfl,rfl,trivial⟩ (fun _=>by kernel_rfl) (one_cons rfl (one_cons rfl one_nil)) rfl (by decide)) ?_
  rintro v37 _ ⟨h38a,h38b,h38c,rfl⟩
  refine WN.ent (Ent.know (m:=CellsRel Enc.part ([Value.iface 3 (vint e.who),Value.iface 3 (vint e.rights)]) ([Part.n e.who,Part.n e.rights])) (fun K h s=>(CellsRel.cons (cs:=[Value.iface 3 (vint e.who)]) (ds:=[Value.iface 3 (vint e.rights)]) rfl Enc.part_n (CellsRel.cons (cs:=[Value.iface 3 (vint e.rights)]) (ds:=[]) rfl Enc.part_n CellsRel.nil)))) ?_
  refine Ne [Kx Enc.part ([Value.iface 3 (vint e.who),Value.iface 3 (vint e.rights)]) ([Part.n e.who,Part.n e.rights]),Rw 20 1 v37 ([Value.iface 3 (vint e.who),Value.iface 3 (vint e.rights)]),Kx Enc.part ([Value.iface 3 (vint e.kind),Value.iface 3 (vint e.writer),Value.iface 3 (vint e.seq)]) ([Part.n e.kind,Part.n e.writer,Part.n e.seq]),Rw 20 1 v3 ([Value.iface 3 (vint e.kind),Value.iface 3 (vint e.writer),Value.iface 3 (vint e.seq)]),Cl b1 33 (ecs e nv vv wv),KB nv e.name,KB vv e.value,KW wv e.wraps,Al R] ?_
  refine Nr 3 fun hr41a hr41b hr41c=>?_
  try simp only [La,Lc,Ln] at hr41a
  refine Nr 1 fun hr42a hr42b hr42c=>?_
  try simp only [La,Lc,Ln] at hr42a
  refine Ru (OpRun.appendRow (i:=3) (j:=1) rfl rfl rfl rfl rfl Tryz.underlying274 (inf:=Tryz.t20) (by kernel_rfl) rfl rfl rfl (by_:=16) rfl (by first | omega | (simp; omega)) (by first | omega | (simp; omega))) ?_
  rintro v39 _ ⟨h40a,h40b,rfl⟩
  refine WN.ent (Ent.know (m:=CellsRel Enc.part (([Value.iface 3 (vint e.kind),Value.iface 3 (vint e.writer),Value.iface 3 (vint e.seq)])++([Value.iface 3 (vint e.who),Value.iface 3 (vint e.rights)])) (([Part.n e.kind,Part.n e.writer,Part.n e.seq])++([Part.n e.who,Part.n e.rights]))) (fun K h s=>CellsRel.append (e:=Enc.part) (cs:=[Value.iface 3 (vint e.kind),Value.iface 3 (vint e.writer),Value.iface 3 (vint e.seq)]) (ds:=[Value.iface 3 (vint e.who),Value.iface 3 (vint e.rights)]) (xs:=[Part.n e.kind,Part.n e.writer,Part.n e.seq]) (ys:=[Part.n e.who,Part.n e.rights]) (kat 2 s rfl) (kat 1 s rfl))) ?_
  refine Ne [Kx Enc.part (([Value.iface 3 (vint e.kind),Value.iface 3 (vint e.writer),Value.iface 3 (vint e.seq)])++([Value.iface 3 (vint e.who),Value.iface 3 (vint e.rights)])) (([Part.n e.kind,Part.n e.writer,Part.n e.seq])++([Part.n e.who,Part.n e.rights])),Rw 20 1 v39 (([Value.iface 3 (vint e.kind),Value.iface 3 (vint e.writer),Value.iface 3 (vint e.seq)])++([Value.iface 3 (vint e.who),Value.iface 3 (vint e.rights)])),Kx Enc.part ([Value.iface 3 (vint e.who),Value.iface 3 (vint e.rights)]) ([Part.n e.who,Part.n e.rights]),Kx Enc.part ([Value.iface 3 (vint e.kind),Value.iface 3 (vint e.writer),Value.iface 3 (vint e.seq)]) ([Part.n e.kind,Part.n e.writer,Part.n e.seq]),Cl b1 33 (ecs e nv vv wv),KB nv e.name,KB vv e.value,KW wv e.wraps,Al R] (Qa (k:=?_))
  refine WN.nil (inblk_n (thn_n (Wl [(2,N0),(3,vint 0),(4,v39)] ?_)))
  refine Sn (Qm (k:=?_))
  refine WN.freezeRel (e:=Enc.part) (i:=1) (j:=0) (Lb rfl) rfl rfl ?_
  refine Ne [Kk (Sl Enc.part 20 v39 (([Part.n e.kind,Part.n e.writer,Part.n e.seq])++([Part.n e.who,Part.n e.rights]))),Kx Enc.part (([Value.iface 3 (vint e.kind),Value.iface 3 (vint e.writer),Value.iface 3 (vint e.seq)])++([Value.iface 3 (vint e.who),Value.iface 3 (vint e.rights)])) (([Part.n e.kind,Part.n e.writer,Part.n e.seq])++([Part.n e.who,Part.n e.rights])),Kx Enc.part ([Value.iface 3 (vint e.who),Value.iface 3 (vint e.rights)]) ([Part.n e.who,Part.n e.rights]),Kx Enc.part ([Value.iface 3 (vint e.kind),Value.iface 3 (vint e.writer),Value.iface 3 (vint e.seq)]) ([Part.n e.kind,Part.n e.writer,Part.n e.seq]),Cl b1 33 (ecs e nv vv wv),KB nv e.name,KB vv e.value,KW wv e.wraps,Al R] ?_
  refine Wc [.tmp 89] [v39] Tryz.call148 (Put_fn v39 (([Part.n e.kind,Part.n e.writer,Part.n e.seq])++([Part.n e.who,Part.n e.rights])) (by first | omega | (simp; done) | (simp; omega) | (simp at *; omega))) ((ed 0 rfl).trans (ep [0] rfl)) ?_
  rintro _ _ (⟨r43,bs44,h45,h46,rfl,rfl⟩ | ⟨e47,h48,h49,rfl,rfl⟩)
  ·refine Qe (k:=Qe (k:=Qa (k:=Qa (k:=Nw [(2,r43),(3,vint 0)] [KB r43 bs44,Kk (Sl Enc.part 20 v39 (([Part.n e.kind,Part.n e.writer,Part.n e.seq])++([Part.n e.who,Part.n e.rights]))),Kx Enc.part (([Value.iface 3 (vint e.kind),Value.iface 3 (vint e.writer),Value.iface 3 (vint e.seq)])++([Value.iface 3 (vint e.who),Value.iface 3 (vint e.rights)])) (([Part.n e.kind,Part.n e.writer,Part.n e.seq])++([Part.n e.who,Part.n e.rights])),Kx Enc.part ([Value.iface 3 (vint e.who),Value.iface 3 (vint e.rights)]) ([Part.n e.who,Part.n e.rights]),Kx Enc.part ([Value.iface 3 (vint e.kind),Value.iface 3 (vint e.writer),Value.iface 3 (vint e.seq)]) ([Part.n e.kind,Part.n e.writer,Part.n e.seq]),Cl b1 33 (ecs e nv vv wv),KB nv e.name,KB vv e.value,KW wv e.wraps,Al R] ?_))))
   refine W.ret (ret2 (M:=[KB r43 bs44]) rfl rfl rfl (.inl ⟨r43,bs44,(by unfold Spec.encode Spec.eparts; rw [if_pos (by simp_all)]; rw [if_neg (by omega),if_neg (by omega),if_pos (by omega)]; have hp:=h45; exact hp),(by have:=h46; first | omega | (simp at this; omega)),rfl,rfl⟩) (es [0,8] rfl))
  refine Qe (k:=Qe (k:=Qa (k:=Qa (k:=Nw [(2,N0),(3,vint e47)] [Kk (Sl Enc.part 20 v39 (([Part.n e.kind,Part.n e.writer,Part.n e.seq])++([Part.n e.who,Part.n e.rights]))),Kx Enc.part (([Value.iface 3 (vint e.kind),Value.iface 3 (vint e.writer),Value.iface 3 (vint e.seq)])++([Value.iface 3 (vint e.who),Value.iface 3 (vint e.rights)])) (([Part.n e.kind,Part.n e.writer,Part.n e.seq])++([Part.n e.who,Part.n e.rights])),Kx Enc.part ([Value.iface 3 (vint e.who),Value.iface 3 (vint e.rights)]) ([Part.n e.who,Part.n e.rights]),Kx Enc.part ([Value.iface 3 (vint e.kind),Value.iface 3 (vint e.writer),Value.iface 3 (vint e.seq)]) ([Part.n e.kind,Part.n e.writer,Part.n e.seq]),Cl b1 33 (ecs e nv vv wv),KB nv e.name,KB vv e.value,KW wv e.wraps,Al R] ?_))))
  refine W.ret (ret2 (M:=[]) rfl rfl rfl (.inr (⟨e47,(by unfold Spec.encode Spec.eparts; rw [if_pos (by simp_all)]; rw [if_neg (by omega),if_neg (by omega),if_pos (by omega)]; have hp:=h48; exact hp),(by first | assumption | rfl | omega | (simp; done) | (simp; omega) | (simp [*]; done) | (simp [*]; omega)),rfl,rfl⟩)) (es [8] rfl))
 refine Sn (Qu (OpQ.eql rfl rfl rfl) (k:=Qa (k:=Nl [(1,vptr b1 0),(2,N0),(3,vint 0),(4,v3),(21,vint e.kind),(52,.bool (decide (e.kind=4)))] ?_)))
 refine Cp rfl (fun h50=>?_) (fun h50=>?_)
 ·refine W.region (Qm (k:=?_))
  refine Qu (Of (fa33_5 _ _)) (k:=Qu (Ol 2 ld3) (k:=Qu (OpQ.mkiface (v:=vint e.who) (u:=Value.iface 3 (vint e.who)) rfl rfl (fun _=>by kernel_rfl)) (k:=?_)))
  refine Ru (OpRun.buildSlice (qs:=[(0,Value.iface 3 (vint e.who))]) (cs:=[Value.iface 3 (vint e.who)]) (E:=20) (sz:=1) rfl ⟨rfl,rfl,trivial⟩ (fun _=>by kernel_rfl) (one_cons rfl one_nil) rfl (by decide)) ?_
  rintro v51 _ ⟨h52a,h52b,h52c,rfl⟩
  refine WN.ent (Ent.know (m:=CellsRel Enc.part ([Value.iface 3 (vint e.who)]) ([Part.n e.who])) (fun K h s=>(CellsRel.cons (cs:=[Value.iface 3 (vint e.who)]) (ds:=[]) rfl Enc.part_n CellsRel.nil))) ?_
  refine Ne [Kx Enc.part ([Value.iface 3 (vint e.who)]) ([Part.n e.who]),Rw 20 1 v51 ([Value.iface 3 (vint e.who)]),Kx Enc.part ([Value.iface 3 (vint e.kind),Value.iface 3 (vint e.writer),Value.iface 3 (vint e.seq)]) ([Part.n e.kind,Part.n e.writer,Part.n e.seq]),Rw 20 1 v3 ([Value.iface 3 (vint e.kind),Value.iface 3 (vint e.writer),Value.iface 3 (vint e.seq)]),Cl b1 33 (ecs e nv vv wv),KB nv e.name,KB vv e.value,KW wv e.wraps,Al R] ?_
  refine Nr 3 fun hr55a hr55b hr55c=>?_
  try simp only [La,Lc,Ln] at hr55a
  refine Nr 1 fun hr56a hr56b hr56c=>?_
  try simp only [La,Lc,Ln] at hr56a
  refine Ru (OpRun.appendRow (i:=3) (j:=1) rfl rfl rfl rfl rfl Tryz.underlying274 (inf:=Tryz.t20) (by kernel_rfl) rfl rfl rfl (by_:=16) rfl (by first | omega | (simp; omega)) (by first | omega | (simp; omega))) ?_
  rintro v53 _ ⟨h54a,h54b,rfl⟩
  refine WN.ent (Ent.know (m:=CellsRel Enc.part (([Value.iface 3 (vint e.kind),Value.iface 3 (vint e.writer),Value.iface 3 (vint e.seq)])++([Value.iface 3 (vint e.who)])) (([Part.n e.kind,Part.n e.writer,Part.n e.seq])++([Part.n e.who]))) (fun K h s=>CellsRel.append (e:=Enc.part) (cs:=[Value.iface 3 (vint e.kind),Value.iface 3 (vint e.writer),Value.iface 3 (vint e.seq)]) (ds:=[Value.iface 3 (vint e.who)]) (xs:=[Part.n e.kind,Part.n e.writer,Part.n e.seq]) (ys:=[Part.n e.who]) (kat 2 s rfl) (kat 1 s rfl))) ?_
  refine Ne [Kx Enc.part (([Value.iface 3 (vint e.kind),Value.iface 3 (vint e.writer),Value.iface 3 (vint e.seq)])++([Value.iface 3 (vint e.who)])) (([Part.n e.kind,Part.n e.writer,Part.n e.seq])++([Part.n e.who])),Rw 20 1 v53 (([Value.iface 3 (vint e.kind),Value.iface 3 (vint e.writer),Value.iface 3 (vint e.seq)])++([Value.iface 3 (vint e.who)])),Kx Enc.part ([Value.iface 3 (vint e.who)]) ([Part.n e.who]),Kx Enc.part ([Value.iface 3 (vint e.kind),Value.iface 3 (vint e.writer),Value.iface 3 (vint e.seq)]) ([Part.n e.kind,Part.n e.writer,Part.n e.seq]),Cl b1 33 (ecs e nv vv wv),KB nv e.name,KB vv e.value,KW wv e.wraps,Al R] (Qa (k:=?_))
  refine WN.nil (inblk_n (thn_n (Wl [(2,N0),(3,vint 0),(4,v53)] ?_)))
  refine Sn (Qm (k:=?_))
  refine WN.freezeRel (e:=Enc.part) (i:=1) (j:=0) (Lb rfl) rfl rfl ?_
  refine Ne [Kk (Sl Enc.part 20 v53 (([Part.n e.kind,Part.n e.writer,Part.n e.seq])++([Part.n e.who]))),Kx Enc.part (([Value.iface 3 (vint e.kind),Value.iface 3 (vint e.writer),Value.iface 3 (vint e.seq)])++([Value.iface 3 (vint e.who)])) (([Part.n e.kind,Part.n e.writer,Part.n e.seq])++([Part.n e.who])),Kx Enc.part ([Value.iface 3 (vint e.who)]) ([Part.n e.who]),Kx Enc.part ([Value.iface 3 (vint e.kind),Value.iface 3 (vint e.writer),Value.iface 3 (vint e.seq)]) ([Part.n e.kind,Part.n e.writer,Part.n e.seq]),Cl b1 33 (ecs e nv vv wv),KB nv e.name,KB vv e.value,KW wv e.wraps,Al R] ?_
  refine Wc [.tmp 89] [v53] Tryz.call148 (Put_fn v53 (([Part.n e.kind,Part.n e.writer,Part.n e.seq])++([Part.n e.who])) (by first | omega | (simp; done) | (simp; omega) | (simp at *; omega))) ((ed 0 rfl).trans (ep [0] rfl)) ?_
  rintro _ _ (⟨r57,bs58,h59,h60,rfl,rfl⟩ | ⟨e61,h62,h63,rfl,rfl⟩)
  ·refine Qe (k:=Qe (k:=Qa (k:=Qa (k:=Nw [(2,r57),(3,vint 0)] [KB r57 bs58,Kk (Sl Enc.part 20 v53 (([Part.n e.kind,Part.n e.writer,Part.n e.seq])++([Part.n e.who]))),Kx Enc.part (([Value.iface 3 (vint e.kind),Value.iface 3 (vint e.writer),Value.iface 3 (vint e.seq)])++([Value.iface 3 (vint e.who)])) (([Part.n e.kind,Part.n e.writer,Part.n e.seq])++([Part.n e.who])),Kx Enc.part ([Value.iface 3 (vint e.who)]) ([Part.n e.who]),Kx Enc.part ([Value.iface 3 (vint e.kind),Value.iface 3 (vint e.writer),Value.iface 3 (vint e.seq)]) ([Part.n e.kind,Part.n e.writer,Part.n e.seq]),Cl b1 33 (ecs e nv vv wv),KB nv e.name,KB vv e.value,KW wv e.wraps,Al R] ?_))))
   refine W.ret (ret2 (M:=[KB r57 bs58]) rfl rfl rfl (.inl ⟨r57,bs58,(by unfold Spec.encode Spec.eparts; rw [if_pos (by simp_all)]; rw [if_neg (by omega),if_neg (by omega),if_neg (by omega),if_pos (by omega)]; have hp:=h59; exact hp),(by have:=h60; first | omega | (simp at this; omega)),rfl,rfl⟩) (es [0,8] rfl))
  refine Qe (k:=Qe (k:=Qa (k:=Qa (k:=Nw [(2,N0),(3,vint e61)] [Kk (Sl Enc.part 20 v53 (([Part.n e.kind,Part.n e.writer,Part.n e.seq])++([Part.n e.who]))),Kx Enc.part (([Value.iface 3 (vint e.kind),Value.iface 3 (vint e.writer),Value.iface 3 (vint e.seq)])++([Value.iface 3 (vint e.who)])) (([Part.n e.kind,Part.n e.writer,Part.n e.seq])++([Part.n e.who])),Kx Enc.part ([Value.iface 3 (vint e.who)]) ([Part.n e.who]),Kx Enc.part ([Value.iface 3 (vint e.kind),Value.iface 3 (vint e.writer),Value.iface 3 (vint e.seq)]) ([Part.n e.kind,Part.n e.writer,Part.n e.seq]),Cl b1 33 (ecs e nv vv wv),KB nv e.name,KB vv e.value,KW wv e.wraps,Al R] ?_))))
  refine W.ret (ret2 (M:=[]) rfl rfl rfl (.inr (⟨e61,(by unfold Spec.encode Spec.eparts; rw [if_pos (by simp_all)]; rw [if_neg (by omega),if_neg (by omega),if_neg (by omega),if_pos (by omega)]; have hp:=h62; exact hp),(by first | assumption | rfl | omega | (simp; done) | (simp; omega) | (simp [*]; done) | (simp [*]; omega)),rfl,rfl⟩)) (es [8] rfl))
 refine Sn (Qu (OpQ.eql rfl rfl rfl) (k:=Qa (k:=Nl [(1,vptr b1 0),(2,N0),(3,vint 0),(4,v3),(60,.bool (decide (e.kind=5)))] ?_)))
 refine Cp rfl (fun h64=>?_) (fun h64=>?_)
 ·refine Sn (Qm (k:=Qu (Of (fa33_7 _ _)) (k:=Qu (Ol 2 ld3) (k:=Qu (OpQ.mkiface (v:=vint e.epoch) (u:=Value.iface 3 (vint e.epoch)) rfl rfl (fun _=>by kernel_rfl)) (k:=Qu (Of (fa33_8 _ _)) (k:=Qu (Ol 2 ld31) (k:=?_)))))))
  refine Nk 5 fun hl65=>?_
  refine Qu (OpQ.lenSl (i:=5) rfl rfl rfl (len31 _)) (k:=Qu (OpQ.mkiface (v:=vint (e.wraps.length:Int)) (u:=Value.iface 3 (vint (e.wraps.length:Int))) rfl rfl (fun _=>by kernel_rfl)) (k:=?_))
  refine Ru (OpRun.buildSlice (qs:=[(0,Value.iface 3 (vint e.epoch)),(1,Value.iface 3 (vint (e.wraps.length:Int)))]) (cs:=[Value.iface 3 (vint e.epoch),Value.iface 3 (vint (e.wraps.length:Int))]) (E:=20) (sz:=1) rfl ⟨rfl,rfl,rfl,rfl,trivial⟩ (fun _=>by kernel_rfl) (one_cons rfl (one_cons rfl one_nil)) rfl (by decide)) ?_
  rintro v66 _ ⟨h67a,h67b,h67c,rfl⟩
  refine WN.ent (Ent.know (m:=CellsRel Enc.part ([Value.iface 3 (vint e.epoch),Value.iface 3 (vint (e.wraps.length:Int))]) ([Part.n e.epoch,Part.n (e.wraps.length:Int)])) (fun K h s=>(CellsRel.cons (cs:=[Value.iface 3 (vint e.epoch)]) (ds:=[Value.iface 3 (vint (e.wraps.length:Int))]) rfl Enc.part_n (CellsRel.cons (cs:=[Value.iface 3 (vint (e.wraps.length:Int))]) (ds:=[]) rfl Enc.part_n CellsRel.nil)))) ?_
  refine Ne [Kx Enc.part ([Value.iface 3 (vint e.epoch),Value.iface 3 (vint (e.wraps.length:Int))]) ([Part.n e.epoch,Part.n (e.wraps.length:Int)]),Rw 20 1 v66 ([Value.iface 3 (vint e.epoch),Value.iface 3 (vint (e.wraps.length:Int))]),Kx Enc.part ([Value.iface 3 (vint e.kind),Value.iface 3 (vint e.writer),Value.iface 3 (vint e.seq)]) ([Part.n e.kind,Part.n e.writer,Part.n e.seq]),Rw 20 1 v3 ([Value.iface 3 (vint e.kind),Value.iface 3 (vint e.writer),Value.iface 3 (vint e.seq)]),Cl b1 33 (ecs e nv vv wv),KB nv e.name,KB vv e.value,KW wv e.wraps,Al R] ?_
  refine Nr 3 fun hr70a hr70b hr70c=>?_
  try simp only [La,Lc,Ln] at hr70a
  refine Nr 1 fun hr71a hr71b hr71c=>?_
  try simp only [La,Lc,Ln] at hr71a
  refine Ru (OpRun.appendRow (i:=3) (j:=1) rfl rfl rfl rfl rfl Tryz.underlying274 (inf:=Tryz.t20) (by kernel_rfl) rfl rfl rfl (by_:=16) rfl (by first | omega | (simp; omega)) (by first | omega | (simp; omega))) ?_
  rintro v68 _ ⟨h69a,h69b,rfl⟩
  refine WN.ent (Ent.know (m:=CellsRel Enc.part (([Value.iface 3 (vint e.kind),Value.iface 3 (vint e.writer),Value.iface 3 (vint e.seq)])++([Value.iface 3 (vint e.epoch),Value.iface 3 (vint (e.wraps.length:Int))])) (([Part.n e.kind,Part.n e.writer,Part.n e.seq])++([Part.n e.epoch,Part.n (e.wraps.length:Int)]))) (fun K h s=>CellsRel.append (e:=Enc.part) (cs:=[Value.iface 3 (vint e.kind),Value.iface 3 (vint e.writer),Value.iface 3 (vint e.seq)]) (ds:=[Value.iface 3 (vint e.epoch),Value.iface 3 (vint (e.wraps.length:Int))]) (xs:=[Part.n e.kind,Part.n e.writer,Part.n e.seq]) (ys:=[Part.n e.epoch,Part.n (e.wraps.length:Int)]) (kat 2 s rfl) (kat 1 s rfl))) ?_
  refine Ne [Kx Enc.part (([Value.iface 3 (vint e.kind),Value.iface 3 (vint e.writer),Value.iface 3 (vint e.seq)])++([Value.iface 3 (vint e.epoch),Value.iface 3 (vint (e.wraps.length:Int))])) (([Part.n e.kind,Part.n e.writer,Part.n e.seq])++([Part.n e.epoch,Part.n (e.wraps.length:Int)])),Rw 20 1 v68 (([Value.iface 3 (vint e.kind),Value.iface 3 (vint e.writer),Value.iface 3 (vint e.seq)])++([Value.iface 3 (vint e.epoch),Value.iface 3 (vint (e.wraps.length:Int))])),Kx Enc.part ([Value.iface 3 (vint e.epoch),Value.iface 3 (vint (e.wraps.length:Int))]) ([Part.n e.epoch,Part.n (e.wraps.length:Int)]),Kx Enc.part ([Value.iface 3 (vint e.kind),Value.iface 3 (vint e.writer),Value.iface 3 (vint e.seq)]) ([Part.n e.kind,Part.n e.writer,Part.n e.seq]),Cl b1 33 (ecs e nv vv wv),KB nv e.name,KB vv e.value,KW wv e.wraps,Al R] (Qa (k:=Nl [(1,vptr b1 0),(2,N0),(3,vint 0),(4,v68)] ?_))
  refine Sn (Qu (Of (fa33_8 _ _)) (k:=Qu (Ol 4 ld31) (k:=Qu (OpQ.lenSl (i:=7) rfl rfl rfl (len31 _)) (k:=Qm (k:=Nl [(2,N0),(3,vint 0),(4,v68),(73,wv),(74,vint (e.wraps.length:Int)),(75,vint 0)] ?_)))))
  refine W.block ?_
  have hwl:=Spec.right_wraps (e:=e) (by simp_all)
  refine W.opens Opens.sl (i:=7) rfl (fun f72 _=>?_)
  refine We [Ka 227 2 wv e.wraps.length f72,Kr Enc.wrap f72 e.wraps,Kx Enc.part (([Value.iface 3 (vint e.kind),Value.iface 3 (vint e.writer),Value.iface 3 (vint e.seq)])++([Value.iface 3 (vint e.epoch),Value.iface 3 (vint (e.wraps.length:Int))])) (([Part.n e.kind,Part.n e.writer,Part.n e.seq])++([Part.n e.epoch,Part.n (e.wraps.length:Int)])),Rw 20 1 v68 (([Value.iface 3 (vint e.kind),Value.iface 3 (vint e.writer),Value.iface 3 (vint e.seq)])++([Value.iface 3 (vint e.epoch),Value.iface 3 (vint (e.wraps.length:Int))])),Kx Enc.part ([Value.iface 3 (vint e.epoch),Value.iface 3 (vint (e.wraps.length:Int))]) ([Part.n e.epoch,Part.n (e.wraps.length:Int)]),Kx Enc.part ([Value.iface 3 (vint e.kind),Value.iface 3 (vint e.writer),Value.iface 3 (vint e.seq)]) ([Part.n e.kind,Part.n e.writer,Part.n e.seq]),Cl b1 33 (ecs e nv vv wv),KB nv e.name,KB vv e.value,Al R] ?_
  refine W.loop (X:=Nat × Value × List Value) (fun x=>match x with | (k,o,cs)=>[(4,o),(73,wv),(74,vint (e.wraps.length:Int)),(75,vint (k:Int))]) (fun x=>match x with | (k,o,cs)=>[Asn.pure (k≤e.wraps.length∧cs.length=5+2*k),Rw 20 1 o cs,Kx Enc.part cs (([Part.n e.kind,Part.n e.writer,Part.n e.seq]++[Part.n e.epoch,Part.n (e.wraps.length:Int)])++(e.wraps.take k).flatMap Spec.wparts),Ka 227 2 wv e.wraps.length f72,Kr Enc.wrap f72 e.wraps,Cl b1 33 (ecs e nv vv wv),KB nv e.name,KB vv e.value,Al R]) (fun x=>match x with | (k,o,cs)=>e.wraps.length - k) (0,v68,([Value.iface 3 (vint e.kind),Value.iface 3 (vint e.writer),Value.iface 3 (vint e.seq)])++([Value.iface 3 (vint e.epoch),Value.iface 3 (vint (e.wraps.length:Int))])) ⟨rfl,rfl,rfl,rfl,trivial⟩ (((es [3,2,0,0,2,2,2,2] rfl).trans (Ent.of_eq (by simp only [List.take_zero,List.flatMap_nil,List.append_nil]))).trans (Ent.pure_in (by exact ⟨Nat.zero_le _,rfl⟩))) (fun x=>?_)
  obtain ⟨k,o,cs⟩:=x
  show W _ _ _ _ _ [(4,o),(73,wv),(74,vint (e.wraps.length:Int)),(75,vint (k:Int))] [Asn.pure (k≤e.wraps.length∧cs.length=5+2*k),Rw 20 1 o cs,Kx Enc.part cs (([Part.n e.kind,Part.n e.writer,Part.n e.seq]++[Part.n e.epoch,Part.n (e.wraps.length:Int)])++(e.wraps.take k).flatMap Spec.wparts),Ka 227 2 wv e.wraps.length f72,Kr Enc.wrap f72 e.wraps,Cl b1 33 (ecs e nv vv wv),KB nv e.name,KB vv e.value,Al R]
  refine W.opens Opens.pure (i:=0) rfl (fun _ hI73=>?_)
  replace hI73:=hI73
  show W _ _ _ _ _ [(4,o),(73,wv),(74,vint (e.wraps.length:Int)),(75,vint (k:Int))] [Rw 20 1 o cs,Kx Enc.part cs (([Part.n e.kind,Part.n e.writer,Part.n e.seq]++[Part.n e.epoch,Part.n (e.wraps.length:Int)])++(e.wraps.take k).flatMap Spec.wparts),Ka 227 2 wv e.wraps.length f72,Kr Enc.wrap f72 e.wraps,Cl b1 33 (ecs e nv vv wv),KB nv e.name,KB vv e.value,Al R]
  refine Sn (Qu (OpQ.lss rfl rfl rfl) (k:=Nl [(4,o),(73,wv),(74,vint (e.wraps.length:Int)),(75,vint (k:Int)),(76,.bool (decide ((k:Int) < (e.wraps.length:Int))))] ?_))
  refine W.seq (Cp rfl (fun h74=>?_) (fun h74=>?_))
  ·refine W.skip (thn_n (Wl [(4,o),(73,wv),(74,vint (e.wraps.length:Int)),(75,vint (k:Int))] ?_))
   refine W.seq (W.block (Sn (WN.opens (Opens.wrap (xs:=e.wraps) (i:=k) (by omega)) (i:=3) rfl (fun z he75=>?_))))
   refine Ne [KB z ((e.wraps.getD k default).box),Kr Enc.wrap f72 e.wraps,Rw 20 1 o cs,Kx Enc.part cs (([Part.n e.kind,Part.n e.writer,Part.n e.seq]++[Part.n e.epoch,Part.n (e.wraps.length:Int)])++(e.wraps.take k).flatMap Spec.wparts),Ka 227 2 wv e.wraps.length f72,Cl b1 33 (ecs e nv vv wv),KB nv e.name,KB vv e.value,Al R] (Qu (OpQ.indexAddr (i:=4) (j:=k*2) rfl rfl rfl rfl (by omega) (by omega) (by omega) ix31) (k:=Qu (OpQ.loadSubN (i:=4) rfl rfl rfl he75 rfl (by omega) (by decide) ld227) (k:=?_)))
   refine Ru (OpRun.alloc rfl zv227 rfl) ?_
   rintro _ _ ⟨b76,rfl,rfl⟩
   refine Nf 1 fun ho77=>?_
   refine Rn (OpRun.store (i:=0) (vs:=[vint ((e.wraps.getD k default).who),z]) (cs':=[vint ((e.wraps.getD k default).who),z]) rfl rfl rfl sz227 rfl rfl (one_cons rfl (one_cons ho77 one_nil)) rfl (Lb rfl) rfl) (k:=Nw [(4,o),(6,vptr b76 0),(73,wv),(74,vint (e.wraps.length:Int)),(75,vint (k:Int))] [Cl b76 227 [vint ((e.wraps.getD k default).who),z],KB z ((e.wraps.getD k default).box),Kr Enc.wrap f72 e.wraps,Rw 20 1 o cs,Kx Enc.part cs (([Part.n e.kind,Part.n e.writer,Part.n e.seq]++[Part.n e.epoch,Part.n (e.wraps.length:Int)])++(e.wraps.take k).flatMap Spec.wparts),Ka 227 2 wv e.wraps.length f72,Cl b1 33 (ecs e nv vv wv),KB nv e.name,KB vv e.value,Al R] ?_)
   refine W.region (Qm (k:=?_))
   refine Qu (Of (fa227_0 _ _)) (k:=Qu (Ol 0 ld3) (k:=Qu (OpQ.mkiface (v:=vint ((e.wraps.getD k default).who)) (u:=Value.iface 3 (vint ((e.wraps.getD k default).who))) rfl rfl (fun _=>by kernel_rfl)) (k:=Qu (Of (fa227_1 _ _)) (k:=Qu (Ol 0 ld22) (k:=?_)))))
   refine WN.fact (fun _ _ s=>sl_isS (i:=1) rfl s) (fun hS78=>?_)
   refine Qu (OpQ.mkiface (v:=z) (u:=Value.iface 22 (z)) rfl rfl (fun _=>by obtain ⟨_,_,_,e1⟩:=hS78; rw [e1]; kernel_rfl)) (k:=?_)
   refine Ru (OpRun.buildSlice (qs:=[(0,Value.iface 3 (vint ((e.wraps.getD k default).who))),(1,Value.iface 22 (z))]) (cs:=[Value.iface 3 (vint ((e.wraps.getD k default).who)),Value.iface 22 (z)]) (E:=20) (sz:=1) rfl ⟨rfl,rfl,rfl,rfl,trivial⟩ (fun _=>by kernel_rfl) (one_cons rfl (one_cons rfl one_nil)) rfl (by decide)) ?_
   rintro v79 _ ⟨h80a,h80b,h80c,rfl⟩
   refine WN.ent (Ent.know (m:=CellsRel Enc.part ([Value.iface 3 (vint ((e.wraps.getD k default).who)),Value.iface 22 (z)]) ([Part.n ((e.wraps.getD k default).who),Part.b ((e.wraps.getD k default).box)])) (fun K h s=>(CellsRel.cons (cs:=[Value.iface 3 (vint ((e.wraps.getD k default).who))]) (ds:=[Value.iface 22 (z)]) rfl Enc.part_n (CellsRel.cons (cs:=[Value.iface 22 (z)]) (ds:=[]) rfl (Enc.part_b (kat 2 s rfl)) CellsRel.nil)))) ?_
   refine Ne [Kx Enc.part ([Value.iface 3 (vint ((e.wraps.getD k default).who)),Value.iface 22 (z)]) ([Part.n ((e.wraps.getD k default).who),Part.b ((e.wraps.getD k default).box)]),Rw 20 1 v79 ([Value.iface 3 (vint ((e.wraps.getD k default).who)),Value.iface 22 (z)]),Cl b76 227 [vint ((e.wraps.getD k default).who),z],KB z ((e.wraps.getD k default).box),Kr Enc.wrap f72 e.wraps,Rw 20 1 o cs,Kx Enc.part cs (([Part.n e.kind,Part.n e.writer,Part.n e.seq]++[Part.n e.epoch,Part.n (e.wraps.length:Int)])++(e.wraps.take k).flatMap Spec.wparts),Ka 227 2 wv e.wraps.length f72,Cl b1 33 (ecs e nv vv wv),KB nv e.name,KB vv e.value,Al R] ?_
   refine Nr 5 fun hr83a hr83b hr83c=>?_
   try simp only [La,Lc,Ln] at hr83a
   refine Nr 1 fun hr84a hr84b hr84c=>?_
   try simp only [La,Lc,Ln] at hr84a
   refine Ru (OpRun.appendRow (i:=5) (j:=1) rfl rfl rfl rfl rfl Tryz.underlying274 (inf:=Tryz.t20) (by kernel_rfl) rfl rfl rfl (by_:=16) rfl (by first | omega | (simp; omega)) (by first | omega | (simp; omega))) ?_
   rintro v81 _ ⟨h82a,h82b,rfl⟩
   refine WN.ent (Ent.know (m:=CellsRel Enc.part (cs++([Value.iface 3 (vint ((e.wraps.getD k default).who)),Value.iface 22 (z)])) ((([Part.n e.kind,Part.n e.writer,Part.n e.seq]++[Part.n e.epoch,Part.n (e.wraps.length:Int)])++(e.wraps.take k).flatMap Spec.wparts)++([Part.n ((e.wraps.getD k default).who),Part.b ((e.wraps.getD k default).box)]))) (fun K h s=>CellsRel.append (e:=Enc.part) (cs:=cs) (ds:=[Value.iface 3 (vint ((e.wraps.getD k default).who)),Value.iface 22 (z)]) (xs:=([Part.n e.kind,Part.n e.writer,Part.n e.seq]++[Part.n e.epoch,Part.n (e.wraps.length:Int)])++(e.wraps.take k).flatMap Spec.wparts) (ys:=[Part.n ((e.wraps.getD k default).who),Part.b ((e.wraps.getD k default).box)]) (kat 5 s rfl) (kat 1 s rfl))) ?_
   refine Ne [Kx Enc.part (cs++([Value.iface 3 (vint ((e.wraps.getD k default).who)),Value.iface 22 (z)])) ((([Part.n e.kind,Part.n e.writer,Part.n e.seq]++[Part.n e.epoch,Part.n (e.wraps.length:Int)])++(e.wraps.take k).flatMap Spec.wparts)++([Part.n ((e.wraps.getD k default).who),Part.b ((e.wraps.getD k default).box)])),Rw 20 1 v81 (cs++([Value.iface 3 (vint ((e.wraps.getD k default).who)),Value.iface 22 (z)])),Kx Enc.part ([Value.iface 3 (vint ((e.wraps.getD k default).who)),Value.iface 22 (z)]) ([Part.n ((e.wraps.getD k default).who),Part.b ((e.wraps.getD k default).box)]),Cl b76 227 [vint ((e.wraps.getD k default).who),z],KB z ((e.wraps.getD k default).box),Kr Enc.wrap f72 e.wraps,Kx Enc.part cs (([Part.n e.kind,Part.n e.writer,Part.n e.seq]++[Part.n e.epoch,Part.n (e.wraps.length:Int)])++(e.wraps.take k).flatMap Spec.wparts),Ka 227 2 wv e.wraps.length f72,Cl b1 33 (ecs e nv vv wv),KB nv e.name,KB vv e.value,Al R] ?_
   refine Qa (k:=?_)
   refine WN.nil (inblk_n (thn_n (Wl [(4,v81),(73,wv),(74,vint (e.wraps.length:Int)),(75,vint (k:Int))] ?_)))
   refine W.region (Qu (OpQ.add rfl rfl rfl ⟨by omega,by omega⟩) (k:=?_))
   refine Qm (k:=?_)
   refine WN.nil (thn_n ⟨(k+1,v81,cs++([Value.iface 3 (vint ((e.wraps.getD k default).who)),Value.iface 22 (z)])),by (show e.wraps.length - (k+1) < e.wraps.length - k); omega,⟨rfl,rfl,rfl,(Eq.trans (b:=some (vint ((k:Int)+1))) rfl (by first | rfl | (congr 2; omega))),trivial⟩,?_⟩)
   exact ((es [1,0,5,3,4,4,4,4] rfl).trans (Ent.of_eq (by rw [flatMap_take_succ (d:=default) (by omega),← List.append_assoc]; rfl))).trans (Ent.pure_in (by exact ⟨by omega,by have:=hI73.2; simp; omega⟩))
  obtain rfl:k=e.wraps.length:=by omega
  refine W.exit (thn_x (thn_x (inblk_x (inblk_n (thn_n (Ww [(4,o)] [Rw 20 1 o cs,Kx Enc.part cs (([Part.n e.kind,Part.n e.writer,Part.n e.seq]++[Part.n e.epoch,Part.n (e.wraps.length:Int)])++(e.wraps.take e.wraps.length).flatMap Spec.wparts),Ka 227 2 wv e.wraps.length f72,Kr Enc.wrap f72 e.wraps,Cl b1 33 (ecs e nv vv wv),KB nv e.name,KB vv e.value,Al R] ?_))))))
  refine W.seq (W.region ?_)
  have hpl:(([Part.n e.kind,Part.n e.writer,Part.n e.seq]++[Part.n e.epoch,Part.n (e.wraps.length:Int)])++(e.wraps.take e.wraps.length).flatMap Spec.wparts).length=5+2*e.wraps.length:=by rw [List.take_length,List.length_append,Spec.wparts_length]; rfl
  refine Qm (k:=?_)
  refine WN.freezeRel (e:=Enc.part) (i:=0) (j:=0) (Lb rfl) rfl rfl ?_
  refine Ne [Kk (Sl Enc.part 20 o (([Part.n e.kind,Part.n e.writer,Part.n e.seq]++[Part.n e.epoch,Part.n (e.wraps.length:Int)])++(e.wraps.take e.wraps.length).flatMap Spec.wparts)),Kx Enc.part cs (([Part.n e.kind,Part.n e.writer,Part.n e.seq]++[Part.n e.epoch,Part.n (e.wraps.length:Int)])++(e.wraps.take e.wraps.length).flatMap Spec.wparts),Ka 227 2 wv e.wraps.length f72,Kr Enc.wrap f72 e.wraps,Cl b1 33 (ecs e nv vv wv),KB nv e.name,KB vv e.value,Al R] ?_
  refine Wc [.tmp 89] [o] Tryz.call148 (Put_fn o (([Part.n e.kind,Part.n e.writer,Part.n e.seq]++[Part.n e.epoch,Part.n (e.wraps.length:Int)])++(e.wraps.take e.wraps.length).flatMap Spec.wparts) (by first | omega | (simp; done) | (simp; omega) | (simp at *; omega))) ((ed 0 rfl).trans (ep [0] rfl)) ?_
  rintro _ _ (⟨r85,bs86,h87,h88,rfl,rfl⟩ | ⟨e89,h90,h91,rfl,rfl⟩)
  ·refine Qe (k:=Qe (k:=Qa (k:=Qa (k:=Nw [(2,r85),(3,vint 0)] [KB r85 bs86,Kk (Sl Enc.part 20 o (([Part.n e.kind,Part.n e.writer,Part.n e.seq]++[Part.n e.epoch,Part.n (e.wraps.length:Int)])++(e.wraps.take e.wraps.length).flatMap Spec.wparts)),Kx Enc.part cs (([Part.n e.kind,Part.n e.writer,Part.n e.seq]++[Part.n e.epoch,Part.n (e.wraps.length:Int)])++(e.wraps.take e.wraps.length).flatMap Spec.wparts),Ka 227 2 wv e.wraps.length f72,Kr Enc.wrap f72 e.wraps,Cl b1 33 (ecs e nv vv wv),KB nv e.name,KB vv e.value,Al R] ?_))))
   refine W.ret (ret2 (M:=[KB r85 bs86]) rfl rfl rfl (.inl ⟨r85,bs86,(by unfold Spec.encode Spec.eparts; rw [if_pos (by simp_all)]; rw [if_neg (by omega),if_neg (by omega),if_neg (by omega),if_neg (by omega),if_pos (by omega)]; have hp:=h87; rw [List.take_length] at hp; rw [← List.append_assoc]; exact hp),(by have:=h88; first | omega | (simp at this; omega)),rfl,rfl⟩) (es [0,7] rfl))
  refine Qe (k:=Qe (k:=Qa (k:=Qa (k:=Nw [(2,N0),(3,vint e89)] [Kk (Sl Enc.part 20 o (([Part.n e.kind,Part.n e.writer,Part.n e.seq]++[Part.n e.epoch,Part.n (e.wraps.length:Int)])++(e.wraps.take e.wraps.length).flatMap Spec.wparts)),Kx Enc.part cs (([Part.n e.kind,Part.n e.writer,Part.n e.seq]++[Part.n e.epoch,Part.n (e.wraps.length:Int)])++(e.wraps.take e.wraps.length).flatMap Spec.wparts),Ka 227 2 wv e.wraps.length f72,Kr Enc.wrap f72 e.wraps,Cl b1 33 (ecs e nv vv wv),KB nv e.name,KB vv e.value,Al R] ?_))))
  refine W.ret (ret2 (M:=[]) rfl rfl rfl (.inr (⟨e89,(by unfold Spec.encode Spec.eparts; rw [if_pos (by simp_all)]; rw [if_neg (by omega),if_neg (by omega),if_neg (by omega),if_neg (by omega),if_pos (by omega)]; have hp:=h90; rw [List.take_length] at hp; rw [← List.append_assoc]; exact hp),(by first | assumption | rfl | omega | (simp; done) | (simp; omega) | (simp [*]; done) | (simp [*]; omega)),rfl,rfl⟩)) (es [7] rfl))
 refine W.skip (inblk_n (thn_n (Wl [(2,N0),(3,vint 0),(4,v3)] ?_)))
 refine Sn (Qm (k:=?_))
 refine WN.freezeRel (e:=Enc.part) (i:=1) (j:=0) (Lb rfl) rfl rfl ?_
 refine Ne [Kk (Sl Enc.part 20 v3 ([Part.n e.kind,Part.n e.writer,Part.n e.seq])),Kx Enc.part ([Value.iface 3 (vint e.kind),Value.iface 3 (vint e.writer),Value.iface 3 (vint e.seq)]) ([Part.n e.kind,Part.n e.writer,Part.n e.seq]),Cl b1 33 (ecs e nv vv wv),KB nv e.name,KB vv e.value,KW wv e.wraps,Al R] ?_
 refine Wc [.tmp 89] [v3] Tryz.call148 (Put_fn v3 ([Part.n e.kind,Part.n e.writer,Part.n e.seq]) (by first | omega | (simp; done) | (simp; omega) | (simp at *; omega))) ((ed 0 rfl).trans (ep [0] rfl)) ?_
 rintro _ _ (⟨r92,bs93,h94,h95,rfl,rfl⟩ | ⟨e96,h97,h98,rfl,rfl⟩)
 ·refine Qe (k:=Qe (k:=Qa (k:=Qa (k:=Nw [(2,r92),(3,vint 0)] [KB r92 bs93,Kk (Sl Enc.part 20 v3 ([Part.n e.kind,Part.n e.writer,Part.n e.seq])),Kx Enc.part ([Value.iface 3 (vint e.kind),Value.iface 3 (vint e.writer),Value.iface 3 (vint e.seq)]) ([Part.n e.kind,Part.n e.writer,Part.n e.seq]),Cl b1 33 (ecs e nv vv wv),KB nv e.name,KB vv e.value,KW wv e.wraps,Al R] ?_))))
  refine W.ret (ret2 (M:=[KB r92 bs93]) rfl rfl rfl (.inl ⟨r92,bs93,(by exfalso; first | omega | (have:=Spec.right_kind (e:=e) (by simp_all); omega)),(by have:=h95; first | omega | (simp at this; omega)),rfl,rfl⟩) (es [0,6] rfl))
 refine Qe (k:=Qe (k:=Qa (k:=Qa (k:=Nw [(2,N0),(3,vint e96)] [Kk (Sl Enc.part 20 v3 ([Part.n e.kind,Part.n e.writer,Part.n e.seq])),Kx Enc.part ([Value.iface 3 (vint e.kind),Value.iface 3 (vint e.writer),Value.iface 3 (vint e.seq)]) ([Part.n e.kind,Part.n e.writer,Part.n e.seq]),Cl b1 33 (ecs e nv vv wv),KB nv e.name,KB vv e.value,KW wv e.wraps,Al R] ?_))))
 refine W.ret (ret2 (M:=[]) rfl rfl rfl (.inr (⟨e96,(by exfalso; first | omega | (have:=Spec.right_kind (e:=e) (by simp_all); omega)),(by first | assumption | rfl | omega | (simp; done) | (simp; omega) | (simp [*]; done) | (simp [*]; omega)),rfl,rfl⟩)) (es [6] rfl))
theorem Decode1_fn (cb:Nat) (rp:Nat) (s:Option Bytes):Fn Tryz.prog 206 #[vptr cb 0] [Cl cb 272 [vptr rp 0],ReaderR rp s] (fun v M=>∃ (x:Int) (s':Option Bytes),Spec.rnumber 1 16 s=(x,s')∧vint x=v∧M=[Cl cb 272 [vptr rp 0],ReaderR rp s']):=by
 refine Fi 4 Tryz.func206 fun g R=>?_
 refine Ww [(0,vptr cb 0)] [Cl cb 272 [vptr rp 0],ReaderR rp s,Al R] ?_
 refine Sn (Qa (k:=Nl [(0,vptr cb 0),(1,vint 0)] ?_))
 refine Sn (Qu (Ol 0 ld272) (k:=?_))
 refine Wc [.tmp 2,.const (.int .i64 1),.const (.int .i64 16)] [vptr rp 0,vint 1,vint 16] Tryz.call143 (Number_fn rp s 1 16) (ep [1] rfl) ?_
 rintro _ _ ⟨x1,s2,h3,rfl,rfl⟩
 refine Qa (k:=Nw [(1,vint x1)] [ReaderR rp s2,Cl cb 272 [vptr rp 0],Al R] ?_)
 refine W.ret (ret1 (M:=[Cl cb 272 [vptr rp 0],ReaderR rp s2]) rfl rfl (⟨x1,s2,(by first | assumption | rfl | omega | (simp; done) | (simp; omega) | (simp [*]; done) | (simp [*]; omega)),rfl,rfl⟩) (es [1,0,0] rfl))
theorem Decode_fn (b:Value) (bs:Bytes) (hb:bs.length≤1000000):Fn Tryz.prog 122 #[b] [KB b bs] (fun v M=>(∃ (e:Entry) (n2:Value) (v2:Value) (w2:Value),Spec.decode bs = .ok e∧.tuple #[.agg #[vint e.kind,vint e.writer,vint e.seq,n2,v2,vint e.who,vint e.rights,vint e.epoch,w2],vint 0]=v∧M=[KB n2 e.name,KB v2 e.value,KW w2 e.wraps])∨(Spec.decode bs = .error 10∧.tuple #[.agg #[vint 0,vint 0,vint 0,.slice none 0 0,.slice none 0 0,vint 0,vint 0,vint 0,.slice none 0 0],vint 10]=v∧M=[])):=by
 refine Fi 87 Tryz.func122 fun g R=>?_
 refine Ww [(0,b)] [KB b bs,Al R] ?_
 refine Sn (Ru (OpRun.alloc rfl zv33 rfl) ?_)
 rintro _ _ ⟨b1,rfl,rfl⟩
 refine Qa (k:=Nw [(0,b),(2,vptr b1 0),(3,vint 0)] [Cl b1 33 [vint 0,vint 0,vint 0,N0,N0,vint 0,vint 0,vint 0,N0],KB b bs,Al R] ?_)
 refine Sn (Qm (k:=?_))
 refine Wc [.tmp 9] [b] Tryz.call142 (Read_fn b bs (by first | omega | (simp; done) | (simp; omega) | (simp at *; omega))) ((ed 1 rfl).trans (ep [0] rfl)) ?_
 rintro _ _ ⟨rp2,rfl,rfl⟩
 refine Ru (OpRun.alloc rfl zv272 rfl) ?_
 rintro _ _ ⟨b3,rfl,rfl⟩
 refine Rn (OpRun.store (i:=0) (vs:=[vptr rp2 0]) (cs':=[vptr rp2 0]) rfl rfl rfl sz272 rfl rfl (one_cons rfl one_nil) rfl (Lb rfl) rfl) (k:=Nw [(2,vptr b1 0),(3,vint 0),(4,vptr b3 0)] [Cl b3 272 [vptr rp2 0],ReaderR rp2 (some bs),Cl b1 33 [vint 0,vint 0,vint 0,N0,N0,vint 0,vint 0,vint 0,N0],KB b bs,Al R] ?_)
 refine Sn (Qu (OpQ.makeFunc (xs:=[.tmp 4]) (vs:=[vptr b3 0]) rfl ⟨rfl,trivial⟩) (k:=Qa (k:=Nl [(2,vptr b1 0),(3,vint 0),(4,vptr b3 0),(5,.func (.func 206) #[] #[vptr b3 0])] ?_)))
 refine Sn (Qu (Ol 0 ld272) (k:=?_))
 refine Wc [.tmp 12,.const (.int .i64 1),.const (.int .i64 5)] [vptr rp2 0,vint 1,vint 5] Tryz.call143 (Number_fn rp2 (some bs) 1 5) (ep [1] rfl) ?_
 rintro _ _ ⟨x4,s5,h6,rfl,rfl⟩
 refine Qu (OpQ.build (qs:=[(0,vint x4)]) (v:=.agg #[vint x4,vint 0,vint 0,N0,N0,vint 0,vint 0,vint 0,N0]) rfl ⟨rfl,rfl,trivial⟩ (fun _=>by kernel_rfl)) (k:=?_)
 refine Ru (OpRun.alloc rfl zv33 rfl) ?_
 rintro _ _ ⟨b7,rfl,rfl⟩
 refine Rn (OpRun.store (i:=0) (vs:=[vint x4,vint 0,vint 0,N0,N0,vint 0,vint 0,vint 0,N0]) (cs':=[vint x4,vint 0,vint 0,N0,N0,vint 0,vint 0,vint 0,N0]) rfl rfl rfl sz33 rfl rfl (O3 (O3 (O3 one_nil))) rfl (Lb rfl) rfl) (k:=Nw [(2,vptr b1 0),(3,vint 0),(4,vptr b3 0),(5,.func (.func 206) #[] #[vptr b3 0]),(6,vptr b7 0)] [Cl b7 33 [vint x4,vint 0,vint 0,N0,N0,vint 0,vint 0,vint 0,N0],ReaderR rp2 s5,Cl b3 272 [vptr rp2 0],Cl b1 33 [vint 0,vint 0,vint 0,N0,N0,vint 0,vint 0,vint 0,N0],KB b bs,Al R] ?_)
 refine Sn (Qm (k:=?_))
 refine WN.call rfl rfl (OpCall.clo (xs:=[]) (vs:=[]) rfl rfl trivial Tryz.call206) (Decode1_fn b3 rp2 s5) (ep [2,1] rfl) ?_
 rintro _ _ ⟨x8,s9,h10,rfl,rfl⟩
 refine Qu (Of (fa33_1 _ _)) (k:=Rn (OpRun.store (i:=2) (vs:=[vint x8]) (cs':=[vint x4,vint x8,vint 0,N0,N0,vint 0,vint 0,vint 0,N0]) rfl rfl rfl sz3 rfl rfl (one_cons rfl one_nil) rfl (Lb rfl) rfl) (k:=Nw [(2,vptr b1 0),(3,vint 0),(4,vptr b3 0),(5,.func (.func 206) #[] #[vptr b3 0]),(6,vptr b7 0)] [Cl b7 33 [vint x4,vint x8,vint 0,N0,N0,vint 0,vint 0,vint 0,N0],Cl b3 272 [vptr rp2 0],ReaderR rp2 s9,Cl b1 33 [vint 0,vint 0,vint 0,N0,N0,vint 0,vint 0,vint 0,N0],KB b bs,Al R] ?_))
 refine Sn (Qu (Ol 1 ld272) (k:=?_))
 refine Wc [.tmp 18,.const (.int .i64 1),.const (.int .i64 1099511627776)] [vptr rp2 0,vint 1,vint 1099511627776] Tryz.call143 (Number_fn rp2 s9 1 1099511627776) (ep [2] rfl) ?_
 rintro _ _ ⟨x11,s12,h13,rfl,rfl⟩
 refine Qu (Of (fa33_2 _ _)) (k:=Rn (OpRun.store (i:=1) (vs:=[vint x11]) (cs':=[vint x4,vint x8,vint x11,N0,N0,vint 0,vint 0,vint 0,N0]) rfl rfl rfl sz3 rfl rfl (one_cons rfl one_nil) rfl (Lb rfl) rfl) (k:=Nw [(2,vptr b1 0),(3,vint 0),(4,vptr b3 0),(5,.func (.func 206) #[] #[vptr b3 0]),(6,vptr b7 0)] [Cl b7 33 [vint x4,vint x8,vint x11,N0,N0,vint 0,vint 0,vint 0,N0],ReaderR rp2 s12,Cl b3 272 [vptr rp2 0],Cl b1 33 [vint 0,vint 0,vint 0,N0,N0,vint 0,vint 0,vint 0,N0],KB b bs,Al R] ?_))
 refine W.seq (Sn (Qu (Of (fa33_0 _ _)) (k:=?_)))
 refine Qu (Ol 0 ld3) (k:=Nl [(2,vptr b1 0),(3,vint 0),(4,vptr b3 0),(5,.func (.func 206) #[] #[vptr b3 0]),(6,vptr b7 0),(22,vint x4)] ?_)
 refine W.block (Sn (Qu (OpQ.eql rfl rfl rfl) (k:=?_)))
 refine Qa (k:=Nl [(2,vptr b1 0),(3,vint 0),(4,vptr b3 0),(5,.func (.func 206) #[] #[vptr b3 0]),(6,vptr b7 0),(22,vint x4),(23,.bool (decide (x4=1)))] ?_)
 refine Cp rfl (fun h14=>?_) (fun h14=>?_)
 ·refine Sn (Qu (Ol 2 ld272) (k:=?_))
  refine Wc [.tmp 25,.const (.int .i64 1),.const (.int .i64 64)] [vptr rp2 0,vint 1,vint 64] Tryz.call145 (Text_fn rp2 s12 1 64 (by first | omega | (simp; done) | (simp; omega) | (simp at *; omega)) (by first | omega | (simp; done) | (simp; omega) | (simp at *; omega))) (ep [1] rfl) ?_
  rintro _ _ ⟨r15,x16,s17,h18,rfl,rfl⟩
  refine Qu (Of (fa33_3 _ _)) (k:=?_)
  refine Nf 0 fun ho19=>?_
  refine Rn (OpRun.store (i:=2) (vs:=[r15]) (cs':=[vint x4,vint x8,vint x11,r15,N0,vint 0,vint 0,vint 0,N0]) rfl rfl rfl sz22 (cells_one ho19) rfl (one_cons ho19 one_nil) rfl (Lb rfl) rfl) (k:=Nw [(2,vptr b1 0),(3,vint 0),(4,vptr b3 0),(6,vptr b7 0)] [Cl b7 33 [vint x4,vint x8,vint x11,r15,N0,vint 0,vint 0,vint 0,N0],KB r15 x16,ReaderR rp2 s17,Cl b3 272 [vptr rp2 0],Cl b1 33 [vint 0,vint 0,vint 0,N0,N0,vint 0,vint 0,vint 0,N0],KB b bs,Al R] ?_)
  refine W.region (Qu (Ol 3 ld272) (k:=?_))
  refine Wc [.tmp 28,.const (.int .i64 0),.const (.int .i64 512)] [vptr rp2 0,vint 0,vint 512] Tryz.call145 (Text_fn rp2 s17 0 512 (by first | omega | (simp; done) | (simp; omega) | (simp at *; omega)) (by first | omega | (simp; done) | (simp; omega) | (simp at *; omega))) (ep [2] rfl) ?_
  rintro _ _ ⟨r20,x21,s22,h23,rfl,rfl⟩
  refine Qu (Of (fa33_4 _ _)) (k:=?_)
  refine Nf 0 fun ho24=>?_
  refine Rn (OpRun.store (i:=2) (vs:=[r20]) (cs':=[vint x4,vint x8,vint x11,r15,r20,vint 0,vint 0,vint 0,N0]) rfl rfl rfl sz22 (cells_one ho24) rfl (one_cons ho24 one_nil) rfl (Lb rfl) rfl) (k:=?_)
  refine WN.nil (inblk_n (thn_n (Ww [(2,vptr b1 0),(3,vint 0),(4,vptr b3 0),(6,vptr b7 0)] [Cl b7 33 [vint x4,vint x8,vint x11,r15,r20,vint 0,vint 0,vint 0,N0],KB r20 x21,ReaderR rp2 s22,KB r15 x16,Cl b3 272 [vptr rp2 0],Cl b1 33 [vint 0,vint 0,vint 0,N0,N0,vint 0,vint 0,vint 0,N0],KB b bs,Al R] ?_)))
  refine W.seq (Sn (Qu (Ol 4 ld272) (k:=?_)))
  refine Wc [.tmp 77] [vptr rp2 0] Tryz.call146 (End_fn rp2 s22) (ep [2] rfl) ?_
  rintro _ _ ⟨rfl,rfl⟩
  by_cases h25:¬ (s22=some [])
  ·refine Qu (OpQ.decT (OpQ.notP rfl rfl) h25) (k:=Qm (k:=Qs (k:=Qs (k:=Qs (k:=Qt (k:=Nw [(2,vptr b1 0),(3,vint 0),(6,vptr b7 0),(84,.bool true)] [ReaderR rp2 s22,Cl b7 33 [vint x4,vint x8,vint x11,r15,r20,vint 0,vint 0,vint 0,N0],KB r20 x21,KB r15 x16,Cl b3 272 [vptr rp2 0],Cl b1 33 [vint 0,vint 0,vint 0,N0,N0,vint 0,vint 0,vint 0,N0],KB b bs,Al R] ?_))))))
   refine W.condT rfl ?_
   refine Sn (Qu (OpQ.build (qs:=[]) (v:=.agg #[vint 0,vint 0,vint 0,N0,N0,vint 0,vint 0,vint 0,N0]) rfl trivial (fun _=>by kernel_rfl)) (k:=Rn (OpRun.store (i:=5) (vs:=[vint 0,vint 0,vint 0,N0,N0,vint 0,vint 0,vint 0,N0]) (cs':=[vint 0,vint 0,vint 0,N0,N0,vint 0,vint 0,vint 0,N0]) rfl rfl rfl sz33 rfl rfl (O3 (O3 (O3 one_nil))) rfl (Lb rfl) rfl) (k:=Qa (k:=Nw [(2,vptr b1 0),(3,vint 10),(6,vptr b7 0)] [Cl b1 33 [vint 0,vint 0,vint 0,N0,N0,vint 0,vint 0,vint 0,N0],ReaderR rp2 s22,Cl b7 33 [vint x4,vint x8,vint x11,r15,r20,vint 0,vint 0,vint 0,N0],KB r20 x21,KB r15 x16,Cl b3 272 [vptr rp2 0],KB b bs,Al R] ?_))))
   have hre:Spec.rentry (some bs)=((⟨x4,x8,x11,x16,x21,0,0,0,[]⟩:Entry),s22):=by simp only [Spec.rentry,h6,h10,h13,h18,h23,if_pos h14]
   refine W.ret (thn_r (retC2 (M:=[]) (i:=0) rfl rfl rfl rfl rfl ld33 (.inr (⟨(by unfold Spec.decode; rw [hre]; show (if _ then _ else _)=_; rw [if_neg (by simp_all)]),rfl,rfl⟩)) (es [7] rfl)))
  refine Qu (OpQ.decF (OpQ.notP rfl rfl) h25) (k:=Qm (k:=Qu (OpQ.loadN (i:=1) rfl rfl ld33 rfl rfl rfl) (k:=?_)))
  refine WN.ent (Ent.slNil (e:=Enc.wrap) (T:=227)) ?_
  refine Wc [.tmp 81] [.agg #[vint x4,vint x8,vint x11,r15,r20,vint 0,vint 0,vint 0,N0]] Tryz.call204 (Right_fn (⟨x4,x8,x11,x16,x21,0,0,0,[]⟩:Entry) r15 r20 (N0)) ((ed 4 rfl).trans ((ed 4 rfl).trans ((ed 2 rfl).trans (ep [2,1,0] rfl)))) ?_
  rintro _ _ ⟨rfl,rfl⟩
  refine Qu (OpQ.not rfl rfl) (k:=Qf (k:=Nw [(2,vptr b1 0),(3,vint 0),(6,vptr b7 0),(84,.bool (!(Spec.right (⟨x4,x8,x11,x16,x21,0,0,0,[]⟩:Entry))))] [KW (N0) ([]),ReaderR rp2 s22,Cl b7 33 [vint x4,vint x8,vint x11,r15,r20,vint 0,vint 0,vint 0,N0],KB r20 x21,KB r15 x16,Cl b3 272 [vptr rp2 0],Cl b1 33 [vint 0,vint 0,vint 0,N0,N0,vint 0,vint 0,vint 0,N0],KB b bs,Al R] ?_))
  refine W.cond rfl (fun h26=>?_) (fun h26=>?_)
  ·refine Sn (Qu (OpQ.build (qs:=[]) (v:=.agg #[vint 0,vint 0,vint 0,N0,N0,vint 0,vint 0,vint 0,N0]) rfl trivial (fun _=>by kernel_rfl)) (k:=Rn (OpRun.store (i:=6) (vs:=[vint 0,vint 0,vint 0,N0,N0,vint 0,vint 0,vint 0,N0]) (cs':=[vint 0,vint 0,vint 0,N0,N0,vint 0,vint 0,vint 0,N0]) rfl rfl rfl sz33 rfl rfl (O3 (O3 (O3 one_nil))) rfl (Lb rfl) rfl) (k:=Qa (k:=Nw [(2,vptr b1 0),(3,vint 10),(6,vptr b7 0)] [Cl b1 33 [vint 0,vint 0,vint 0,N0,N0,vint 0,vint 0,vint 0,N0],KW (N0) ([]),ReaderR rp2 s22,Cl b7 33 [vint x4,vint x8,vint x11,r15,r20,vint 0,vint 0,vint 0,N0],KB r20 x21,KB r15 x16,Cl b3 272 [vptr rp2 0],KB b bs,Al R] ?_))))
   have hre:Spec.rentry (some bs)=((⟨x4,x8,x11,x16,x21,0,0,0,[]⟩:Entry),s22):=by simp only [Spec.rentry,h6,h10,h13,h18,h23,if_pos h14]
   refine W.ret (thn_r (retC2 (M:=[]) (i:=0) rfl rfl rfl rfl rfl ld33 (.inr (⟨(by unfold Spec.decode; rw [hre]; show (if _ then _ else _)=_; rw [if_neg (by simp_all)]),rfl,rfl⟩)) (es [8] rfl)))
  refine W.skip (thn_n (Wl [(2,vptr b1 0),(3,vint 0),(6,vptr b7 0)] ?_))
  refine Sn (Qu (OpQ.loadN (i:=2) rfl rfl ld33 rfl rfl rfl) (k:=Rn (OpRun.store (i:=6) (vs:=[vint x4,vint x8,vint x11,r15,r20,vint 0,vint 0,vint 0,N0]) (cs':=[vint x4,vint x8,vint x11,r15,r20,vint 0,vint 0,vint 0,N0]) rfl rfl rfl sz33 rfl rfl (O3 (one_cons ho19 (one_cons ho24 (O3 (one_cons rfl one_nil))))) rfl (Lb rfl) rfl) (k:=Qa (k:=Nw [(2,vptr b1 0),(3,vint 0)] [Cl b1 33 [vint x4,vint x8,vint x11,r15,r20,vint 0,vint 0,vint 0,N0],KW (N0) ([]),ReaderR rp2 s22,Cl b7 33 [vint x4,vint x8,vint x11,r15,r20,vint 0,vint 0,vint 0,N0],KB r20 x21,KB r15 x16,Cl b3 272 [vptr rp2 0],KB b bs,Al R] ?_))))
  have hre:Spec.rentry (some bs)=((⟨x4,x8,x11,x16,x21,0,0,0,[]⟩:Entry),s22):=by simp only [Spec.rentry,h6,h10,h13,h18,h23,if_pos h14]
  refine W.ent (Ent.slNil (e:=Enc.wrap) (T:=227)) ?_
  refine W.ent (L':=[KW (N0) ([]),Cl b1 33 [vint x4,vint x8,vint x11,r15,r20,vint 0,vint 0,vint 0,N0],KW (N0) ([]),ReaderR rp2 s22,Cl b7 33 [vint x4,vint x8,vint x11,r15,r20,vint 0,vint 0,vint 0,N0],KB r20 x21,KB r15 x16,Cl b3 272 [vptr rp2 0],KB b bs,Al R]) (es [0,0,0,0,0,0,0,0,0,0] rfl) ?_
  refine W.ret (retC2 (M:=[KB r15 ((⟨x4,x8,x11,x16,x21,0,0,0,[]⟩:Entry).name),KB r20 ((⟨x4,x8,x11,x16,x21,0,0,0,[]⟩:Entry).value),KW (N0) ((⟨x4,x8,x11,x16,x21,0,0,0,[]⟩:Entry).wraps)]) (i:=1) rfl rfl rfl rfl rfl ld33 (.inl ⟨(⟨x4,x8,x11,x16,x21,0,0,0,[]⟩:Entry),r15,r20,N0,(by unfold Spec.decode; rw [hre]; show (if _ then _ else _)=_; rw [if_pos (by simp_all)]),rfl,rfl⟩) (es [6,5,0,6] rfl))
 refine Sn (Qu (OpQ.eql rfl rfl rfl) (k:=Qa (k:=Nl [(2,vptr b1 0),(3,vint 0),(4,vptr b3 0),(5,.func (.func 206) #[] #[vptr b3 0]),(6,vptr b7 0),(22,vint x4),(31,.bool (decide (x4=2)))] ?_)))
 refine Cp rfl (fun h27=>?_) (fun h27=>?_)
 ·refine W.region (Qu (Ol 2 ld272) (k:=?_))
  refine Wc [.tmp 33,.const (.int .i64 1),.const (.int .i64 64)] [vptr rp2 0,vint 1,vint 64] Tryz.call145 (Text_fn rp2 s12 1 64 (by first | omega | (simp; done) | (simp; omega) | (simp at *; omega)) (by first | omega | (simp; done) | (simp; omega) | (simp at *; omega))) (ep [1] rfl) ?_
  rintro _ _ ⟨r28,x29,s30,h31,rfl,rfl⟩
  refine Qu (Of (fa33_3 _ _)) (k:=?_)
  refine Nf 0 fun ho32=>?_
  refine Rn (OpRun.store (i:=2) (vs:=[r28]) (cs':=[vint x4,vint x8,vint x11,r28,N0,vint 0,vint 0,vint 0,N0]) rfl rfl rfl sz22 (cells_one ho32) rfl (one_cons ho32 one_nil) rfl (Lb rfl) rfl) (k:=?_)
  refine WN.nil (inblk_n (thn_n (Ww [(2,vptr b1 0),(3,vint 0),(4,vptr b3 0),(6,vptr b7 0)] [Cl b7 33 [vint x4,vint x8,vint x11,r28,N0,vint 0,vint 0,vint 0,N0],KB r28 x29,ReaderR rp2 s30,Cl b3 272 [vptr rp2 0],Cl b1 33 [vint 0,vint 0,vint 0,N0,N0,vint 0,vint 0,vint 0,N0],KB b bs,Al R] ?_)))
  refine W.seq (Sn (Qu (Ol 3 ld272) (k:=?_)))
  refine Wc [.tmp 77] [vptr rp2 0] Tryz.call146 (End_fn rp2 s30) (ep [2] rfl) ?_
  rintro _ _ ⟨rfl,rfl⟩
  by_cases h33:¬ (s30=some [])
  ·refine Qu (OpQ.decT (OpQ.notP rfl rfl) h33) (k:=Qm (k:=Qs (k:=Qs (k:=Qs (k:=Qt (k:=Nw [(2,vptr b1 0),(3,vint 0),(6,vptr b7 0),(84,.bool true)] [ReaderR rp2 s30,Cl b7 33 [vint x4,vint x8,vint x11,r28,N0,vint 0,vint 0,vint 0,N0],KB r28 x29,Cl b3 272 [vptr rp2 0],Cl b1 33 [vint 0,vint 0,vint 0,N0,N0,vint 0,vint 0,vint 0,N0],KB b bs,Al R] ?_))))))
   refine W.condT rfl ?_
   refine Sn (Qu (OpQ.build (qs:=[]) (v:=.agg #[vint 0,vint 0,vint 0,N0,N0,vint 0,vint 0,vint 0,N0]) rfl trivial (fun _=>by kernel_rfl)) (k:=Rn (OpRun.store (i:=4) (vs:=[vint 0,vint 0,vint 0,N0,N0,vint 0,vint 0,vint 0,N0]) (cs':=[vint 0,vint 0,vint 0,N0,N0,vint 0,vint 0,vint 0,N0]) rfl rfl rfl sz33 rfl rfl (O3 (O3 (O3 one_nil))) rfl (Lb rfl) rfl) (k:=Qa (k:=Nw [(2,vptr b1 0),(3,vint 10),(6,vptr b7 0)] [Cl b1 33 [vint 0,vint 0,vint 0,N0,N0,vint 0,vint 0,vint 0,N0],ReaderR rp2 s30,Cl b7 33 [vint x4,vint x8,vint x11,r28,N0,vint 0,vint 0,vint 0,N0],KB r28 x29,Cl b3 272 [vptr rp2 0],KB b bs,Al R] ?_))))
   have hre:Spec.rentry (some bs)=((⟨x4,x8,x11,x29,[],0,0,0,[]⟩:Entry),s30):=by simp only [Spec.rentry,h6,h10,h13,h31,if_neg h14,if_pos h27]
   refine W.ret (thn_r (retC2 (M:=[]) (i:=0) rfl rfl rfl rfl rfl ld33 (.inr (⟨(by unfold Spec.decode; rw [hre]; show (if _ then _ else _)=_; rw [if_neg (by simp_all)]),rfl,rfl⟩)) (es [6] rfl)))
  refine Qu (OpQ.decF (OpQ.notP rfl rfl) h33) (k:=Qm (k:=Qu (OpQ.loadN (i:=1) rfl rfl ld33 rfl rfl rfl) (k:=?_)))
  refine WN.ent (Ent.slNil (e:=Enc.u8) (T:=5)) ?_
  refine WN.ent (Ent.slNil (e:=Enc.wrap) (T:=227)) ?_
  refine Wc [.tmp 81] [.agg #[vint x4,vint x8,vint x11,r28,N0,vint 0,vint 0,vint 0,N0]] Tryz.call204 (Right_fn (⟨x4,x8,x11,x29,[],0,0,0,[]⟩:Entry) r28 (N0) (N0)) ((ed 4 rfl).trans ((ed 2 rfl).trans ((ed 2 rfl).trans (ep [2,1,0] rfl)))) ?_
  rintro _ _ ⟨rfl,rfl⟩
  refine Qu (OpQ.not rfl rfl) (k:=Qf (k:=Nw [(2,vptr b1 0),(3,vint 0),(6,vptr b7 0),(84,.bool (!(Spec.right (⟨x4,x8,x11,x29,[],0,0,0,[]⟩:Entry))))] [KW (N0) ([]),KB (N0) ([]),ReaderR rp2 s30,Cl b7 33 [vint x4,vint x8,vint x11,r28,N0,vint 0,vint 0,vint 0,N0],KB r28 x29,Cl b3 272 [vptr rp2 0],Cl b1 33 [vint 0,vint 0,vint 0,N0,N0,vint 0,vint 0,vint 0,N0],KB b bs,Al R] ?_))
  refine W.cond rfl (fun h34=>?_) (fun h34=>?_)
  ·refine Sn (Qu (OpQ.build (qs:=[]) (v:=.agg #[vint 0,vint 0,vint 0,N0,N0,vint 0,vint 0,vint 0,N0]) rfl trivial (fun _=>by kernel_rfl)) (k:=Rn (OpRun.store (i:=6) (vs:=[vint 0,vint 0,vint 0,N0,N0,vint 0,vint 0,vint 0,N0]) (cs':=[vint 0,vint 0,vint 0,N0,N0,vint 0,vint 0,vint 0,N0]) rfl rfl rfl sz33 rfl rfl (O3 (O3 (O3 one_nil))) rfl (Lb rfl) rfl) (k:=Qa (k:=Nw [(2,vptr b1 0),(3,vint 10),(6,vptr b7 0)] [Cl b1 33 [vint 0,vint 0,vint 0,N0,N0,vint 0,vint 0,vint 0,N0],KW (N0) ([]),KB (N0) ([]),ReaderR rp2 s30,Cl b7 33 [vint x4,vint x8,vint x11,r28,N0,vint 0,vint 0,vint 0,N0],KB r28 x29,Cl b3 272 [vptr rp2 0],KB b bs,Al R] ?_))))
   have hre:Spec.rentry (some bs)=((⟨x4,x8,x11,x29,[],0,0,0,[]⟩:Entry),s30):=by simp only [Spec.rentry,h6,h10,h13,h31,if_neg h14,if_pos h27]
   refine W.ret (thn_r (retC2 (M:=[]) (i:=0) rfl rfl rfl rfl rfl ld33 (.inr (⟨(by unfold Spec.decode; rw [hre]; show (if _ then _ else _)=_; rw [if_neg (by simp_all)]),rfl,rfl⟩)) (es [8] rfl)))
  refine W.skip (thn_n (Wl [(2,vptr b1 0),(3,vint 0),(6,vptr b7 0)] ?_))
  refine Sn (Qu (OpQ.loadN (i:=3) rfl rfl ld33 rfl rfl rfl) (k:=Rn (OpRun.store (i:=6) (vs:=[vint x4,vint x8,vint x11,r28,N0,vint 0,vint 0,vint 0,N0]) (cs':=[vint x4,vint x8,vint x11,r28,N0,vint 0,vint 0,vint 0,N0]) rfl rfl rfl sz33 rfl rfl (O3 (one_cons ho32 (O3 (one_cons rfl (one_cons rfl one_nil))))) rfl (Lb rfl) rfl) (k:=Qa (k:=Nw [(2,vptr b1 0),(3,vint 0)] [Cl b1 33 [vint x4,vint x8,vint x11,r28,N0,vint 0,vint 0,vint 0,N0],KW (N0) ([]),KB (N0) ([]),ReaderR rp2 s30,Cl b7 33 [vint x4,vint x8,vint x11,r28,N0,vint 0,vint 0,vint 0,N0],KB r28 x29,Cl b3 272 [vptr rp2 0],KB b bs,Al R] ?_))))
  have hre:Spec.rentry (some bs)=((⟨x4,x8,x11,x29,[],0,0,0,[]⟩:Entry),s30):=by simp only [Spec.rentry,h6,h10,h13,h31,if_neg h14,if_pos h27]
  refine W.ent (Ent.slNil (e:=Enc.u8) (T:=5)) ?_
  refine W.ent (L':=[KB (N0) ([]),Cl b1 33 [vint x4,vint x8,vint x11,r28,N0,vint 0,vint 0,vint 0,N0],KW (N0) ([]),KB (N0) ([]),ReaderR rp2 s30,Cl b7 33 [vint x4,vint x8,vint x11,r28,N0,vint 0,vint 0,vint 0,N0],KB r28 x29,Cl b3 272 [vptr rp2 0],KB b bs,Al R]) (es [0,0,0,0,0,0,0,0,0,0] rfl) ?_
  refine W.ent (Ent.slNil (e:=Enc.wrap) (T:=227)) ?_
  refine W.ent (L':=[KW (N0) ([]),KB (N0) ([]),Cl b1 33 [vint x4,vint x8,vint x11,r28,N0,vint 0,vint 0,vint 0,N0],KW (N0) ([]),KB (N0) ([]),ReaderR rp2 s30,Cl b7 33 [vint x4,vint x8,vint x11,r28,N0,vint 0,vint 0,vint 0,N0],KB r28 x29,Cl b3 272 [vptr rp2 0],KB b bs,Al R]) (es [0,0,0,0,0,0,0,0,0,0,0] rfl) ?_
  refine W.ret (retC2 (M:=[KB r28 ((⟨x4,x8,x11,x29,[],0,0,0,[]⟩:Entry).name),KB (N0) ((⟨x4,x8,x11,x29,[],0,0,0,[]⟩:Entry).value),KW (N0) ((⟨x4,x8,x11,x29,[],0,0,0,[]⟩:Entry).wraps)]) (i:=2) rfl rfl rfl rfl rfl ld33 (.inl ⟨(⟨x4,x8,x11,x29,[],0,0,0,[]⟩:Entry),r28,N0,N0,(by unfold Spec.decode; rw [hre]; show (if _ then _ else _)=_; rw [if_pos (by simp_all)]),rfl,rfl⟩) (es [7,1,0,7] rfl))
 refine Sn (Qu (OpQ.eql rfl rfl rfl) (k:=Qa (k:=Nl [(2,vptr b1 0),(3,vint 0),(4,vptr b3 0),(5,.func (.func 206) #[] #[vptr b3 0]),(6,vptr b7 0),(22,vint x4),(36,.bool (decide (x4=3)))] ?_)))
 refine Cp rfl (fun h35=>?_) (fun h35=>?_)
 ·refine Sn (Qm (k:=?_))
  refine WN.call rfl rfl (OpCall.clo (xs:=[]) (vs:=[]) rfl rfl trivial Tryz.call206) (Decode1_fn b3 rp2 s12) (ep [2,1] rfl) ?_
  rintro _ _ ⟨x36,s37,h38,rfl,rfl⟩
  refine Qu (Of (fa33_5 _ _)) (k:=Rn (OpRun.store (i:=2) (vs:=[vint x36]) (cs':=[vint x4,vint x8,vint x11,N0,N0,vint x36,vint 0,vint 0,N0]) rfl rfl rfl sz3 rfl rfl (one_cons rfl one_nil) rfl (Lb rfl) rfl) (k:=Nw [(2,vptr b1 0),(3,vint 0),(4,vptr b3 0),(6,vptr b7 0)] [Cl b7 33 [vint x4,vint x8,vint x11,N0,N0,vint x36,vint 0,vint 0,N0],Cl b3 272 [vptr rp2 0],ReaderR rp2 s37,Cl b1 33 [vint 0,vint 0,vint 0,N0,N0,vint 0,vint 0,vint 0,N0],KB b bs,Al R] ?_))
  refine W.region (Qu (Ol 1 ld272) (k:=?_))
  refine Wc [.tmp 41,.const (.int .i64 1),.const (.int .i64 7)] [vptr rp2 0,vint 1,vint 7] Tryz.call143 (Number_fn rp2 s37 1 7) (ep [2] rfl) ?_
  rintro _ _ ⟨x39,s40,h41,rfl,rfl⟩
  refine Qu (Of (fa33_6 _ _)) (k:=Rn (OpRun.store (i:=1) (vs:=[vint x39]) (cs':=[vint x4,vint x8,vint x11,N0,N0,vint x36,vint x39,vint 0,N0]) rfl rfl rfl sz3 rfl rfl (one_cons rfl one_nil) rfl (Lb rfl) rfl) (k:=?_))
  refine WN.nil (inblk_n (thn_n (Ww [(2,vptr b1 0),(3,vint 0),(4,vptr b3 0),(6,vptr b7 0)] [Cl b7 33 [vint x4,vint x8,vint x11,N0,N0,vint x36,vint x39,vint 0,N0],ReaderR rp2 s40,Cl b3 272 [vptr rp2 0],Cl b1 33 [vint 0,vint 0,vint 0,N0,N0,vint 0,vint 0,vint 0,N0],KB b bs,Al R] ?_)))
  refine W.seq (Sn (Qu (Ol 2 ld272) (k:=?_)))
  refine Wc [.tmp 77] [vptr rp2 0] Tryz.call146 (End_fn rp2 s40) (ep [1] rfl) ?_
  rintro _ _ ⟨rfl,rfl⟩
  by_cases h42:¬ (s40=some [])
  ·refine Qu (OpQ.decT (OpQ.notP rfl rfl) h42) (k:=Qm (k:=Qs (k:=Qs (k:=Qs (k:=Qt (k:=Nw [(2,vptr b1 0),(3,vint 0),(6,vptr b7 0),(84,.bool true)] [ReaderR rp2 s40,Cl b7 33 [vint x4,vint x8,vint x11,N0,N0,vint x36,vint x39,vint 0,N0],Cl b3 272 [vptr rp2 0],Cl b1 33 [vint 0,vint 0,vint 0,N0,N0,vint 0,vint 0,vint 0,N0],KB b bs,Al R] ?_))))))
   refine W.condT rfl ?_
   refine Sn (Qu (OpQ.build (qs:=[]) (v:=.agg #[vint 0,vint 0,vint 0,N0,N0,vint 0,vint 0,vint 0,N0]) rfl trivial (fun _=>by kernel_rfl)) (k:=Rn (OpRun.store (i:=3) (vs:=[vint 0,vint 0,vint 0,N0,N0,vint 0,vint 0,vint 0,N0]) (cs':=[vint 0,vint 0,vint 0,N0,N0,vint 0,vint 0,vint 0,N0]) rfl rfl rfl sz33 rfl rfl (O3 (O3 (O3 one_nil))) rfl (Lb rfl) rfl) (k:=Qa (k:=Nw [(2,vptr b1 0),(3,vint 10),(6,vptr b7 0)] [Cl b1 33 [vint 0,vint 0,vint 0,N0,N0,vint 0,vint 0,vint 0,N0],ReaderR rp2 s40,Cl b7 33 [vint x4,vint x8,vint x11,N0,N0,vint x36,vint x39,vint 0,N0],Cl b3 272 [vptr rp2 0],KB b bs,Al R] ?_))))
   have hre:Spec.rentry (some bs)=((⟨x4,x8,x11,[],[],x36,x39,0,[]⟩:Entry),s40):=by simp only [Spec.rentry,h6,h10,h13,h38,h41,if_neg h14,if_neg h27,if_pos h35]
   refine W.ret (thn_r (retC2 (M:=[]) (i:=0) rfl rfl rfl rfl rfl ld33 (.inr (⟨(by unfold Spec.decode; rw [hre]; show (if _ then _ else _)=_; rw [if_neg (by simp_all)]),rfl,rfl⟩)) (es [5] rfl)))
  refine Qu (OpQ.decF (OpQ.notP rfl rfl) h42) (k:=Qm (k:=Qu (OpQ.loadN (i:=1) rfl rfl ld33 rfl rfl rfl) (k:=?_)))
  refine WN.ent (Ent.slNil (e:=Enc.u8) (T:=5)) ?_
  refine WN.ent (Ent.slNil (e:=Enc.wrap) (T:=227)) ?_
  refine Wc [.tmp 81] [.agg #[vint x4,vint x8,vint x11,N0,N0,vint x36,vint x39,vint 0,N0]] Tryz.call204 (Right_fn (⟨x4,x8,x11,[],[],x36,x39,0,[]⟩:Entry) (N0) (N0) (N0)) ((ed 1 rfl).trans ((ed 2 rfl).trans ((ed 2 rfl).trans (ep [2,1,0] rfl)))) ?_
  rintro _ _ ⟨rfl,rfl⟩
  refine Qu (OpQ.not rfl rfl) (k:=Qf (k:=Nw [(2,vptr b1 0),(3,vint 0),(6,vptr b7 0),(84,.bool (!(Spec.right (⟨x4,x8,x11,[],[],x36,x39,0,[]⟩:Entry))))] [KW (N0) ([]),KB (N0) ([]),ReaderR rp2 s40,Cl b7 33 [vint x4,vint x8,vint x11,N0,N0,vint x36,vint x39,vint 0,N0],Cl b3 272 [vptr rp2 0],Cl b1 33 [vint 0,vint 0,vint 0,N0,N0,vint 0,vint 0,vint 0,N0],KB b bs,Al R] ?_))
  refine W.cond rfl (fun h43=>?_) (fun h43=>?_)
  ·refine Sn (Qu (OpQ.build (qs:=[]) (v:=.agg #[vint 0,vint 0,vint 0,N0,N0,vint 0,vint 0,vint 0,N0]) rfl trivial (fun _=>by kernel_rfl)) (k:=Rn (OpRun.store (i:=5) (vs:=[vint 0,vint 0,vint 0,N0,N0,vint 0,vint 0,vint 0,N0]) (cs':=[vint 0,vint 0,vint 0,N0,N0,vint 0,vint 0,vint 0,N0]) rfl rfl rfl sz33 rfl rfl (O3 (O3 (O3 one_nil))) rfl (Lb rfl) rfl) (k:=Qa (k:=Nw [(2,vptr b1 0),(3,vint 10),(6,vptr b7 0)] [Cl b1 33 [vint 0,vint 0,vint 0,N0,N0,vint 0,vint 0,vint 0,N0],KW (N0) ([]),KB (N0) ([]),ReaderR rp2 s40,Cl b7 33 [vint x4,vint x8,vint x11,N0,N0,vint x36,vint x39,vint 0,N0],Cl b3 272 [vptr rp2 0],KB b bs,Al R] ?_))))
   have hre:Spec.rentry (some bs)=((⟨x4,x8,x11,[],[],x36,x39,0,[]⟩:Entry),s40):=by simp only [Spec.rentry,h6,h10,h13,h38,h41,if_neg h14,if_neg h27,if_pos h35]
   refine W.ret (thn_r (retC2 (M:=[]) (i:=0) rfl rfl rfl rfl rfl ld33 (.inr (⟨(by unfold Spec.decode; rw [hre]; show (if _ then _ else _)=_; rw [if_neg (by simp_all)]),rfl,rfl⟩)) (es [7] rfl)))
  refine W.skip (thn_n (Wl [(2,vptr b1 0),(3,vint 0),(6,vptr b7 0)] ?_))
  refine Sn (Qu (OpQ.loadN (i:=3) rfl rfl ld33 rfl rfl rfl) (k:=Rn (OpRun.store (i:=5) (vs:=[vint x4,vint x8,vint x11,N0,N0,vint x36,vint x39,vint 0,N0]) (cs':=[vint x4,vint x8,vint x11,N0,N0,vint x36,vint x39,vint 0,N0]) rfl rfl rfl sz33 rfl rfl (O3 (O3 (O3 one_nil))) rfl (Lb rfl) rfl) (k:=Qa (k:=Nw [(2,vptr b1 0),(3,vint 0)] [Cl b1 33 [vint x4,vint x8,vint x11,N0,N0,vint x36,vint x39,vint 0,N0],KW (N0) ([]),KB (N0) ([]),ReaderR rp2 s40,Cl b7 33 [vint x4,vint x8,vint x11,N0,N0,vint x36,vint x39,vint 0,N0],Cl b3 272 [vptr rp2 0],KB b bs,Al R] ?_))))
  have hre:Spec.rentry (some bs)=((⟨x4,x8,x11,[],[],x36,x39,0,[]⟩:Entry),s40):=by simp only [Spec.rentry,h6,h10,h13,h38,h41,if_neg h14,if_neg h27,if_pos h35]
  refine W.ent (Ent.slNil (e:=Enc.u8) (T:=5)) ?_
  refine W.ent (L':=[KB (N0) ([]),Cl b1 33 [vint x4,vint x8,vint x11,N0,N0,vint x36,vint x39,vint 0,N0],KW (N0) ([]),KB (N0) ([]),ReaderR rp2 s40,Cl b7 33 [vint x4,vint x8,vint x11,N0,N0,vint x36,vint x39,vint 0,N0],Cl b3 272 [vptr rp2 0],KB b bs,Al R]) (es [0,0,0,0,0,0,0,0,0] rfl) ?_
  refine W.ent (Ent.slNil (e:=Enc.u8) (T:=5)) ?_
  refine W.ent (L':=[KB (N0) ([]),KB (N0) ([]),Cl b1 33 [vint x4,vint x8,vint x11,N0,N0,vint x36,vint x39,vint 0,N0],KW (N0) ([]),KB (N0) ([]),ReaderR rp2 s40,Cl b7 33 [vint x4,vint x8,vint x11,N0,N0,vint x36,vint x39,vint 0,N0],Cl b3 272 [vptr rp2 0],KB b bs,Al R]) (es [0,0,0,0,0,0,0,0,0,0] rfl) ?_
  refine W.ent (Ent.slNil (e:=Enc.wrap) (T:=227)) ?_
  refine W.ent (L':=[KW (N0) ([]),KB (N0) ([]),KB (N0) ([]),Cl b1 33 [vint x4,vint x8,vint x11,N0,N0,vint x36,vint x39,vint 0,N0],KW (N0) ([]),KB (N0) ([]),ReaderR rp2 s40,Cl b7 33 [vint x4,vint x8,vint x11,N0,N0,vint x36,vint x39,vint 0,N0],Cl b3 272 [vptr rp2 0],KB b bs,Al R]) (es [0,0,0,0,0,0,0,0,0,0,0] rfl) ?_
  refine W.ret (retC2 (M:=[KB (N0) ((⟨x4,x8,x11,[],[],x36,x39,0,[]⟩:Entry).name),KB (N0) ((⟨x4,x8,x11,[],[],x36,x39,0,[]⟩:Entry).value),KW (N0) ((⟨x4,x8,x11,[],[],x36,x39,0,[]⟩:Entry).wraps)]) (i:=3) rfl rfl rfl rfl rfl ld33 (.inl ⟨(⟨x4,x8,x11,[],[],x36,x39,0,[]⟩:Entry),N0,N0,N0,(by unfold Spec.decode; rw [hre]; show (if _ then _ else _)=_; rw [if_pos (by simp_all)]),rfl,rfl⟩) (es [1,1,0,7] rfl))
 refine Sn (Qu (OpQ.eql rfl rfl rfl) (k:=Qa (k:=Nl [(2,vptr b1 0),(3,vint 0),(4,vptr b3 0),(5,.func (.func 206) #[] #[vptr b3 0]),(6,vptr b7 0),(22,vint x4),(44,.bool (decide (x4=4)))] ?_)))
 refine Cp rfl (fun h44=>?_) (fun h44=>?_)
 ·refine W.region (Qm (k:=?_))
  refine WN.call rfl rfl (OpCall.clo (xs:=[]) (vs:=[]) rfl rfl trivial Tryz.call206) (Decode1_fn b3 rp2 s12) (ep [2,1] rfl) ?_
  rintro _ _ ⟨x45,s46,h47,rfl,rfl⟩
  refine Qu (Of (fa33_5 _ _)) (k:=Rn (OpRun.store (i:=2) (vs:=[vint x45]) (cs':=[vint x4,vint x8,vint x11,N0,N0,vint x45,vint 0,vint 0,N0]) rfl rfl rfl sz3 rfl rfl (one_cons rfl one_nil) rfl (Lb rfl) rfl) (k:=?_))
  refine WN.nil (inblk_n (thn_n (Ww [(2,vptr b1 0),(3,vint 0),(4,vptr b3 0),(6,vptr b7 0)] [Cl b7 33 [vint x4,vint x8,vint x11,N0,N0,vint x45,vint 0,vint 0,N0],Cl b3 272 [vptr rp2 0],ReaderR rp2 s46,Cl b1 33 [vint 0,vint 0,vint 0,N0,N0,vint 0,vint 0,vint 0,N0],KB b bs,Al R] ?_)))
  refine W.seq (Sn (Qu (Ol 1 ld272) (k:=?_)))
  refine Wc [.tmp 77] [vptr rp2 0] Tryz.call146 (End_fn rp2 s46) (ep [2] rfl) ?_
  rintro _ _ ⟨rfl,rfl⟩
  by_cases h48:¬ (s46=some [])
  ·refine Qu (OpQ.decT (OpQ.notP rfl rfl) h48) (k:=Qm (k:=Qs (k:=Qs (k:=Qs (k:=Qt (k:=Nw [(2,vptr b1 0),(3,vint 0),(6,vptr b7 0),(84,.bool true)] [ReaderR rp2 s46,Cl b7 33 [vint x4,vint x8,vint x11,N0,N0,vint x45,vint 0,vint 0,N0],Cl b3 272 [vptr rp2 0],Cl b1 33 [vint 0,vint 0,vint 0,N0,N0,vint 0,vint 0,vint 0,N0],KB b bs,Al R] ?_))))))
   refine W.condT rfl ?_
   refine Sn (Qu (OpQ.build (qs:=[]) (v:=.agg #[vint 0,vint 0,vint 0,N0,N0,vint 0,vint 0,vint 0,N0]) rfl trivial (fun _=>by kernel_rfl)) (k:=Rn (OpRun.store (i:=3) (vs:=[vint 0,vint 0,vint 0,N0,N0,vint 0,vint 0,vint 0,N0]) (cs':=[vint 0,vint 0,vint 0,N0,N0,vint 0,vint 0,vint 0,N0]) rfl rfl rfl sz33 rfl rfl (O3 (O3 (O3 one_nil))) rfl (Lb rfl) rfl) (k:=Qa (k:=Nw [(2,vptr b1 0),(3,vint 10),(6,vptr b7 0)] [Cl b1 33 [vint 0,vint 0,vint 0,N0,N0,vint 0,vint 0,vint 0,N0],ReaderR rp2 s46,Cl b7 33 [vint x4,vint x8,vint x11,N0,N0,vint x45,vint 0,vint 0,N0],Cl b3 272 [vptr rp2 0],KB b bs,Al R] ?_))))
   have hre:Spec.rentry (some bs)=((⟨x4,x8,x11,[],[],x45,0,0,[]⟩:Entry),s46):=by simp only [Spec.rentry,h6,h10,h13,h47,if_neg h14,if_neg h27,if_neg h35,if_pos h44]
   refine W.ret (thn_r (retC2 (M:=[]) (i:=0) rfl rfl rfl rfl rfl ld33 (.inr (⟨(by unfold Spec.decode; rw [hre]; show (if _ then _ else _)=_; rw [if_neg (by simp_all)]),rfl,rfl⟩)) (es [5] rfl)))
  refine Qu (OpQ.decF (OpQ.notP rfl rfl) h48) (k:=Qm (k:=Qu (OpQ.loadN (i:=1) rfl rfl ld33 rfl rfl rfl) (k:=?_)))
  refine WN.ent (Ent.slNil (e:=Enc.u8) (T:=5)) ?_
  refine WN.ent (Ent.slNil (e:=Enc.wrap) (T:=227)) ?_
  refine Wc [.tmp 81] [.agg #[vint x4,vint x8,vint x11,N0,N0,vint x45,vint 0,vint 0,N0]] Tryz.call204 (Right_fn (⟨x4,x8,x11,[],[],x45,0,0,[]⟩:Entry) (N0) (N0) (N0)) ((ed 1 rfl).trans ((ed 2 rfl).trans ((ed 2 rfl).trans (ep [2,1,0] rfl)))) ?_
  rintro _ _ ⟨rfl,rfl⟩
  refine Qu (OpQ.not rfl rfl) (k:=Qf (k:=Nw [(2,vptr b1 0),(3,vint 0),(6,vptr b7 0),(84,.bool (!(Spec.right (⟨x4,x8,x11,[],[],x45,0,0,[]⟩:Entry))))] [KW (N0) ([]),KB (N0) ([]),ReaderR rp2 s46,Cl b7 33 [vint x4,vint x8,vint x11,N0,N0,vint x45,vint 0,vint 0,N0],Cl b3 272 [vptr rp2 0],Cl b1 33 [vint 0,vint 0,vint 0,N0,N0,vint 0,vint 0,vint 0,N0],KB b bs,Al R] ?_))
  refine W.cond rfl (fun h49=>?_) (fun h49=>?_)
  ·refine Sn (Qu (OpQ.build (qs:=[]) (v:=.agg #[vint 0,vint 0,vint 0,N0,N0,vint 0,vint 0,vint 0,N0]) rfl trivial (fun _=>by kernel_rfl)) (k:=Rn (OpRun.store (i:=5) (vs:=[vint 0,vint 0,vint 0,N0,N0,vint 0,vint 0,vint 0,N0]) (cs':=[vint 0,vint 0,vint 0,N0,N0,vint 0,vint 0,vint 0,N0]) rfl rfl rfl sz33 rfl rfl (O3 (O3 (O3 one_nil))) rfl (Lb rfl) rfl) (k:=Qa (k:=Nw [(2,vptr b1 0),(3,vint 10),(6,vptr b7 0)] [Cl b1 33 [vint 0,vint 0,vint 0,N0,N0,vint 0,vint 0,vint 0,N0],KW (N0) ([]),KB (N0) ([]),ReaderR rp2 s46,Cl b7 33 [vint x4,vint x8,vint x11,N0,N0,vint x45,vint 0,vint 0,N0],Cl b3 272 [vptr rp2 0],KB b bs,Al R] ?_))))
   have hre:Spec.rentry (some bs)=((⟨x4,x8,x11,[],[],x45,0,0,[]⟩:Entry),s46):=by simp only [Spec.rentry,h6,h10,h13,h47,if_neg h14,if_neg h27,if_neg h35,if_pos h44]
   refine W.ret (thn_r (retC2 (M:=[]) (i:=0) rfl rfl rfl rfl rfl ld33 (.inr (⟨(by unfold Spec.decode; rw [hre]; show (if _ then _ else _)=_; rw [if_neg (by simp_all)]),rfl,rfl⟩)) (es [7] rfl)))
  refine W.skip (thn_n (Wl [(2,vptr b1 0),(3,vint 0),(6,vptr b7 0)] ?_))
  refine Sn (Qu (OpQ.loadN (i:=3) rfl rfl ld33 rfl rfl rfl) (k:=Rn (OpRun.store (i:=5) (vs:=[vint x4,vint x8,vint x11,N0,N0,vint x45,vint 0,vint 0,N0]) (cs':=[vint x4,vint x8,vint x11,N0,N0,vint x45,vint 0,vint 0,N0]) rfl rfl rfl sz33 rfl rfl (O3 (O3 (O3 one_nil))) rfl (Lb rfl) rfl) (k:=Qa (k:=Nw [(2,vptr b1 0),(3,vint 0)] [Cl b1 33 [vint x4,vint x8,vint x11,N0,N0,vint x45,vint 0,vint 0,N0],KW (N0) ([]),KB (N0) ([]),ReaderR rp2 s46,Cl b7 33 [vint x4,vint x8,vint x11,N0,N0,vint x45,vint 0,vint 0,N0],Cl b3 272 [vptr rp2 0],KB b bs,Al R] ?_))))
  have hre:Spec.rentry (some bs)=((⟨x4,x8,x11,[],[],x45,0,0,[]⟩:Entry),s46):=by simp only [Spec.rentry,h6,h10,h13,h47,if_neg h14,if_neg h27,if_neg h35,if_pos h44]
  refine W.ent (Ent.slNil (e:=Enc.u8) (T:=5)) ?_
  refine W.ent (L':=[KB (N0) ([]),Cl b1 33 [vint x4,vint x8,vint x11,N0,N0,vint x45,vint 0,vint 0,N0],KW (N0) ([]),KB (N0) ([]),ReaderR rp2 s46,Cl b7 33 [vint x4,vint x8,vint x11,N0,N0,vint x45,vint 0,vint 0,N0],Cl b3 272 [vptr rp2 0],KB b bs,Al R]) (es [0,0,0,0,0,0,0,0,0] rfl) ?_
  refine W.ent (Ent.slNil (e:=Enc.u8) (T:=5)) ?_
  refine W.ent (L':=[KB (N0) ([]),KB (N0) ([]),Cl b1 33 [vint x4,vint x8,vint x11,N0,N0,vint x45,vint 0,vint 0,N0],KW (N0) ([]),KB (N0) ([]),ReaderR rp2 s46,Cl b7 33 [vint x4,vint x8,vint x11,N0,N0,vint x45,vint 0,vint 0,N0],Cl b3 272 [vptr rp2 0],KB b bs,Al R]) (es [0,0,0,0,0,0,0,0,0,0] rfl) ?_
  refine W.ent (Ent.slNil (e:=Enc.wrap) (T:=227)) ?_
  refine W.ent (L':=[KW (N0) ([]),KB (N0) ([]),KB (N0) ([]),Cl b1 33 [vint x4,vint x8,vint x11,N0,N0,vint x45,vint 0,vint 0,N0],KW (N0) ([]),KB (N0) ([]),ReaderR rp2 s46,Cl b7 33 [vint x4,vint x8,vint x11,N0,N0,vint x45,vint 0,vint 0,N0],Cl b3 272 [vptr rp2 0],KB b bs,Al R]) (es [0,0,0,0,0,0,0,0,0,0,0] rfl) ?_
  refine W.ret (retC2 (M:=[KB (N0) ((⟨x4,x8,x11,[],[],x45,0,0,[]⟩:Entry).name),KB (N0) ((⟨x4,x8,x11,[],[],x45,0,0,[]⟩:Entry).value),KW (N0) ((⟨x4,x8,x11,[],[],x45,0,0,[]⟩:Entry).wraps)]) (i:=3) rfl rfl rfl rfl rfl ld33 (.inl ⟨(⟨x4,x8,x11,[],[],x45,0,0,[]⟩:Entry),N0,N0,N0,(by unfold Spec.decode; rw [hre]; show (if _ then _ else _)=_; rw [if_pos (by simp_all)]),rfl,rfl⟩) (es [1,1,0,7] rfl))
 refine Sn (Qu (OpQ.eql rfl rfl rfl) (k:=Qa (k:=Nl [(2,vptr b1 0),(3,vint 0),(4,vptr b3 0),(5,.func (.func 206) #[] #[vptr b3 0]),(6,vptr b7 0),(49,.bool (decide (x4=5)))] ?_)))
 refine Cp rfl (fun h50=>?_) (fun h50=>?_)
 ·refine Sn (Qu (Ol 2 ld272) (k:=?_))
  refine Wc [.tmp 51,.const (.int .i64 1),.const (.int .i64 16)] [vptr rp2 0,vint 1,vint 16] Tryz.call143 (Number_fn rp2 s12 1 16) (ep [1] rfl) ?_
  rintro _ _ ⟨x51,s52,h53,rfl,rfl⟩
  refine Qu (Of (fa33_7 _ _)) (k:=Rn (OpRun.store (i:=1) (vs:=[vint x51]) (cs':=[vint x4,vint x8,vint x11,N0,N0,vint 0,vint 0,vint x51,N0]) rfl rfl rfl sz3 rfl rfl (one_cons rfl one_nil) rfl (Lb rfl) rfl) (k:=Nw [(2,vptr b1 0),(3,vint 0),(4,vptr b3 0),(5,.func (.func 206) #[] #[vptr b3 0]),(6,vptr b7 0)] [Cl b7 33 [vint x4,vint x8,vint x11,N0,N0,vint 0,vint 0,vint x51,N0],ReaderR rp2 s52,Cl b3 272 [vptr rp2 0],Cl b1 33 [vint 0,vint 0,vint 0,N0,N0,vint 0,vint 0,vint 0,N0],KB b bs,Al R] ?_))
  refine Sn (Qu (Ol 2 ld272) (k:=?_))
  refine Wc [.tmp 54,.const (.int .i64 0),.const (.int .i64 16)] [vptr rp2 0,vint 0,vint 16] Tryz.call143 (Number_fn rp2 s52 0 16) (ep [1] rfl) ?_
  rintro _ _ ⟨x54,s55,h56,rfl,rfl⟩
  refine Qa (k:=Nw [(2,vptr b1 0),(3,vint 0),(4,vptr b3 0),(5,.func (.func 206) #[] #[vptr b3 0]),(6,vptr b7 0),(7,vint x54)] [ReaderR rp2 s55,Cl b7 33 [vint x4,vint x8,vint x11,N0,N0,vint 0,vint 0,vint x51,N0],Cl b3 272 [vptr rp2 0],Cl b1 33 [vint 0,vint 0,vint 0,N0,N0,vint 0,vint 0,vint 0,N0],KB b bs,Al R] ?_)
  refine W.block ?_
  have hn0:=Spec.rnumber_range h56 (by omega) (by omega)
  obtain ⟨n0,rfl⟩:∃ m:Nat,x54=m:=⟨x54.toNat,by omega⟩
  refine W.ent (Ent.rowNil (E:=227) (sz:=2)) ?_
  refine W.ent (Ent.know (m:=CellsRel Enc.wrap [] []) (fun _ _ _=>CellsRel.nil)) ?_
  refine W.ent (L':=[Kx Enc.wrap ([]) ([]),Rw 227 2 (N0) ([]),ReaderR rp2 s55,Cl b7 33 [vint x4,vint x8,vint x11,N0,N0,vint 0,vint 0,vint x51,N0],Cl b3 272 [vptr rp2 0],Cl b1 33 [vint 0,vint 0,vint 0,N0,N0,vint 0,vint 0,vint 0,N0],KB b bs,Al R]) (es [0,0,0,0,0,0,0,0] rfl) ?_
  refine W.loop (X:=Nat × Value × List Value × List Wrap × Option Bytes) (fun x=>match x with | (n,o,cs,ws,s)=>[(2,vptr b1 0),(3,vint 0),(4,vptr b3 0),(5,.func (.func 206) #[] #[vptr b3 0]),(6,vptr b7 0),(7,vint (n:Int))]) (fun x=>match x with | (n,o,cs,ws,s)=>[Asn.pure (Spec.rwraps n0 s55=(ws++(Spec.rwraps n s).1,(Spec.rwraps n s).2)∧ws.length+n≤16∧cs.length=2*ws.length),Cl b7 33 [vint x4,vint x8,vint x11,N0,N0,vint 0,vint 0,vint x51,o],Rw 227 2 o cs,Kx Enc.wrap cs ws,ReaderR rp2 s,Cl b3 272 [vptr rp2 0],Cl b1 33 [vint 0,vint 0,vint 0,N0,N0,vint 0,vint 0,vint 0,N0],KB b bs,Al R]) (fun x=>match x with | (n,o,cs,ws,s)=>n) (n0,(N0),[],[],s55) ⟨rfl,rfl,rfl,rfl,rfl,rfl,trivial⟩ ((es [3,1,0,0,0,0,0,0] rfl).trans (Ent.pure_in (by exact ⟨by simp,by simp; omega,by simp⟩))) (fun x=>?_)
  obtain ⟨n,o,cs,ws,s⟩:=x
  show W _ _ _ _ _ [(2,vptr b1 0),(3,vint 0),(4,vptr b3 0),(5,.func (.func 206) #[] #[vptr b3 0]),(6,vptr b7 0),(7,vint (n:Int))] [Asn.pure (Spec.rwraps n0 s55=(ws++(Spec.rwraps n s).1,(Spec.rwraps n s).2)∧ws.length+n≤16∧cs.length=2*ws.length),Cl b7 33 [vint x4,vint x8,vint x11,N0,N0,vint 0,vint 0,vint x51,o],Rw 227 2 o cs,Kx Enc.wrap cs ws,ReaderR rp2 s,Cl b3 272 [vptr rp2 0],Cl b1 33 [vint 0,vint 0,vint 0,N0,N0,vint 0,vint 0,vint 0,N0],KB b bs,Al R]
  refine W.opens Opens.pure (i:=0) rfl (fun _ hI57=>?_)
  replace hI57:=hI57
  show W _ _ _ _ _ [(2,vptr b1 0),(3,vint 0),(4,vptr b3 0),(5,.func (.func 206) #[] #[vptr b3 0]),(6,vptr b7 0),(7,vint (n:Int))] [Cl b7 33 [vint x4,vint x8,vint x11,N0,N0,vint 0,vint 0,vint x51,o],Rw 227 2 o cs,Kx Enc.wrap cs ws,ReaderR rp2 s,Cl b3 272 [vptr rp2 0],Cl b1 33 [vint 0,vint 0,vint 0,N0,N0,vint 0,vint 0,vint 0,N0],KB b bs,Al R]
  refine W.seq (Sn (Qm (k:=?_)))
  by_cases h58:(n:Int) > 0
  ·refine Qu (OpQ.decT (OpQ.gtr rfl rfl rfl) h58) (k:=Qm (k:=Qu (Ol 4 ld272) (k:=?_)))
   refine Wc [.tmp 59] [vptr rp2 0] Tryz.call144 (Bad_fn rp2 s) (ep [3] rfl) ?_
   rintro _ _ ⟨rfl,rfl⟩
   refine Qu (OpQ.not rfl rfl) (k:=Qt (k:=Nw [(2,vptr b1 0),(3,vint 0),(4,vptr b3 0),(5,.func (.func 206) #[] #[vptr b3 0]),(6,vptr b7 0),(7,vint (n:Int)),(62,.bool (!s.isNone))] [ReaderR rp2 s,Cl b7 33 [vint x4,vint x8,vint x11,N0,N0,vint 0,vint 0,vint x51,o],Rw 227 2 o cs,Kx Enc.wrap cs ws,Cl b3 272 [vptr rp2 0],Cl b1 33 [vint 0,vint 0,vint 0,N0,N0,vint 0,vint 0,vint 0,N0],KB b bs,Al R] ?_))
   refine W.cond rfl (fun h59=>?_) (fun h59=>?_)
   ·refine W.skip (thn_n (Wl [(2,vptr b1 0),(3,vint 0),(4,vptr b3 0),(5,.func (.func 206) #[] #[vptr b3 0]),(6,vptr b7 0),(7,vint (n:Int))] ?_))
    refine W.seq (W.block (W.seq (W.region ?_)))
    obtain ⟨m,rfl⟩:∃ m,n=m+1:=⟨n - 1,by omega⟩
    obtain ⟨s,rfl⟩:∃ z,s=some z:=by cases s <;> simp_all
    refine Qm (k:=?_)
    refine WN.call rfl rfl (OpCall.clo (xs:=[]) (vs:=[]) rfl rfl trivial Tryz.call206) (Decode1_fn b3 rp2 (some s)) (ep [4,0] rfl) ?_
    rintro _ _ ⟨x60,s61,h62,rfl,rfl⟩
    refine Qu (OpQ.build (qs:=[(0,vint x60)]) (v:=.agg #[vint x60,N0]) rfl ⟨rfl,rfl,trivial⟩ (fun _=>by kernel_rfl)) (k:=?_)
    refine Ru (OpRun.alloc rfl zv227 rfl) ?_
    rintro _ _ ⟨b63,rfl,rfl⟩
    refine Rn (OpRun.store (i:=0) (vs:=[vint x60,N0]) (cs':=[vint x60,N0]) rfl rfl rfl sz227 rfl rfl (one_cons rfl (one_cons rfl one_nil)) rfl (Lb rfl) rfl) (k:=Nw [(2,vptr b1 0),(3,vint 0),(4,vptr b3 0),(5,.func (.func 206) #[] #[vptr b3 0]),(6,vptr b7 0),(7,vint ((m+1):Int)),(8,vptr b63 0)] [Cl b63 227 [vint x60,N0],Cl b3 272 [vptr rp2 0],ReaderR rp2 s61,Cl b7 33 [vint x4,vint x8,vint x11,N0,N0,vint 0,vint 0,vint x51,o],Rw 227 2 o cs,Kx Enc.wrap cs ws,Cl b1 33 [vint 0,vint 0,vint 0,N0,N0,vint 0,vint 0,vint 0,N0],KB b bs,Al R] ?_)
    refine Sn (Qu (Ol 1 ld272) (k:=?_))
    refine Wc [.tmp 68,.const (.int .i64 48),.const (.int .i64 48)] [vptr rp2 0,vint 48,vint 48] Tryz.call145 (Text_fn rp2 s61 48 48 (by first | omega | (simp; done) | (simp; omega) | (simp at *; omega)) (by first | omega | (simp; done) | (simp; omega) | (simp at *; omega))) (ep [2] rfl) ?_
    rintro _ _ ⟨r64,x65,s66,h67,rfl,rfl⟩
    refine Qu (Of (fa227_1 _ _)) (k:=?_)
    refine Nf 0 fun ho68=>?_
    refine Rn (OpRun.store (i:=2) (vs:=[r64]) (cs':=[vint x60,r64]) rfl rfl rfl sz22 (cells_one ho68) rfl (one_cons ho68 one_nil) rfl (Lb rfl) rfl) (k:=Nw [(2,vptr b1 0),(3,vint 0),(4,vptr b3 0),(5,.func (.func 206) #[] #[vptr b3 0]),(6,vptr b7 0),(7,vint ((m+1):Int)),(8,vptr b63 0)] [Cl b63 227 [vint x60,r64],KB r64 x65,ReaderR rp2 s66,Cl b3 272 [vptr rp2 0],Cl b7 33 [vint x4,vint x8,vint x11,N0,N0,vint 0,vint 0,vint x51,o],Rw 227 2 o cs,Kx Enc.wrap cs ws,Cl b1 33 [vint 0,vint 0,vint 0,N0,N0,vint 0,vint 0,vint 0,N0],KB b bs,Al R] ?_)
    refine W.region (Qu (Of (fa33_8 _ _)) (k:=?_))
    refine Qu (Ol 4 ld31) (k:=Qu (OpQ.loadN (i:=0) rfl rfl ld227 rfl rfl rfl) (k:=?_))
    refine WN.fact (fun _ _ s=>sl_isS (i:=1) rfl s) (fun hS71=>?_)
    refine Ru (OpRun.buildSlice (qs:=[(0,.agg #[vint x60,r64])]) (cs:=[vint x60,r64]) (E:=227) (sz:=2) rfl ⟨rfl,rfl,trivial⟩ (fun _=>by obtain ⟨_,_,_,e1⟩:=hS71; rw [e1]; kernel_rfl) (one_cons rfl (one_cons ho68 one_nil)) rfl (by decide)) ?_
    rintro v69 _ ⟨h70a,h70b,h70c,rfl⟩
    refine WN.ent (Ent.know (m:=CellsRel Enc.wrap ([vint x60,r64]) ([(⟨x60,x65⟩:Wrap)])) (fun K h s=>(CellsRel.cons (cs:=[vint x60,r64]) (ds:=[]) rfl (Enc.wrap_mk (kat 2 s rfl)) CellsRel.nil))) ?_
    refine Ne [Kx Enc.wrap ([vint x60,r64]) ([(⟨x60,x65⟩:Wrap)]),Rw 227 2 v69 ([vint x60,r64]),Cl b63 227 [vint x60,r64],KB r64 x65,ReaderR rp2 s66,Cl b3 272 [vptr rp2 0],Cl b7 33 [vint x4,vint x8,vint x11,N0,N0,vint 0,vint 0,vint x51,o],Rw 227 2 o cs,Kx Enc.wrap cs ws,Cl b1 33 [vint 0,vint 0,vint 0,N0,N0,vint 0,vint 0,vint 0,N0],KB b bs,Al R] ?_
    refine Nr 7 fun hr74a hr74b hr74c=>?_
    try simp only [La,Lc,Ln] at hr74a
    refine Nr 1 fun hr75a hr75b hr75c=>?_
    try simp only [La,Lc,Ln] at hr75a
    refine Ru (OpRun.appendRow (i:=7) (j:=1) rfl rfl rfl rfl rfl Tryz.underlying31 (inf:=Tryz.t227) (by kernel_rfl) rfl rfl rfl (by_:=32) rfl (by first | omega | (simp; omega)) (by first | omega | (simp; omega))) ?_
    rintro v72 _ ⟨h73a,h73b,rfl⟩
    refine WN.ent (Ent.know (m:=CellsRel Enc.wrap (cs++([vint x60,r64])) (ws++([(⟨x60,x65⟩:Wrap)]))) (fun K h s=>CellsRel.append (e:=Enc.wrap) (cs:=cs) (ds:=[vint x60,r64]) (xs:=ws) (ys:=[(⟨x60,x65⟩:Wrap)]) (kat 7 s rfl) (kat 1 s rfl))) ?_
    refine Ne [Kx Enc.wrap (cs++([vint x60,r64])) (ws++([(⟨x60,x65⟩:Wrap)])),Rw 227 2 v72 (cs++([vint x60,r64])),Kx Enc.wrap ([vint x60,r64]) ([(⟨x60,x65⟩:Wrap)]),Cl b63 227 [vint x60,r64],KB r64 x65,ReaderR rp2 s66,Cl b3 272 [vptr rp2 0],Cl b7 33 [vint x4,vint x8,vint x11,N0,N0,vint 0,vint 0,vint x51,o],Kx Enc.wrap cs ws,Cl b1 33 [vint 0,vint 0,vint 0,N0,N0,vint 0,vint 0,vint 0,N0],KB b bs,Al R] (Qu (Of (fa33_8 _ _)) (k:=Rn (OpRun.store (i:=7) (vs:=[v72]) (cs':=[vint x4,vint x8,vint x11,N0,N0,vint 0,vint 0,vint x51,v72]) rfl rfl rfl sz31 (cells_one h73b) rfl (one_cons h73b one_nil) rfl (Lb rfl) rfl) (k:=?_)))
    refine WN.nil (inblk_n (thn_n (Ww [(2,vptr b1 0),(3,vint 0),(4,vptr b3 0),(5,.func (.func 206) #[] #[vptr b3 0]),(6,vptr b7 0),(7,vint ((m+1):Int))] [Cl b7 33 [vint x4,vint x8,vint x11,N0,N0,vint 0,vint 0,vint x51,v72],Kx Enc.wrap (cs++([vint x60,r64])) (ws++([(⟨x60,x65⟩:Wrap)])),Rw 227 2 v72 (cs++([vint x60,r64])),Kx Enc.wrap ([vint x60,r64]) ([(⟨x60,x65⟩:Wrap)]),Cl b63 227 [vint x60,r64],KB r64 x65,ReaderR rp2 s66,Cl b3 272 [vptr rp2 0],Kx Enc.wrap cs ws,Cl b1 33 [vint 0,vint 0,vint 0,N0,N0,vint 0,vint 0,vint 0,N0],KB b bs,Al R] ?_)))
    refine W.region (Qm (k:=?_))
    refine Qu (OpQ.sub rfl rfl rfl ⟨by omega,by omega⟩) (k:=Qa (k:=?_))
    refine WN.nil (thn_n ⟨(m,v72,cs++([vint x60,r64]),ws++([(⟨x60,x65⟩:Wrap)]),s66),by (show m < (m+1)); omega,⟨rfl,rfl,rfl,rfl,rfl,(Eq.trans (b:=some (vint (((m+1):Int) - 1))) rfl (by first | rfl | (congr 2; omega))),trivial⟩,?_⟩)
    exact (es [0,1,0,3,3,4,4,4] rfl).trans (Ent.pure_in (by refine ⟨?_,by have:=hI57.2.1; simp; omega,by have:=hI57.2.2; simp; omega⟩; rw [hI57.1,Spec.rwraps_succ h62 h67]; simp))
   have hend:Spec.rwraps n0 s55=(ws,s):=by rw [hI57.1]; cases s with | none=>rw [Spec.rwraps_none,List.append_nil] | some z=>(have hz:n=0:=(by first | omega | exact absurd h59 (by simp))); (subst hz); (simp only [Spec.rwraps,List.append_nil])
   refine W.exit (thn_x (thn_x (inblk_x (inblk_n (thn_n (Wl [(2,vptr b1 0),(3,vint 0),(4,vptr b3 0),(6,vptr b7 0)] ?_))))))
   refine W.seq (Sn (Qu (Ol 4 ld272) (k:=?_)))
   refine Wc [.tmp 77] [vptr rp2 0] Tryz.call146 (End_fn rp2 s) (ep [0] rfl) ?_
   rintro _ _ ⟨rfl,rfl⟩
   by_cases h76:¬ (s=some [])
   ·refine Qu (OpQ.decT (OpQ.notP rfl rfl) h76) (k:=Qm (k:=Qs (k:=Qs (k:=Qs (k:=Qt (k:=Nw [(2,vptr b1 0),(3,vint 0),(6,vptr b7 0),(84,.bool true)] [ReaderR rp2 s,Cl b7 33 [vint x4,vint x8,vint x11,N0,N0,vint 0,vint 0,vint x51,o],Rw 227 2 o cs,Kx Enc.wrap cs ws,Cl b3 272 [vptr rp2 0],Cl b1 33 [vint 0,vint 0,vint 0,N0,N0,vint 0,vint 0,vint 0,N0],KB b bs,Al R] ?_))))))
    refine W.condT rfl ?_
    refine Sn (Qu (OpQ.build (qs:=[]) (v:=.agg #[vint 0,vint 0,vint 0,N0,N0,vint 0,vint 0,vint 0,N0]) rfl trivial (fun _=>by kernel_rfl)) (k:=Rn (OpRun.store (i:=5) (vs:=[vint 0,vint 0,vint 0,N0,N0,vint 0,vint 0,vint 0,N0]) (cs':=[vint 0,vint 0,vint 0,N0,N0,vint 0,vint 0,vint 0,N0]) rfl rfl rfl sz33 rfl rfl (O3 (O3 (O3 one_nil))) rfl (Lb rfl) rfl) (k:=Qa (k:=Nw [(2,vptr b1 0),(3,vint 10),(6,vptr b7 0)] [Cl b1 33 [vint 0,vint 0,vint 0,N0,N0,vint 0,vint 0,vint 0,N0],ReaderR rp2 s,Cl b7 33 [vint x4,vint x8,vint x11,N0,N0,vint 0,vint 0,vint x51,o],Rw 227 2 o cs,Kx Enc.wrap cs ws,Cl b3 272 [vptr rp2 0],KB b bs,Al R] ?_))))
    refine Wr 3 fun hr77a hr77b hr77c=>?_
    try simp only [La,Lc,Ln] at hr77a
    have hre:Spec.rentry (some bs)=((⟨x4,x8,x11,[],[],0,0,x51,ws⟩:Entry),s):=by simp only [Spec.rentry,h6,h10,h13,h53,h56,Int.toNat_natCast,hend,if_neg h14,if_neg h27,if_neg h35,if_neg h44,if_pos h50]
    refine W.ret (thn_r (retC2 (M:=[]) (i:=0) rfl rfl rfl rfl rfl ld33 (.inr (⟨(by unfold Spec.decode; rw [hre]; show (if _ then _ else _)=_; rw [if_neg (by clear hend hI57 hre; simp_all)]),rfl,rfl⟩)) (es [7] rfl)))
   refine Qu (OpQ.decF (OpQ.notP rfl rfl) h76) (k:=Qm (k:=Qu (OpQ.loadN (i:=1) rfl rfl ld33 rfl rfl rfl) (k:=?_)))
   refine WN.ent (Ent.slNil (e:=Enc.u8) (T:=5)) ?_
   refine WN.freezeRel (e:=Enc.wrap) (i:=3) (j:=3) (Lb rfl) rfl rfl ?_
   refine Ne [KW o ws,KB (N0) ([]),ReaderR rp2 s,Cl b7 33 [vint x4,vint x8,vint x11,N0,N0,vint 0,vint 0,vint x51,o],Kx Enc.wrap cs ws,Cl b3 272 [vptr rp2 0],Cl b1 33 [vint 0,vint 0,vint 0,N0,N0,vint 0,vint 0,vint 0,N0],KB b bs,Al R] ?_
   refine Wc [.tmp 81] [.agg #[vint x4,vint x8,vint x11,N0,N0,vint 0,vint 0,vint x51,o]] Tryz.call204 (Right_fn (⟨x4,x8,x11,[],[],0,0,x51,ws⟩:Entry) (N0) (N0) o) ((ed 1 rfl).trans ((ed 2 rfl).trans ((ed 2 rfl).trans (ep [2,1,0] rfl)))) ?_
   rintro _ _ ⟨rfl,rfl⟩
   refine Qu (OpQ.not rfl rfl) (k:=Qf (k:=Nw [(2,vptr b1 0),(3,vint 0),(6,vptr b7 0),(84,.bool (!(Spec.right (⟨x4,x8,x11,[],[],0,0,x51,ws⟩:Entry))))] [KW o ws,KB (N0) ([]),ReaderR rp2 s,Cl b7 33 [vint x4,vint x8,vint x11,N0,N0,vint 0,vint 0,vint x51,o],Kx Enc.wrap cs ws,Cl b3 272 [vptr rp2 0],Cl b1 33 [vint 0,vint 0,vint 0,N0,N0,vint 0,vint 0,vint 0,N0],KB b bs,Al R] ?_))
   refine W.cond rfl (fun h78=>?_) (fun h78=>?_)
   ·refine Sn (Qu (OpQ.build (qs:=[]) (v:=.agg #[vint 0,vint 0,vint 0,N0,N0,vint 0,vint 0,vint 0,N0]) rfl trivial (fun _=>by kernel_rfl)) (k:=Rn (OpRun.store (i:=6) (vs:=[vint 0,vint 0,vint 0,N0,N0,vint 0,vint 0,vint 0,N0]) (cs':=[vint 0,vint 0,vint 0,N0,N0,vint 0,vint 0,vint 0,N0]) rfl rfl rfl sz33 rfl rfl (O3 (O3 (O3 one_nil))) rfl (Lb rfl) rfl) (k:=Qa (k:=Nw [(2,vptr b1 0),(3,vint 10),(6,vptr b7 0)] [Cl b1 33 [vint 0,vint 0,vint 0,N0,N0,vint 0,vint 0,vint 0,N0],KW o ws,KB (N0) ([]),ReaderR rp2 s,Cl b7 33 [vint x4,vint x8,vint x11,N0,N0,vint 0,vint 0,vint x51,o],Kx Enc.wrap cs ws,Cl b3 272 [vptr rp2 0],KB b bs,Al R] ?_))))
    have hre:Spec.rentry (some bs)=((⟨x4,x8,x11,[],[],0,0,x51,ws⟩:Entry),s):=by simp only [Spec.rentry,h6,h10,h13,h53,h56,Int.toNat_natCast,hend,if_neg h14,if_neg h27,if_neg h35,if_neg h44,if_pos h50]
    refine W.ret (thn_r (retC2 (M:=[]) (i:=0) rfl rfl rfl rfl rfl ld33 (.inr (⟨(by unfold Spec.decode; rw [hre]; show (if _ then _ else _)=_; rw [if_neg (by clear hend hI57 hre; simp_all)]),rfl,rfl⟩)) (es [8] rfl)))
   refine W.skip (thn_n (Wl [(2,vptr b1 0),(3,vint 0),(6,vptr b7 0)] ?_))
   refine Sn (Qu (OpQ.loadN (i:=3) rfl rfl ld33 rfl rfl rfl) (k:=?_))
   refine Nf 0 fun ho79=>?_
   refine Rn (OpRun.store (i:=6) (vs:=[vint x4,vint x8,vint x11,N0,N0,vint 0,vint 0,vint x51,o]) (cs':=[vint x4,vint x8,vint x11,N0,N0,vint 0,vint 0,vint x51,o]) rfl rfl rfl sz33 rfl rfl (O3 (O3 (one_cons rfl (one_cons rfl (one_cons ho79 one_nil))))) rfl (Lb rfl) rfl) (k:=Qa (k:=Nw [(2,vptr b1 0),(3,vint 0)] [Cl b1 33 [vint x4,vint x8,vint x11,N0,N0,vint 0,vint 0,vint x51,o],KW o ws,KB (N0) ([]),ReaderR rp2 s,Cl b7 33 [vint x4,vint x8,vint x11,N0,N0,vint 0,vint 0,vint x51,o],Kx Enc.wrap cs ws,Cl b3 272 [vptr rp2 0],KB b bs,Al R] ?_))
   have hre:Spec.rentry (some bs)=((⟨x4,x8,x11,[],[],0,0,x51,ws⟩:Entry),s):=by simp only [Spec.rentry,h6,h10,h13,h53,h56,Int.toNat_natCast,hend,if_neg h14,if_neg h27,if_neg h35,if_neg h44,if_pos h50]
   refine W.ent (Ent.slNil (e:=Enc.u8) (T:=5)) ?_
   refine W.ent (L':=[KB (N0) ([]),Cl b1 33 [vint x4,vint x8,vint x11,N0,N0,vint 0,vint 0,vint x51,o],KW o ws,KB (N0) ([]),ReaderR rp2 s,Cl b7 33 [vint x4,vint x8,vint x11,N0,N0,vint 0,vint 0,vint x51,o],Kx Enc.wrap cs ws,Cl b3 272 [vptr rp2 0],KB b bs,Al R]) (es [0,0,0,0,0,0,0,0,0,0] rfl) ?_
   refine W.ent (Ent.slNil (e:=Enc.u8) (T:=5)) ?_
   refine W.ent (L':=[KB (N0) ([]),KB (N0) ([]),Cl b1 33 [vint x4,vint x8,vint x11,N0,N0,vint 0,vint 0,vint x51,o],KW o ws,KB (N0) ([]),ReaderR rp2 s,Cl b7 33 [vint x4,vint x8,vint x11,N0,N0,vint 0,vint 0,vint x51,o],Kx Enc.wrap cs ws,Cl b3 272 [vptr rp2 0],KB b bs,Al R]) (es [0,0,0,0,0,0,0,0,0,0,0] rfl) ?_
   refine W.ret (retC2 (M:=[KB (N0) ((⟨x4,x8,x11,[],[],0,0,x51,ws⟩:Entry).name),KB (N0) ((⟨x4,x8,x11,[],[],0,0,x51,ws⟩:Entry).value),KW o ((⟨x4,x8,x11,[],[],0,0,x51,ws⟩:Entry).wraps)]) (i:=2) rfl rfl rfl rfl rfl ld33 (.inl ⟨(⟨x4,x8,x11,[],[],0,0,x51,ws⟩:Entry),N0,N0,o,(by unfold Spec.decode; rw [hre]; show (if _ then _ else _)=_; rw [if_pos (by clear hend hI57 hre; simp_all)]),rfl,rfl⟩) (es [0,0,1,7] rfl))
  refine Qu (OpQ.decF (OpQ.gtr rfl rfl rfl) h58) (k:=Qm (k:=Qs (k:=Qs (k:=Qs (k:=Qf (k:=Nl [(2,vptr b1 0),(3,vint 0),(4,vptr b3 0),(5,.func (.func 206) #[] #[vptr b3 0]),(6,vptr b7 0),(7,vint (n:Int)),(62,.bool false)] ?_))))))
  refine W.condF rfl ?_
  have hend:Spec.rwraps n0 s55=(ws,s):=by rw [hI57.1]; cases s with | none=>rw [Spec.rwraps_none,List.append_nil] | some z=>(have hz:n=0:=(by first | omega | exact absurd h58 (by simp))); (subst hz); (simp only [Spec.rwraps,List.append_nil])
  refine W.exit (thn_x (thn_x (inblk_x (inblk_n (thn_n (Wl [(2,vptr b1 0),(3,vint 0),(4,vptr b3 0),(6,vptr b7 0)] ?_))))))
  refine W.seq (Sn (Qu (Ol 4 ld272) (k:=?_)))
  refine Wc [.tmp 77] [vptr rp2 0] Tryz.call146 (End_fn rp2 s) (ep [3] rfl) ?_
  rintro _ _ ⟨rfl,rfl⟩
  by_cases h80:¬ (s=some [])
  ·refine Qu (OpQ.decT (OpQ.notP rfl rfl) h80) (k:=Qm (k:=Qs (k:=Qs (k:=Qs (k:=Qt (k:=Nw [(2,vptr b1 0),(3,vint 0),(6,vptr b7 0),(84,.bool true)] [ReaderR rp2 s,Cl b7 33 [vint x4,vint x8,vint x11,N0,N0,vint 0,vint 0,vint x51,o],Rw 227 2 o cs,Kx Enc.wrap cs ws,Cl b3 272 [vptr rp2 0],Cl b1 33 [vint 0,vint 0,vint 0,N0,N0,vint 0,vint 0,vint 0,N0],KB b bs,Al R] ?_))))))
   refine W.condT rfl ?_
   refine Sn (Qu (OpQ.build (qs:=[]) (v:=.agg #[vint 0,vint 0,vint 0,N0,N0,vint 0,vint 0,vint 0,N0]) rfl trivial (fun _=>by kernel_rfl)) (k:=Rn (OpRun.store (i:=5) (vs:=[vint 0,vint 0,vint 0,N0,N0,vint 0,vint 0,vint 0,N0]) (cs':=[vint 0,vint 0,vint 0,N0,N0,vint 0,vint 0,vint 0,N0]) rfl rfl rfl sz33 rfl rfl (O3 (O3 (O3 one_nil))) rfl (Lb rfl) rfl) (k:=Qa (k:=Nw [(2,vptr b1 0),(3,vint 10),(6,vptr b7 0)] [Cl b1 33 [vint 0,vint 0,vint 0,N0,N0,vint 0,vint 0,vint 0,N0],ReaderR rp2 s,Cl b7 33 [vint x4,vint x8,vint x11,N0,N0,vint 0,vint 0,vint x51,o],Rw 227 2 o cs,Kx Enc.wrap cs ws,Cl b3 272 [vptr rp2 0],KB b bs,Al R] ?_))))
   refine Wr 3 fun hr81a hr81b hr81c=>?_
   try simp only [La,Lc,Ln] at hr81a
   have hre:Spec.rentry (some bs)=((⟨x4,x8,x11,[],[],0,0,x51,ws⟩:Entry),s):=by simp only [Spec.rentry,h6,h10,h13,h53,h56,Int.toNat_natCast,hend,if_neg h14,if_neg h27,if_neg h35,if_neg h44,if_pos h50]
   refine W.ret (thn_r (retC2 (M:=[]) (i:=0) rfl rfl rfl rfl rfl ld33 (.inr (⟨(by unfold Spec.decode; rw [hre]; show (if _ then _ else _)=_; rw [if_neg (by clear hend hI57 hre; simp_all)]),rfl,rfl⟩)) (es [7] rfl)))
  refine Qu (OpQ.decF (OpQ.notP rfl rfl) h80) (k:=Qm (k:=Qu (OpQ.loadN (i:=1) rfl rfl ld33 rfl rfl rfl) (k:=?_)))
  refine WN.ent (Ent.slNil (e:=Enc.u8) (T:=5)) ?_
  refine WN.freezeRel (e:=Enc.wrap) (i:=3) (j:=3) (Lb rfl) rfl rfl ?_
  refine Ne [KW o ws,KB (N0) ([]),ReaderR rp2 s,Cl b7 33 [vint x4,vint x8,vint x11,N0,N0,vint 0,vint 0,vint x51,o],Kx Enc.wrap cs ws,Cl b3 272 [vptr rp2 0],Cl b1 33 [vint 0,vint 0,vint 0,N0,N0,vint 0,vint 0,vint 0,N0],KB b bs,Al R] ?_
  refine Wc [.tmp 81] [.agg #[vint x4,vint x8,vint x11,N0,N0,vint 0,vint 0,vint x51,o]] Tryz.call204 (Right_fn (⟨x4,x8,x11,[],[],0,0,x51,ws⟩:Entry) (N0) (N0) o) ((ed 1 rfl).trans ((ed 2 rfl).trans ((ed 2 rfl).trans (ep [2,1,0] rfl)))) ?_
  rintro _ _ ⟨rfl,rfl⟩
  refine Qu (OpQ.not rfl rfl) (k:=Qf (k:=Nw [(2,vptr b1 0),(3,vint 0),(6,vptr b7 0),(84,.bool (!(Spec.right (⟨x4,x8,x11,[],[],0,0,x51,ws⟩:Entry))))] [KW o ws,KB (N0) ([]),ReaderR rp2 s,Cl b7 33 [vint x4,vint x8,vint x11,N0,N0,vint 0,vint 0,vint x51,o],Kx Enc.wrap cs ws,Cl b3 272 [vptr rp2 0],Cl b1 33 [vint 0,vint 0,vint 0,N0,N0,vint 0,vint 0,vint 0,N0],KB b bs,Al R] ?_))
  refine W.cond rfl (fun h82=>?_) (fun h82=>?_)
  ·refine Sn (Qu (OpQ.build (qs:=[]) (v:=.agg #[vint 0,vint 0,vint 0,N0,N0,vint 0,vint 0,vint 0,N0]) rfl trivial (fun _=>by kernel_rfl)) (k:=Rn (OpRun.store (i:=6) (vs:=[vint 0,vint 0,vint 0,N0,N0,vint 0,vint 0,vint 0,N0]) (cs':=[vint 0,vint 0,vint 0,N0,N0,vint 0,vint 0,vint 0,N0]) rfl rfl rfl sz33 rfl rfl (O3 (O3 (O3 one_nil))) rfl (Lb rfl) rfl) (k:=Qa (k:=Nw [(2,vptr b1 0),(3,vint 10),(6,vptr b7 0)] [Cl b1 33 [vint 0,vint 0,vint 0,N0,N0,vint 0,vint 0,vint 0,N0],KW o ws,KB (N0) ([]),ReaderR rp2 s,Cl b7 33 [vint x4,vint x8,vint x11,N0,N0,vint 0,vint 0,vint x51,o],Kx Enc.wrap cs ws,Cl b3 272 [vptr rp2 0],KB b bs,Al R] ?_))))
   have hre:Spec.rentry (some bs)=((⟨x4,x8,x11,[],[],0,0,x51,ws⟩:Entry),s):=by simp only [Spec.rentry,h6,h10,h13,h53,h56,Int.toNat_natCast,hend,if_neg h14,if_neg h27,if_neg h35,if_neg h44,if_pos h50]
   refine W.ret (thn_r (retC2 (M:=[]) (i:=0) rfl rfl rfl rfl rfl ld33 (.inr (⟨(by unfold Spec.decode; rw [hre]; show (if _ then _ else _)=_; rw [if_neg (by clear hend hI57 hre; simp_all)]),rfl,rfl⟩)) (es [8] rfl)))
  refine W.skip (thn_n (Wl [(2,vptr b1 0),(3,vint 0),(6,vptr b7 0)] ?_))
  refine Sn (Qu (OpQ.loadN (i:=3) rfl rfl ld33 rfl rfl rfl) (k:=?_))
  refine Nf 0 fun ho83=>?_
  refine Rn (OpRun.store (i:=6) (vs:=[vint x4,vint x8,vint x11,N0,N0,vint 0,vint 0,vint x51,o]) (cs':=[vint x4,vint x8,vint x11,N0,N0,vint 0,vint 0,vint x51,o]) rfl rfl rfl sz33 rfl rfl (O3 (O3 (one_cons rfl (one_cons rfl (one_cons ho83 one_nil))))) rfl (Lb rfl) rfl) (k:=Qa (k:=Nw [(2,vptr b1 0),(3,vint 0)] [Cl b1 33 [vint x4,vint x8,vint x11,N0,N0,vint 0,vint 0,vint x51,o],KW o ws,KB (N0) ([]),ReaderR rp2 s,Cl b7 33 [vint x4,vint x8,vint x11,N0,N0,vint 0,vint 0,vint x51,o],Kx Enc.wrap cs ws,Cl b3 272 [vptr rp2 0],KB b bs,Al R] ?_))
  have hre:Spec.rentry (some bs)=((⟨x4,x8,x11,[],[],0,0,x51,ws⟩:Entry),s):=by simp only [Spec.rentry,h6,h10,h13,h53,h56,Int.toNat_natCast,hend,if_neg h14,if_neg h27,if_neg h35,if_neg h44,if_pos h50]
  refine W.ent (Ent.slNil (e:=Enc.u8) (T:=5)) ?_
  refine W.ent (L':=[KB (N0) ([]),Cl b1 33 [vint x4,vint x8,vint x11,N0,N0,vint 0,vint 0,vint x51,o],KW o ws,KB (N0) ([]),ReaderR rp2 s,Cl b7 33 [vint x4,vint x8,vint x11,N0,N0,vint 0,vint 0,vint x51,o],Kx Enc.wrap cs ws,Cl b3 272 [vptr rp2 0],KB b bs,Al R]) (es [0,0,0,0,0,0,0,0,0,0] rfl) ?_
  refine W.ent (Ent.slNil (e:=Enc.u8) (T:=5)) ?_
  refine W.ent (L':=[KB (N0) ([]),KB (N0) ([]),Cl b1 33 [vint x4,vint x8,vint x11,N0,N0,vint 0,vint 0,vint x51,o],KW o ws,KB (N0) ([]),ReaderR rp2 s,Cl b7 33 [vint x4,vint x8,vint x11,N0,N0,vint 0,vint 0,vint x51,o],Kx Enc.wrap cs ws,Cl b3 272 [vptr rp2 0],KB b bs,Al R]) (es [0,0,0,0,0,0,0,0,0,0,0] rfl) ?_
  refine W.ret (retC2 (M:=[KB (N0) ((⟨x4,x8,x11,[],[],0,0,x51,ws⟩:Entry).name),KB (N0) ((⟨x4,x8,x11,[],[],0,0,x51,ws⟩:Entry).value),KW o ((⟨x4,x8,x11,[],[],0,0,x51,ws⟩:Entry).wraps)]) (i:=2) rfl rfl rfl rfl rfl ld33 (.inl ⟨(⟨x4,x8,x11,[],[],0,0,x51,ws⟩:Entry),N0,N0,o,(by unfold Spec.decode; rw [hre]; show (if _ then _ else _)=_; rw [if_pos (by clear hend hI57 hre; simp_all)]),rfl,rfl⟩) (es [0,0,1,7] rfl))
 refine W.skip (inblk_n (thn_n (Wl [(2,vptr b1 0),(3,vint 0),(4,vptr b3 0),(6,vptr b7 0)] ?_)))
 refine W.seq (Sn (Qu (Ol 2 ld272) (k:=?_)))
 refine Wc [.tmp 77] [vptr rp2 0] Tryz.call146 (End_fn rp2 s12) (ep [1] rfl) ?_
 rintro _ _ ⟨rfl,rfl⟩
 by_cases h84:¬ (s12=some [])
 ·refine Qu (OpQ.decT (OpQ.notP rfl rfl) h84) (k:=Qm (k:=Qs (k:=Qs (k:=Qs (k:=Qt (k:=Nw [(2,vptr b1 0),(3,vint 0),(6,vptr b7 0),(84,.bool true)] [ReaderR rp2 s12,Cl b7 33 [vint x4,vint x8,vint x11,N0,N0,vint 0,vint 0,vint 0,N0],Cl b3 272 [vptr rp2 0],Cl b1 33 [vint 0,vint 0,vint 0,N0,N0,vint 0,vint 0,vint 0,N0],KB b bs,Al R] ?_))))))
  refine W.condT rfl ?_
  refine Sn (Qu (OpQ.build (qs:=[]) (v:=.agg #[vint 0,vint 0,vint 0,N0,N0,vint 0,vint 0,vint 0,N0]) rfl trivial (fun _=>by kernel_rfl)) (k:=Rn (OpRun.store (i:=3) (vs:=[vint 0,vint 0,vint 0,N0,N0,vint 0,vint 0,vint 0,N0]) (cs':=[vint 0,vint 0,vint 0,N0,N0,vint 0,vint 0,vint 0,N0]) rfl rfl rfl sz33 rfl rfl (O3 (O3 (O3 one_nil))) rfl (Lb rfl) rfl) (k:=Qa (k:=Nw [(2,vptr b1 0),(3,vint 10),(6,vptr b7 0)] [Cl b1 33 [vint 0,vint 0,vint 0,N0,N0,vint 0,vint 0,vint 0,N0],ReaderR rp2 s12,Cl b7 33 [vint x4,vint x8,vint x11,N0,N0,vint 0,vint 0,vint 0,N0],Cl b3 272 [vptr rp2 0],KB b bs,Al R] ?_))))
  have hre:Spec.rentry (some bs)=((⟨x4,x8,x11,[],[],0,0,0,[]⟩:Entry),s12):=by simp only [Spec.rentry,h6,h10,h13,if_neg h14,if_neg h27,if_neg h35,if_neg h44,if_neg h50]
  refine W.ret (thn_r (retC2 (M:=[]) (i:=0) rfl rfl rfl rfl rfl ld33 (.inr (⟨(by unfold Spec.decode; rw [hre]; show (if _ then _ else _)=_; rw [if_neg (by simp_all)]),rfl,rfl⟩)) (es [5] rfl)))
 refine Qu (OpQ.decF (OpQ.notP rfl rfl) h84) (k:=Qm (k:=Qu (OpQ.loadN (i:=1) rfl rfl ld33 rfl rfl rfl) (k:=?_)))
 refine WN.ent (Ent.slNil (e:=Enc.u8) (T:=5)) ?_
 refine WN.ent (Ent.slNil (e:=Enc.wrap) (T:=227)) ?_
 refine Wc [.tmp 81] [.agg #[vint x4,vint x8,vint x11,N0,N0,vint 0,vint 0,vint 0,N0]] Tryz.call204 (Right_fn (⟨x4,x8,x11,[],[],0,0,0,[]⟩:Entry) (N0) (N0) (N0)) ((ed 1 rfl).trans ((ed 2 rfl).trans ((ed 2 rfl).trans (ep [2,1,0] rfl)))) ?_
 rintro _ _ ⟨rfl,rfl⟩
 refine Qu (OpQ.not rfl rfl) (k:=Qf (k:=Nw [(2,vptr b1 0),(3,vint 0),(6,vptr b7 0),(84,.bool (!(Spec.right (⟨x4,x8,x11,[],[],0,0,0,[]⟩:Entry))))] [KW (N0) ([]),KB (N0) ([]),ReaderR rp2 s12,Cl b7 33 [vint x4,vint x8,vint x11,N0,N0,vint 0,vint 0,vint 0,N0],Cl b3 272 [vptr rp2 0],Cl b1 33 [vint 0,vint 0,vint 0,N0,N0,vint 0,vint 0,vint 0,N0],KB b bs,Al R] ?_))
 refine W.cond rfl (fun h85=>?_) (fun h85=>?_)
 ·refine Sn (Qu (OpQ.build (qs:=[]) (v:=.agg #[vint 0,vint 0,vint 0,N0,N0,vint 0,vint 0,vint 0,N0]) rfl trivial (fun _=>by kernel_rfl)) (k:=Rn (OpRun.store (i:=5) (vs:=[vint 0,vint 0,vint 0,N0,N0,vint 0,vint 0,vint 0,N0]) (cs':=[vint 0,vint 0,vint 0,N0,N0,vint 0,vint 0,vint 0,N0]) rfl rfl rfl sz33 rfl rfl (O3 (O3 (O3 one_nil))) rfl (Lb rfl) rfl) (k:=Qa (k:=Nw [(2,vptr b1 0),(3,vint 10),(6,vptr b7 0)] [Cl b1 33 [vint 0,vint 0,vint 0,N0,N0,vint 0,vint 0,vint 0,N0],KW (N0) ([]),KB (N0) ([]),ReaderR rp2 s12,Cl b7 33 [vint x4,vint x8,vint x11,N0,N0,vint 0,vint 0,vint 0,N0],Cl b3 272 [vptr rp2 0],KB b bs,Al R] ?_))))
  have hre:Spec.rentry (some bs)=((⟨x4,x8,x11,[],[],0,0,0,[]⟩:Entry),s12):=by simp only [Spec.rentry,h6,h10,h13,if_neg h14,if_neg h27,if_neg h35,if_neg h44,if_neg h50]
  refine W.ret (thn_r (retC2 (M:=[]) (i:=0) rfl rfl rfl rfl rfl ld33 (.inr (⟨(by unfold Spec.decode; rw [hre]; show (if _ then _ else _)=_; rw [if_neg (by simp_all)]),rfl,rfl⟩)) (es [7] rfl)))
 refine W.skip (thn_n (Wl [(2,vptr b1 0),(3,vint 0),(6,vptr b7 0)] ?_))
 refine Sn (Qu (OpQ.loadN (i:=3) rfl rfl ld33 rfl rfl rfl) (k:=Rn (OpRun.store (i:=5) (vs:=[vint x4,vint x8,vint x11,N0,N0,vint 0,vint 0,vint 0,N0]) (cs':=[vint x4,vint x8,vint x11,N0,N0,vint 0,vint 0,vint 0,N0]) rfl rfl rfl sz33 rfl rfl (O3 (O3 (O3 one_nil))) rfl (Lb rfl) rfl) (k:=Qa (k:=Nw [(2,vptr b1 0),(3,vint 0)] [Cl b1 33 [vint x4,vint x8,vint x11,N0,N0,vint 0,vint 0,vint 0,N0],KW (N0) ([]),KB (N0) ([]),ReaderR rp2 s12,Cl b7 33 [vint x4,vint x8,vint x11,N0,N0,vint 0,vint 0,vint 0,N0],Cl b3 272 [vptr rp2 0],KB b bs,Al R] ?_))))
 have hre:Spec.rentry (some bs)=((⟨x4,x8,x11,[],[],0,0,0,[]⟩:Entry),s12):=by simp only [Spec.rentry,h6,h10,h13,if_neg h14,if_neg h27,if_neg h35,if_neg h44,if_neg h50]
 refine W.ent (Ent.slNil (e:=Enc.u8) (T:=5)) ?_
 refine W.ent (L':=[KB (N0) ([]),Cl b1 33 [vint x4,vint x8,vint x11,N0,N0,vint 0,vint 0,vint 0,N0],KW (N0) ([]),KB (N0) ([]),ReaderR rp2 s12,Cl b7 33 [vint x4,vint x8,vint x11,N0,N0,vint 0,vint 0,vint 0,N0],Cl b3 272 [vptr rp2 0],KB b bs,Al R]) (es [0,0,0,0,0,0,0,0,0] rfl) ?_
 refine W.ent (Ent.slNil (e:=Enc.u8) (T:=5)) ?_
 refine W.ent (L':=[KB (N0) ([]),KB (N0) ([]),Cl b1 33 [vint x4,vint x8,vint x11,N0,N0,vint 0,vint 0,vint 0,N0],KW (N0) ([]),KB (N0) ([]),ReaderR rp2 s12,Cl b7 33 [vint x4,vint x8,vint x11,N0,N0,vint 0,vint 0,vint 0,N0],Cl b3 272 [vptr rp2 0],KB b bs,Al R]) (es [0,0,0,0,0,0,0,0,0,0] rfl) ?_
 refine W.ent (Ent.slNil (e:=Enc.wrap) (T:=227)) ?_
 refine W.ent (L':=[KW (N0) ([]),KB (N0) ([]),KB (N0) ([]),Cl b1 33 [vint x4,vint x8,vint x11,N0,N0,vint 0,vint 0,vint 0,N0],KW (N0) ([]),KB (N0) ([]),ReaderR rp2 s12,Cl b7 33 [vint x4,vint x8,vint x11,N0,N0,vint 0,vint 0,vint 0,N0],Cl b3 272 [vptr rp2 0],KB b bs,Al R]) (es [0,0,0,0,0,0,0,0,0,0,0] rfl) ?_
 refine W.ret (retC2 (M:=[KB (N0) ((⟨x4,x8,x11,[],[],0,0,0,[]⟩:Entry).name),KB (N0) ((⟨x4,x8,x11,[],[],0,0,0,[]⟩:Entry).value),KW (N0) ((⟨x4,x8,x11,[],[],0,0,0,[]⟩:Entry).wraps)]) (i:=3) rfl rfl rfl rfl rfl ld33 (.inl ⟨(⟨x4,x8,x11,[],[],0,0,0,[]⟩:Entry),N0,N0,N0,(by unfold Spec.decode; rw [hre]; show (if _ then _ else _)=_; rw [if_pos (by simp_all)]),rfl,rfl⟩) (es [1,1,0,7] rfl))
end Go.Lk
open Go.Proofs
namespace Go.Lk
namespace Spec
def bsize (n:Int):Except Int Nat :=
  if n < 0∨n > 2046 then .error 11 else if n+2≤64 then .ok 64 else if n+2≤128 then .ok 128 else if n+2≤256 then .ok 256 else if n+2≤512 then .ok 512 else if n+2≤1024 then .ok 1024 else .ok 2048
def pad (bs:Bytes):Except Int Bytes :=
  match bsize bs.length with
  | .error e=>.error e
  | .ok k=>.ok (be 2 bs.length++bs++List.replicate (k - 2 - bs.length) 0)
def strip (bs:Bytes):Except Int Bytes :=
  if bs.length < 64 then .error 10 else
  match bsize (step8 (bs.getD 0 0).toNat (bs.getD 1 0)) with
  | .error _=>.error 10
  | .ok k=>if k≠bs.length then .error 10 else
    if ∀ i,i < (bs.drop (2+(step8 (bs.getD 0 0).toNat (bs.getD 1 0)).toNat)).length→(bs.drop (2+(step8 (bs.getD 0 0).toNat (bs.getD 1 0)).toNat)).getD i 0=0 then .ok ((bs.drop 2).take (step8 (bs.getD 0 0).toNat (bs.getD 1 0)).toNat) else .error 10
theorem pad_bytes {k:Nat} {a b:UInt8} {bs:Bytes} (h:bs.length+2≤k):(((List.replicate k 0).set 0 a).set 1 b).take 2++bs++(((List.replicate k 0).set 0 a).set 1 b).drop (2+bs.length)=[a,b]++bs++List.replicate (k - 2 - bs.length) 0:=by
  obtain ⟨j,rfl⟩:∃ j,k=j+2:=⟨k - 2,by omega⟩
  have e:((List.replicate (j+2) (0:UInt8)).set 0 a).set 1 b=a :: b :: List.replicate j 0:=rfl
  rw [e]
  simp [Nat.add_comm 2]
end Spec
end Go.Lk
open Go.Proofs
set_option maxRecDepth 8000
namespace Go.Lk
open Asn renaming cells→Cl,row→Rw,kn→Kk,all→Al
theorem Size_fn (n:Int):Fn Tryz.prog 249 #[vint n] [] (fun v M=>(∃ (k:Nat),Spec.bsize n = .ok k∧0≤n∧n+2≤k∧k≤2048∧64≤k∧.tuple #[vint (k:Int),vint 0]=v∧M=[])∨(Spec.bsize n = .error 11∧.tuple #[vint 0,vint 11]=v∧M=[])):=by
 refine Fi 18 Tryz.func249 fun g R=>?_
 refine Ww [(0,vint n)] [Al R] ?_
 refine Sn (Qa (k:=Qa (k:=Nl [(0,vint n),(2,vint 0),(3,vint 0)] ?_)))
 refine W.scope' (X:=(Unit) ⊕ (Nat)) (fun x=>match x with | (Sum.inl _)=>0 | (Sum.inr sz)=>1) (fun x=>match x with | (Sum.inl _)=>[(0,vint n)] | (Sum.inr sz)=>[(0,vint n),(4,vint (sz:Int))]) (fun x=>match x with | (Sum.inl _)=>[Asn.pure (n < 0∨n > 2046),Al R] | (Sum.inr sz)=>[Asn.pure ((sz=64∨(sz=128∧n+2 > 64)∨(sz=256∧n+2 > 128)∨(sz=512∧n+2 > 256)∨(sz=1024∧n+2 > 512)∨(sz=2048∧n+2 > 1024))∧0≤n∧n≤2046),Al R]) (fun x=>match x with | (Sum.inl _)=>0 | (Sum.inr sz)=>4096 - sz) (fun x=>by rcases x with _ | _ <;> rfl) ?_ (fun x=>?_)
 ·refine Sn (Qa (k:=Nw [(0,vint n),(2,vint 0),(3,vint 0),(4,vint 64)] [Al R] ?_))
  refine W.seq (Sn (Qm (k:=?_)))
  by_cases h1:n < 0
  ·refine Qu (OpQ.decT (OpQ.lss rfl rfl rfl) h1) (k:=Qm (k:=Qs (k:=Qs (k:=Qt (k:=Nl [(0,vint n),(2,vint 0),(3,vint 0),(4,vint 64),(10,.bool true)] ?_)))))
   refine W.condT rfl ?_
   refine W.goto ?_
   refine thn_g (goq_g ?_)
   exact ⟨(Sum.inl ()),rfl,⟨rfl,trivial⟩,(es [0] rfl).trans (Ent.pure_in (by omega))⟩
  refine Qu (OpQ.decF (OpQ.lss rfl rfl rfl) h1) (k:=Qm (k:=Qm (k:=Qu (OpQ.gtr rfl rfl rfl) (k:=Qf (k:=Nl [(0,vint n),(2,vint 0),(3,vint 0),(4,vint 64),(10,.bool (decide (n > 2046)))] ?_)))))
  refine Cp rfl (fun h2=>?_) (fun h2=>?_)
  ·refine W.goto ?_
   refine thn_g (goq_g ?_)
   exact ⟨(Sum.inl ()),rfl,⟨rfl,trivial⟩,(es [0] rfl).trans (Ent.pure_in (by omega))⟩
  refine W.skip (thn_n (Wl [(0,vint n),(2,vint 0),(3,vint 0),(4,vint 64)] ?_))
  refine W.seq (W.label (thn_n (W.seq (Sn (Qm (k:=?_))))))
  refine Qu (OpQ.add rfl rfl rfl ⟨by omega,by omega⟩) (k:=Qm (k:=Qu (OpQ.leq rfl rfl rfl) (k:=Nl [(0,vint n),(2,vint 0),(3,vint 0),(4,vint 64),(14,.bool (decide (n+2≤64)))] ?_)))
  refine Cp rfl (fun h3=>?_) (fun h3=>?_)
  ·refine Sn (Qm (k:=Qa (k:=Qa (k:=Nl [(0,vint n),(2,vint 64),(3,vint 0),(4,vint 64)] ?_))))
   refine W.ret (thn_r (goq_r (ret2 (M:=[]) rfl rfl rfl (.inl ⟨64,(by unfold Spec.bsize; (repeat' split) <;> first | rfl | (exfalso; omega) | (congr 1; omega)),(by omega),(by omega),(by omega),(by omega),rfl,rfl⟩) (es [0] rfl))))
  refine W.skip (thn_n (Wl [(0,vint n),(2,vint 0),(3,vint 0),(4,vint 64)] ?_))
  refine Sn (Qm (k:=Qu (OpQ.mul rfl rfl rfl ⟨by omega,by omega⟩) (k:=Qa (k:=Nl [(0,vint n),(2,vint 0),(3,vint 0),(4,vint (64*2))] ?_))))
  refine W.seq (W.goto ?_)
  refine thn_g (goq_g ?_)
  exact ⟨(Sum.inr (64*2)),rfl,⟨rfl,(Eq.trans (b:=some (vint (64*2))) rfl (by first | rfl | (congr 2; omega))),trivial⟩,(es [0] rfl).trans (Ent.pure_in (by omega))⟩
 rcases x with x | x
 ·refine W.weak (l':=[(0,vint n)]) (L':=[Asn.pure (n < 0∨n > 2046),Al R]) (⟨rfl,trivial⟩) er ?_
  refine W.opens Opens.pure (i:=0) rfl (fun _ hI4=>?_)
  refine We [Al R] ?_
  refine W.seq (W.skip (thn_n (Wl [(0,vint n)] ?_)))
  refine Sn (Qa (k:=Qa (k:=Nl [(0,vint n),(2,vint 0),(3,vint 11)] ?_)))
  refine W.ret (goq_r (ret2 (M:=[]) rfl rfl rfl (.inr (⟨(by unfold Spec.bsize; (repeat' split) <;> first | rfl | (exfalso; omega) | (congr 1; omega)),rfl,rfl⟩)) (es [0] rfl)))
 obtain ⟨sz,rfl⟩:∃ y,y=x:=⟨x,rfl⟩
 refine W.weak (l':=[(0,vint n),(4,vint (sz:Int))]) (L':=[Asn.pure ((sz=64∨(sz=128∧n+2 > 64)∨(sz=256∧n+2 > 128)∨(sz=512∧n+2 > 256)∨(sz=1024∧n+2 > 512)∨(sz=2048∧n+2 > 1024))∧0≤n∧n≤2046),Al R]) (⟨rfl,rfl,trivial⟩) er ?_
 refine W.opens Opens.pure (i:=0) rfl (fun _ hI5=>?_)
 refine We [Al R] ?_
 refine W.seq (W.skip (thn_n (Wl [(0,vint n),(4,vint (sz:Int))] ?_)))
 refine W.seq (Sn (Qm (k:=?_)))
 refine Qu (OpQ.add rfl rfl rfl ⟨by omega,by omega⟩) (k:=Qm (k:=Qu (OpQ.leq rfl rfl rfl) (k:=Nl [(0,vint n),(4,vint (sz:Int)),(14,.bool (decide (n+2≤(sz:Int))))] ?_)))
 refine Cp rfl (fun h6=>?_) (fun h6=>?_)
 ·refine Sn (Qm (k:=Qa (k:=Qa (k:=Nl [(0,vint n),(2,vint (sz:Int)),(3,vint 0),(4,vint (sz:Int))] ?_))))
  refine W.ret (thn_r (goq_r (ret2 (M:=[]) rfl rfl rfl (.inl ⟨sz,(by unfold Spec.bsize; (repeat' split) <;> first | rfl | (exfalso; omega) | (congr 1; omega)),(by omega),(by omega),(by omega),(by omega),rfl,rfl⟩) (es [0] rfl))))
 refine W.skip (thn_n (Wl [(0,vint n),(4,vint (sz:Int))] ?_))
 refine Sn (Qm (k:=Qu (OpQ.mul rfl rfl rfl ⟨by omega,by omega⟩) (k:=Qa (k:=Nl [(0,vint n),(4,vint ((sz:Int)*2))] ?_))))
 refine W.seq (W.goto ?_)
 refine thn_g (goq_g ?_)
 exact ⟨(Sum.inr (sz*2)),rfl,(by show 4096 - sz*2 < 4096 - sz; omega),⟨rfl,(Eq.trans (b:=some (vint ((sz:Int)*2))) rfl (by first | rfl | (congr 2; omega))),trivial⟩,(es [0] rfl).trans (Ent.pure_in (by omega))⟩
theorem Pad_fn (b:Value) (bs:Bytes) (h0:0 < bs.length):Fn Tryz.prog 251 #[b] [KB b bs] (fun v M=>(∃ (r:Value) (x:Bytes),Spec.pad bs = .ok x∧x.length≤2048∧64≤x.length∧.tuple #[r,vint 0]=v∧M=[KB r x])∨(Spec.pad bs = .error 11∧.tuple #[.slice none 0 0,vint 11]=v∧M=[])):=by
 refine Fi 34 Tryz.func251 fun g R=>?_
 refine Ww [(0,b)] [KB b bs,Al R] ?_
 refine Sn (Qa (k:=Qa (k:=Nl [(0,b),(2,N0),(3,vint 0)] ?_)))
 refine Sn (Qm (k:=?_))
 refine Nk 0 fun hl1=>?_
 refine Qu (OpQ.lenSl (i:=0) rfl rfl rfl (len22 _)) (k:=?_)
 refine Wc [.tmp 9] [vint (bs.length:Int)] Tryz.call249 (Size_fn (bs.length:Int)) (ep [] rfl) ?_
 rintro _ _ (⟨k2,h3,h4,h5,h6,h7,rfl,rfl⟩ | ⟨h8,rfl,rfl⟩)
 ·refine Qm (k:=Qe (k:=Qe (k:=Qa (k:=Qa (k:=Nw [(0,b),(2,N0),(3,vint 0),(4,vint (k2:Int)),(5,vint 0)] [KB b bs,Al R] ?_)))))
  refine W.seq (Sn (Qm (k:=?_)))
  refine Qu (OpQ.neq rfl rfl rfl) (k:=Nl [(0,b),(2,N0),(3,vint 0),(4,vint (k2:Int)),(5,vint 0),(14,.bool (decide ((0:Int)≠0)))] ?_)
  refine Cp rfl (fun h9=>absurd h9 (by decide)) (fun h9=>?_)
  refine W.skip (thn_n (Wl [(0,b),(2,N0),(3,vint 0),(4,vint (k2:Int))] ?_))
  refine Sn (Qm (k:=?_))
  refine Ru (OpRun.makeSlice (m:=k2) (zc:=.int .u8 0) rfl (by first | rfl | (congr 2; omega)) (by first | rfl | (congr 2; omega)) (by omega) mk22 rfl) ?_
  rintro v10 _ ⟨h11a,h11b,h11c,rfl⟩; rw [bv_replicate]
  refine Qa (k:=Nw [(0,b),(2,N0),(3,vint 0),(6,v10)] [Rw 5 1 v10 (bv (List.replicate k2 0)),KB b bs,Al R] ?_)
  refine Sn (Qm (k:=Qm (k:=Qm (k:=Qu (OpQ.lenSl (i:=1) rfl rfl rfl (len22 _)) (k:=Qu (OpQ.shrK (s:=8) rfl rfl rfl (by decide)) (k:=Qu (OpQ.convU8 rfl rfl Tryz.runUnderlying5 (fun w=>⟨_,Tryz.runUnderlying3 w⟩)) (k:=Qm (k:=Qu (OpQ.lenSl (i:=1) rfl rfl rfl (len22 _)) (k:=Qu (OpQ.convU8 rfl rfl Tryz.runUnderlying5 (fun w=>⟨_,Tryz.runUnderlying3 w⟩)) (k:=?_))))))))))
  refine Nr 0 fun hr12a hr12b hr12c=>?_
  try simp only [La,Lc,Ln] at hr12a
  refine Qu (OpQ.indexRow (i:=0) (j:=0) rfl rfl rfl rfl (by omega) (by omega) (by omega) ix22) (k:=Rn (OpRun.storeRow (i:=0) (cs':=bv ((List.replicate k2 0).set 0 (byteOf ((bs.length:Int) / 2 ^ 8)))) rfl rfl rfl rfl (by first | omega | (simp only [bv_length]; omega) | (simp; done) | (simp; omega)) sz5 rfl (bv_set _ _ (byteOf ((bs.length:Int) / 2 ^ 8)))) (k:=?_))
  refine Nr 0 fun hr13a hr13b hr13c=>?_
  try simp only [La,Lc,Ln] at hr13a
  refine Qu (OpQ.indexRow (i:=0) (j:=1) rfl rfl rfl rfl (by omega) (by omega) (by omega) ix22) (k:=Rn (OpRun.storeRow (i:=0) (cs':=bv (((List.replicate k2 0).set 0 (byteOf ((bs.length:Int) / 2 ^ 8))).set 1 (byteOf (bs.length:Int)))) rfl rfl rfl rfl (by first | omega | (simp only [bv_length]; omega) | (simp; done) | (simp; omega)) sz5 rfl (bv_set _ _ (byteOf (bs.length:Int)))) (k:=Nw [(0,b),(2,N0),(3,vint 0),(6,v10)] [Rw 5 1 v10 (bv (((List.replicate k2 0).set 0 (byteOf ((bs.length:Int) / 2 ^ 8))).set 1 (byteOf (bs.length:Int)))),KB b bs,Al R] ?_))
  refine Sn (Qm (k:=?_))
  refine Nr 0 fun hr14a hr14b hr14c=>?_
  try simp only [La,Lc,Ln] at hr14a
  refine WN.fact (fun _ _ s=>row_cap (i:=0) rfl s) (fun hcap15=>?_)
  refine Qu (OpQ.sliceRowLo (i:=0) (p:=2) rfl rfl (Eq.trans (b:=some (vint 2)) rfl (by first | rfl | (congr 2; omega))) rfl (by first | omega | (simp; omega)) sla22 Tryz.runUnderlying22 sz5) (k:=Qm (k:=Rn (OpRun.copyB (i:=0) (j:=1) (bs:=((List.replicate k2 0).set 0 (byteOf ((bs.length:Int) / 2 ^ 8))).set 1 (byteOf (bs.length:Int))) (ys:=bs) (lo:=2) (hm:=by first | omega | (simp; omega)) rfl rfl rfl rfl rfl (by omega) Tryz.runUnderlying22 sz5) (k:=Nw [(2,N0),(3,vint 0),(6,v10)] [Rw 5 1 v10 (bv ((((List.replicate k2 0).set 0 (byteOf ((bs.length:Int) / 2 ^ 8))).set 1 (byteOf (bs.length:Int))).take 2++bs++(((List.replicate k2 0).set 0 (byteOf ((bs.length:Int) / 2 ^ 8))).set 1 (byteOf (bs.length:Int))).drop (2+bs.length))),KB b bs,Al R] ?_)))
  refine Sn (Qm (k:=Qa (k:=Qa (k:=Nl [(2,v10),(3,vint 0)] ?_))))
  refine Wr 0 fun hr16a hr16b hr16c=>?_
  try simp only [La,Lc,Ln] at hr16a
  have heq:=Spec.pad_bytes (k:=k2) (a:=byteOf ((bs.length:Int) / 2 ^ 8)) (b:=byteOf (bs.length:Int)) (bs:=bs) (by omega)
  refine W.ent (L':=[Rw 5 1 v10 (bv ([byteOf ((bs.length:Int) / 2 ^ 8),byteOf (bs.length:Int)]++bs++List.replicate (k2 - 2 - bs.length) 0)),KB b bs,Al R]) ((es [0,0,0] rfl).trans (Ent.of_eq (by rw [heq]))) ?_
  refine W.freezeB (i:=0) rfl ?_
  refine W.ret (ret2 (M:=[KB v10 ([byteOf ((bs.length:Int) / 2 ^ 8),byteOf (bs.length:Int)]++bs++List.replicate (k2 - 2 - bs.length) 0)]) rfl rfl rfl (.inl ⟨v10,[byteOf ((bs.length:Int) / 2 ^ 8),byteOf (bs.length:Int)]++bs++List.replicate (k2 - 2 - bs.length) 0,(by unfold Spec.pad; rw [h3]; simp [be]),(by simp; omega),(by simp; omega),rfl,rfl⟩) (es [0,1] rfl))
 refine Qm (k:=Qe (k:=Qe (k:=Qa (k:=Qa (k:=Nw [(0,b),(2,N0),(3,vint 0),(4,vint 0),(5,vint 11)] [KB b bs,Al R] ?_)))))
 refine W.seq (Sn (Qm (k:=?_)))
 refine Qu (OpQ.neq rfl rfl rfl) (k:=Nl [(0,b),(2,N0),(3,vint 0),(4,vint 0),(5,vint 11),(14,.bool (decide ((11:Int)≠0)))] ?_)
 refine Cp rfl (fun h17=>?_) (fun h17=>absurd (by decide) h17)
 refine Sn (Qm (k:=Qa (k:=Qa (k:=Nl [(0,b),(2,N0),(3,vint 11),(4,vint 0)] ?_))))
 refine W.ret (thn_r (ret2 (M:=[]) rfl rfl rfl (.inr (⟨(by unfold Spec.pad; rw [h8]),rfl,rfl⟩)) (es [1] rfl)))
theorem Strip_fn (b:Value) (bs:Bytes):Fn Tryz.prog 269 #[b] [KB b bs] (fun v M=>(∃ (r:Value) (x:Bytes),Spec.strip bs = .ok x∧x.length≤2048∧.tuple #[r,vint 0]=v∧M=[KB r x])∨(Spec.strip bs = .error 10∧.tuple #[.slice none 0 0,vint 10]=v∧M=[])):=by
 refine Fi 52 Tryz.func269 fun g R=>?_
 refine Ww [(0,b)] [KB b bs,Al R] ?_
 refine Sn (Qa (k:=Qa (k:=Nl [(0,b),(2,N0),(3,vint 0)] ?_)))
 refine W.seq (Sn (Qm (k:=?_)))
 refine Nk 0 fun hl1=>?_
 refine Qu (OpQ.lenSl (i:=0) rfl rfl rfl (len22 _)) (k:=Qu (OpQ.lss rfl rfl rfl) (k:=Nl [(0,b),(2,N0),(3,vint 0),(11,.bool (decide ((bs.length:Int) < 64)))] ?_))
 refine Cp rfl (fun h2=>?_) (fun h2=>?_)
 ·refine Sn (Qa (k:=Qa (k:=Nl [(0,b),(2,N0),(3,vint 10)] ?_)))
  refine W.ret (thn_r (ret2 (M:=[]) rfl rfl rfl (.inr (⟨(by unfold Spec.strip; rw [if_pos (by omega)]),rfl,rfl⟩)) (es [1] rfl)))
 refine W.skip (thn_n (Wl [(0,b),(2,N0),(3,vint 0)] ?_))
 refine W.seq (W.drawG mixed ?_)
 refine Gq 0 [] rfl (OpQ.move rfl rfl) ?_
 refine WG.hold (KB b bs,[]) ?_
 refine Gq 1 [0] rfl (OpQ.indexSl (i:=0) (j:=0) rfl rfl rfl rfl (by omega) (by omega) (by simp only [Enc.u8]; omega) ix22) ?_
 refine Gq 2 [0] rfl (OpQ.loadU8 (i:=0) rfl rfl rfl (by omega) ld5) ?_
 refine Gq 3 [0] rfl (OpQ.convI64 (p:=(bs.getD 0 0).toNat) rfl rfl (by first | omega | exact UInt8.toNat_lt _) Tryz.runUnderlying3 (fun w=>⟨_,Tryz.runUnderlying5 w⟩)) ?_
 refine Gq 4 [0] rfl (OpQ.shl8 rfl rfl rfl) ?_
 refine Gq 5 [0] rfl (OpQ.move rfl rfl) ?_
 refine Gq 6 [0] rfl (OpQ.indexSl (i:=0) (j:=1) rfl rfl rfl rfl (by omega) (by omega) (by simp only [Enc.u8]; omega) ix22) ?_
 refine Gq 7 [0] rfl (OpQ.loadU8 (i:=0) rfl rfl rfl (by omega) ld5) ?_
 refine Gq 8 [0] rfl (OpQ.convI64 (p:=(bs.getD 1 0).toNat) rfl rfl (by first | omega | exact UInt8.toNat_lt _) Tryz.runUnderlying3 (fun w=>⟨_,Tryz.runUnderlying5 w⟩)) ?_
 refine Gq 9 [0] rfl (OpQ.or rfl rfl rfl) ?_
 refine Gq 10 [0] rfl (OpQ.assign rfl rfl) ?_
 refine WG.done (by kernel_rfl) ?_
 refine thn_n (Wl [(0,b),(2,N0),(3,vint 0),(4,vint (bits .or .i64 (IntKind.i64.wrap (((bs.getD 0 0).toNat:Int)*256)) ((bs.getD 1 0).toNat:Int)))] ?_)
 refine W.seq (W.seq (W.region ?_))
 obtain ⟨n,hn⟩:∃ z:Int,z=step8 ((bs.getD 0 0).toNat:Int) (bs.getD 1 0):=⟨_,rfl⟩
 refine WN.weak (l':=[(0,b),(2,N0),(3,vint 0),(4,vint n)]) (L':=[KB b bs,Al R]) ⟨rfl,rfl,rfl,(by rw [hn]; rfl),trivial⟩ er ?_
 refine Qm (k:=?_)
 refine Wc [.tmp 23] [vint n] Tryz.call249 (Size_fn n) (ep [] rfl) ?_
 rintro _ _ (⟨k3,h4,h5,h6,h7,h8,rfl,rfl⟩ | ⟨h9,rfl,rfl⟩)
 ·refine Qm (k:=Qe (k:=Qe (k:=Qa (k:=Qa (k:=Nw [(0,b),(2,N0),(3,vint 0),(4,vint n),(5,vint (k3:Int)),(6,vint 0)] [KB b bs,Al R] ?_)))))
  refine Sn (Qm (k:=Qu (OpQ.decF (OpQ.neq rfl rfl rfl) (by decide)) (k:=Qm (k:=Qm (k:=Qm (k:=Qu (OpQ.lenSl (i:=0) rfl rfl rfl (len22 _)) (k:=Qu (OpQ.neq rfl rfl rfl) (k:=Qf (k:=Nl [(0,b),(2,N0),(3,vint 0),(4,vint n),(34,.bool (decide ((k3:Int)≠(bs.length:Int))))] ?_)))))))))
  refine Cp rfl (fun h10=>?_) (fun h10=>?_)
  ·refine Sn (Qa (k:=Qa (k:=Nl [(0,b),(2,N0),(3,vint 10),(4,vint n)] ?_)))
   refine W.ret (thn_r (ret2 (M:=[]) rfl rfl rfl (.inr (⟨(by unfold Spec.strip; rw [if_neg (by omega),← hn,h4]; show (if _ then _ else _)=_; rw [if_pos (by omega)]),rfl,rfl⟩)) (es [1] rfl)))
  refine W.skip (thn_n (Wl [(0,b),(2,N0),(3,vint 0),(4,vint n)] ?_))
  refine W.seq (W.seq (W.region ?_))
  obtain ⟨m,rfl⟩:∃ m:Nat,n=m:=⟨n.toNat,by omega⟩
  refine Qm (k:=Qm (k:=Qu (OpQ.add rfl rfl rfl ⟨by omega,by omega⟩) (k:=?_)))
  refine Nk 0 fun hl11=>?_
  refine WN.ent (Ent.slv (i:=0) (lo:=2+m) (hi:=bs.length) (mx:=scap b) (ys:=bs.drop (2+m)) rfl (by first | omega | (simp; omega)) (by first | omega | (simp; omega)) (by first | exact .inl rfl | exact .inr ⟨by first | omega | (simp; omega),by first | omega | (simp; omega)⟩) (by first | rfl | exact List.take_of_length_le (by simp) | simp)) ?_
  refine Ne [KB (slv b (2+m) bs.length (scap b) 1) (bs.drop (2+m)),KB b bs,Al R] (Qu (OpQ.slice (i:=1) (p:=(2+m)) (q:=bs.length) (r:=(scap b)) rfl rfl rfl (Eq.trans (b:=some (vint (2+(m:Int)))) rfl (by first | rfl | (congr 2; omega))) rfl rfl (by first | omega | (simp; omega)) (by first | omega | (simp; omega)) (by first | (intro h; cases h; done) | exact fun _=>⟨by first | omega | (simp; omega),by first | omega | (simp; omega)⟩) (by first | (intro h; cases h; done) | exact fun _=>rfl) rfl sla22 Tryz.runUnderlying22 sz5) (k:=?_))
  refine Nk 0 fun hl12=>?_
  refine Qu (OpQ.lenSl (i:=0) rfl rfl rfl (len22 _)) (k:=Qm (k:=Nl [(0,b),(2,N0),(3,vint 0),(4,vint (m:Int)),(38,slv b (2+m) bs.length (scap b) 1),(39,vint ((bs.drop (2+m)).length:Int)),(40,vint 0)] ?_))
  refine W.block (W.loop (X:=Nat) (fun k=>[(0,b),(2,N0),(3,vint 0),(4,vint (m:Int)),(38,slv b (2+m) bs.length (scap b) 1),(39,vint ((bs.drop (2+m)).length:Int)),(40,vint (k:Int))]) (fun k=>[Asn.pure (k≤(bs.drop (2+m)).length∧∀ i,i < k→(bs.drop (2+m)).getD i 0=0),KB (slv b (2+m) bs.length (scap b) 1) (bs.drop (2+m)),KB b bs,Al R]) (fun k=>(bs.drop (2+m)).length - k) 0 ⟨rfl,rfl,rfl,rfl,rfl,rfl,rfl,trivial⟩ ((es [0,0,0] rfl).trans (Ent.pure_in (by exact ⟨Nat.zero_le _,fun i hi=>absurd hi (Nat.not_lt_zero _)⟩))) (fun x=>?_))
  obtain ⟨k,rfl⟩:∃ y,y=x:=⟨x,rfl⟩
  show W _ _ _ _ _ [(0,b),(2,N0),(3,vint 0),(4,vint (m:Int)),(38,slv b (2+m) bs.length (scap b) 1),(39,vint ((bs.drop (2+m)).length:Int)),(40,vint (k:Int))] [Asn.pure (k≤(bs.drop (2+m)).length∧∀ i,i < k→(bs.drop (2+m)).getD i 0=0),KB (slv b (2+m) bs.length (scap b) 1) (bs.drop (2+m)),KB b bs,Al R]
  refine W.opens Opens.pure (i:=0) rfl (fun _ hI13=>?_)
  replace hI13:=hI13
  show W _ _ _ _ _ [(0,b),(2,N0),(3,vint 0),(4,vint (m:Int)),(38,slv b (2+m) bs.length (scap b) 1),(39,vint ((bs.drop (2+m)).length:Int)),(40,vint (k:Int))] [KB (slv b (2+m) bs.length (scap b) 1) (bs.drop (2+m)),KB b bs,Al R]
  refine Sn (Qu (OpQ.lss rfl rfl rfl) (k:=Nl [(0,b),(2,N0),(3,vint 0),(4,vint (m:Int)),(38,slv b (2+m) bs.length (scap b) 1),(39,vint ((bs.drop (2+m)).length:Int)),(40,vint (k:Int)),(41,.bool (decide ((k:Int) < ((bs.drop (2+m)).length:Int))))] ?_))
  refine W.seq (Cp rfl (fun h14=>?_) (fun h14=>?_))
  ·refine W.skip (thn_n (Wl [(0,b),(2,N0),(3,vint 0),(4,vint (m:Int)),(38,slv b (2+m) bs.length (scap b) 1),(39,vint ((bs.drop (2+m)).length:Int)),(40,vint (k:Int))] ?_))
   refine W.seq (W.block (Sn (Qu (OpQ.indexSl (i:=0) (j:=k) rfl rfl rfl rfl (by omega) (by omega) (by simp only [Enc.u8]; omega) ix22) (k:=?_))))
   refine Qu (OpQ.loadU8 (i:=0) rfl rfl rfl (by omega) ld5) (k:=Qa (k:=Nl [(0,b),(2,N0),(3,vint 0),(4,vint (m:Int)),(8,.int .u8 (((bs.drop (2+m)).getD k 0).toNat)),(38,slv b (2+m) bs.length (scap b) 1),(39,vint ((bs.drop (2+m)).length:Int)),(40,vint (k:Int))] ?_))
   refine Sn (Qm (k:=Qu (OpQ.neq rfl rfl rfl) (k:=Nl [(0,b),(2,N0),(3,vint 0),(4,vint (m:Int)),(38,slv b (2+m) bs.length (scap b) 1),(39,vint ((bs.drop (2+m)).length:Int)),(40,vint (k:Int)),(45,.bool (decide ((((bs.drop (2+m)).getD k 0).toNat:Int)≠0)))] ?_)))
   refine Cp rfl (fun h15=>?_) (fun h15=>?_)
   ·refine Sn (Qa (k:=Qa (k:=Nl [(0,b),(2,N0),(3,vint 10),(4,vint (m:Int)),(38,slv b (2+m) bs.length (scap b) 1),(39,vint ((bs.drop (2+m)).length:Int)),(40,vint (k:Int))] ?_)))
    refine W.ret (inblk_r (thn_r (thn_r (inblk_r (thn_r (ret2 (M:=[]) rfl rfl rfl (.inr (⟨(by unfold Spec.strip; rw [if_neg (by omega),← hn,h4]; show (if _ then _ else if _ then _ else _)=_; rw [if_neg (by omega),Int.toNat_natCast,if_neg (fun h=>h15 (by rw [h k (by omega)]; rfl))]),rfl,rfl⟩)) (es [2] rfl)))))))
   refine W.skip (inblk_n (thn_n (Wl [(0,b),(2,N0),(3,vint 0),(4,vint (m:Int)),(38,slv b (2+m) bs.length (scap b) 1),(39,vint ((bs.drop (2+m)).length:Int)),(40,vint (k:Int))] ?_)))
   refine W.region (Qu (OpQ.add rfl rfl rfl ⟨by omega,by omega⟩) (k:=?_))
   refine Qm (k:=?_)
   refine WN.nil (thn_n ⟨(k+1),by (show (bs.drop (2+m)).length - (k+1) < (bs.drop (2+m)).length - k); omega,⟨rfl,rfl,rfl,rfl,rfl,rfl,(Eq.trans (b:=some (vint ((k:Int)+1))) rfl (by first | rfl | (congr 2; omega))),trivial⟩,?_⟩)
   exact (es [0,0,0] rfl).trans (Ent.pure_in (by exact ⟨by omega,Spec.all_succ hI13.2 (u8_inj h15)⟩))
  obtain rfl:k=(bs.drop (2+m)).length:=by omega
  refine W.exit (thn_x (thn_x (inblk_x (thn_n (Wl [(0,b),(2,N0),(3,vint 0),(4,vint (m:Int))] ?_)))))
  refine Sn (Qm (k:=Qm (k:=Qu (OpQ.add rfl rfl rfl ⟨by omega,by omega⟩) (k:=?_))))
  refine Nk 1 fun hl16=>?_
  refine WN.ent (Ent.slv (i:=1) (lo:=2) (hi:=2+m) (mx:=scap b) (ys:=(bs.drop 2).take ((2+m) - 2)) rfl (by first | omega | (simp; omega)) (by first | omega | (simp; omega)) (by first | exact .inl rfl | exact .inr ⟨by first | omega | (simp; omega),by first | omega | (simp; omega)⟩) (by first | rfl | exact List.take_of_length_le (by simp) | simp)) ?_
  refine Ne [KB (slv b 2 (2+m) (scap b) 1) ((bs.drop 2).take ((2+m) - 2)),KB (slv b (2+m) bs.length (scap b) 1) (bs.drop (2+m)),KB b bs,Al R] (Qu (OpQ.slice (i:=2) (p:=2) (q:=(2+m)) (r:=(scap b)) rfl rfl rfl rfl (Eq.trans (b:=some (vint (2+(m:Int)))) rfl (by first | rfl | (congr 2; omega))) rfl (by first | omega | (simp; omega)) (by first | omega | (simp; omega)) (by first | (intro h; cases h; done) | exact fun _=>⟨by first | omega | (simp; omega),by first | omega | (simp; omega)⟩) (by first | (intro h; cases h; done) | exact fun _=>rfl) rfl sla22 Tryz.runUnderlying22 sz5) (k:=?_))
  refine WN.ent (Ent.rowNil (E:=5) (sz:=1)) ?_
  refine Ne [Rw 5 1 (N0) (bv []),KB (slv b 2 (2+m) (scap b) 1) ((bs.drop 2).take ((2+m) - 2)),KB (slv b (2+m) bs.length (scap b) 1) (bs.drop (2+m)),KB b bs,Al R] ?_
  refine Ru (OpRun.appendB (i:=0) (j:=1) rfl rfl rfl rfl rfl Tryz.underlying22 (inf:=Tryz.t5) (by kernel_rfl) rfl rfl rfl rfl (by first | omega | (simp; omega))) ?_
  rintro v17 _ ⟨h18a,h18b,h18c,rfl⟩
  refine Qa (k:=Qa (k:=Nw [(2,v17),(3,vint 0)] [Rw 5 1 v17 (bv (([])++((bs.drop 2).take ((2+m) - 2)))),KB (slv b 2 (2+m) (scap b) 1) ((bs.drop 2).take ((2+m) - 2)),KB (slv b (2+m) bs.length (scap b) 1) (bs.drop (2+m)),KB b bs,Al R] ?_))
  refine Wr 0 fun hr19a hr19b hr19c=>?_
  try simp only [La,Lc,Ln] at hr19a
  refine W.ent (L':=[Rw 5 1 v17 (bv ((bs.drop 2).take m)),KB (slv b 2 (2+m) (scap b) 1) ((bs.drop 2).take ((2+m) - 2)),KB (slv b (2+m) bs.length (scap b) 1) (bs.drop (2+m)),KB b bs,Al R]) ((es [0,0,0,0,0] rfl).trans (Ent.of_eq (by rw [List.nil_append,show 2+m - 2=m from by omega]))) ?_
  refine W.freezeB (i:=0) rfl ?_
  refine W.ret (ret2 (M:=[KB v17 ((bs.drop 2).take m)]) rfl rfl rfl (.inl ⟨v17,(bs.drop 2).take m,(by unfold Spec.strip; rw [if_neg (by omega),← hn,h4]; show (if _ then _ else if _ then _ else _)=_; rw [if_neg (by omega),Int.toNat_natCast,if_pos hI13.2]),(by first | assumption | rfl | omega | (simp; done) | (simp; omega) | (simp [*]; done) | (simp [*]; omega)),rfl,rfl⟩) (es [0,3] rfl))
 refine Qm (k:=Qe (k:=Qe (k:=Qa (k:=Qa (k:=Nw [(0,b),(2,N0),(3,vint 0),(4,vint n),(5,vint 0),(6,vint 11)] [KB b bs,Al R] ?_)))))
 refine Sn (Qm (k:=Qu (OpQ.decT (OpQ.neq rfl rfl rfl) (by decide)) (k:=Qm (k:=Qs (k:=Qs (k:=Qs (k:=Qs (k:=Qt (k:=Nl [(0,b),(2,N0),(3,vint 0),(4,vint n),(34,.bool true)] ?_)))))))))
 refine W.condT rfl ?_
 refine Sn (Qa (k:=Qa (k:=Nl [(0,b),(2,N0),(3,vint 10),(4,vint n)] ?_)))
 refine W.ret (thn_r (ret2 (M:=[]) rfl rfl rfl (.inr (⟨(by unfold Spec.strip; rw [if_neg (by omega),← hn,h9]),rfl,rfl⟩)) (es [1] rfl)))
end Go.Lk
open Go.Proofs
namespace Go.Lk
theorem Enc.sl_mk {α:Type} {e:Enc α} {T:TypeId} {K:PH} {v:Value} {x:List α} (h:(Sl e T v x).φ K):(Enc.sl e T).rel K [v] x:=⟨v,rfl,h⟩
theorem sl_nil {α:Type} {e:Enc α} {T:TypeId} {v:Value} {xs:List α} {g:G} {w:World} {L R:List Asn} {i:Nat} (hL:take1 i L=some (Asn.kn (Sl e T v xs),R)) (s:Sat g w L):some? v=false→xs=[]:=fun h=>by
  obtain ⟨f,h1,_⟩:=know hL s
  rcases h1 with ⟨h2,_⟩ | ⟨b,off,cap,cs,fr,h2,_⟩
  · exact List.eq_nil_of_length_eq_zero h2
  · subst h2; simp [some?] at h
namespace Spec
theorem put1 {n:Int} (h:0≤n∧n≤1099511627776):put [.n n] = .ok (be 6 n):=by simp [put,part,number,h]
theorem put2 {a b:Int} (h:0≤a∧a≤1099511627776) (h':0≤b∧b≤1099511627776):put [.n a,.n b] = .ok (be 6 a++be 6 b):=by simp [put,part,number,h,h']
theorem putnb {a:Int} {bs:Bytes} (h:0≤a∧a≤1099511627776) (h':bs.length≤4096):put [.n a,.b bs] = .ok (be 6 a++(be 2 bs.length++bs)):=by simp [put,part,number,text,h,h']
theorem putbb {a b:Bytes} (h:a.length≤4096) (h':b.length≤4096):put [.b a,.b b] = .ok ((be 2 a.length++a)++(be 2 b.length++b)):=by simp [put,part,text,h,h']
theorem put4 {a b c d:Int} (h1:0≤a∧a≤1099511627776) (h2:0≤b∧b≤1099511627776) (h3:0≤c∧c≤1099511627776) (h4:0≤d∧d≤1099511627776):put [.n a,.n b,.n c,.n d] = .ok (be 6 a++(be 6 b++(be 6 c++be 6 d))):=by simp [put,part,number,h1,h2,h3,h4]
theorem put5 {a b c d:Int} {x:Bytes} (h1:0≤a∧a≤1099511627776) (h2:0≤b∧b≤1099511627776) (h3:0≤c∧c≤1099511627776) (h4:0≤d∧d≤1099511627776) (h5:x.length≤4096) :
    put [.n a,.n b,.n c,.n d,.b x] = .ok (be 6 a++(be 6 b++(be 6 c++(be 6 d++(be 2 x.length++x))))):=by simp [put,part,number,text,h1,h2,h3,h4,h5]
def derived (A:List Thing) (secret use:Bytes) (n:Int):Bytes × List Thing:=code A secret (use++be 6 n)
def sMember:Bytes:=[109,101,109,98,101,114]
def sWriter:Bytes:=[119,114,105,116,101,114]
def sEpoch:Bytes:=[101,112,111,99,104]
def sWrap:Bytes:=[119,114,97,112]
def nonce (a b:Int):Except Int Bytes:=if 0≤a∧a≤4294967295∧0≤b∧b≤1099511627776 then .ok (be 6 a++be 6 b) else .error 12
end Spec
end Go.Lk
open Go.Proofs
set_option maxRecDepth 8000
namespace Go.Lk
open Asn renaming cells→Cl,row→Rw,kn→Kk,all→Al
theorem nileql22:∀ (a:Option Addr) (n c:Nat) (w:World),(binOp .eql 22 (.slice a n c) (.slice none 0 0)).run Tryz.prog w = .ok (.bool a.isNone) w:=fun a _ _ _=>by cases a <;> kernel_rfl
theorem CloneB_fn (s:Value) (xs:Bytes) (hx:xs.length≤140737488355328):Fn Tryz.prog 195 #[s] [KB s xs] (fun v M=>∃ (r:Value),some? r=some? s∧r=v∧M=[KB r xs]):=by
 refine Fi 8 Tryz.func195 fun g R=>?_
 refine Ww [(0,s)] [KB s xs,Al R] ?_
 refine Sn (Qa (k:=Nl [(0,s),(2,N0)] ?_))
 refine W.seq (Sn (Qm (k:=?_)))
 refine WN.fact (fun _ _ s=>sl_isS (i:=0) rfl s) (fun hS1=>?_)
 refine Qu (OpQ.nilEq rfl rfl rfl hS1 nileql22) (k:=Nl [(0,s),(2,N0),(4,.bool (!some? s))] ?_)
 refine W.cond rfl (fun h2=>?_) (fun h2=>?_)
 ·refine Sn (Qa (k:=Nl [(0,s),(2,N0)] ?_))
  refine W.fact (fun _ _ s=>sl_nil (i:=0) rfl s) (fun hn=>?_)
  have hxs:xs=[]:=hn (by simp_all)
  refine W.ent (Ent.slNil (e:=Enc.u8) (T:=5)) ?_
  refine W.ent (L':=[KB (N0) ([]),KB s xs,Al R]) (es [0,0,0] rfl) ?_
  refine W.ret (thn_r (ret1 (M:=[KB (N0) xs]) rfl rfl (⟨N0,(by simp_all [some?]),rfl,rfl⟩) ((es [0,1] rfl).trans (Ent.of_eq (by rw [hxs]; rfl)))))
 refine W.skip (thn_n (Wl [(0,s),(2,N0)] ?_))
 refine Sn (Ru (OpRun.buildSlice (qs:=[]) (cs:=bv []) (E:=5) (sz:=1) rfl trivial (fun _=>by kernel_rfl) (bv_one _) rfl (by decide)) ?_)
 rintro v3 _ ⟨h4a,h4b,h4c,rfl⟩
 refine Qm (k:=?_)
 refine Ru (OpRun.appendB (i:=0) (j:=1) rfl rfl rfl rfl rfl Tryz.underlying22 (inf:=Tryz.t5) (by kernel_rfl) rfl rfl rfl rfl (by first | omega | (simp; omega))) ?_
 rintro v5 _ ⟨h6a,h6b,h6c,rfl⟩
 refine Qa (k:=Nw [(2,v5)] [Rw 5 1 v5 (bv (([])++xs)),KB s xs,Al R] ?_)
 refine Wr 0 fun hr7a hr7b hr7c=>?_
 try simp only [La,Lc,Ln] at hr7a
 refine W.ent (L':=[Rw 5 1 v5 (bv xs),KB s xs,Al R]) ((es [0,0,0] rfl).trans (Ent.of_eq (by rw [List.nil_append]))) ?_
 refine W.freezeB (i:=0) rfl ?_
 refine W.ret (ret1 (M:=[KB v5 xs]) rfl rfl (⟨v5,(by have h1:some? s=true:=(by simp_all); rw [h1]; cases hh:some? v5 with | false=>exact absurd (h6a hh).1 (by rw [h4a]; decide) | true=>rfl),rfl,rfl⟩) (es [0,1] rfl))
theorem derived_fn (sp:Nat) (A:List Thing) (secret:Value) (ks:Bytes) (use:Bytes) (n:Int) (hn:0≤n∧n≤1099511627776) (hu:use.length≤1000) (hA:A.length < 1099511627775):Fn Tryz.prog 202 #[vptr sp 0,secret,.string (⟨use.toArray⟩),vint n] [SuiteR sp A,KB secret ks] (fun v M=>∃ (r:Value) (bs:Bytes) (A':List Thing),Spec.derived A ks use n=(bs,A')∧A'.length≤A.length+1∧bs.length=32∧r=v∧M=[KB r bs,SuiteR sp A']):=by
 refine Fi 25 Tryz.func202 fun g R=>?_
 refine Ww [(0,vptr sp 0),(1,secret),(2,.string (⟨use.toArray⟩)),(3,vint n)] [SuiteR sp A,KB secret ks,Al R] ?_
 refine Sn (Qa (k:=Nl [(0,vptr sp 0),(1,secret),(2,.string (⟨use.toArray⟩)),(3,vint n),(8,N0)] ?_))
 refine Sn (Qm (k:=Qu (OpQ.mkiface (v:=vint n) (u:=Value.iface 3 (vint n)) rfl rfl (fun _=>by kernel_rfl)) (k:=?_)))
 refine Ru (OpRun.buildSlice (qs:=[(0,Value.iface 3 (vint n))]) (cs:=[Value.iface 3 (vint n)]) (E:=20) (sz:=1) rfl ⟨rfl,rfl,trivial⟩ (fun _=>by kernel_rfl) (one_cons rfl one_nil) rfl (by decide)) ?_
 rintro v1 _ ⟨h2a,h2b,h2c,rfl⟩
 refine WN.ent (Ent.know (m:=CellsRel Enc.part ([Value.iface 3 (vint n)]) ([Part.n n])) (fun K h s=>(CellsRel.cons (cs:=[Value.iface 3 (vint n)]) (ds:=[]) rfl Enc.part_n CellsRel.nil))) ?_
 refine Ne [Kx Enc.part ([Value.iface 3 (vint n)]) ([Part.n n]),Rw 20 1 v1 ([Value.iface 3 (vint n)]),SuiteR sp A,KB secret ks,Al R] ?_
 refine WN.freezeRel (e:=Enc.part) (i:=1) (j:=0) (Lb rfl) rfl rfl ?_
 refine Ne [Kk (Sl Enc.part 20 v1 ([Part.n n])),Kx Enc.part ([Value.iface 3 (vint n)]) ([Part.n n]),SuiteR sp A,KB secret ks,Al R] ?_
 refine Wc [.tmp 14] [v1] Tryz.call148 (Put_fn v1 ([Part.n n]) (by first | omega | (simp; done) | (simp; omega) | (simp at *; omega))) ((ed 0 rfl).trans (ep [0] rfl)) ?_
 rintro _ _ (⟨r3,bs4,h5,h6,rfl,rfl⟩ | ⟨e7,h8,h9,rfl,rfl⟩)
 ·obtain rfl:bs4=be 6 n:=by rw [Spec.put1 hn] at h5; cases h5; rfl
  refine Qm (k:=Qe (k:=Qe (k:=Qa (k:=Qa (k:=Nw [(0,vptr sp 0),(1,secret),(2,.string (⟨use.toArray⟩)),(8,N0),(9,r3)] [KB r3 (be 6 n),Kk (Sl Enc.part 20 v1 ([Part.n n])),Kx Enc.part ([Value.iface 3 (vint n)]) ([Part.n n]),SuiteR sp A,KB secret ks,Al R] ?_)))))
  refine Sn (Qm (k:=Qm (k:=Qm (k:=?_))))
  refine Ru (OpRun.s2b (bs:=use) rfl rfl rfl (by first | omega | (simp; done) | (simp; omega)) s2b9_22) ?_
  rintro v10 _ ⟨h11a,h11b,h11c,rfl⟩
  refine Qm (k:=?_)
  refine WN.fact (fun _ _ s=>row_isS (i:=0) rfl s) (fun hS14=>?_)
  refine WN.fact (fun _ _ s=>sl_isS (i:=1) rfl s) (fun hS15=>?_)
  refine Nf 1 fun ho16=>?_
  refine Ru (OpRun.buildSlice (qs:=[(0,v10),(1,r3)]) (cs:=[v10,r3]) (E:=22) (sz:=1) rfl ⟨rfl,rfl,rfl,rfl,trivial⟩ (fun _=>by obtain ⟨_,_,_,e1⟩:=hS14; rw [e1]; obtain ⟨_,_,_,e2⟩:=hS15; rw [e2]; kernel_rfl) (one_cons h11b (one_cons ho16 one_nil)) rfl (by decide)) ?_
  rintro v12 _ ⟨h13a,h13b,h13c,rfl⟩
  refine WN.freezeB (bs:=use) (i:=1) rfl ?_
  refine WN.ent (Ent.know (m:=CellsRel (Enc.sl Enc.u8 5) ([v10,r3]) ([use,(be 6 n)])) (fun K h s=>(CellsRel.cons (cs:=[v10]) (ds:=[r3]) rfl (Enc.sl_mk (kat 0 s rfl)) (CellsRel.cons (cs:=[r3]) (ds:=[]) rfl (Enc.sl_mk (kat 2 s rfl)) CellsRel.nil)))) ?_
  refine Ne [Kx (Enc.sl Enc.u8 5) ([v10,r3]) ([use,(be 6 n)]),KB v10 use,Rw 22 1 v12 ([v10,r3]),KB r3 (be 6 n),Kk (Sl Enc.part 20 v1 ([Part.n n])),Kx Enc.part ([Value.iface 3 (vint n)]) ([Part.n n]),SuiteR sp A,KB secret ks,Al R] ?_
  refine WN.freezeRel (e:=Enc.sl Enc.u8 5) (i:=2) (j:=0) (Lb rfl) rfl rfl ?_
  refine Ne [KS v12 ([use,(be 6 n)]),Kx (Enc.sl Enc.u8 5) ([v10,r3]) ([use,(be 6 n)]),KB v10 use,KB r3 (be 6 n),Kk (Sl Enc.part 20 v1 ([Part.n n])),Kx Enc.part ([Value.iface 3 (vint n)]) ([Part.n n]),SuiteR sp A,KB secret ks,Al R] ?_
  refine Wc [.tmp 18,.tmp 19,.tmp 23] [vptr sp 0,secret,v12] Tryz.call280 (Code_fn sp A secret ks v12 ([use,(be 6 n)]) (by first | omega | (simp; done) | (simp; omega) | (simp at *; omega)) (by first | omega | (simp; done) | (simp; omega) | (simp at *; omega))) ((ed 7 rfl).trans ((ed 1 rfl).trans (ep [8,1,0] rfl))) ?_
  rintro _ _ ⟨r17,bs18,A19,h20,h21,h22,rfl,rfl⟩
  refine Qa (k:=Nw [(8,r17)] [KB r17 bs18,SuiteR sp A19,KS v12 ([use,(be 6 n)]),Kx (Enc.sl Enc.u8 5) ([v10,r3]) ([use,(be 6 n)]),KB v10 use,KB r3 (be 6 n),Kk (Sl Enc.part 20 v1 ([Part.n n])),Kx Enc.part ([Value.iface 3 (vint n)]) ([Part.n n]),KB secret ks,Al R] ?_)
  refine W.ret (ret1 (M:=[KB r17 bs18,SuiteR sp A19]) rfl rfl (⟨r17,bs18,A19,(by unfold Spec.derived; have:=h20; simpa using this),(by omega),(by omega),rfl,rfl⟩) (es [0,0,7] rfl))
 rw [Spec.put1 hn] at h8; cases h8
theorem rright_fn (who:Int):Fn Tryz.prog 290 #[vint who] [] (fun v M=>.bool (decide (1≤who∧who≤16))=v∧M=[]):=by
 refine Fi 9 Tryz.func290 fun g R=>?_
 refine Ww [(0,vint who)] [Al R] ?_
 refine Sn (Qa (k:=Nl [(0,vint who),(2,.bool false)] ?_))
 refine Sn (Qm (k:=?_))
 by_cases h1:who ≥ 1
 ·refine Qu (OpQ.decT (OpQ.geq rfl rfl rfl) h1) (k:=Qm (k:=Qm (k:=Qu (OpQ.leq rfl rfl rfl) (k:=Qt (k:=Qa (k:=Nl [(2,.bool (decide (who≤16)))] ?_))))))
  refine W.ret (ret1 (M:=[]) rfl rfl (⟨(by first | rfl | exact bool_dec (by omega) | exact bool_F (by omega) | exact bool_T (by omega) | exact (bool_dec (by omega)).symm | exact (bool_F (by omega)).symm | exact (bool_T (by omega)).symm | simp [*]),rfl⟩) (es [0] rfl))
 refine Qu (OpQ.decF (OpQ.geq rfl rfl rfl) h1) (k:=Qm (k:=Qs (k:=Qs (k:=Qf (k:=Qa (k:=Nl [(2,.bool false)] ?_))))))
 refine W.ret (ret1 (M:=[]) rfl rfl (⟨(by first | rfl | exact bool_dec (by omega) | exact bool_F (by omega) | exact bool_T (by omega) | exact (bool_dec (by omega)).symm | exact (bool_F (by omega)).symm | exact (bool_T (by omega)).symm | simp [*]),rfl⟩) (es [0] rfl))
theorem Nonce_fn (a:Int) (b:Int):Fn Tryz.prog 212 #[vint a,vint b] [] (fun v M=>(∃ (r:Value) (bs:Bytes),Spec.nonce a b = .ok bs∧bs.length=12∧.tuple #[r,vint 0]=v∧M=[KB r bs])∨(Spec.nonce a b = .error 12∧.tuple #[.slice none 0 0,vint 12]=v∧M=[])):=by
 refine Fi 28 Tryz.func212 fun g R=>?_
 refine Ww [(0,vint a),(1,vint b)] [Al R] ?_
 refine Sn (Qa (k:=Qa (k:=Nl [(0,vint a),(1,vint b),(4,N0),(5,vint 0)] ?_)))
 refine W.seq (Sn (Qm (k:=?_)))
 by_cases h1:a < 0
 ·refine Qu (OpQ.decT (OpQ.lss rfl rfl rfl) h1) (k:=Qm (k:=Qs (k:=Qs (k:=Qt (k:=Qm (k:=Qs (k:=Qs (k:=Qt (k:=Qm (k:=Qs (k:=Qs (k:=Qt (k:=Nl [(0,vint a),(1,vint b),(4,N0),(5,vint 0),(19,.bool true)] ?_)))))))))))))
  refine W.condT rfl ?_
  refine Sn (Qa (k:=Qa (k:=Nl [(0,vint a),(1,vint b),(4,N0),(5,vint 12)] ?_)))
  refine W.ret (thn_r (ret2 (M:=[]) rfl rfl rfl (.inr (⟨(by unfold Spec.nonce; rw [if_neg (by omega)]),rfl,rfl⟩)) (es [0] rfl)))
 refine Qu (OpQ.decF (OpQ.lss rfl rfl rfl) h1) (k:=Qm (k:=Qm (k:=Qu (OpQ.gtr rfl rfl rfl) (k:=?_))))
 by_cases h2:a > 4294967295
 ·refine Qu (OpQ.decT (OpQ.pickF rfl rfl rfl) h2) (k:=Qm (k:=Qs (k:=Qs (k:=Qt (k:=Qm (k:=Qs (k:=Qs (k:=Qt (k:=Nl [(0,vint a),(1,vint b),(4,N0),(5,vint 0),(19,.bool true)] ?_)))))))))
  refine W.condT rfl ?_
  refine Sn (Qa (k:=Qa (k:=Nl [(0,vint a),(1,vint b),(4,N0),(5,vint 12)] ?_)))
  refine W.ret (thn_r (ret2 (M:=[]) rfl rfl rfl (.inr (⟨(by unfold Spec.nonce; rw [if_neg (by omega)]),rfl,rfl⟩)) (es [0] rfl)))
 refine Qu (OpQ.decF (OpQ.pickF rfl rfl rfl) h2) (k:=Qm (k:=Qm (k:=Qu (OpQ.lss rfl rfl rfl) (k:=?_))))
 by_cases h3:b < 0
 ·refine Qu (OpQ.decT (OpQ.pickF rfl rfl rfl) h3) (k:=Qm (k:=Qs (k:=Qs (k:=Qt (k:=Nl [(0,vint a),(1,vint b),(4,N0),(5,vint 0),(19,.bool true)] ?_)))))
  refine W.condT rfl ?_
  refine Sn (Qa (k:=Qa (k:=Nl [(0,vint a),(1,vint b),(4,N0),(5,vint 12)] ?_)))
  refine W.ret (thn_r (ret2 (M:=[]) rfl rfl rfl (.inr (⟨(by unfold Spec.nonce; rw [if_neg (by omega)]),rfl,rfl⟩)) (es [0] rfl)))
 refine Qu (OpQ.decF (OpQ.pickF rfl rfl rfl) h3) (k:=Qm (k:=Qm (k:=Qu (OpQ.gtr rfl rfl rfl) (k:=Qf (k:=Nl [(0,vint a),(1,vint b),(4,N0),(5,vint 0),(19,.bool (decide (b > 1099511627776)))] ?_)))))
 refine Cp rfl (fun h4=>?_) (fun h4=>?_)
 ·refine Sn (Qa (k:=Qa (k:=Nl [(0,vint a),(1,vint b),(4,N0),(5,vint 12)] ?_)))
  refine W.ret (thn_r (ret2 (M:=[]) rfl rfl rfl (.inr (⟨(by unfold Spec.nonce; rw [if_neg (by omega)]),rfl,rfl⟩)) (es [0] rfl)))
 refine W.skip (thn_n (Wl [(0,vint a),(1,vint b),(4,N0),(5,vint 0)] ?_))
 refine Sn (Qm (k:=Qu (OpQ.mkiface (v:=vint a) (u:=Value.iface 3 (vint a)) rfl rfl (fun _=>by kernel_rfl)) (k:=Qm (k:=Qu (OpQ.mkiface (v:=vint b) (u:=Value.iface 3 (vint b)) rfl rfl (fun _=>by kernel_rfl)) (k:=?_)))))
 refine Ru (OpRun.buildSlice (qs:=[(0,Value.iface 3 (vint a)),(1,Value.iface 3 (vint b))]) (cs:=[Value.iface 3 (vint a),Value.iface 3 (vint b)]) (E:=20) (sz:=1) rfl ⟨rfl,rfl,rfl,rfl,trivial⟩ (fun _=>by kernel_rfl) (one_cons rfl (one_cons rfl one_nil)) rfl (by decide)) ?_
 rintro v5 _ ⟨h6a,h6b,h6c,rfl⟩
 refine WN.ent (Ent.know (m:=CellsRel Enc.part ([Value.iface 3 (vint a),Value.iface 3 (vint b)]) ([Part.n a,Part.n b])) (fun K h s=>(CellsRel.cons (cs:=[Value.iface 3 (vint a)]) (ds:=[Value.iface 3 (vint b)]) rfl Enc.part_n (CellsRel.cons (cs:=[Value.iface 3 (vint b)]) (ds:=[]) rfl Enc.part_n CellsRel.nil)))) ?_
 refine Ne [Kx Enc.part ([Value.iface 3 (vint a),Value.iface 3 (vint b)]) ([Part.n a,Part.n b]),Rw 20 1 v5 ([Value.iface 3 (vint a),Value.iface 3 (vint b)]),Al R] ?_
 refine WN.freezeRel (e:=Enc.part) (i:=1) (j:=0) (Lb rfl) rfl rfl ?_
 refine Ne [Kk (Sl Enc.part 20 v5 ([Part.n a,Part.n b])),Kx Enc.part ([Value.iface 3 (vint a),Value.iface 3 (vint b)]) ([Part.n a,Part.n b]),Al R] ?_
 refine Wc [.tmp 24] [v5] Tryz.call148 (Put_fn v5 ([Part.n a,Part.n b]) (by first | omega | (simp; done) | (simp; omega) | (simp at *; omega))) ((ed 0 rfl).trans (ep [0] rfl)) ?_
 rintro _ _ (⟨r7,bs8,h9,h10,rfl,rfl⟩ | ⟨e11,h12,h13,rfl,rfl⟩)
 ·obtain rfl:bs8=be 6 a++be 6 b:=by rw [Spec.put2 (by omega) (by omega)] at h9; cases h9; rfl
  refine Qe (k:=Qe (k:=Qa (k:=Qa (k:=Nw [(4,r7),(5,vint 0)] [KB r7 (be 6 a++be 6 b),Kk (Sl Enc.part 20 v5 ([Part.n a,Part.n b])),Kx Enc.part ([Value.iface 3 (vint a),Value.iface 3 (vint b)]) ([Part.n a,Part.n b]),Al R] ?_))))
  refine W.ret (ret2 (M:=[KB r7 (be 6 a++be 6 b)]) rfl rfl rfl (.inl ⟨r7,(be 6 a++be 6 b),(by unfold Spec.nonce; rw [if_pos (by omega)]),(by simp),rfl,rfl⟩) (es [0,2] rfl))
 rw [Spec.put2 (by omega) (by omega)] at h12; cases h12
theorem Writer_fn (sp:Nat) (A:List Thing) (secret:Value) (ks:Bytes) (who:Int) (hA:A.length < 1099511627775):Fn Tryz.prog 307 #[vptr sp 0,secret,vint who] [SuiteR sp A,KB secret ks] (fun v M=>(∃ (r:Value) (bs:Bytes) (A':List Thing),(1≤who∧who≤16)∧Spec.derived A ks Spec.sWriter who=(bs,A')∧A'.length≤A.length+1∧bs.length=32∧.tuple #[r,vint 0]=v∧M=[KB r bs,SuiteR sp A'])∨((¬ (1≤who∧who≤16))∧.tuple #[.slice none 0 0,vint 12]=v∧M=[SuiteR sp A])):=by
 refine Fi 15 Tryz.func307 fun g R=>?_
 refine Ww [(0,vptr sp 0),(1,secret),(2,vint who)] [SuiteR sp A,KB secret ks,Al R] ?_
 refine Sn (Qa (k:=Qa (k:=Nl [(0,vptr sp 0),(1,secret),(2,vint who),(6,N0),(7,vint 0)] ?_)))
 refine W.seq (Sn (Qm (k:=?_)))
 refine Wc [.tmp 8] [vint who] Tryz.call290 (rright_fn who) (ep [] rfl) ?_
 rintro _ _ ⟨rfl,rfl⟩
 refine Qu (OpQ.notP rfl rfl) (k:=Nw [(0,vptr sp 0),(1,secret),(2,vint who),(6,N0),(7,vint 0),(10,.bool (decide (¬ (1≤who∧who≤16))))] [SuiteR sp A,KB secret ks,Al R] ?_)
 refine Cp rfl (fun h1=>?_) (fun h1=>?_)
 ·refine Sn (Qa (k:=Qa (k:=Nl [(0,vptr sp 0),(1,secret),(2,vint who),(6,N0),(7,vint 12)] ?_)))
  refine W.ret (thn_r (ret2 (M:=[SuiteR sp A]) rfl rfl rfl (.inr (⟨(by omega),rfl,rfl⟩)) (es [0,1] rfl)))
 refine W.skip (thn_n (Wl [(0,vptr sp 0),(1,secret),(2,vint who),(6,N0),(7,vint 0)] ?_))
 refine Sn (Qm (k:=Qm (k:=Qm (k:=?_))))
 refine Wc [.tmp 11,.tmp 12,.const (.string ⟨#[119,114,105,116,101,114]⟩),.tmp 13] [vptr sp 0,secret,.string (⟨([119,114,105,116,101,114]:Bytes).toArray⟩),vint who] Tryz.call202 (derived_fn sp A secret ks ([119,114,105,116,101,114]:Bytes) who (by first | omega | (simp; done) | (simp; omega) | (simp at *; omega)) (by first | omega | decide) (by first | omega | (simp; done) | (simp; omega) | (simp at *; omega))) ((ed 1 rfl).trans (ep [1,0] rfl)) ?_
 rintro _ _ ⟨r2,bs3,A4,h5,h6,h7,rfl,rfl⟩
 refine Qa (k:=Qa (k:=Nw [(6,r2),(7,vint 0)] [KB r2 bs3,SuiteR sp A4,KB secret ks,Al R] ?_))
 refine W.ret (ret2 (M:=[KB r2 bs3,SuiteR sp A4]) rfl rfl rfl (.inl ⟨r2,bs3,A4,(by omega),(by assumption),(by omega),(by omega),rfl,rfl⟩) (es [0,0,1] rfl))
end Go.Lk
open Go.Proofs
namespace Go.Lk
structure Record where
  collection:Int
  epoch:Int
  writer:Int
  count:Int
  box:Bytes
  deriving DecidableEq,Inhabited
namespace Spec
def numbers (r:Record):Prop:=1≤r.collection∧r.collection≤1099511627776∧0≤r.epoch∧r.epoch≤16∧1≤r.writer∧r.writer≤16∧1≤r.count∧r.count≤1099511627776
instance (r:Record):Decidable (numbers r):=by unfold numbers; infer_instance
def rright (r:Record):Prop:=numbers r∧80≤r.box.length∧r.box.length≤2064
instance (r:Record):Decidable (rright r):=by unfold rright; infer_instance
def front (r:Record):Bytes:=be 6 r.collection++(be 6 r.epoch++(be 6 r.writer++be 6 r.count))
@[simp] theorem front_length (r:Record):(front r).length=24:=by simp [front]
def rencode (r:Record):Except Int Bytes:=if rright r then .ok (be 6 r.collection++(be 6 r.epoch++(be 6 r.writer++(be 6 r.count++(be 2 r.box.length++r.box))))) else .error 10
def rrecord (s:Option Bytes):Record × Option Bytes :=
  let (collection,s):=rnumber 1 1099511627776 s
  let (epoch,s):=rnumber 0 16 s
  let (writer,s):=rnumber 1 16 s
  let (count,s):=rnumber 1 1099511627776 s
  let (box,s):=rtext 80 2064 s
  (⟨collection,epoch,writer,count,box⟩,s)
def rdecode (bs:Bytes):Except Int Record :=
  match rrecord (some bs) with
  | (r,s)=>if s=some [] then .ok r else .error 10
def mark (A:List Thing) (secret:Bytes) (collection who:Int) (b:Bytes):Bytes × List Thing :=
  let (k,A):=derived A secret sWriter who
  code A k (be 6 collection++(be 2 b.length++b))
def sseal (A:List Thing) (secret key:Bytes) (r:Record) (e:Entry):Except Int (Record × List Thing) :=
  match encode e with
  | .error x=>.error x
  | .ok b =>
    if e.writer≠r.writer then .error 40 else if key.length≠32 then .error 21 else if ¬ numbers r then .error 12 else
    match bsize ((2+b.length+34:Nat):Int) with
    | .error x=>.error x
    | .ok _ =>
      let (m,A):=mark A secret r.collection r.writer b
      match pad (be 2 b.length++b++(be 2 m.length++m)),nonce r.writer r.count with
      | .ok text,.ok n =>
        match Spec.shut A key n (front r) text with
        | some (box,A)=>.ok ({ r with box:=box },A)
        | none=>.error 11
      | _,_=>.error 0
def sopen (A:List Thing) (secret key:Bytes) (r:Record):Except Int Entry × List Thing :=
  if ¬ rright r then (.error 10,A) else if key.length≠32 then (.error 21,A) else
  match nonce r.writer r.count with
  | .error _=>(.error 0,A)
  | .ok n =>
    match Spec.unshut A key n (front r) r.box with
    | .error _=>(.error 20,A)
    | .ok text =>
      let plain:=match strip text with | .ok p=>p | .error _=>[]
      let (b,s1):=rtext 0 4096 (some plain)
      let (told,s2):=rtext 0 4096 s1
      match strip text,decode b with
      | .ok _,.ok e=>if s2≠some [] then (.error 10,A) else if e.writer≠r.writer then (.error 40,A) else
        let (m,A):=mark A secret r.collection r.writer b
        if told≠m then (.error 22,A) else (.ok e,A)
      | _,_=>(.error 10,A)
theorem pad_ok {bs:Bytes} {e:Int} (h:bs.length≤2046) (he:pad bs = .error e):False:=by
  unfold pad bsize at he
  rw [if_neg (by omega)] at he
  split at he
  · rename_i h1; (repeat' split at h1) <;> cases h1
  · cases he
theorem rtext_length {lo hi:Int} {s s':Option Bytes} {x:Bytes} (h:rtext lo hi s=(x,s')) (h0:0≤hi):(x.length:Int)≤hi:=by
  unfold rtext at h
  split at h
  · rename_i n r hg
    split at h
    · cases h; simpa using h0
    · rename_i hn
      simp only [take] at h
      split at h
      · cases h; simp; omega
      · cases h; simpa using h0
  · cases h; simpa using h0
def plen:Part→Nat
  | .n _=>6
  | .b x=>x.length+2
theorem part_length {p:Part} {bs:Bytes} (h:part p = .ok bs):bs.length=plen p:=by
  cases p with
  | n x=>simp only [part,number] at h; split at h <;> cases h; simp [plen]
  | b x=>simp only [part,text] at h; split at h <;> cases h; simp [plen]; omega
theorem put_length:∀ {ps:List Part} {bs:Bytes},put ps = .ok bs→bs.length=(ps.map plen).sum
  | [],bs,h=>by simp [put] at h; subst h; rfl
  | p :: ps,bs,h=>by
    simp only [put] at h
    cases hp:part p with
    | error e=>rw [hp] at h; cases h
    | ok x =>
      rw [hp] at h
      simp only at h
      cases hq:put ps with
      | error e=>rw [hq] at h; cases h
      | ok y =>
        rw [hq] at h
        cases h
        simp [part_length hp,put_length hq]
theorem wrapsOk_boxes {ws:List Wrap} (h:wrapsOk ws=true):((ws.flatMap wparts).map plen).sum=56*ws.length:=by
  have h1:∀ w ∈ ws,w.box.length=48:=by
    intro w hw
    unfold wrapsOk at h
    rw [Bool.and_eq_true,List.all_eq_true] at h
    obtain ⟨i,hi,rfl⟩:=List.mem_iff_getElem.1 hw
    have h2:=of_decide_eq_true (h.2 i (List.mem_range.2 hi))
    have h3:=h2.2.2.1
    rwa [List.getD_eq_getElem?_getD,List.getElem?_eq_getElem hi] at h3
  clear h
  induction ws with
  | nil=>rfl
  | cons w ws ih =>
    have h2:=h1 w (List.mem_cons_self ..)
    have:=ih (fun x hx=>h1 x (List.mem_cons_of_mem _ hx))
    simp only [List.flatMap_cons,List.map_append,List.sum_append,this,wparts,List.map_cons,List.map_nil,plen,h2,List.sum_cons,List.sum_nil,List.length_cons]
    omega
theorem encode_length {e:Entry} {bs:Bytes} (h:encode e = .ok bs):right e=true∧21≤bs.length∧bs.length≤1000:=by
  unfold encode at h
  split at h
  · rename_i hr
    refine ⟨hr,?_⟩
    have hl:=put_length h
    have hk:=right_kind hr
    have hw:=right_wraps hr
    have hr':=hr
    unfold right at hr'
    rw [Bool.and_eq_true] at hr'
    have h2:=hr'.2
    unfold eparts at hl
    rw [List.map_append,List.sum_append] at hl
    by_cases k1:e.kind=1
    · rw [if_pos (Or.inl k1)] at h2
      have h3:=of_decide_eq_true h2
      rw [if_pos k1] at hl
      simp [plen] at hl
      omega
    by_cases k2:e.kind=2
    · rw [if_pos (Or.inr k2)] at h2
      have h3:=of_decide_eq_true h2
      rw [if_neg k1,if_pos k2] at hl
      simp [plen] at hl
      omega
    by_cases k3:e.kind=3
    · rw [if_neg k1,if_neg k2,if_pos k3] at hl
      simp [plen] at hl
      omega
    by_cases k4:e.kind=4
    · rw [if_neg k1,if_neg k2,if_neg k3,if_pos k4] at hl
      simp [plen] at hl
      omega
    · have k5:e.kind=5:=by omega
      rw [if_neg (by omega),if_neg k3,if_neg k4,Bool.and_eq_true] at h2
      have h3:=wrapsOk_boxes h2.2
      rw [if_neg k1,if_neg k2,if_neg k3,if_neg k4,if_pos k5,List.map_append,List.sum_append,h3] at hl
      simp [plen] at hl
      omega
  · cases h
end Spec
end Go.Lk
