import Derived.Deep.Slices
import Derived.ProofKit
import Derived.Carry
import Derived.OpenShut
import Derived.Test.YtdipecpdjeehoaaGreatQk10
open Go.Proofs
namespace Go.Lk
open Go.ChangeShapes Go.WideShapes Go.RowKit
section
variable {H:Type} {enc:TypeId × Value→H} {P:Program} {w:World} {spare:Nat→Bool} {held:Bool}
theorem cell_block {a:Addr} {c:Value} (h:w.cell? a=some c):∃ cs U fr,w.heap[a.block]? = some (.cells cs U fr)∧cs[a.off]? = some c∧a.spot=none:=by
  have hs:=World.cell?_spot h
  unfold World.cell? at h
  split at h
  · rename_i cs U fr hb
    rw [hs] at h
    exact ⟨cs,U,fr,hb,by simpa using h,hs⟩
  · cases h
theorem sl_of_trod {α:Type} {e:Enc α} [Inhabited α] {t E T:TypeId} {n0:Nat} {v:Value} {x:DataW H × List MemPlace} (ht:P.underlying t=some (.slice E)) (hsz:P.cellsOf E=e.sz) (h0:0 < e.sz) (hsp:∀ b,spare b=true)
    (hel:∀ n cs y,cs.length=e.sz→DataW.trod enc P w 0 spare held n E cs=some y→∃ z:α,e.rel (hp w) cs z∧∀ c ∈ cs,c.oneCell' = true)
    (h:DataW.trod enc P w 0 spare held n0 t [v]=some x):∃ xs:List α,Sl.φ e T v xs (hp w):=by
  rcases Deep.open_slice ht h with ⟨e1,_⟩ | ⟨a,len,cap,m,n,D,Pl,e1,_,hl,hm,hmm,_,hx⟩
  · cases e1
    exact ⟨[],fun _=>undef,.inl ⟨rfl,none,rfl⟩,fun i y hy=>by simp at hy⟩
  · cases e1
    rw [hsp,if_pos rfl] at hmm
    subst hmm
    by_cases hc:m=0
    · subst hc
      have:len=0:=by omega
      subst this
      exact ⟨[],fun _=>undef,.inl ⟨rfl,some a,rfl⟩,fun i y hy=>by simp at hy⟩
    · rw [hsz] at hx
      have cell:∀ i,i < m→∀ j,j < e.sz→∃ cs',w.cells? 0 (a.add (i*e.sz)) e.sz=some cs'∧cs'.length=e.sz∧w.cell? ((a.add (i*e.sz)).add j)=cs'[j]?:=fun i hi j hj=>by
        obtain ⟨cs',h1,_⟩:=hx i hi
        obtain ⟨_,h2,h3⟩:=World.cells?_some h1
        exact ⟨cs',h1,h2,h3 j hj⟩
      obtain ⟨c1,h1,h2,h3⟩:=cell 0 (by omega) 0 h0
      have hc0:w.cell? ((a.add (0*e.sz)).add 0)=some c1[0]:=by rw [h3,List.getElem?_eq_getElem (by omega)]
      obtain ⟨cs,U,fr,hb,_,hs⟩:=cell_block hc0
      obtain ⟨b,off,spot⟩:=a
      have hsn:spot=none:=by simpa [Addr.add] using hs
      subst hsn
      have hb:w.heap[b]? = some (.cells cs U fr):=by simpa [Addr.add] using hb
      have at_:∀ i,i < m→∀ cs',w.cells? 0 ((⟨b,off,none⟩:Addr).add (i*e.sz)) e.sz=some cs'→∀ j,j < e.sz→cs[off+(i*e.sz+j)]? = cs'[j]?:=fun i hi cs' hcs' j hj=>by
        obtain ⟨_,_,h4⟩:=World.cells?_some hcs'
        have h5:=h4 j hj
        rw [add_at,add_at] at h5
        simp only [World.cell?,hb] at h5
        rw [← Nat.add_assoc]
        simpa using h5
      have hel':∀ i,i < len→∃ z:α,∃ cs',w.cells? 0 ((⟨b,off,none⟩:Addr).add (i*e.sz)) e.sz=some cs'∧cs'.length=e.sz∧e.rel (hp w) cs' z∧∀ c ∈ cs',c.oneCell' = true:=fun i hi=>by
        obtain ⟨cs',k1,k2⟩:=hx i (by omega)
        have k3:=(World.cells?_some k1).2.1
        obtain ⟨z,k4,k5⟩:=hel n cs' _ k3 k2
        exact ⟨z,cs',k1,k3,k4,k5⟩
      obtain ⟨Z,hZ⟩:=Deep.choose_lt hel'
      refine ⟨(List.range len).map Z,fun j=>cs[off+j]?.getD undef,.inr ⟨b,off,m,cs,(U,fr),by simp,by simpa using hl,hm,hb,?_,fun j hj=>?_⟩,fun i y hy=>?_⟩
      · obtain ⟨cl,k1,k2,_⟩:=cell (m - 1) (by omega) 0 h0
        have k4:=at_ (m - 1) (by omega) cl k1 (e.sz - 1) (by omega)
        rw [List.getElem?_eq_getElem (by omega)] at k4
        have k5:=(Array.getElem?_eq_some_iff.1 k4).1
        have k6:(m - 1)*e.sz+e.sz=m*e.sz:=by rw [← Nat.succ_mul]; congr 1; omega
        omega
      · rw [List.length_map,List.length_range] at hj
        have hq:j / e.sz < len:=Nat.div_lt_of_lt_mul (by rw [Nat.mul_comm]; exact hj)
        have hr:j % e.sz < e.sz:=Nat.mod_lt _ h0
        obtain ⟨cs',k1,k2,_,k5⟩:=hZ _ hq
        have k4:=at_ _ (by omega) cs' k1 _ hr
        have k6:j / e.sz*e.sz+j % e.sz=j:=by rw [Nat.mul_comm]; exact Nat.div_add_mod j e.sz
        rw [k6,List.getElem?_eq_getElem (by omega)] at k4
        show cs[off+j]? = some (cs[off+j]?.getD undef)∧(cs[off+j]?.getD undef).oneCell' = true
        rw [k4]
        exact ⟨rfl,k5 _ (List.getElem_mem _)⟩
      · have hi:i < len:=by have:=(List.getElem?_eq_some_iff.1 hy).1; simpa using this
        rw [List.getElem?_map,List.getElem?_range hi] at hy
        simp only [Option.map_some,Option.some.injEq] at hy
        subst hy
        obtain ⟨cs',k1,k2,k3,_⟩:=hZ i hi
        have:Lk.sub (fun j=>cs[off+j]?.getD undef) (i*e.sz) e.sz=cs':=by
          apply List.ext_getElem?
          intro j
          by_cases hj:j < e.sz
          · simp only [Lk.sub,List.getElem?_map,List.getElem?_range hj,Option.map_some]
            rw [at_ i (by omega) cs' k1 j hj,List.getElem?_eq_getElem (by omega)]; rfl
          · rw [List.getElem?_eq_none (by simp [Lk.sub]; omega),List.getElem?_eq_none (by omega)]
        rw [this]
        exact k3
theorem sl_one {α:Type} {e:Enc α} {T:TypeId} {v:Value} {xs:List α} {K:PH} (h:Sl.φ e T v xs K):v.oneCell' = true:=by obtain ⟨a,c,rfl,_⟩:=Sl.len h; rfl
theorem bytes_of_trod {t E T:TypeId} {n0:Nat} {v:Value} {x:DataW H × List MemPlace} (ht:P.underlying t=some (.slice E)) (he:P.underlying E=some (.int .u8)) (hsz:P.cellsOf E=1) (hsp:∀ b,spare b=true)
    (h:DataW.trod enc P w 0 spare held n0 t [v]=some x):∃ bs:Bytes,Sl.φ Enc.u8 T v bs (hp w) :=
  sl_of_trod (e:=Enc.u8) ht hsz (by decide) hsp (fun n cs y _ hy=>by
    obtain ⟨m,rfl,_,hw⟩:=DataW.trod_int he hy
    have hb:=bounds_u8 hw
    refine ⟨UInt8.ofNat m.toNat,?_,fun c hc=>by simp at hc; subst hc; rfl⟩
    show [Value.int .u8 m]=[Value.int .u8 (UInt8.ofNat m.toNat).toNat]
    have:((UInt8.ofNat m.toNat).toNat:Int)=m:=by
      rw [UInt8.toNat_ofNat']; omega
    rw [this]) h
theorem field_at {t:TypeId} {fs:Array Field} {cs:List Value} {n:Nat} {x:DataW H × List MemPlace} (ht:P.underlying t=some (.struct fs)) (h:DataW.trod enc P w 0 spare held n t cs=some x) {i k:Nat} {T:TypeId} {f:Field} {cs2:List Value} (hi:fs[i]? = some f) (hT:f.type=T) (hk:P.cellsOf T=k) (hc:(cs.drop f.offset).take k=cs2) :
    ∃ m y,DataW.trod enc P w 0 spare held m T cs2=some y:=by
  obtain ⟨xs,m,_,_,_,hl,hf⟩:=DataW.trod_struct ht h
  have h1:=hf i f hi
  have h2:i < xs.length:=by rw [hl]; exact (Array.getElem?_eq_some_iff.1 hi).1
  rw [List.getElem?_eq_getElem h2,hT,hk,hc] at h1
  exact ⟨m,_,h1⟩
theorem int_at {n:Nat} {c:Value} {x:DataW H × List MemPlace} (h:DataW.trod enc Tryz.prog w 0 spare held n 3 [c]=some x):∃ z:Int,c=vint z:=by
  obtain ⟨z,h1,_,_⟩:=DataW.trod_int Tryz.underlying3 h
  exact ⟨z,by simpa using h1⟩
theorem c3:Tryz.prog.cellsOf 3=1:=by kernel_rfl
theorem c5:Tryz.prog.cellsOf 5=1:=by kernel_rfl
theorem c22:Tryz.prog.cellsOf 22=1:=by kernel_rfl
theorem c31:Tryz.prog.cellsOf 31=1:=by kernel_rfl
theorem c33:Tryz.prog.cellsOf 33=9:=by kernel_rfl
theorem c227:Tryz.prog.cellsOf 227=2:=by kernel_rfl
theorem bytes_at (hsp:∀ b,spare b=true) {n:Nat} {c:Value} {x:DataW H × List MemPlace} (h:DataW.trod enc Tryz.prog w 0 spare held n 22 [c]=some x):∃ bs:Bytes,Sl.φ Enc.u8 5 c bs (hp w) :=
  bytes_of_trod Tryz.underlying22 Tryz.underlying5 c5 hsp h
theorem wrap_at (hsp:∀ b,spare b=true) {n:Nat} {cs:List Value} {x:DataW H × List MemPlace} (hl:cs.length=2) (h:DataW.trod enc Tryz.prog w 0 spare held n 227 cs=some x):∃ z:Wrap,Enc.wrap.rel (hp w) cs z∧∀ c ∈ cs,c.oneCell' = true:=by
  match cs,hl with
  | [a0,a1],_ =>
    obtain ⟨m0,y0,h0⟩:=field_at Tryz.underlying227 h (i:=0) (T:=3) (cs2:=[a0]) rfl rfl c3 rfl
    obtain ⟨m1,y1,h1⟩:=field_at Tryz.underlying227 h (i:=1) (T:=22) (cs2:=[a1]) rfl rfl c22 rfl
    obtain ⟨z,rfl⟩:=int_at h0
    obtain ⟨bs,hb⟩:=bytes_at hsp h1
    exact ⟨⟨z,bs⟩,⟨a1,rfl,hb⟩,fun c hc=>by
      simp only [List.mem_cons,List.not_mem_nil,or_false] at hc
      rcases hc with rfl | rfl
      · rfl
      · exact sl_one hb⟩
theorem wraps_at (hsp:∀ b,spare b=true) {n:Nat} {c:Value} {x:DataW H × List MemPlace} (h:DataW.trod enc Tryz.prog w 0 spare held n 31 [c]=some x):∃ ws:List Wrap,Sl.φ Enc.wrap 227 c ws (hp w) :=
  sl_of_trod (e:=Enc.wrap) Tryz.underlying31 c227 (by decide) hsp (fun _ _ _ hl h=>wrap_at hsp hl h) h
theorem entry_at (hsp:∀ b,spare b=true) {n:Nat} {cs:List Value} {x:DataW H × List MemPlace} (hl:cs.length=9) (h:DataW.trod enc Tryz.prog w 0 spare held n 33 cs=some x):∃ z:Entry,Enc.entry.rel (hp w) cs z∧∀ c ∈ cs,c.oneCell' = true:=by
  match cs,hl with
  | [a0,a1,a2,a3,a4,a5,a6,a7,a8],_ =>
    obtain ⟨m0,y0,h0⟩:=field_at Tryz.underlying33 h (i:=0) (T:=3) (cs2:=[a0]) rfl rfl c3 rfl
    obtain ⟨m1,y1,h1⟩:=field_at Tryz.underlying33 h (i:=1) (T:=3) (cs2:=[a1]) rfl rfl c3 rfl
    obtain ⟨m2,y2,h2⟩:=field_at Tryz.underlying33 h (i:=2) (T:=3) (cs2:=[a2]) rfl rfl c3 rfl
    obtain ⟨m3,y3,h3⟩:=field_at Tryz.underlying33 h (i:=3) (T:=22) (cs2:=[a3]) rfl rfl c22 rfl
    obtain ⟨m4,y4,h4⟩:=field_at Tryz.underlying33 h (i:=4) (T:=22) (cs2:=[a4]) rfl rfl c22 rfl
    obtain ⟨m5,y5,h5⟩:=field_at Tryz.underlying33 h (i:=5) (T:=3) (cs2:=[a5]) rfl rfl c3 rfl
    obtain ⟨m6,y6,h6⟩:=field_at Tryz.underlying33 h (i:=6) (T:=3) (cs2:=[a6]) rfl rfl c3 rfl
    obtain ⟨m7,y7,h7⟩:=field_at Tryz.underlying33 h (i:=7) (T:=3) (cs2:=[a7]) rfl rfl c3 rfl
    obtain ⟨m8,y8,h8⟩:=field_at Tryz.underlying33 h (i:=8) (T:=31) (cs2:=[a8]) rfl rfl c31 rfl
    obtain ⟨z0,rfl⟩:=int_at h0
    obtain ⟨z1,rfl⟩:=int_at h1
    obtain ⟨z2,rfl⟩:=int_at h2
    obtain ⟨z5,rfl⟩:=int_at h5
    obtain ⟨z6,rfl⟩:=int_at h6
    obtain ⟨z7,rfl⟩:=int_at h7
    obtain ⟨b3,hb3⟩:=bytes_at hsp h3
    obtain ⟨b4,hb4⟩:=bytes_at hsp h4
    obtain ⟨ws,hws⟩:=wraps_at hsp h8
    exact ⟨⟨z0,z1,z2,b3,b4,z5,z6,z7,ws⟩,⟨a3,a4,a8,rfl,hb3,hb4,hws⟩,fun c hc=>by
      simp only [List.mem_cons,List.not_mem_nil,or_false] at hc
      rcases hc with rfl | rfl | rfl | rfl | rfl | rfl | rfl | rfl | rfl
      all_goals first | rfl | exact sl_one hb3 | exact sl_one hb4 | exact sl_one hws⟩
theorem entries_at (hsp:∀ b,spare b=true) {n:Nat} {c:Value} {x:DataW H × List MemPlace} (h:DataW.trod enc Tryz.prog w 0 spare held n 60 [c]=some x):∃ l:List Entry,Sl.φ Enc.entry 33 c l (hp w) :=
  sl_of_trod (e:=Enc.entry) Tryz.underlying60 c33 (by decide) hsp (fun _ _ _ hl h=>entry_at hsp hl h) h
theorem slice_one {t E:TypeId} {r:Reach} {b0:Nat} {v:Value} (ht:P.underlying t=some (.slice E)) (hv:Value.okWide P w r b0 t v):v.cells.toList=[v]:=by
  unfold Value.okWide at hv
  rw [ht] at hv
  dsimp only at hv
  unfold Cell.okWide Cell.ok at hv
  rw [ht] at hv
  cases v <;> first | rfl | (exfalso; simp at hv; done)
def Stays (w:World):Kn:=⟨fun K=>PH.le (hp w) K,fun hk h=>h.trans hk⟩
def gOf (w:World):G:=⟨w.os,w.tape,w.output⟩
theorem sat_start {L:List Asn} (h:sep L (hp w) PH.emp):Sat (gOf w) w (L++[Asn.kn (Stays w)]) :=
  ⟨hp w,PH.emp,sep.append (Split.emp_left _) h ⟨PH.emp,PH.emp,Split.emp_left _,PH.le_refl _,trivial⟩,fun _=>.inl rfl,(fun _ _ e=>nomatch e),PH.le_refl _,rfl,rfl,rfl⟩
theorem post_stays {f:Func} {s:ChangeSpec} {W W':World} {args:Array Value} {ds gs:List (DataW H)} {before:List MemPlace} {R:List Asn}
    (hW:DataW.Whole enc P f.params.toList s.vars false W args.toList ds gs before) (hs:s.vars=[]) (hl:laidOutB P=true) (hr:∀ t ∈ f.params.toList,P.readableRec t=true∧t < P.types.size)
    (hres:f.resultTypes = #[4]) (h4:P.underlying 4=some .bool) (hsr:(s.fn H (ds++gs)).results=[.lit (.bool true)]) (hsa:(s.fn H (ds++gs)).args=ds) (hsv:(s.fn H (ds++gs)).vars=[])
    (hsat:Sat (gOf W) W' (Asn.kn (Stays W) :: R)):s.post enc P f false true false false W args (.bool true) W':=by
  obtain ⟨K,h,⟨h1,h2,_,hst,_⟩,_,_,hK,ho,_,hou⟩:=hsat
  have hle:PH.le (hp W) (hp W'):=hst.trans hK
  have same:∀ i:Nat,i < W.heap.size→W'.heap[i]? = W.heap[i]?:=fun i hi=>by
    have e:W.heap[i]? = some W.heap[i]:=Array.getElem?_eq_getElem hi
    rw [e]; exact hle i _ e
  obtain ⟨p,q,hA,hV,rfl,hfz,hn⟩:=hW
  rw [hs] at hV
  obtain ⟨rfl,rfl⟩:=trodVars_none hV
  have hlt:∀ x ∈ p,x.block < W.heap.size:=DataW.TrodAll.lt hA
  have stays:∀ (ts:List TypeId) (vs:List Value) (ds':List (DataW H)) (p':List MemPlace),(∀ t ∈ ts,P.readableRec t=true∧t < P.types.size)→(∀ x ∈ p',x.block < W.heap.size)→DataW.TrodAll enc P W 0 (fun _=>true) true ts vs ds' p' →
      DataW.TrodAll enc P W' 0 (fun b=>decide (b < W.heap.size)) true ts vs ds' p':=by
    intro ts
    induction ts with
    | nil=>intro vs ds' p' _ _ h; obtain ⟨rfl,rfl,rfl⟩:=trodAll_nil h; rfl
    | cons t ts ih =>
      intro vs ds' p' hr hp' h
      obtain ⟨v,vs',d,ds'',a,b,rfl,rfl,rfl,k1,k2⟩:=trodAll_cons h
      refine ⟨a,b,WideElems.Trod_stays hl (hr t (by simp)).1 (hr t (by simp)).2 k1 (fun x hx=>?_) (fun x hx=>by simpa using hp' x (by simp [hx])),ih _ _ _ (fun t ht=>hr t (by simp [ht])) (fun x hx=>hp' x (by simp [hx])) k2,rfl⟩
      have hb:=same _ (hp' x (by simp [hx]))
      cases x with
      | cell b off=>show W'.cell? _=W.cell? _; simp only [World.cell?]; rw [show W'.heap[b]? = W.heap[b]? from hb]
      | map b=>exact hb
  have hW2:DataW.Whole enc P f.params.toList s.vars false W args.toList ds [] (p++[]):=⟨p,[],hA,hs ▸ hV,rfl,hfz,hn⟩
  refine ⟨ds,[],p++[],[],p,[],hW2,?_,?_,?_,⟨ho,hou,fun i hi=>?_⟩,fun h=>by cases h⟩
  · rw [hsr,hres]; exact trodAll_mk1 (shut_bool h4 _)
  · rw [hsa]; exact stays _ _ _ _ hr hlt hA
  · rw [hsv,hs]; rfl
  · rw [same i hi]
    cases hx:W.heap[i]? with
    | none=>trivial
    | some o=>cases o <;> simp
end
end Go.Lk
open Go.Proofs
set_option maxRecDepth 8000
namespace Go.Lk
open Asn renaming cells→Cl,row→Rw,kn→Kk,all→Al
theorem fa208_2:∀ (b k:Nat) (w:World),(Instr.fieldAt 208 (vptr b k) 2).run Tryz.prog w = .ok (vptr b (k+5)) w:=fun _ _ _=>by kernel_rfl
theorem fa208_3:∀ (b k:Nat) (w:World),(Instr.fieldAt 208 (vptr b k) 3).run Tryz.prog w = .ok (vptr b (k+6)) w:=fun _ _ _=>by kernel_rfl
theorem fa208_4:∀ (b k:Nat) (w:World),(Instr.fieldAt 208 (vptr b k) 4).run Tryz.prog w = .ok (vptr b (k+9)) w:=fun _ _ _=>by kernel_rfl
theorem fa208_5:∀ (b k:Nat) (w:World),(Instr.fieldAt 208 (vptr b k) 5).run Tryz.prog w = .ok (vptr b (k+10)) w:=fun _ _ _=>by kernel_rfl
theorem fa208_6:∀ (b k:Nat) (w:World),(Instr.fieldAt 208 (vptr b k) 6).run Tryz.prog w = .ok (vptr b (k+11)) w:=fun _ _ _=>by kernel_rfl
theorem fa24_0:∀ (b k:Nat) (w:World),(Instr.fieldAt 24 (vptr b k) 0).run Tryz.prog w = .ok (vptr b (k)) w:=fun _ _ _=>by kernel_rfl
theorem fa24_1:∀ (b k:Nat) (w:World),(Instr.fieldAt 24 (vptr b k) 1).run Tryz.prog w = .ok (vptr b (k+1)) w:=fun _ _ _=>by kernel_rfl
theorem fa24_2:∀ (b k:Nat) (w:World),(Instr.fieldAt 24 (vptr b k) 2).run Tryz.prog w = .ok (vptr b (k+2)) w:=fun _ _ _=>by kernel_rfl
theorem fa24_3:∀ (b k:Nat) (w:World),(Instr.fieldAt 24 (vptr b k) 3).run Tryz.prog w = .ok (vptr b (k+3)) w:=fun _ _ _=>by kernel_rfl
theorem ld206:∀ (a:Addr) (w:World),(loadVar 206 a).run Tryz.prog w=(Go.load a).run Tryz.prog w:=fun _ _=>by kernel_rfl
theorem ld24:∀ (a:Addr) (w:World),(loadVar 24 a).run Tryz.prog w=((loadCells a 4).bind fun c=>.pure (Value.agg c)).run Tryz.prog w:=fun _ _=>by kernel_rfl
theorem ld56:∀ (a:Addr) (w:World),(loadVar 56 a).run Tryz.prog w=(Go.load a).run Tryz.prog w:=fun _ _=>by kernel_rfl
theorem ld95:∀ (a:Addr) (w:World),(loadVar 95 a).run Tryz.prog w=(Go.load a).run Tryz.prog w:=fun _ _=>by kernel_rfl
theorem repNew_fn (sp:Nat) (A:List Thing) (coll:Int) (founder:Int) (who:Int) (sv:Value) (ks:Bytes) (hA:A.length < 1099511627760) (hs:ks.length≤1000000):Fn Tryz.prog 28 #[vptr sp 0,.agg #[vint coll,vint founder,vint who,sv]] [SuiteR sp A,KB sv ks] (fun v M=>(∃ (rp:Nat) (q:Rep) (A':List Thing),Spec.repNew A coll founder who ks=(some q,A')∧A'.length≤A.length+2∧.tuple #[vptr rp 0,vint 0]=v∧M=[ReplayR rp sp q,SuiteR sp A'])∨(Spec.repNew A coll founder who ks=(none,A)∧.tuple #[.pointer none,vint 12]=v∧M=[SuiteR sp A])):=by
 refine Fi 60 Tryz.func28 fun g R=>?_
 refine Ww [(0,vptr sp 0),(1,.agg #[vint coll,vint founder,vint who,sv])] [SuiteR sp A,KB sv ks,Al R] ?_
 refine Sn (Ru (OpRun.box rfl rfl rfl) ?_)
 rintro _ _ ⟨b1,rfl,rfl⟩
 refine Qa (k:=Qa (k:=Nw [(0,vptr sp 0),(3,vptr b1 0),(4,.pointer none),(5,vint 0)] [Cl b1 24 [vint coll,vint founder,vint who,sv],SuiteR sp A,KB sv ks,Al R] ?_))
 refine Sn (Qu (Of (fa24_1 _ _)) (k:=Qu (Ol 0 ld3) (k:=?_)))
 refine Wc [.tmp 12] [vint founder] Tryz.call113 (First_fn founder) (ep [] rfl) ?_
 rintro _ _ (⟨mv2,h3,rfl,rfl⟩ | ⟨h4,rfl,rfl⟩)
 ·refine Qm (k:=Qe (k:=Qe (k:=?_)))
  refine Ru (OpRun.alloc rfl zv53 rfl) ?_
  rintro _ _ ⟨b5,rfl,rfl⟩
  refine Nf 1 fun ho6=>?_
  refine Rn (OpRun.store (i:=0) (vs:=[vint ((Spec.firstP founder).founder),vint ((Spec.firstP founder).epoch),mv2]) (cs':=[vint ((Spec.firstP founder).founder),vint ((Spec.firstP founder).epoch),mv2]) rfl rfl rfl sz53 rfl rfl (one_cons rfl (one_cons rfl (one_cons ho6 one_nil))) rfl (Lb rfl) rfl) (k:=Qa (k:=Nw [(0,vptr sp 0),(3,vptr b1 0),(4,.pointer none),(5,vint 0),(6,vptr b5 0),(7,vint 0)] [Cl b5 53 [vint ((Spec.firstP founder).founder),vint ((Spec.firstP founder).epoch),mv2],KM mv2 ((Spec.firstP founder).members),Cl b1 24 [vint coll,vint founder,vint who,sv],SuiteR sp A,KB sv ks,Al R] ?_))
  refine W.seq (Sn (Qm (k:=?_)))
  refine Qu (OpQ.decF (OpQ.neq rfl rfl rfl) (by decide)) (k:=Qm (k:=Qu (Of (fa24_2 _ _)) (k:=Qu (Ol 2 ld3) (k:=Qu (OpQ.lss rfl rfl rfl) (k:=?_)))))
  by_cases h7:who < 1
  ·refine Qu (OpQ.decT (OpQ.pickF rfl rfl rfl) h7) (k:=Qm (k:=Qs (k:=Qs (k:=Qs (k:=Qt (k:=Qm (k:=Qs (k:=Qs (k:=Qs (k:=Qt (k:=Qm (k:=Qs (k:=Qs (k:=?_))))))))))))))
   refine Qs (k:=Qt (k:=Nl [(0,vptr sp 0),(3,vptr b1 0),(4,.pointer none),(5,vint 0),(6,vptr b5 0),(37,.bool true)] ?_))
   refine W.condT rfl ?_
   refine Sn (Qa (k:=Qa (k:=Nl [(0,vptr sp 0),(3,vptr b1 0),(4,.pointer none),(5,vint 12),(6,vptr b5 0)] ?_)))
   refine W.ret (thn_r (ret2 (M:=[SuiteR sp A]) rfl rfl rfl (.inr (⟨(by unfold Spec.repNew; rw [if_pos (by right; omega)]),rfl,rfl⟩)) (es [3,4] rfl)))
  refine Qu (OpQ.decF (OpQ.pickF rfl rfl rfl) h7) (k:=Qm (k:=Qu (Of (fa24_2 _ _)) (k:=Qu (Ol 2 ld3) (k:=Qu (OpQ.gtr rfl rfl rfl) (k:=?_)))))
  by_cases h8:who > 16
  ·refine Qu (OpQ.decT (OpQ.pickF rfl rfl rfl) h8) (k:=Qm (k:=Qs (k:=Qs (k:=Qs (k:=Qt (k:=Qm (k:=Qs (k:=Qs (k:=Qs (k:=Qt (k:=Nl [(0,vptr sp 0),(3,vptr b1 0),(4,.pointer none),(5,vint 0),(6,vptr b5 0),(37,.bool true)] ?_)))))))))))
   refine W.condT rfl ?_
   refine Sn (Qa (k:=Qa (k:=Nl [(0,vptr sp 0),(3,vptr b1 0),(4,.pointer none),(5,vint 12),(6,vptr b5 0)] ?_)))
   refine W.ret (thn_r (ret2 (M:=[SuiteR sp A]) rfl rfl rfl (.inr (⟨(by unfold Spec.repNew; rw [if_pos (by right; omega)]),rfl,rfl⟩)) (es [3,4] rfl)))
  refine Qu (OpQ.decF (OpQ.pickF rfl rfl rfl) h8) (k:=Qm (k:=Qu (Of (fa24_0 _ _)) (k:=Qu (Ol 2 ld3) (k:=Qu (OpQ.lss rfl rfl rfl) (k:=?_)))))
  by_cases h9:coll < 1
  ·refine Qu (OpQ.decT (OpQ.pickF rfl rfl rfl) h9) (k:=Qm (k:=Qs (k:=Qs (k:=Qs (k:=Qt (k:=Nl [(0,vptr sp 0),(3,vptr b1 0),(4,.pointer none),(5,vint 0),(6,vptr b5 0),(37,.bool true)] ?_))))))
   refine W.condT rfl ?_
   refine Sn (Qa (k:=Qa (k:=Nl [(0,vptr sp 0),(3,vptr b1 0),(4,.pointer none),(5,vint 12),(6,vptr b5 0)] ?_)))
   refine W.ret (thn_r (ret2 (M:=[SuiteR sp A]) rfl rfl rfl (.inr (⟨(by unfold Spec.repNew; rw [if_pos (by right; omega)]),rfl,rfl⟩)) (es [3,4] rfl)))
  refine Qu (OpQ.decF (OpQ.pickF rfl rfl rfl) h9) (k:=Qm (k:=Qu (Of (fa24_0 _ _)) (k:=Qu (Ol 2 ld3) (k:=Qu (OpQ.gtr rfl rfl rfl) (k:=Qf (k:=Nl [(0,vptr sp 0),(3,vptr b1 0),(4,.pointer none),(5,vint 0),(6,vptr b5 0),(37,.bool (decide (coll > 1099511627776)))] ?_))))))
  refine Cp rfl (fun h10=>?_) (fun h10=>?_)
  ·refine Sn (Qa (k:=Qa (k:=Nl [(0,vptr sp 0),(3,vptr b1 0),(4,.pointer none),(5,vint 12),(6,vptr b5 0)] ?_)))
   refine W.ret (thn_r (ret2 (M:=[SuiteR sp A]) rfl rfl rfl (.inr (⟨(by unfold Spec.repNew; rw [if_pos (by right; omega)]),rfl,rfl⟩)) (es [3,4] rfl)))
  refine W.skip (thn_n (Wl [(0,vptr sp 0),(3,vptr b1 0),(4,.pointer none),(5,vint 0),(6,vptr b5 0)] ?_))
  refine Sn (Qu (Of (fa24_3 _ _)) (k:=Qu (Ol 2 ld22) (k:=?_)))
  refine WN.ent (Ent.rowNil (E:=5) (sz:=1)) ?_
  refine Ne [Rw 5 1 (N0) (bv []),Cl b5 53 [vint ((Spec.firstP founder).founder),vint ((Spec.firstP founder).epoch),mv2],KM mv2 ((Spec.firstP founder).members),Cl b1 24 [vint coll,vint founder,vint who,sv],SuiteR sp A,KB sv ks,Al R] ?_
  refine Ru (OpRun.appendB (i:=0) (j:=5) rfl rfl rfl rfl rfl Tryz.underlying22 (inf:=Tryz.t5) (by kernel_rfl) rfl rfl rfl rfl (by first | omega | (simp; omega))) ?_
  rintro v11 _ ⟨h12a,h12b,h12c,rfl⟩
  refine Qu (Of (fa24_3 _ _)) (k:=Rn (OpRun.store (i:=3) (vs:=[v11]) (cs':=[vint coll,vint founder,vint who,v11]) rfl rfl rfl sz22 (cells_one h12b) rfl (one_cons h12b one_nil) rfl (Lb rfl) rfl) (k:=Nw [(0,vptr sp 0),(3,vptr b1 0),(4,.pointer none),(5,vint 0),(6,vptr b5 0)] [Cl b1 24 [vint coll,vint founder,vint who,v11],Rw 5 1 v11 (bv (([])++ks)),Cl b5 53 [vint ((Spec.firstP founder).founder),vint ((Spec.firstP founder).epoch),mv2],KM mv2 ((Spec.firstP founder).members),SuiteR sp A,KB sv ks,Al R] ?_))
  refine Sn (Qm (k:=Qu (Of (fa24_0 _ _)) (k:=Qu (Ol 0 ld3) (k:=?_))))
  refine Wc [.tmp 43,.tmp 45] [vptr sp 0,vint coll] Tryz.call114 (chainNew_fn sp A coll (by first | omega | (simp; done) | (simp; omega) | (simp at *; omega)) (by first | omega | (simp; done) | (simp; omega) | (simp at *; omega))) (ep [4] rfl) ?_
  rintro _ _ ⟨cp13,c14,A15,h16,h17,rfl,rfl⟩
  refine Qm (k:=Qe (k:=Qe (k:=Qa (k:=Qa (k:=Nw [(0,vptr sp 0),(3,vptr b1 0),(4,.pointer none),(5,vint 0),(6,vptr b5 0),(8,vptr cp13 0)] [ChainR cp13 sp c14,SuiteR sp A15,Cl b1 24 [vint coll,vint founder,vint who,v11],Rw 5 1 v11 (bv (([])++ks)),Cl b5 53 [vint ((Spec.firstP founder).founder),vint ((Spec.firstP founder).epoch),mv2],KM mv2 ((Spec.firstP founder).members),KB sv ks,Al R] ?_)))))
  refine W.seq (W.drawG mixed ?_)
  refine Gq 0 [] rfl (OpQ.move rfl rfl) ?_
  refine WG.hold (Cl b1 24 [vint coll,vint founder,vint who,v11],[]) ?_
  refine Gq 1 [2] rfl (OpQ.loadN (i:=0) rfl rfl ld24 rfl rfl rfl) ?_
  refine Gq 2 [2] rfl (OpQ.move rfl rfl) ?_
  refine WG.hold (Cl b5 53 [vint ((Spec.firstP founder).founder),vint ((Spec.firstP founder).epoch),mv2],[]) ?_
  refine Gq 3 [4,2] rfl (OpQ.loadN (i:=0) rfl rfl ld53 rfl rfl rfl) ?_
  refine Gq 5 [4,2] rfl (OpQ.move rfl rfl) ?_
  refine Gq 6 [4,2] rfl (Of (fa24_3 _ _)) ?_
  refine Gq 7 [4,2] rfl (Ol 1 ld22) ?_
  refine WG.one (i:=4) (by kernel_rfl) (UpG.call rfl rfl rfl (OpCall.mk (xs:=[]) (vs:=[]) rfl trivial Tryz.call115) (docsNew_fn) (ep [] rfl) ?_)
  rintro _ _ ⟨dp18,rfl,rfl⟩
  refine ⟨es [5,3] rfl,?_⟩
  refine WG.freezeB (bs:=(([])++ks)) (i:=4) rfl ?_
  refine WG.one (i:=8) (by kernel_rfl) (UpG.call rfl rfl rfl (OpCall.mk (xs:=[.tmp 54,.tmp 56]) (vs:=[vptr sp 0,v11]) rfl ⟨rfl,rfl,trivial⟩ Tryz.call116) (ringNew_fn sp A15 v11 (([])++ks) (by first | omega | (simp; done) | (simp; omega) | (simp at *; omega))) ((ed 0 rfl).trans (ep [4,0] rfl)) ?_)
  rintro _ _ ⟨rp19,keys20,A21,h22,h23,rfl,rfl⟩
  refine ⟨es [6,5] rfl,?_⟩
  refine WG.fact (fun _ _ s=>sl_isS (i:=2) rfl s) (fun hS24=>?_)
  refine WG.fact (fun _ _ s=>sl_isS (i:=7) rfl s) (fun hS25=>?_)
  refine Gq 9 [6,5] rfl (OpQ.build (qs:=[(0,vptr sp 0),(1,.agg #[vint coll,vint founder,vint who,v11]),(2,vptr cp13 0),(3,.agg #[vint ((Spec.firstP founder).founder),vint ((Spec.firstP founder).epoch),mv2]),(4,vptr dp18 0),(5,vptr rp19 0)]) (v:=.agg #[vptr sp 0,vint coll,vint founder,vint who,v11,vptr cp13 0,vint ((Spec.firstP founder).founder),vint ((Spec.firstP founder).epoch),mv2,vptr dp18 0,vptr rp19 0,vint 0,vint 0,vint 0,vint 0,vint 0,vint 0,vint 0,vint 0,vint 0,vint 0,vint 0,vint 0,vint 0,vint 0,vint 0,vint 0,vint 0]) rfl ⟨rfl,rfl,rfl,rfl,rfl,rfl,rfl,rfl,rfl,rfl,rfl,rfl,trivial⟩ (fun _=>by obtain ⟨_,_,_,e1⟩:=hS24; rw [e1]; obtain ⟨_,_,_,e2⟩:=hS25; rw [e2]; kernel_rfl)) ?_
  refine WG.one (i:=10) (by kernel_rfl) (UpG.run rfl rfl rfl (OpRun.box rfl rfl rfl) ?_)
  rintro _ _ ⟨b26,rfl,rfl⟩
  refine ⟨es [7,6] rfl,?_⟩
  refine Gq 11 [7,6] rfl (OpQ.assign rfl rfl) ?_
  refine Gq 12 [7,6] rfl (OpQ.assign rfl rfl) ?_
  refine WG.done (by kernel_rfl) ?_
  refine thn_n (Ww [(4,vptr b26 0),(5,vint 0)] [Cl b26 208 [vptr sp 0,vint coll,vint founder,vint who,v11,vptr cp13 0,vint ((Spec.firstP founder).founder),vint ((Spec.firstP founder).epoch),mv2,vptr dp18 0,vptr rp19 0,vint 0,vint 0,vint 0,vint 0,vint 0,vint 0,vint 0,vint 0,vint 0,vint 0,vint 0,vint 0,vint 0,vint 0,vint 0,vint 0,vint 0],RingR rp19 keys20,SuiteR sp A21,KB v11 (([])++ks),DocsR dp18 ([]),ChainR cp13 sp c14,Cl b1 24 [vint coll,vint founder,vint who,v11],Cl b5 53 [vint ((Spec.firstP founder).founder),vint ((Spec.firstP founder).epoch),mv2],KM mv2 ((Spec.firstP founder).members),KB sv ks,Al R] ?_)
  have hfi:(⟨coll,founder,who,ks,c14,Spec.firstP founder,[],keys20,List.replicate 17 0⟩:Rep).fine:=⟨by simp,fun i=>by simp only [List.getD_eq_getElem?_getD,List.getElem?_replicate]; split <;> simp,by simp [Spec.firstP],by simp only; omega,by simp only; omega,by simp only; omega,by simp only; omega,by simp [Spec.firstP],by simp [Spec.firstP]⟩
  refine W.ent (L':=[Cl b26 208 ([vptr sp 0,vint coll,vint founder,vint who,v11,vptr cp13 0,vint ((Spec.firstP founder).founder),vint ((Spec.firstP founder).epoch),mv2,vptr dp18 0,vptr rp19 0]++(List.replicate 17 (0:Int)).map vint),RingR rp19 keys20,SuiteR sp A21,KB v11 (([])++ks),DocsR dp18 ([]),ChainR cp13 sp c14,Cl b1 24 [vint coll,vint founder,vint who,v11],Cl b5 53 [vint ((Spec.firstP founder).founder),vint ((Spec.firstP founder).epoch),mv2],KM mv2 ((Spec.firstP founder).members),KB sv ks,Al R]) ((es [0,0,0,0,0,0,0,0,0,0,0] rfl).trans (Ent.of_eq (by rfl))) ?_
  refine W.ent (L':=[Cl b26 208 ([vptr sp 0,vint coll,vint founder,vint who,v11,vptr cp13 0,vint ((Spec.firstP founder).founder),vint ((Spec.firstP founder).epoch),mv2,vptr dp18 0,vptr rp19 0]++(List.replicate 17 (0:Int)).map vint),KB v11 (([])++ks),KM mv2 ((Spec.firstP founder).members),DocsR dp18 ([]),RingR rp19 keys20,SuiteR sp A21,ChainR cp13 sp c14,Cl b1 24 [vint coll,vint founder,vint who,v11],Cl b5 53 [vint ((Spec.firstP founder).founder),vint ((Spec.firstP founder).epoch),mv2],KB sv ks,Al R]) (es [0,2,6,2,0,0,0,0,0,0,0] rfl) ?_
  refine W.ent (L':=[ReplayO b26 sp cp13 (⟨coll,founder,who,ks,c14,Spec.firstP founder,[],keys20,List.replicate 17 0⟩:Rep),SuiteR sp A21,ChainR cp13 sp c14,Cl b1 24 [vint coll,vint founder,vint who,v11],Cl b5 53 [vint ((Spec.firstP founder).founder),vint ((Spec.firstP founder).epoch),mv2],KB sv ks,Al R]) (Ent.rep' (v11,mv2,dp18,rp19) rfl hfi rfl) ?_
  refine W.ent (L':=[ReplayO b26 sp cp13 (⟨coll,founder,who,ks,c14,Spec.firstP founder,[],keys20,List.replicate 17 0⟩:Rep),ChainR cp13 sp c14,SuiteR sp A21,Cl b1 24 [vint coll,vint founder,vint who,v11],Cl b5 53 [vint ((Spec.firstP founder).founder),vint ((Spec.firstP founder).epoch),mv2],KB sv ks,Al R]) (es [0,1,0,0,0,0,0] rfl) ?_
  refine W.ent (L':=[ReplayR b26 sp (⟨coll,founder,who,ks,c14,Spec.firstP founder,[],keys20,List.replicate 17 0⟩:Rep),SuiteR sp A21,Cl b1 24 [vint coll,vint founder,vint who,v11],Cl b5 53 [vint ((Spec.firstP founder).founder),vint ((Spec.firstP founder).epoch),mv2],KB sv ks,Al R]) (Ent.rep' cp13 rfl trivial rfl) ?_
  refine W.ret (ret2 (M:=[ReplayR b26 sp (⟨coll,founder,who,ks,c14,Spec.firstP founder,[],keys20,List.replicate 17 0⟩:Rep),SuiteR sp A21]) rfl rfl rfl (.inl ⟨b26,(⟨coll,founder,who,ks,c14,Spec.firstP founder,[],keys20,List.replicate 17 0⟩:Rep),A21,(by unfold Spec.repNew; rw [if_neg (by intro h9; rcases h9 with h9 | h9; (rw [h3] at h9; cases h9); omega)]; have h8:=h22; simp only [List.nil_append] at h8; simp only [h16,h8]),(by omega),rfl,rfl⟩) (es [0,0,3] rfl))
 refine Qm (k:=Qe (k:=Qe (k:=?_)))
 refine Ru (OpRun.alloc rfl zv53 rfl) ?_
 rintro _ _ ⟨b27,rfl,rfl⟩
 refine Rn (OpRun.store (i:=0) (vs:=[vint 0,vint 0,N0]) (cs':=[vint 0,vint 0,N0]) rfl rfl rfl sz53 rfl rfl (O3 one_nil) rfl (Lb rfl) rfl) (k:=Qa (k:=Nw [(0,vptr sp 0),(3,vptr b1 0),(4,.pointer none),(5,vint 0),(6,vptr b27 0),(7,vint 10)] [Cl b27 53 [vint 0,vint 0,N0],Cl b1 24 [vint coll,vint founder,vint who,sv],SuiteR sp A,KB sv ks,Al R] ?_))
 refine W.seq (Sn (Qm (k:=?_)))
 refine Qu (OpQ.decT (OpQ.neq rfl rfl rfl) (by decide)) (k:=Qm (k:=Qs (k:=Qs (k:=Qs (k:=Qt (k:=Qm (k:=Qs (k:=Qs (k:=Qs (k:=Qt (k:=Qm (k:=Qs (k:=Qs (k:=?_))))))))))))))
 refine Qs (k:=Qt (k:=Qm (k:=Qs (k:=Qs (k:=Qs (k:=Qt (k:=Nl [(0,vptr sp 0),(3,vptr b1 0),(4,.pointer none),(5,vint 0),(6,vptr b27 0),(37,.bool true)] ?_)))))))
 refine W.condT rfl ?_
 refine Sn (Qa (k:=Qa (k:=Nl [(0,vptr sp 0),(3,vptr b1 0),(4,.pointer none),(5,vint 12),(6,vptr b27 0)] ?_)))
 refine W.ret (thn_r (ret2 (M:=[SuiteR sp A]) rfl rfl rfl (.inr (⟨(by unfold Spec.repNew; rw [if_pos (by first | exact .inl h4 | (right; omega))]),rfl,rfl⟩)) (es [2,3] rfl)))
theorem repChain_fn (rp:Nat) (sp:Nat) (q:Rep):Fn Tryz.prog 52 #[vptr rp 0] [ReplayR rp sp q] (fun v M=>∃ (cp:Nat),vptr cp 0=v∧M=[ReplayO rp sp cp q,ChainR cp sp q.chain]):=by
 refine Fi 7 Tryz.func52 fun g R=>?_
 refine Ww [(0,vptr rp 0)] [ReplayR rp sp q,Al R] ?_
 refine W.opens Opens.rep (i:=0) rfl (fun x1 _=>?_)
 refine We [ReplayO rp sp x1 q,ChainR x1 sp q.chain,Al R] ?_
 refine W.opens Opens.rep (i:=0) rfl (fun x2 hfine2=>?_)
 obtain ⟨sv2,mv2,dp2,gp2⟩:=x2
 refine We [Cl rp 208 (rcs sp x1 q sv2 mv2 dp2 gp2++q.seen.map vint),KB sv2 q.secret,KM mv2 q.pol.members,DocsR dp2 q.docs,RingR gp2 q.keys,ChainR x1 sp q.chain,Al R] ?_
 refine Sn (Qa (k:=Nl [(0,vptr rp 0),(2,.pointer none)] ?_))
 refine Sn (Qm (k:=Qu (OpQ.nilCheck rfl rfl) (k:=Qu (Of (fa208_2 _ _)) (k:=Qu (Ol 0 ld95) (k:=Qa (k:=Nl [(2,vptr x1 0)] ?_))))))
 refine W.ent (L':=[Cl rp 208 (rcs sp x1 q sv2 mv2 dp2 gp2++q.seen.map vint),KB sv2 q.secret,KM mv2 q.pol.members,DocsR dp2 q.docs,RingR gp2 q.keys,ChainR x1 sp q.chain,Al R]) (es [0,0,0,0,0,0,0] rfl) ?_
 refine W.ent (L':=[ReplayO rp sp x1 q,ChainR x1 sp q.chain,Al R]) (Ent.rep' (sv2,mv2,dp2,gp2) rfl hfine2 rfl) ?_
 refine W.ret (ret1 (M:=[ReplayO rp sp x1 q,ChainR x1 sp q.chain]) rfl rfl (⟨x1,rfl,rfl⟩) (es [0,0,0] rfl))
theorem repPolicy_fn (rp:Nat) (sp:Nat) (q:Rep):Fn Tryz.prog 29 #[vptr rp 0] [ReplayR rp sp q] (fun v M=>∃ (mz:Value),.agg #[vint q.pol.founder,vint q.pol.epoch,mz]=v∧M=[KM mz q.pol.members,ReplayR rp sp q]):=by
 refine Fi 13 Tryz.func29 fun g R=>?_
 refine Ww [(0,vptr rp 0)] [ReplayR rp sp q,Al R] ?_
 refine W.opens Opens.rep (i:=0) rfl (fun x1 _=>?_)
 refine We [ReplayO rp sp x1 q,ChainR x1 sp q.chain,Al R] ?_
 refine W.opens Opens.rep (i:=0) rfl (fun x2 hfine2=>?_)
 obtain ⟨sv2,mv2,dp2,gp2⟩:=x2
 refine We [Cl rp 208 (rcs sp x1 q sv2 mv2 dp2 gp2++q.seen.map vint),KB sv2 q.secret,KM mv2 q.pol.members,DocsR dp2 q.docs,RingR gp2 q.keys,ChainR x1 sp q.chain,Al R] ?_
 have hfine2u:=hfine2; unfold Rep.fine at hfine2u
 obtain ⟨hfine2a,hfine2b,hfine2c,hfine2d,hfine2e,hfine2f,hfine2g,hfine2h⟩:=hfine2u
 refine Sn (Ru (OpRun.alloc rfl zv53 rfl) ?_)
 rintro _ _ ⟨b3,rfl,rfl⟩
 refine Nw [(0,vptr rp 0),(2,vptr b3 0)] [Cl b3 53 [vint 0,vint 0,.slice none 0 0],Cl rp 208 (rcs sp x1 q sv2 mv2 dp2 gp2++q.seen.map vint),KB sv2 q.secret,KM mv2 q.pol.members,DocsR dp2 q.docs,RingR gp2 q.keys,ChainR x1 sp q.chain,Al R] ?_
 refine Sn (Qm (k:=Qu (OpQ.nilCheck rfl rfl) (k:=Qu (Of (fa208_3 _ _)) (k:=Qu (OpQ.loadN (i:=1) rfl rfl ld53 rfl rfl rfl) (k:=?_)))))
 refine Ru (OpRun.alloc rfl zv53 rfl) ?_
 rintro _ _ ⟨b4,rfl,rfl⟩
 refine Nf 4 fun ho5=>?_
 refine Rn (OpRun.store (i:=0) (vs:=[vint q.pol.founder,vint q.pol.epoch,mv2]) (cs':=[vint q.pol.founder,vint q.pol.epoch,mv2]) rfl rfl rfl sz53 rfl rfl (one_cons rfl (one_cons rfl (one_cons ho5 one_nil))) rfl (Lb rfl) rfl) (k:=Nw [(2,vptr b3 0),(3,vptr b4 0)] [Cl b4 53 [vint q.pol.founder,vint q.pol.epoch,mv2],Cl b3 53 [vint 0,vint 0,.slice none 0 0],Cl rp 208 (rcs sp x1 q sv2 mv2 dp2 gp2++q.seen.map vint),KB sv2 q.secret,KM mv2 q.pol.members,DocsR dp2 q.docs,RingR gp2 q.keys,ChainR x1 sp q.chain,Al R] ?_)
 refine Sn (Qu (Of (fa53_2 _ _)) (k:=Qu (Ol 0 ld51) (k:=?_)))
 refine WN.ent (ed 4 rfl) ?_
 refine WN.opens Opens.members (i:=0) rfl (fun f6 hsub=>?_)
 refine Ne [Ka 270 2 mv2 q.pol.members.length f6,Cl b4 53 [vint q.pol.founder,vint q.pol.epoch,mv2],Cl b3 53 [vint 0,vint 0,.slice none 0 0],Cl rp 208 (rcs sp x1 q sv2 mv2 dp2 gp2++q.seen.map vint),KB sv2 q.secret,KM mv2 q.pol.members,DocsR dp2 q.docs,RingR gp2 q.keys,ChainR x1 sp q.chain,Al R] ?_
 refine WN.ent (Ent.rowNil (E:=270) (sz:=2)) ?_
 refine Ne [Rw 270 2 (.slice none 0 0) ([]),Ka 270 2 mv2 q.pol.members.length f6,Cl b4 53 [vint q.pol.founder,vint q.pol.epoch,mv2],Cl b3 53 [vint 0,vint 0,.slice none 0 0],Cl rp 208 (rcs sp x1 q sv2 mv2 dp2 gp2++q.seen.map vint),KB sv2 q.secret,KM mv2 q.pol.members,DocsR dp2 q.docs,RingR gp2 q.keys,ChainR x1 sp q.chain,Al R] ?_
 refine Nr 0 fun hr9a hr9b hr9c=>?_
 try simp only [La,Lc,Ln] at hr9a
 refine Ru (OpRun.append (i:=0) (j:=1) rfl rfl rfl rfl rfl Tryz.underlying51 (inf:=Tryz.t270) (by kernel_rfl) rfl rfl rfl (by_:=16) rfl (by first | omega | (simp; omega)) (by first | omega | (simp; omega))) ?_
 rintro v7 _ ⟨h8a,h8b,rfl⟩
 refine Qu (Of (fa53_2 _ _)) (k:=Rn (OpRun.store (i:=2) (vs:=[v7]) (cs':=[vint q.pol.founder,vint q.pol.epoch,v7]) rfl rfl rfl sz51 (cells_one h8b) rfl (one_cons h8b one_nil) rfl (Lb rfl) rfl) (k:=Nw [(2,vptr b3 0),(3,vptr b4 0)] [Cl b4 53 [vint q.pol.founder,vint q.pol.epoch,v7],Rw 270 2 v7 (([])++Lk.sub f6 0 (q.pol.members.length*2)),Ka 270 2 mv2 q.pol.members.length f6,Cl b3 53 [vint 0,vint 0,.slice none 0 0],Cl rp 208 (rcs sp x1 q sv2 mv2 dp2 gp2++q.seen.map vint),KB sv2 q.secret,KM mv2 q.pol.members,DocsR dp2 q.docs,RingR gp2 q.keys,ChainR x1 sp q.chain,Al R] ?_))
 refine Sn (WN.ent (L':=[Rw 270 2 v7 (mcells q.pol.members),Cl b4 53 [vint q.pol.founder,vint q.pol.epoch,v7],Ka 270 2 mv2 q.pol.members.length f6,Cl b3 53 [vint 0,vint 0,.slice none 0 0],Cl rp 208 (rcs sp x1 q sv2 mv2 dp2 gp2++q.seen.map vint),KB sv2 q.secret,KM mv2 q.pol.members,DocsR dp2 q.docs,RingR gp2 q.keys,ChainR x1 sp q.chain,Al R]) ((es [1,0,0,0,0,0,0,0,0,0,0] rfl).trans (Ent.of_eq (by rw [List.nil_append,hsub]))) ?_)
 refine WN.ent (Ent.know (m:=CellsRel Enc.member (mcells q.pol.members) (q.pol.members)) (fun _ _ _=>mcells_rel)) ?_
 refine WN.freezeRel (e:=Enc.member) (i:=1) (j:=0) (Lb rfl) rfl rfl ?_
 refine Ne [KM v7 q.pol.members,Kx Enc.member (mcells q.pol.members) q.pol.members,Cl b4 53 [vint q.pol.founder,vint q.pol.epoch,v7],Ka 270 2 mv2 q.pol.members.length f6,Cl b3 53 [vint 0,vint 0,.slice none 0 0],Cl rp 208 (rcs sp x1 q sv2 mv2 dp2 gp2++q.seen.map vint),KB sv2 q.secret,KM mv2 q.pol.members,DocsR dp2 q.docs,RingR gp2 q.keys,ChainR x1 sp q.chain,Al R] ?_
 refine WN.ent (L':=[Cl rp 208 (rcs sp x1 q sv2 mv2 dp2 gp2++q.seen.map vint),KB sv2 q.secret,KM mv2 q.pol.members,DocsR dp2 q.docs,RingR gp2 q.keys,KM v7 q.pol.members,Kx Enc.member (mcells q.pol.members) q.pol.members,Cl b4 53 [vint q.pol.founder,vint q.pol.epoch,v7],Ka 270 2 mv2 q.pol.members.length f6,Cl b3 53 [vint 0,vint 0,.slice none 0 0],ChainR x1 sp q.chain,Al R]) (es [5,5,5,5,5,0,0,0,0,0,0,0] rfl) ?_
 refine WN.ent (L':=[ReplayO rp sp x1 q,KM v7 q.pol.members,Kx Enc.member (mcells q.pol.members) q.pol.members,Cl b4 53 [vint q.pol.founder,vint q.pol.epoch,v7],Ka 270 2 mv2 q.pol.members.length f6,Cl b3 53 [vint 0,vint 0,.slice none 0 0],ChainR x1 sp q.chain,Al R]) (Ent.rep' (sv2,mv2,dp2,gp2) rfl hfine2 rfl) ?_
 refine WN.ent (L':=[ReplayO rp sp x1 q,ChainR x1 sp q.chain,KM v7 q.pol.members,Kx Enc.member (mcells q.pol.members) q.pol.members,Cl b4 53 [vint q.pol.founder,vint q.pol.epoch,v7],Ka 270 2 mv2 q.pol.members.length f6,Cl b3 53 [vint 0,vint 0,.slice none 0 0],Al R]) (es [0,5,0,0,0,0,0,0] rfl) ?_
 refine WN.ent (L':=[ReplayR rp sp q,KM v7 q.pol.members,Kx Enc.member (mcells q.pol.members) q.pol.members,Cl b4 53 [vint q.pol.founder,vint q.pol.epoch,v7],Ka 270 2 mv2 q.pol.members.length f6,Cl b3 53 [vint 0,vint 0,.slice none 0 0],Al R]) (Ent.rep' x1 rfl trivial rfl) ?_
 refine Qu (OpQ.loadN (i:=3) rfl rfl ld53 rfl rfl rfl) (k:=Rn (OpRun.store (i:=5) (vs:=[vint q.pol.founder,vint q.pol.epoch,v7]) (cs':=[vint q.pol.founder,vint q.pol.epoch,v7]) rfl rfl rfl sz53 rfl rfl (one_cons rfl (one_cons rfl (one_cons h8b one_nil))) rfl (Lb rfl) rfl) (k:=Nw [(2,vptr b3 0)] [Cl b3 53 [vint q.pol.founder,vint q.pol.epoch,v7],ReplayR rp sp q,KM v7 q.pol.members,Kx Enc.member (mcells q.pol.members) q.pol.members,Cl b4 53 [vint q.pol.founder,vint q.pol.epoch,v7],Ka 270 2 mv2 q.pol.members.length f6,Al R] ?_))
 refine W.ret (retC (M:=[KM v7 q.pol.members,ReplayR rp sp q]) (i:=0) rfl rfl rfl rfl ld53 (⟨v7,rfl,rfl⟩) (es [2,1,4] rfl))
theorem repDocs_fn (rp:Nat) (sp:Nat) (q:Rep):Fn Tryz.prog 31 #[vptr rp 0] [ReplayR rp sp q] (fun v M=>∃ (dq:Nat),vptr dq 0=v∧M=[DocsR dq q.docs,ReplayR rp sp q]):=by
 refine Fi 8 Tryz.func31 fun g R=>?_
 refine Ww [(0,vptr rp 0)] [ReplayR rp sp q,Al R] ?_
 refine W.opens Opens.rep (i:=0) rfl (fun x1 _=>?_)
 refine We [ReplayO rp sp x1 q,ChainR x1 sp q.chain,Al R] ?_
 refine W.opens Opens.rep (i:=0) rfl (fun x2 hfine2=>?_)
 obtain ⟨sv2,mv2,dp2,gp2⟩:=x2
 refine We [Cl rp 208 (rcs sp x1 q sv2 mv2 dp2 gp2++q.seen.map vint),KB sv2 q.secret,KM mv2 q.pol.members,DocsR dp2 q.docs,RingR gp2 q.keys,ChainR x1 sp q.chain,Al R] ?_
 have hfine2u:=hfine2; unfold Rep.fine at hfine2u
 obtain ⟨hfine2a,hfine2b,hfine2c,hfine2d,hfine2e,hfine2f,hfine2g,hfine2h⟩:=hfine2u
 refine Sn (Qa (k:=Nl [(0,vptr rp 0),(2,.pointer none)] ?_))
 refine Sn (Qm (k:=Qu (OpQ.nilCheck rfl rfl) (k:=Qu (Of (fa208_4 _ _)) (k:=Qu (Ol 0 ld56) (k:=?_)))))
 refine Wc [.tmp 6] [vptr dp2 0] Tryz.call118 (docsClone_fn dp2 q.docs) (ep [3] rfl) ?_
 rintro _ _ ⟨dq3,rfl,rfl⟩
 refine Qa (k:=Nw [(2,vptr dq3 0)] [DocsR dq3 q.docs,DocsR dp2 q.docs,Cl rp 208 (rcs sp x1 q sv2 mv2 dp2 gp2++q.seen.map vint),KB sv2 q.secret,KM mv2 q.pol.members,RingR gp2 q.keys,ChainR x1 sp q.chain,Al R] ?_)
 refine W.ent (L':=[Cl rp 208 (rcs sp x1 q sv2 mv2 dp2 gp2++q.seen.map vint),KB sv2 q.secret,KM mv2 q.pol.members,DocsR dp2 q.docs,RingR gp2 q.keys,DocsR dq3 q.docs,ChainR x1 sp q.chain,Al R]) (es [2,2,2,1,1,0,0,0] rfl) ?_
 refine W.ent (L':=[ReplayO rp sp x1 q,DocsR dq3 q.docs,ChainR x1 sp q.chain,Al R]) (Ent.rep' (sv2,mv2,dp2,gp2) rfl hfine2 rfl) ?_
 refine W.ent (L':=[ReplayO rp sp x1 q,ChainR x1 sp q.chain,DocsR dq3 q.docs,Al R]) (es [0,1,0,0] rfl) ?_
 refine W.ent (L':=[ReplayR rp sp q,DocsR dq3 q.docs,Al R]) (Ent.rep' x1 rfl trivial rfl) ?_
 refine W.ret (ret1 (M:=[DocsR dq3 q.docs,ReplayR rp sp q]) rfl rfl (⟨dq3,rfl,rfl⟩) (es [1,0,0] rfl))
theorem repKey_fn (rp:Nat) (sp:Nat) (q:Rep) (epoch:Int):Fn Tryz.prog 100 #[vptr rp 0,vint epoch] [ReplayR rp sp q] (fun v M=>(∃ (z:Value) (k:Bytes),Spec.ringKey q.keys epoch=some k∧k.length=32∧.tuple #[z,.bool true]=v∧M=[KB z k,ReplayR rp sp q])∨(Spec.ringKey q.keys epoch=none∧.tuple #[.slice none 0 0,.bool false]=v∧M=[ReplayR rp sp q])):=by
 refine Fi 14 Tryz.func100 fun g R=>?_
 refine Ww [(0,vptr rp 0),(1,vint epoch)] [ReplayR rp sp q,Al R] ?_
 refine W.opens Opens.rep (i:=0) rfl (fun x1 _=>?_)
 refine We [ReplayO rp sp x1 q,ChainR x1 sp q.chain,Al R] ?_
 refine W.opens Opens.rep (i:=0) rfl (fun x2 hfine2=>?_)
 obtain ⟨sv2,mv2,dp2,gp2⟩:=x2
 refine We [Cl rp 208 (rcs sp x1 q sv2 mv2 dp2 gp2++q.seen.map vint),KB sv2 q.secret,KM mv2 q.pol.members,DocsR dp2 q.docs,RingR gp2 q.keys,ChainR x1 sp q.chain,Al R] ?_
 have hfine2u:=hfine2; unfold Rep.fine at hfine2u
 obtain ⟨hfine2a,hfine2b,hfine2c,hfine2d,hfine2e,hfine2f,hfine2g,hfine2h⟩:=hfine2u
 refine Sn (Qa (k:=Qa (k:=Nl [(0,vptr rp 0),(1,vint epoch),(4,N0),(5,.bool false)] ?_)))
 refine Sn (Qm (k:=Qu (OpQ.nilCheck rfl rfl) (k:=Qu (Of (fa208_5 _ _)) (k:=Qu (Ol 0 ld206) (k:=Qm (k:=?_))))))
 refine Wc [.tmp 9,.tmp 10] [vptr gp2 0,vint epoch] Tryz.call183 (ringKey_fn gp2 q.keys epoch) (ep [4] rfl) ?_
 rintro _ _ (⟨z3,k4,h5,h6,rfl,rfl⟩ | ⟨h7,rfl,rfl⟩)
 ·refine Qe (k:=Qe (k:=Qa (k:=Qa (k:=Nw [(4,z3),(5,.bool true)] [KB z3 k4,RingR gp2 q.keys,Cl rp 208 (rcs sp x1 q sv2 mv2 dp2 gp2++q.seen.map vint),KB sv2 q.secret,KM mv2 q.pol.members,DocsR dp2 q.docs,ChainR x1 sp q.chain,Al R] ?_))))
  refine W.ent (L':=[Cl rp 208 (rcs sp x1 q sv2 mv2 dp2 gp2++q.seen.map vint),KB sv2 q.secret,KM mv2 q.pol.members,DocsR dp2 q.docs,RingR gp2 q.keys,KB z3 k4,ChainR x1 sp q.chain,Al R]) (es [2,2,2,2,1,0,0,0] rfl) ?_
  refine W.ent (L':=[ReplayO rp sp x1 q,KB z3 k4,ChainR x1 sp q.chain,Al R]) (Ent.rep' (sv2,mv2,dp2,gp2) rfl hfine2 rfl) ?_
  refine W.ent (L':=[ReplayO rp sp x1 q,ChainR x1 sp q.chain,KB z3 k4,Al R]) (es [0,1,0,0] rfl) ?_
  refine W.ent (L':=[ReplayR rp sp q,KB z3 k4,Al R]) (Ent.rep' x1 rfl trivial rfl) ?_
  refine W.ret (ret2 (M:=[KB z3 k4,ReplayR rp sp q]) rfl rfl rfl (.inl ⟨z3,k4,(by first | assumption | rfl | omega | (simp; done) | (simp; omega) | (simp [*]; done) | (simp [*]; omega)),(by first | assumption | rfl | omega | (simp; done) | (simp; omega) | (simp [*]; done) | (simp [*]; omega)),rfl,rfl⟩) (es [1,0,0] rfl))
 refine Qe (k:=Qe (k:=Qa (k:=Qa (k:=Nw [(4,N0),(5,.bool false)] [RingR gp2 q.keys,Cl rp 208 (rcs sp x1 q sv2 mv2 dp2 gp2++q.seen.map vint),KB sv2 q.secret,KM mv2 q.pol.members,DocsR dp2 q.docs,ChainR x1 sp q.chain,Al R] ?_))))
 refine W.ent (L':=[Cl rp 208 (rcs sp x1 q sv2 mv2 dp2 gp2++q.seen.map vint),KB sv2 q.secret,KM mv2 q.pol.members,DocsR dp2 q.docs,RingR gp2 q.keys,ChainR x1 sp q.chain,Al R]) (es [1,1,1,1,0,0,0] rfl) ?_
 refine W.ent (L':=[ReplayO rp sp x1 q,ChainR x1 sp q.chain,Al R]) (Ent.rep' (sv2,mv2,dp2,gp2) rfl hfine2 rfl) ?_
 refine W.ent (L':=[ReplayO rp sp x1 q,ChainR x1 sp q.chain,Al R]) (es [0,0,0] rfl) ?_
 refine W.ent (L':=[ReplayR rp sp q,Al R]) (Ent.rep' x1 rfl trivial rfl) ?_
 refine W.ret (ret2 (M:=[ReplayR rp sp q]) rfl rfl rfl (.inr (⟨(by first | assumption | rfl | omega | (simp; done) | (simp; omega) | (simp [*]; done) | (simp [*]; omega)),rfl,rfl⟩)) (es [0,0] rfl))
theorem repSeen_fn (rp:Nat) (sp:Nat) (q:Rep) (wr:Int):Fn Tryz.prog 104 #[vptr rp 0,vint wr] [ReplayR rp sp q] (fun v M=>vint (Spec.seenOf q wr)=v∧M=[ReplayR rp sp q]):=by
 refine Fi 17 Tryz.func104 fun g R=>?_
 refine Ww [(0,vptr rp 0),(1,vint wr)] [ReplayR rp sp q,Al R] ?_
 refine W.opens Opens.rep (i:=0) rfl (fun x1 _=>?_)
 refine We [ReplayO rp sp x1 q,ChainR x1 sp q.chain,Al R] ?_
 refine W.opens Opens.rep (i:=0) rfl (fun x2 hfine2=>?_)
 obtain ⟨sv2,mv2,dp2,gp2⟩:=x2
 refine We [Cl rp 208 (rcs sp x1 q sv2 mv2 dp2 gp2++q.seen.map vint),KB sv2 q.secret,KM mv2 q.pol.members,DocsR dp2 q.docs,RingR gp2 q.keys,ChainR x1 sp q.chain,Al R] ?_
 have hfine2u:=hfine2; unfold Rep.fine at hfine2u
 obtain ⟨hfine2a,hfine2b,hfine2c,hfine2d,hfine2e,hfine2f,hfine2g,hfine2h⟩:=hfine2u
 refine Sn (Qa (k:=Nl [(0,vptr rp 0),(1,vint wr),(4,vint 0)] ?_))
 refine W.seq (Sn (Qm (k:=?_)))
 by_cases h3:wr < 0
 ·refine Qu (OpQ.decT (OpQ.lss rfl rfl rfl) h3) (k:=Qm (k:=Qs (k:=Qs (k:=Qt (k:=Nl [(0,vptr rp 0),(1,vint wr),(4,vint 0),(10,.bool true)] ?_)))))
  refine W.condT rfl ?_
  refine Sn (Qa (k:=Nl [(0,vptr rp 0),(1,vint wr),(4,vint 0)] ?_))
  refine W.ent (L':=[Cl rp 208 (rcs sp x1 q sv2 mv2 dp2 gp2++q.seen.map vint),KB sv2 q.secret,KM mv2 q.pol.members,DocsR dp2 q.docs,RingR gp2 q.keys,ChainR x1 sp q.chain,Al R]) (es [0,0,0,0,0,0,0] rfl) ?_
  refine W.ent (L':=[ReplayO rp sp x1 q,ChainR x1 sp q.chain,Al R]) (Ent.rep' (sv2,mv2,dp2,gp2) rfl hfine2 rfl) ?_
  refine W.ent (L':=[ReplayO rp sp x1 q,ChainR x1 sp q.chain,Al R]) (es [0,0,0] rfl) ?_
  refine W.ent (L':=[ReplayR rp sp q,Al R]) (Ent.rep' x1 rfl trivial rfl) ?_
  refine W.ret (thn_r (ret1 (M:=[ReplayR rp sp q]) rfl rfl (⟨(congrArg vint (by unfold Spec.seenOf; rw [if_pos (by omega)])),rfl⟩) (es [0,0] rfl)))
 refine Qu (OpQ.decF (OpQ.lss rfl rfl rfl) h3) (k:=Qm (k:=Qm (k:=Qu (OpQ.gtr rfl rfl rfl) (k:=Qf (k:=Nl [(0,vptr rp 0),(1,vint wr),(4,vint 0),(10,.bool (decide (wr > 16)))] ?_)))))
 refine Cp rfl (fun h4=>?_) (fun h4=>?_)
 ·refine Sn (Qa (k:=Nl [(0,vptr rp 0),(1,vint wr),(4,vint 0)] ?_))
  refine W.ent (L':=[Cl rp 208 (rcs sp x1 q sv2 mv2 dp2 gp2++q.seen.map vint),KB sv2 q.secret,KM mv2 q.pol.members,DocsR dp2 q.docs,RingR gp2 q.keys,ChainR x1 sp q.chain,Al R]) (es [0,0,0,0,0,0,0] rfl) ?_
  refine W.ent (L':=[ReplayO rp sp x1 q,ChainR x1 sp q.chain,Al R]) (Ent.rep' (sv2,mv2,dp2,gp2) rfl hfine2 rfl) ?_
  refine W.ent (L':=[ReplayO rp sp x1 q,ChainR x1 sp q.chain,Al R]) (es [0,0,0] rfl) ?_
  refine W.ent (L':=[ReplayR rp sp q,Al R]) (Ent.rep' x1 rfl trivial rfl) ?_
  refine W.ret (thn_r (ret1 (M:=[ReplayR rp sp q]) rfl rfl (⟨(congrArg vint (by unfold Spec.seenOf; rw [if_pos (by omega)])),rfl⟩) (es [0,0] rfl)))
 refine W.skip (thn_n (Wl [(0,vptr rp 0),(1,vint wr),(4,vint 0)] ?_))
 refine Sn (Qm (k:=Qm (k:=Qu (OpQ.nilCheck rfl rfl) (k:=Qu (Of (fa208_6 _ _)) (k:=Qu (OpQ.indexArr (m:=17) (E:=3) (sz:=1) (jj:=11+wr.toNat*1) rfl rfl rfl (by omega) (by omega) (by omega) Tryz.runUnderlying109 sz3) (k:=Qu (OpQ.load1 (i:=0) rfl rfl ld3 rfl (tail_at (k:=wr.toNat) rfl (by omega))) (k:=Qa (k:=Nl [(4,vint (q.seen.getD wr.toNat 0))] ?_))))))))
 refine W.ent (L':=[Cl rp 208 (rcs sp x1 q sv2 mv2 dp2 gp2++q.seen.map vint),KB sv2 q.secret,KM mv2 q.pol.members,DocsR dp2 q.docs,RingR gp2 q.keys,ChainR x1 sp q.chain,Al R]) (es [0,0,0,0,0,0,0] rfl) ?_
 refine W.ent (L':=[ReplayO rp sp x1 q,ChainR x1 sp q.chain,Al R]) (Ent.rep' (sv2,mv2,dp2,gp2) rfl hfine2 rfl) ?_
 refine W.ent (L':=[ReplayO rp sp x1 q,ChainR x1 sp q.chain,Al R]) (es [0,0,0] rfl) ?_
 refine W.ent (L':=[ReplayR rp sp q,Al R]) (Ent.rep' x1 rfl trivial rfl) ?_
 refine W.ret (ret1 (M:=[ReplayR rp sp q]) rfl rfl (⟨(congrArg vint (by unfold Spec.seenOf; rw [if_neg (by omega)])),rfl⟩) (es [0,0] rfl))
end Go.Lk
open Go.Proofs
namespace Go.Lk
theorem replay_fine {g:G} {w:World} {L R:List Asn} {i rp sp:Nat} {r:Rep} (hL:take1 i L=some (ReplayR rp sp r,R)) (s:Sat g w L):r.fine:=by
  obtain ⟨cp,_,s1⟩:=Sat.opens Opens.rep hL s
  obtain ⟨x,hx,_⟩:=Sat.opens (i:=0) Opens.rep rfl s1
  exact hx
namespace Spec
theorem learn_at {s:Bytes} {who ep:Int} {ws:List Wrap} {k:Nat} {keys:List (Option Bytes)} {A:List Thing} (hk:k < ws.length) :
    learn s who ep (ws.drop k) keys A=if (ws.getD k default).who≠who then learn s who ep (ws.drop (k+1)) keys A else
      match unwrap A s (ws.getD k default).who ep (ws.getD k default).box with
      | (.ok x,A)=>learn s who ep (ws.drop (k+1)) (ringLearn keys ep x).2 A
      | (.error _,A)=>learn s who ep (ws.drop (k+1)) keys A:=by
  rw [drop_getD (d:=default) hk,learn]; rfl
theorem foldl_at {α β:Type} {f:β→α→β} {xs:List α} {k:Nat} {d:α} {b:β} (hk:k < xs.length):(xs.drop k).foldl f b=(xs.drop (k+1)).foldl f (f b (xs.getD k d)):=by
  rw [drop_getD (d:=d) hk,List.foldl_cons]
end Spec
end Go.Lk
open Go.Proofs
set_option maxRecDepth 8000
namespace Go.Lk
open Asn renaming cells→Cl,row→Rw,kn→Kk,all→Al
theorem fa208_0:∀ (b k:Nat) (w:World),(Instr.fieldAt 208 (vptr b k) 0).run Tryz.prog w = .ok (vptr b (k)) w:=fun _ _ _=>by kernel_rfl
theorem fa208_1:∀ (b k:Nat) (w:World),(Instr.fieldAt 208 (vptr b k) 1).run Tryz.prog w = .ok (vptr b (k+1)) w:=fun _ _ _=>by kernel_rfl
theorem repLearn_fn (rp:Nat) (sp:Nat) (q:Rep) (e:Entry) (nv:Value) (vv:Value) (wv:Value) (A:List Thing) (hA:A.length+e.wraps.length < 1099511627770) (hw:e.wraps.length≤1000000):Fn Tryz.prog 197 #[vptr rp 0,.agg #[vint e.kind,vint e.writer,vint e.seq,nv,vv,vint e.who,vint e.rights,vint e.epoch,wv]] [ReplayR rp sp q,SuiteR sp A,KB nv e.name,KB vv e.value,KW wv e.wraps] (fun v M=>∃ (ks:List (Option Bytes)) (A':List Thing),Spec.learn q.secret q.who e.epoch e.wraps q.keys A=(ks,A')∧A'.length≤A.length+e.wraps.length∧.tuple #[]=v∧M=[ReplayR rp sp ({ q with keys:=ks }:Rep),SuiteR sp A']):=by
 refine Fi 53 Tryz.func197 fun g R=>?_
 refine Ww [(0,vptr rp 0),(1,.agg #[vint e.kind,vint e.writer,vint e.seq,nv,vv,vint e.who,vint e.rights,vint e.epoch,wv])] [ReplayR rp sp q,SuiteR sp A,KB nv e.name,KB vv e.value,KW wv e.wraps,Al R] ?_
 refine W.opens Opens.rep (i:=0) rfl (fun x1 _=>?_)
 refine We [ReplayO rp sp x1 q,ChainR x1 sp q.chain,SuiteR sp A,KB nv e.name,KB vv e.value,KW wv e.wraps,Al R] ?_
 refine W.opens Opens.rep (i:=0) rfl (fun x2 hfine2=>?_)
 obtain ⟨sv2,mv2,dp2,gp2⟩:=x2
 refine We [Cl rp 208 (rcs sp x1 q sv2 mv2 dp2 gp2++q.seen.map vint),KB sv2 q.secret,KM mv2 q.pol.members,DocsR dp2 q.docs,RingR gp2 q.keys,ChainR x1 sp q.chain,SuiteR sp A,KB nv e.name,KB vv e.value,KW wv e.wraps,Al R] ?_
 have hfine2u:=hfine2; unfold Rep.fine at hfine2u
 obtain ⟨hfine2a,hfine2b,hfine2c,hfine2d,hfine2e,hfine2f,hfine2g,hfine2h⟩:=hfine2u
 refine Sn (Ru (OpRun.box rfl rfl rfl) ?_)
 rintro _ _ ⟨b3,rfl,rfl⟩
 refine Nw [(0,vptr rp 0),(3,vptr b3 0)] [Cl b3 33 (ecs e nv vv wv),Cl rp 208 (rcs sp x1 q sv2 mv2 dp2 gp2++q.seen.map vint),KB sv2 q.secret,KM mv2 q.pol.members,DocsR dp2 q.docs,RingR gp2 q.keys,ChainR x1 sp q.chain,SuiteR sp A,KB nv e.name,KB vv e.value,KW wv e.wraps,Al R] ?_
 refine Sn (Qu (Of (fa33_8 _ _)) (k:=Qu (Ol 0 ld31) (k:=?_)))
 refine Nk 10 fun hl4=>?_
 refine Qu (OpQ.lenSl (i:=10) rfl rfl rfl (len31 _)) (k:=Qm (k:=Nl [(0,vptr rp 0),(3,vptr b3 0),(9,wv),(10,vint (e.wraps.length:Int)),(11,vint 0)] ?_))
 refine W.block (W.opens Opens.sl (i:=10) rfl (fun f5 _=>?_))
 refine We [Ka 227 2 wv e.wraps.length f5,Kr Enc.wrap f5 e.wraps,Cl b3 33 (ecs e nv vv wv),Cl rp 208 (rcs sp x1 q sv2 mv2 dp2 gp2++q.seen.map vint),KB sv2 q.secret,KM mv2 q.pol.members,DocsR dp2 q.docs,RingR gp2 q.keys,ChainR x1 sp q.chain,SuiteR sp A,KB nv e.name,KB vv e.value,Al R] ?_
 refine W.loop (X:=Nat × List (Option Bytes) × List Thing) (fun x=>match x with | (k,ks2,A2)=>[(0,vptr rp 0),(3,vptr b3 0),(9,wv),(10,vint (e.wraps.length:Int)),(11,vint (k:Int))]) (fun x=>match x with | (k,ks2,A2)=>[Asn.pure (k≤e.wraps.length∧Spec.learn q.secret q.who e.epoch e.wraps q.keys A=Spec.learn q.secret q.who e.epoch (e.wraps.drop k) ks2 A2∧A2.length≤A.length+k),RingR gp2 ks2,SuiteR sp A2,Ka 227 2 wv e.wraps.length f5,Kr Enc.wrap f5 e.wraps,Cl b3 33 (ecs e nv vv wv),Cl rp 208 (rcs sp x1 q sv2 mv2 dp2 gp2++q.seen.map vint),KB sv2 q.secret,KM mv2 q.pol.members,DocsR dp2 q.docs,ChainR x1 sp q.chain,KB nv e.name,KB vv e.value,Al R]) (fun x=>match x with | (k,ks2,A2)=>e.wraps.length - k) (0,q.keys,A) ⟨rfl,rfl,rfl,rfl,rfl,trivial⟩ ((es [7,8,0,0,0,0,0,0,0,0,0,0,0] rfl).trans (Ent.pure_in (by exact ⟨Nat.zero_le _,rfl,by omega⟩))) (fun x=>?_)
 obtain ⟨k,ks2,A2⟩:=x
 show W _ _ _ _ _ [(0,vptr rp 0),(3,vptr b3 0),(9,wv),(10,vint (e.wraps.length:Int)),(11,vint (k:Int))] [Asn.pure (k≤e.wraps.length∧Spec.learn q.secret q.who e.epoch e.wraps q.keys A=Spec.learn q.secret q.who e.epoch (e.wraps.drop k) ks2 A2∧A2.length≤A.length+k),RingR gp2 ks2,SuiteR sp A2,Ka 227 2 wv e.wraps.length f5,Kr Enc.wrap f5 e.wraps,Cl b3 33 (ecs e nv vv wv),Cl rp 208 (rcs sp x1 q sv2 mv2 dp2 gp2++q.seen.map vint),KB sv2 q.secret,KM mv2 q.pol.members,DocsR dp2 q.docs,ChainR x1 sp q.chain,KB nv e.name,KB vv e.value,Al R]
 refine W.opens Opens.pure (i:=0) rfl (fun _ hI6=>?_)
 replace hI6:=hI6
 show W _ _ _ _ _ [(0,vptr rp 0),(3,vptr b3 0),(9,wv),(10,vint (e.wraps.length:Int)),(11,vint (k:Int))] [RingR gp2 ks2,SuiteR sp A2,Ka 227 2 wv e.wraps.length f5,Kr Enc.wrap f5 e.wraps,Cl b3 33 (ecs e nv vv wv),Cl rp 208 (rcs sp x1 q sv2 mv2 dp2 gp2++q.seen.map vint),KB sv2 q.secret,KM mv2 q.pol.members,DocsR dp2 q.docs,ChainR x1 sp q.chain,KB nv e.name,KB vv e.value,Al R]
 refine Sn (Qu (OpQ.lss rfl rfl rfl) (k:=Nl [(0,vptr rp 0),(3,vptr b3 0),(9,wv),(10,vint (e.wraps.length:Int)),(11,vint (k:Int)),(12,.bool (decide ((k:Int) < (e.wraps.length:Int))))] ?_))
 refine W.seq (Cp rfl (fun h7=>?_) (fun h7=>?_))
 ·refine W.skip (thn_n (Wl [(0,vptr rp 0),(3,vptr b3 0),(9,wv),(10,vint (e.wraps.length:Int)),(11,vint (k:Int))] ?_))
  refine W.seq (W.block (W.seq (W.region ?_)))
  have hIl:=hI6.2.2
  refine WN.opens (Opens.wrap (xs:=e.wraps) (i:=k) (by omega)) (i:=3) rfl (fun z he8=>?_)
  refine Ne [KB z ((e.wraps.getD k default).box),Kr Enc.wrap f5 e.wraps,RingR gp2 ks2,SuiteR sp A2,Ka 227 2 wv e.wraps.length f5,Cl b3 33 (ecs e nv vv wv),Cl rp 208 (rcs sp x1 q sv2 mv2 dp2 gp2++q.seen.map vint),KB sv2 q.secret,KM mv2 q.pol.members,DocsR dp2 q.docs,ChainR x1 sp q.chain,KB nv e.name,KB vv e.value,Al R] (Qu (OpQ.indexAddr (i:=4) (j:=k*2) rfl rfl rfl rfl (by omega) (by omega) (by omega) ix31) (k:=Qu (OpQ.loadSubN (i:=4) rfl rfl rfl he8 rfl (by omega) (by decide) ld227) (k:=?_)))
  refine Ru (OpRun.alloc rfl zv227 rfl) ?_
  rintro _ _ ⟨b9,rfl,rfl⟩
  refine Nf 1 fun ho10=>?_
  refine Rn (OpRun.store (i:=0) (vs:=[vint ((e.wraps.getD k default).who),z]) (cs':=[vint ((e.wraps.getD k default).who),z]) rfl rfl rfl sz227 rfl rfl (one_cons rfl (one_cons ho10 one_nil)) rfl (Lb rfl) rfl) (k:=Nw [(0,vptr rp 0),(3,vptr b3 0),(5,vptr b9 0),(9,wv),(10,vint (e.wraps.length:Int)),(11,vint (k:Int))] [Cl b9 227 [vint ((e.wraps.getD k default).who),z],KB z ((e.wraps.getD k default).box),Kr Enc.wrap f5 e.wraps,RingR gp2 ks2,SuiteR sp A2,Ka 227 2 wv e.wraps.length f5,Cl b3 33 (ecs e nv vv wv),Cl rp 208 (rcs sp x1 q sv2 mv2 dp2 gp2++q.seen.map vint),KB sv2 q.secret,KM mv2 q.pol.members,DocsR dp2 q.docs,ChainR x1 sp q.chain,KB nv e.name,KB vv e.value,Al R] ?_)
  refine W.seq (W.seq (W.drawG mixed ?_))
  refine Gq 0 [] rfl (Of (fa227_0 _ _)) ?_
  refine WG.hold (Cl b9 227 [vint ((e.wraps.getD k default).who),z],[]) ?_
  refine Gq 1 [0] rfl (Ol 0 ld3) ?_
  refine Gq 2 [0] rfl (OpQ.move rfl rfl) ?_
  refine Gq 3 [0] rfl (OpQ.nilCheck rfl rfl) ?_
  refine Gq 4 [0] rfl (Of (fa208_1 _ _)) ?_
  refine Gq 5 [0] rfl (Of (fa24_2 _ _)) ?_
  refine WG.hold (Cl rp 208 (rcs sp x1 q sv2 mv2 dp2 gp2++q.seen.map vint),[]) ?_
  refine Gq 6 [7,0] rfl (Ol 0 ld3) ?_
  refine Gq 7 [7,0] rfl (OpQ.neq rfl rfl rfl) ?_
  refine WG.done (by kernel_rfl) ?_
  refine thn_n (Wl [(0,vptr rp 0),(3,vptr b3 0),(5,vptr b9 0),(9,wv),(10,vint (e.wraps.length:Int)),(11,vint (k:Int)),(22,.bool (decide ((e.wraps.getD k default).who≠q.who)))] ?_)
  refine Cp rfl (fun h11=>?_) (fun h11=>?_)
  ·refine W.exit (thn_x (inblk_x (thn_n (Wl [(0,vptr rp 0),(3,vptr b3 0),(9,wv),(10,vint (e.wraps.length:Int)),(11,vint (k:Int))] ?_))))
   refine W.region (Qu (OpQ.add rfl rfl rfl ⟨by omega,by omega⟩) (k:=?_))
   refine Qm (k:=?_)
   refine WN.nil (thn_n ⟨(k+1,ks2,A2),by (show e.wraps.length - (k+1) < e.wraps.length - k); omega,⟨rfl,rfl,rfl,rfl,(Eq.trans (b:=some (vint ((k:Int)+1))) rfl (by first | rfl | (congr 2; omega))),trivial⟩,?_⟩)
   exact (es [3,3,3,2,2,2,2,2,2,2,2,2,2] rfl).trans (Ent.pure_in (by refine ⟨by omega,?_,by omega⟩; rw [hI6.2.1,Spec.learn_at (by omega)]; rw [if_pos h11]))
  refine W.skip (thn_n (Wl [(0,vptr rp 0),(3,vptr b3 0),(5,vptr b9 0),(9,wv),(10,vint (e.wraps.length:Int)),(11,vint (k:Int))] ?_))
  refine W.seq (W.drawG mixed ?_)
  refine Gq 0 [] rfl (OpQ.move rfl rfl) ?_
  refine Gq 1 [] rfl (OpQ.nilCheck rfl rfl) ?_
  refine Gq 2 [] rfl (Of (fa208_0 _ _)) ?_
  refine WG.hold (Cl rp 208 (rcs sp x1 q sv2 mv2 dp2 gp2++q.seen.map vint),[]) ?_
  refine Gq 3 [7] rfl (Ol 0 ld40) ?_
  refine Gq 4 [7] rfl (OpQ.move rfl rfl) ?_
  refine Gq 5 [7] rfl (OpQ.nilCheck rfl rfl) ?_
  refine Gq 6 [7] rfl (Of (fa208_1 _ _)) ?_
  refine Gq 7 [7] rfl (Of (fa24_3 _ _)) ?_
  refine Gq 8 [7] rfl (Ol 0 ld22) ?_
  refine Gq 9 [7] rfl (Of (fa227_0 _ _)) ?_
  refine WG.hold (Cl b9 227 [vint ((e.wraps.getD k default).who),z],[]) ?_
  refine Gq 10 [0,6] rfl (Ol 0 ld3) ?_
  refine Gq 11 [0,6] rfl (Of (fa33_7 _ _)) ?_
  refine WG.hold (Cl b3 33 (ecs e nv vv wv),[]) ?_
  refine Gq 12 [6,0,5] rfl (Ol 0 ld3) ?_
  refine Gq 13 [6,0,5] rfl (Of (fa227_1 _ _)) ?_
  refine Gq 14 [6,0,5] rfl (Ol 1 ld22) ?_
  refine WG.one (i:=15) (by kernel_rfl) (UpG.call rfl rfl rfl (OpCall.mk (xs:=[.tmp 27,.tmp 32,.tmp 34,.tmp 36,.tmp 38]) (vs:=[vptr sp 0,sv2,vint ((e.wraps.getD k default).who),vint e.epoch,z]) rfl ⟨rfl,rfl,rfl,rfl,rfl,trivial⟩ Tryz.call271) (Unwrap_fn sp A2 sv2 q.secret ((e.wraps.getD k default).who) e.epoch z ((e.wraps.getD k default).box) (by first | omega | (simp; done) | (simp; omega) | (simp at *; omega))) ((ed 8 rfl).trans ((ed 2 rfl).trans (ep [6,1,0] rfl))) ?_)
  rintro _ _ (⟨r12,x13,A14,h15,h16,h17,rfl,rfl⟩ | ⟨e18,A19,h20,h21,h22,rfl,rfl⟩)
  ·refine ⟨es [7,2,6] rfl,?_⟩
   refine Gq 16 [7,2,6] rfl (OpQ.move rfl rfl) ?_
   refine Gq 17 [7,2,6] rfl (OpQ.extract rfl rfl rfl) ?_
   refine Gq 18 [7,2,6] rfl (OpQ.extract rfl rfl rfl) ?_
   refine Gq 19 [7,2,6] rfl (OpQ.assign rfl rfl) ?_
   refine Gq 20 [7,2,6] rfl (OpQ.assign rfl rfl) ?_
   refine WG.done (by kernel_rfl) ?_
   refine thn_n (Ww [(0,vptr rp 0),(3,vptr b3 0),(6,r12),(7,vint 0),(9,wv),(10,vint (e.wraps.length:Int)),(11,vint (k:Int))] [KB r12 x13,SuiteR sp A14,Cl b9 227 [vint ((e.wraps.getD k default).who),z],KB z ((e.wraps.getD k default).box),Kr Enc.wrap f5 e.wraps,RingR gp2 ks2,Ka 227 2 wv e.wraps.length f5,Cl b3 33 (ecs e nv vv wv),Cl rp 208 (rcs sp x1 q sv2 mv2 dp2 gp2++q.seen.map vint),KB sv2 q.secret,KM mv2 q.pol.members,DocsR dp2 q.docs,ChainR x1 sp q.chain,KB nv e.name,KB vv e.value,Al R] ?_)
   refine Sn (Qm (k:=Qu (OpQ.eql rfl rfl rfl) (k:=Nl [(0,vptr rp 0),(3,vptr b3 0),(6,r12),(9,wv),(10,vint (e.wraps.length:Int)),(11,vint (k:Int)),(43,.bool (decide ((0:Int)=0)))] ?_)))
   refine Cp rfl (fun h23=>?_) (fun h23=>absurd (by decide) h23)
   refine W.drawG mixed ?_
   refine Gq 0 [] rfl (OpQ.move rfl rfl) ?_
   refine Gq 1 [] rfl (OpQ.nilCheck rfl rfl) ?_
   refine Gq 2 [] rfl (Of (fa208_5 _ _)) ?_
   refine WG.hold (Cl rp 208 (rcs sp x1 q sv2 mv2 dp2 gp2++q.seen.map vint),[]) ?_
   refine Gq 3 [8] rfl (Ol 0 ld206) ?_
   refine Gq 4 [8] rfl (Of (fa33_7 _ _)) ?_
   refine WG.hold (Cl b3 33 (ecs e nv vv wv),[]) ?_
   refine Gq 5 [7,7] rfl (Ol 0 ld3) ?_
   refine Gq 6 [7,7] rfl (OpQ.move rfl rfl) ?_
   refine WG.one (i:=7) (by kernel_rfl) (UpG.call rfl rfl rfl (OpCall.mk (xs:=[.tmp 47,.tmp 49,.tmp 50]) (vs:=[vptr gp2 0,vint e.epoch,r12]) rfl ⟨rfl,rfl,rfl,trivial⟩ Tryz.call272) (ringLearn_fn gp2 ks2 e.epoch r12 x13) ((ed 0 rfl).trans (ep [6,0] rfl)) ?_)
   rintro _ _ ⟨e24,keys25,h26,rfl,rfl⟩
   refine ⟨es [7,7] rfl,?_⟩
   refine WG.done (by kernel_rfl) ?_
   refine inblk_n (thn_n (Ww [(0,vptr rp 0),(3,vptr b3 0),(9,wv),(10,vint (e.wraps.length:Int)),(11,vint (k:Int))] [RingR gp2 keys25,KB r12 x13,SuiteR sp A14,Cl b9 227 [vint ((e.wraps.getD k default).who),z],KB z ((e.wraps.getD k default).box),Kr Enc.wrap f5 e.wraps,Ka 227 2 wv e.wraps.length f5,Cl b3 33 (ecs e nv vv wv),Cl rp 208 (rcs sp x1 q sv2 mv2 dp2 gp2++q.seen.map vint),KB sv2 q.secret,KM mv2 q.pol.members,DocsR dp2 q.docs,ChainR x1 sp q.chain,KB nv e.name,KB vv e.value,Al R] ?_))
   refine W.region (Qu (OpQ.add rfl rfl rfl ⟨by omega,by omega⟩) (k:=?_))
   refine Qm (k:=?_)
   refine WN.nil (thn_n ⟨(k+1,keys25,A14),by (show e.wraps.length - (k+1) < e.wraps.length - k); omega,⟨rfl,rfl,rfl,rfl,(Eq.trans (b:=some (vint ((k:Int)+1))) rfl (by first | rfl | (congr 2; omega))),trivial⟩,?_⟩)
   exact (es [0,1,4,3,3,3,3,3,3,3,3,3,3] rfl).trans (Ent.pure_in (by refine ⟨by omega,?_,by omega⟩; rw [hI6.2.1,Spec.learn_at (by omega)]; rw [if_neg h11]; simp only [h15]; rw [h26]))
  refine ⟨es [6,1,5] rfl,?_⟩
  refine Gq 16 [6,1,5] rfl (OpQ.move rfl rfl) ?_
  refine Gq 17 [6,1,5] rfl (OpQ.extract rfl rfl rfl) ?_
  refine Gq 18 [6,1,5] rfl (OpQ.extract rfl rfl rfl) ?_
  refine Gq 19 [6,1,5] rfl (OpQ.assign rfl rfl) ?_
  refine Gq 20 [6,1,5] rfl (OpQ.assign rfl rfl) ?_
  refine WG.done (by kernel_rfl) ?_
  refine thn_n (Ww [(0,vptr rp 0),(3,vptr b3 0),(6,N0),(7,vint e18),(9,wv),(10,vint (e.wraps.length:Int)),(11,vint (k:Int))] [SuiteR sp A19,Cl b9 227 [vint ((e.wraps.getD k default).who),z],KB z ((e.wraps.getD k default).box),Kr Enc.wrap f5 e.wraps,RingR gp2 ks2,Ka 227 2 wv e.wraps.length f5,Cl b3 33 (ecs e nv vv wv),Cl rp 208 (rcs sp x1 q sv2 mv2 dp2 gp2++q.seen.map vint),KB sv2 q.secret,KM mv2 q.pol.members,DocsR dp2 q.docs,ChainR x1 sp q.chain,KB nv e.name,KB vv e.value,Al R] ?_)
  refine Sn (Qm (k:=Qu (OpQ.eql rfl rfl rfl) (k:=Nl [(0,vptr rp 0),(3,vptr b3 0),(6,N0),(9,wv),(10,vint (e.wraps.length:Int)),(11,vint (k:Int)),(43,.bool (decide (e18=0)))] ?_)))
  refine Cp rfl (fun h27=>absurd h27 h21) (fun h27=>?_)
  refine W.skip (inblk_n (thn_n (Wl [(0,vptr rp 0),(3,vptr b3 0),(9,wv),(10,vint (e.wraps.length:Int)),(11,vint (k:Int))] ?_)))
  refine W.region (Qu (OpQ.add rfl rfl rfl ⟨by omega,by omega⟩) (k:=?_))
  refine Qm (k:=?_)
  refine WN.nil (thn_n ⟨(k+1,ks2,A19),by (show e.wraps.length - (k+1) < e.wraps.length - k); omega,⟨rfl,rfl,rfl,rfl,(Eq.trans (b:=some (vint ((k:Int)+1))) rfl (by first | rfl | (congr 2; omega))),trivial⟩,?_⟩)
  exact (es [4,0,3,2,2,2,2,2,2,2,2,2,2] rfl).trans (Ent.pure_in (by refine ⟨by omega,?_,by omega⟩; rw [hI6.2.1,Spec.learn_at (by omega)]; rw [if_neg h11]; simp only [h20]))
 obtain rfl:k=e.wraps.length:=by omega
 have hln:=hI6.2.1; rw [List.drop_length] at hln; have hAl:=hI6.2.2
 refine W.exit (thn_x (thn_x (inblk_x (RQ.ent (L':=[Cl rp 208 (rcs sp x1 q sv2 mv2 dp2 gp2++q.seen.map vint),KB sv2 q.secret,KM mv2 q.pol.members,DocsR dp2 q.docs,RingR gp2 ks2,SuiteR sp A2,Ka 227 2 wv e.wraps.length f5,Kr Enc.wrap f5 e.wraps,Cl b3 33 (ecs e nv vv wv),ChainR x1 sp q.chain,KB nv e.name,KB vv e.value,Al R]) (es [5,5,5,5,0,0,0,0,0,0,0,0,0] rfl) ?_))))
 refine RQ.ent (L':=[ReplayO rp sp x1 ({ q with keys:=ks2 }:Rep),SuiteR sp A2,Ka 227 2 wv e.wraps.length f5,Kr Enc.wrap f5 e.wraps,Cl b3 33 (ecs e nv vv wv),ChainR x1 sp q.chain,KB nv e.name,KB vv e.value,Al R]) (Ent.rep' (sv2,mv2,dp2,gp2) rfl hfine2 rfl) ?_
 refine RQ.ent (L':=[ReplayO rp sp x1 ({ q with keys:=ks2 }:Rep),ChainR x1 sp q.chain,SuiteR sp A2,Ka 227 2 wv e.wraps.length f5,Kr Enc.wrap f5 e.wraps,Cl b3 33 (ecs e nv vv wv),KB nv e.name,KB vv e.value,Al R]) (es [0,4,0,0,0,0,0,0,0] rfl) ?_
 refine RQ.ent (L':=[ReplayR rp sp ({ q with keys:=ks2 }:Rep),SuiteR sp A2,Ka 227 2 wv e.wraps.length f5,Kr Enc.wrap f5 e.wraps,Cl b3 33 (ecs e nv vv wv),KB nv e.name,KB vv e.value,Al R]) (Ent.rep' x1 rfl trivial rfl) ?_
 exact retN0 (M:=[ReplayR rp sp ({ q with keys:=ks2 }:Rep),SuiteR sp A2]) rfl (⟨ks2,A2,(by rw [hln]; rfl),(by omega),rfl,rfl⟩) (es [0,0,5] rfl)
theorem outcome_fn (rp:Nat) (sp:Nat) (q:Rep) (r:Record) (bx:Value) (A:List Thing) (hA:A.length < 1099511627700):Fn Tryz.prog 110 #[vptr rp 0,.agg #[vint r.collection,vint r.epoch,vint r.writer,vint r.count,bx]] [ReplayR rp sp q,SuiteR sp A,KB bx r.box] (fun v M=>∃ (x:Int) (q':Rep) (A':List Thing),Spec.outcome A q r=(x,q',A')∧A'.length≤A.length+20∧vint x=v∧M=[ReplayR rp sp q',SuiteR sp A']):=by
 refine Fi 106 Tryz.func110 fun g R=>?_
 refine Ww [(0,vptr rp 0),(1,.agg #[vint r.collection,vint r.epoch,vint r.writer,vint r.count,bx])] [ReplayR rp sp q,SuiteR sp A,KB bx r.box,Al R] ?_
 refine W.opens Opens.rep (i:=0) rfl (fun x1 _=>?_)
 refine We [ReplayO rp sp x1 q,ChainR x1 sp q.chain,SuiteR sp A,KB bx r.box,Al R] ?_
 refine W.opens Opens.rep (i:=0) rfl (fun x2 hfine2=>?_)
 obtain ⟨sv2,mv2,dp2,gp2⟩:=x2
 refine We [Cl rp 208 (rcs sp x1 q sv2 mv2 dp2 gp2++q.seen.map vint),KB sv2 q.secret,KM mv2 q.pol.members,DocsR dp2 q.docs,RingR gp2 q.keys,ChainR x1 sp q.chain,SuiteR sp A,KB bx r.box,Al R] ?_
 have hfine2u:=hfine2; unfold Rep.fine at hfine2u
 obtain ⟨hfine2a,hfine2b,hfine2c,hfine2d,hfine2e,hfine2f,hfine2g,hfine2h⟩:=hfine2u
 refine Sn (Ru (OpRun.box rfl rfl rfl) ?_)
 rintro _ _ ⟨b3,rfl,rfl⟩
 refine Qa (k:=Nw [(0,vptr rp 0),(3,vptr b3 0),(4,vint 0)] [Cl b3 203 [vint r.collection,vint r.epoch,vint r.writer,vint r.count,bx],Cl rp 208 (rcs sp x1 q sv2 mv2 dp2 gp2++q.seen.map vint),KB sv2 q.secret,KM mv2 q.pol.members,DocsR dp2 q.docs,RingR gp2 q.keys,ChainR x1 sp q.chain,SuiteR sp A,KB bx r.box,Al R] ?_)
 refine W.seq (W.seq (W.drawG mixed ?_))
 refine Gq 0 [] rfl (Of (fa203_1 _ _)) ?_
 refine WG.hold (Cl b3 203 [vint r.collection,vint r.epoch,vint r.writer,vint r.count,bx],[]) ?_
 refine Gq 1 [0] rfl (Ol 0 ld3) ?_
 refine Gq 2 [0] rfl (OpQ.move rfl rfl) ?_
 refine Gq 3 [0] rfl (OpQ.nilCheck rfl rfl) ?_
 refine Gq 4 [0] rfl (Of (fa208_3 _ _)) ?_
 refine Gq 5 [0] rfl (Of (fa53_1 _ _)) ?_
 refine WG.hold (Cl rp 208 (rcs sp x1 q sv2 mv2 dp2 gp2++q.seen.map vint),[]) ?_
 refine Gq 6 [1,0] rfl (Ol 0 ld3) ?_
 refine Gq 7 [1,0] rfl (OpQ.gtr rfl rfl rfl) ?_
 refine WG.done (by kernel_rfl) ?_
 refine thn_n (Wl [(0,vptr rp 0),(3,vptr b3 0),(4,vint 0),(17,.bool (decide (r.epoch > q.pol.epoch)))] ?_)
 refine Cp rfl (fun h4=>?_) (fun h4=>?_)
 ·refine Sn (Qa (k:=Nl [(0,vptr rp 0),(3,vptr b3 0),(4,vint 34)] ?_))
  refine W.ent (L':=[Cl rp 208 (rcs sp x1 q sv2 mv2 dp2 gp2++q.seen.map vint),KB sv2 q.secret,KM mv2 q.pol.members,DocsR dp2 q.docs,RingR gp2 q.keys,Cl b3 203 [vint r.collection,vint r.epoch,vint r.writer,vint r.count,bx],ChainR x1 sp q.chain,SuiteR sp A,KB bx r.box,Al R]) (es [1,1,1,1,1,0,0,0,0,0] rfl) ?_
  refine W.ent (L':=[ReplayO rp sp x1 q,Cl b3 203 [vint r.collection,vint r.epoch,vint r.writer,vint r.count,bx],ChainR x1 sp q.chain,SuiteR sp A,KB bx r.box,Al R]) (Ent.rep' (sv2,mv2,dp2,gp2) rfl hfine2 rfl) ?_
  refine W.ent (L':=[ReplayO rp sp x1 q,ChainR x1 sp q.chain,Cl b3 203 [vint r.collection,vint r.epoch,vint r.writer,vint r.count,bx],SuiteR sp A,KB bx r.box,Al R]) (es [0,1,0,0,0,0] rfl) ?_
  refine W.ent (L':=[ReplayR rp sp q,Cl b3 203 [vint r.collection,vint r.epoch,vint r.writer,vint r.count,bx],SuiteR sp A,KB bx r.box,Al R]) (Ent.rep' x1 rfl trivial rfl) ?_
  refine W.ret (thn_r (ret1 (M:=[ReplayR rp sp q,SuiteR sp A]) rfl rfl (⟨34,q,A,(by unfold Spec.outcome; rw [if_pos (by omega)]),(by omega),rfl,rfl⟩) (es [0,1,2] rfl)))
 refine W.skip (thn_n (Wl [(0,vptr rp 0),(3,vptr b3 0),(4,vint 0)] ?_))
 refine W.seq (W.drawG mixed ?_)
 refine Gq 0 [] rfl (OpQ.move rfl rfl) ?_
 refine Gq 1 [] rfl (OpQ.nilCheck rfl rfl) ?_
 refine Gq 2 [] rfl (Of (fa208_5 _ _)) ?_
 refine WG.hold (Cl rp 208 (rcs sp x1 q sv2 mv2 dp2 gp2++q.seen.map vint),[]) ?_
 refine Gq 3 [1] rfl (Ol 0 ld206) ?_
 refine Gq 4 [1] rfl (Of (fa203_1 _ _)) ?_
 refine WG.hold (Cl b3 203 [vint r.collection,vint r.epoch,vint r.writer,vint r.count,bx],[]) ?_
 refine Gq 5 [0,0] rfl (Ol 0 ld3) ?_
 refine WG.one (i:=6) (by kernel_rfl) (UpG.call rfl rfl rfl (OpCall.mk (xs:=[.tmp 22,.tmp 24]) (vs:=[vptr gp2 0,vint r.epoch]) rfl ⟨rfl,rfl,trivial⟩ Tryz.call183) (ringKey_fn gp2 q.keys r.epoch) (ep [5] rfl) ?_)
 rintro _ _ (⟨z5,k6,h7,h8,rfl,rfl⟩ | ⟨h9,rfl,rfl⟩)
 ·refine ⟨es [2,2] rfl,?_⟩
  refine Gq 7 [2,2] rfl (OpQ.move rfl rfl) ?_
  refine Gq 8 [2,2] rfl (OpQ.extract rfl rfl rfl) ?_
  refine Gq 9 [2,2] rfl (OpQ.extract rfl rfl rfl) ?_
  refine Gq 10 [2,2] rfl (OpQ.assign rfl rfl) ?_
  refine Gq 11 [2,2] rfl (OpQ.assign rfl rfl) ?_
  refine WG.done (by kernel_rfl) ?_
  refine thn_n (Ww [(0,vptr rp 0),(3,vptr b3 0),(4,vint 0),(5,z5),(6,.bool true)] [KB z5 k6,RingR gp2 q.keys,Cl b3 203 [vint r.collection,vint r.epoch,vint r.writer,vint r.count,bx],Cl rp 208 (rcs sp x1 q sv2 mv2 dp2 gp2++q.seen.map vint),KB sv2 q.secret,KM mv2 q.pol.members,DocsR dp2 q.docs,ChainR x1 sp q.chain,SuiteR sp A,KB bx r.box,Al R] ?_)
  refine W.seq (Sn (Qm (k:=?_)))
  refine Qu (OpQ.not rfl rfl) (k:=Nl [(0,vptr rp 0),(3,vptr b3 0),(4,vint 0),(5,z5),(29,.bool false)] ?_)
  refine W.condF rfl ?_
  refine W.skip (thn_n (Wl [(0,vptr rp 0),(3,vptr b3 0),(4,vint 0),(5,z5)] ?_))
  refine W.cut (X:=Entry × Value × Value × Value × (List Thing) × Nat) (φ:=fun x=>match x with | (e22,n23,v24,w25,A26,b34)=>(Spec.sopen A q.secret k6 r=(.ok e22,A26))∧(A26.length≤A.length+2)) (E:=fun x=>match x with | (e22,n23,v24,w25,A26,b34)=>[(0,vptr rp 0),(3,vptr b3 0),(4,vint 0),(7,vptr b34 0),(8,vint 0)]) (F:=fun x=>match x with | (e22,n23,v24,w25,A26,b34)=>[Cl b34 33 (ecs e22 n23 v24 w25),KB n23 e22.name,KB v24 e22.value,KW w25 e22.wraps,SuiteR sp A26,KB z5 k6,RingR gp2 q.keys,Cl b3 203 [vint r.collection,vint r.epoch,vint r.writer,vint r.count,bx],Cl rp 208 (rcs sp x1 q sv2 mv2 dp2 gp2++q.seen.map vint),KB sv2 q.secret,KM mv2 q.pol.members,DocsR dp2 q.docs,ChainR x1 sp q.chain,KB bx r.box,Al R]) (fun x hx=>?_) (fun K1009=>?_)
  ·obtain ⟨e22,n23,v24,w25,A26,b34⟩:=x
   obtain ⟨h36,h37⟩:=hx
   refine Ww [(0,vptr rp 0),(3,vptr b3 0),(4,vint 0),(7,vptr b34 0),(8,vint 0)] [Cl b34 33 (ecs e22 n23 v24 w25),KB n23 e22.name,KB v24 e22.value,KW w25 e22.wraps,SuiteR sp A26,KB z5 k6,RingR gp2 q.keys,Cl b3 203 [vint r.collection,vint r.epoch,vint r.writer,vint r.count,bx],Cl rp 208 (rcs sp x1 q sv2 mv2 dp2 gp2++q.seen.map vint),KB sv2 q.secret,KM mv2 q.pol.members,DocsR dp2 q.docs,ChainR x1 sp q.chain,KB bx r.box,Al R] ?_
   refine W.seq (W.block (Sn (Qm (k:=?_))))
   refine Qu (OpQ.neq rfl rfl rfl) (k:=Qa (k:=Nl [(0,vptr rp 0),(3,vptr b3 0),(4,vint 0),(7,vptr b34 0),(8,vint 0),(45,.bool (decide ((0:Int)≠0)))] ?_))
   refine Cp rfl (fun h38=>absurd h38 (by decide)) (fun h38=>?_)
   refine W.seq (W.drawG mixed ?_)
   have hre:=Spec.sopen_right h36; have hrs:=Spec.right_seq hre; have hrw:=Spec.right_wraps hre
   refine Gq 0 [] rfl (Of (fa33_2 _ _)) ?_
   refine WG.hold (Cl b34 33 (ecs e22 n23 v24 w25),[]) ?_
   refine Gq 1 [0] rfl (Ol 0 ld3) ?_
   refine Gq 2 [0] rfl (OpQ.move rfl rfl) ?_
   refine Gq 3 [0] rfl (Of (fa33_1 _ _)) ?_
   refine Gq 4 [0] rfl (Ol 0 ld3) ?_
   refine Gq 5 [0] rfl (OpQ.nilCheck rfl rfl) ?_
   refine Gq 6 [0] rfl (Of (fa208_6 _ _)) ?_
   refine Gq 7 [0] rfl (OpQ.indexArr (m:=17) (E:=3) (sz:=1) (jj:=11+e22.writer.toNat*1) rfl rfl rfl (by omega) (by omega) (by omega) Tryz.runUnderlying109 sz3) ?_
   refine WG.hold (Cl rp 208 (rcs sp x1 q sv2 mv2 dp2 gp2++q.seen.map vint),[]) ?_
   refine Gq 8 [8,0] rfl (OpQ.load1 (i:=0) rfl rfl ld3 rfl (tail_at (k:=e22.writer.toNat) rfl (by omega))) ?_
   refine Gq 9 [8,0] rfl (OpQ.leq rfl rfl rfl) ?_
   refine Gq 10 [8,0] rfl (OpQ.assign rfl rfl) ?_
   refine WG.done (by kernel_rfl) ?_
   refine thn_n (Wl [(0,vptr rp 0),(3,vptr b3 0),(4,vint 0),(7,vptr b34 0),(8,vint 0),(49,.bool (decide (e22.seq≤q.seen.getD e22.writer.toNat 0)))] ?_)
   refine Cp rfl (fun h39=>?_) (fun h39=>?_)
   ·refine Sn (Qa (k:=Nl [(0,vptr rp 0),(3,vptr b3 0),(4,vint 31),(7,vptr b34 0),(8,vint 0)] ?_))
    refine W.ent (L':=[Cl rp 208 (rcs sp x1 q sv2 mv2 dp2 gp2++q.seen.map vint),KB sv2 q.secret,KM mv2 q.pol.members,DocsR dp2 q.docs,RingR gp2 q.keys,Cl b34 33 (ecs e22 n23 v24 w25),KB n23 e22.name,KB v24 e22.value,KW w25 e22.wraps,SuiteR sp A26,KB z5 k6,Cl b3 203 [vint r.collection,vint r.epoch,vint r.writer,vint r.count,bx],ChainR x1 sp q.chain,KB bx r.box,Al R]) (es [8,8,8,8,6,0,0,0,0,0,0,0,0,0,0] rfl) ?_
    refine W.ent (L':=[ReplayO rp sp x1 q,Cl b34 33 (ecs e22 n23 v24 w25),KB n23 e22.name,KB v24 e22.value,KW w25 e22.wraps,SuiteR sp A26,KB z5 k6,Cl b3 203 [vint r.collection,vint r.epoch,vint r.writer,vint r.count,bx],ChainR x1 sp q.chain,KB bx r.box,Al R]) (Ent.rep' (sv2,mv2,dp2,gp2) rfl hfine2 rfl) ?_
    refine W.ent (L':=[ReplayO rp sp x1 q,ChainR x1 sp q.chain,Cl b34 33 (ecs e22 n23 v24 w25),KB n23 e22.name,KB v24 e22.value,KW w25 e22.wraps,SuiteR sp A26,KB z5 k6,Cl b3 203 [vint r.collection,vint r.epoch,vint r.writer,vint r.count,bx],KB bx r.box,Al R]) (es [0,7,0,0,0,0,0,0,0,0,0] rfl) ?_
    refine W.ent (L':=[ReplayR rp sp q,Cl b34 33 (ecs e22 n23 v24 w25),KB n23 e22.name,KB v24 e22.value,KW w25 e22.wraps,SuiteR sp A26,KB z5 k6,Cl b3 203 [vint r.collection,vint r.epoch,vint r.writer,vint r.count,bx],KB bx r.box,Al R]) (Ent.rep' x1 rfl trivial rfl) ?_
    refine W.ret (inblk_r (thn_r (ret1 (M:=[ReplayR rp sp q,SuiteR sp A26]) rfl rfl (⟨31,q,A26,(by unfold Spec.outcome; rw [if_neg (by omega)]; simp only [h7,h36]; rw [if_pos h39]),(by omega),rfl,rfl⟩) (es [0,4,7] rfl))))
   refine W.skip (inblk_n (thn_n (Wl [(0,vptr rp 0),(3,vptr b3 0),(4,vint 0),(7,vptr b34 0),(8,vint 0)] ?_)))
   refine W.seq (W.drawG mixed ?_)
   refine Gq 0 [] rfl (OpQ.move rfl rfl) ?_
   refine Gq 1 [] rfl (Of (fa33_1 _ _)) ?_
   refine WG.hold (Cl b34 33 (ecs e22 n23 v24 w25),[]) ?_
   refine Gq 2 [0] rfl (Ol 0 ld3) ?_
   refine Gq 3 [0] rfl (Of (fa33_2 _ _)) ?_
   refine Gq 4 [0] rfl (Ol 0 ld3) ?_
   refine Gq 5 [0] rfl (OpQ.nilCheck rfl rfl) ?_
   refine Gq 6 [0] rfl (Of (fa208_6 _ _)) ?_
   refine Gq 7 [0] rfl (OpQ.indexArr (m:=17) (E:=3) (sz:=1) (jj:=11+e22.writer.toNat*1) rfl rfl rfl (by omega) (by omega) (by omega) Tryz.runUnderlying109 sz3) ?_
   refine WG.one (i:=8) (by kernel_rfl) (UpG.run rfl rfl rfl (OpRun.storeAt (i:=8) (cs':=[vptr sp 0,vint q.coll,vint q.founder,vint q.who,sv2,vptr x1 0,vint q.pol.founder,vint q.pol.epoch,mv2,vptr dp2 0,vptr gp2 0]++(q.seen.set e22.writer.toNat e22.seq).map vint) rfl rfl rfl sz3 rfl rfl (by simp; omega) (tail_set (k:=e22.writer.toNat) rfl)) ?_)
   rintro _ _ ⟨rfl,rfl⟩
   refine ⟨es [1] rfl,?_⟩
   refine WG.done (by kernel_rfl) ?_
   refine thn_n (Ww [(0,vptr rp 0),(3,vptr b3 0),(4,vint 0),(7,vptr b34 0),(8,vint 0)] [Cl rp 208 (rcs sp x1 q sv2 mv2 dp2 gp2++(q.seen.set e22.writer.toNat e22.seq).map vint),Cl b34 33 (ecs e22 n23 v24 w25),KB n23 e22.name,KB v24 e22.value,KW w25 e22.wraps,SuiteR sp A26,KB z5 k6,RingR gp2 q.keys,Cl b3 203 [vint r.collection,vint r.epoch,vint r.writer,vint r.count,bx],KB sv2 q.secret,KM mv2 q.pol.members,DocsR dp2 q.docs,ChainR x1 sp q.chain,KB bx r.box,Al R] ?_)
   refine W.seq (W.seq (W.drawG mixed ?_))
   refine Gq 0 [] rfl (Of (fa33_0 _ _)) ?_
   refine WG.hold (Cl b34 33 (ecs e22 n23 v24 w25),[]) ?_
   refine Gq 1 [1] rfl (Ol 0 ld3) ?_
   by_cases h40:e22.kind≠5
   ·refine Gq 2 [1] rfl (OpQ.decT (OpQ.neq rfl rfl rfl) h40) ?_
    refine Gq 3 [1] rfl (OpQ.move rfl rfl) ?_
    refine Gq 4 [1] rfl (Of (fa203_1 _ _)) ?_
    refine WG.hold (Cl b3 203 [vint r.collection,vint r.epoch,vint r.writer,vint r.count,bx],[]) ?_
    refine Gq 5 [8,1] rfl (Ol 0 ld3) ?_
    refine Gq 6 [8,1] rfl (OpQ.move rfl rfl) ?_
    refine Gq 7 [8,1] rfl (OpQ.nilCheck rfl rfl) ?_
    refine Gq 8 [8,1] rfl (Of (fa208_3 _ _)) ?_
    refine Gq 9 [8,1] rfl (Of (fa53_1 _ _)) ?_
    refine WG.hold (Cl rp 208 (rcs sp x1 q sv2 mv2 dp2 gp2++(q.seen.set e22.writer.toNat e22.seq).map vint),[]) ?_
    refine Gq 10 [0,7,0] rfl (Ol 0 ld3) ?_
    refine Gq 11 [0,7,0] rfl (OpQ.neq rfl rfl rfl) ?_
    refine Gq 12 [0,7,0] rfl (OpQ.pickT rfl rfl rfl) ?_
    refine WG.done (by kernel_rfl) ?_
    refine thn_n (Wl [(0,vptr rp 0),(4,vint 0),(7,vptr b34 0),(8,vint 0),(80,.bool (decide (r.epoch≠q.pol.epoch)))] ?_)
    refine Cp rfl (fun h41=>?_) (fun h41=>?_)
    ·refine Sn (Qa (k:=Nl [(0,vptr rp 0),(4,vint 40),(7,vptr b34 0),(8,vint 0)] ?_))
     refine W.ent (L':=[Cl rp 208 (rcs sp x1 q sv2 mv2 dp2 gp2++(q.seen.set e22.writer.toNat e22.seq).map vint),KB sv2 q.secret,KM mv2 q.pol.members,DocsR dp2 q.docs,RingR gp2 q.keys,Cl b34 33 (ecs e22 n23 v24 w25),KB n23 e22.name,KB v24 e22.value,KW w25 e22.wraps,SuiteR sp A26,KB z5 k6,Cl b3 203 [vint r.collection,vint r.epoch,vint r.writer,vint r.count,bx],ChainR x1 sp q.chain,KB bx r.box,Al R]) (es [0,8,8,8,6,0,0,0,0,0,0,0,0,0,0] rfl) ?_
     refine W.ent (L':=[ReplayO rp sp x1 ({ q with seen:=q.seen.set e22.writer.toNat e22.seq }:Rep),Cl b34 33 (ecs e22 n23 v24 w25),KB n23 e22.name,KB v24 e22.value,KW w25 e22.wraps,SuiteR sp A26,KB z5 k6,Cl b3 203 [vint r.collection,vint r.epoch,vint r.writer,vint r.count,bx],ChainR x1 sp q.chain,KB bx r.box,Al R]) (Ent.rep' (sv2,mv2,dp2,gp2) rfl (Rep.fine_seen hfine2 (by omega) (by omega)) rfl) ?_
     refine W.ent (L':=[ReplayO rp sp x1 ({ q with seen:=q.seen.set e22.writer.toNat e22.seq }:Rep),ChainR x1 sp q.chain,Cl b34 33 (ecs e22 n23 v24 w25),KB n23 e22.name,KB v24 e22.value,KW w25 e22.wraps,SuiteR sp A26,KB z5 k6,Cl b3 203 [vint r.collection,vint r.epoch,vint r.writer,vint r.count,bx],KB bx r.box,Al R]) (es [0,7,0,0,0,0,0,0,0,0,0] rfl) ?_
     refine W.ent (L':=[ReplayR rp sp ({ q with seen:=q.seen.set e22.writer.toNat e22.seq }:Rep),Cl b34 33 (ecs e22 n23 v24 w25),KB n23 e22.name,KB v24 e22.value,KW w25 e22.wraps,SuiteR sp A26,KB z5 k6,Cl b3 203 [vint r.collection,vint r.epoch,vint r.writer,vint r.count,bx],KB bx r.box,Al R]) (Ent.rep' x1 rfl trivial rfl) ?_
     refine W.ret (thn_r (ret1 (M:=[ReplayR rp sp ({ q with seen:=q.seen.set e22.writer.toNat e22.seq }:Rep),SuiteR sp A26]) rfl rfl (⟨40,({ q with seen:=q.seen.set e22.writer.toNat e22.seq }:Rep),A26,(by unfold Spec.outcome; rw [if_neg (by omega)]; simp only [h7,h36]; rw [if_neg h39]; rw [if_pos (by omega)]),(by omega),rfl,rfl⟩) (es [0,4,7] rfl)))
    refine W.skip (thn_n (Wl [(0,vptr rp 0),(4,vint 0),(7,vptr b34 0),(8,vint 0)] ?_))
    refine W.cut (X:=Policy × Value × Nat) (φ:=fun x=>match x with | (q48,mv49,b54)=>(Spec.papply q.pol e22 = .ok q48)) (E:=fun x=>match x with | (q48,mv49,b54)=>[(0,vptr rp 0),(4,vint 0),(7,vptr b34 0),(8,vint 0),(9,vptr b54 0)]) (F:=fun x=>match x with | (q48,mv49,b54)=>[Cl b54 53 [vint q48.founder,vint q48.epoch,mv49],KM mv49 q48.members,Cl rp 208 (rcs sp x1 q sv2 mv2 dp2 gp2++(q.seen.set e22.writer.toNat e22.seq).map vint),Cl b34 33 (ecs e22 n23 v24 w25),KB n23 e22.name,KB v24 e22.value,KW w25 e22.wraps,SuiteR sp A26,KB z5 k6,RingR gp2 q.keys,Cl b3 203 [vint r.collection,vint r.epoch,vint r.writer,vint r.count,bx],KB sv2 q.secret,KM mv2 q.pol.members,DocsR dp2 q.docs,ChainR x1 sp q.chain,KB bx r.box,Al R]) (fun x hx=>?_) (fun K1041=>?_)
    ·obtain ⟨q48,mv49,b54⟩:=x
     have h56:Spec.papply q.pol e22 = .ok q48:=hx; clear hx
     refine Ww [(0,vptr rp 0),(4,vint 0),(7,vptr b34 0),(8,vint 0),(9,vptr b54 0)] [Cl b54 53 [vint q48.founder,vint q48.epoch,mv49],KM mv49 q48.members,Cl rp 208 (rcs sp x1 q sv2 mv2 dp2 gp2++(q.seen.set e22.writer.toNat e22.seq).map vint),Cl b34 33 (ecs e22 n23 v24 w25),KB n23 e22.name,KB v24 e22.value,KW w25 e22.wraps,SuiteR sp A26,KB z5 k6,RingR gp2 q.keys,Cl b3 203 [vint r.collection,vint r.epoch,vint r.writer,vint r.count,bx],KB sv2 q.secret,KM mv2 q.pol.members,DocsR dp2 q.docs,ChainR x1 sp q.chain,KB bx r.box,Al R] ?_
     refine W.seq (Sn (Qm (k:=?_)))
     refine Qu (OpQ.neq rfl rfl rfl) (k:=Nl [(0,vptr rp 0),(4,vint 0),(7,vptr b34 0),(8,vint 0),(9,vptr b54 0),(91,.bool (decide ((0:Int)≠0)))] ?_)
     refine Cp rfl (fun h57=>absurd h57 (by decide)) (fun h57=>?_)
     refine W.skip (thn_n (Wl [(0,vptr rp 0),(4,vint 0),(7,vptr b34 0),(9,vptr b54 0)] ?_))
     refine Sn (Qm (k:=Qu (OpQ.loadN (i:=0) rfl rfl ld53 rfl rfl rfl) (k:=Qu (OpQ.nilCheck rfl rfl) (k:=Qu (Of (fa208_3 _ _)) (k:=?_)))))
     refine Nf 1 fun ho58=>?_
     refine Rn (OpRun.store (i:=2) (vs:=[vint q48.founder,vint q48.epoch,mv49]) (cs':=[vptr sp 0,vint q.coll,vint q.founder,vint q.who,sv2,vptr x1 0,vint q48.founder,vint q48.epoch,mv49,vptr dp2 0,vptr gp2 0]++(q.seen.set e22.writer.toNat e22.seq).map vint) rfl rfl rfl sz53 rfl rfl (one_cons rfl (one_cons rfl (one_cons ho58 one_nil))) rfl (Lb rfl) rfl) (k:=Nw [(0,vptr rp 0),(4,vint 0),(7,vptr b34 0)] [Cl rp 208 ([vptr sp 0,vint q.coll,vint q.founder,vint q.who,sv2,vptr x1 0,vint q48.founder,vint q48.epoch,mv49,vptr dp2 0,vptr gp2 0]++(q.seen.set e22.writer.toNat e22.seq).map vint),Cl b54 53 [vint q48.founder,vint q48.epoch,mv49],KM mv49 q48.members,Cl b34 33 (ecs e22 n23 v24 w25),KB n23 e22.name,KB v24 e22.value,KW w25 e22.wraps,SuiteR sp A26,KB z5 k6,RingR gp2 q.keys,Cl b3 203 [vint r.collection,vint r.epoch,vint r.writer,vint r.count,bx],KB sv2 q.secret,KM mv2 q.pol.members,DocsR dp2 q.docs,ChainR x1 sp q.chain,KB bx r.box,Al R] ?_)
     refine W.seq (W.drawG mixed ?_)
     refine Gq 0 [] rfl (OpQ.move rfl rfl) ?_
     refine Gq 1 [] rfl (OpQ.nilCheck rfl rfl) ?_
     refine Gq 2 [] rfl (Of (fa208_4 _ _)) ?_
     refine WG.hold (Cl rp 208 ([vptr sp 0,vint q.coll,vint q.founder,vint q.who,sv2,vptr x1 0,vint q48.founder,vint q48.epoch,mv49,vptr dp2 0,vptr gp2 0]++(q.seen.set e22.writer.toNat e22.seq).map vint),[]) ?_
     refine Gq 3 [0] rfl (Ol 0 ld56) ?_
     refine WG.hold (Cl b34 33 (ecs e22 n23 v24 w25),[]) ?_
     refine Gq 4 [3,0] rfl (OpQ.loadN (i:=0) rfl rfl ld33 rfl rfl rfl) ?_
     refine WG.one (i:=5) (by kernel_rfl) (UpG.call rfl rfl rfl (OpCall.mk (xs:=[.tmp 100,.tmp 101]) (vs:=[vptr dp2 0,.agg #[vint e22.kind,vint e22.writer,vint e22.seq,n23,v24,vint e22.who,vint e22.rights,vint e22.epoch,w25]]) rfl ⟨rfl,rfl,trivial⟩ Tryz.call138) (docsApply_fn dp2 q.docs e22 n23 v24 w25) ((ed 4 rfl).trans ((ed 6 rfl).trans ((ed 8 rfl).trans (ep [16,2,1,0] rfl)))) ?_)
     rintro _ _ ⟨x59,d60,h61,rfl,rfl⟩
     refine ⟨es [4,1] rfl,?_⟩
     refine WG.done (by kernel_rfl) ?_
     refine thn_n (Ww [(0,vptr rp 0),(4,vint 0),(7,vptr b34 0)] [DocsR dp2 d60,Cl rp 208 ([vptr sp 0,vint q.coll,vint q.founder,vint q.who,sv2,vptr x1 0,vint q48.founder,vint q48.epoch,mv49,vptr dp2 0,vptr gp2 0]++(q.seen.set e22.writer.toNat e22.seq).map vint),Cl b54 53 [vint q48.founder,vint q48.epoch,mv49],KM mv49 q48.members,Cl b34 33 (ecs e22 n23 v24 w25),KB n23 e22.name,KB v24 e22.value,KW w25 e22.wraps,SuiteR sp A26,KB z5 k6,RingR gp2 q.keys,Cl b3 203 [vint r.collection,vint r.epoch,vint r.writer,vint r.count,bx],KB sv2 q.secret,KM mv2 q.pol.members,ChainR x1 sp q.chain,KB bx r.box,Al R] ?_)
     refine W.seq (W.region ?_)
     have hpl17:=Spec.papply_len h56; have hpe16:=Spec.papply_epoch hfine2h h56
     refine WN.ent (L':=[Cl rp 208 ([vptr sp 0,vint q.coll,vint q.founder,vint q.who,sv2,vptr x1 0,vint q48.founder,vint q48.epoch,mv49,vptr dp2 0,vptr gp2 0]++(q.seen.set e22.writer.toNat e22.seq).map vint),KB sv2 q.secret,KM mv49 q48.members,DocsR dp2 d60,RingR gp2 q.keys,Cl b54 53 [vint q48.founder,vint q48.epoch,mv49],Cl b34 33 (ecs e22 n23 v24 w25),KB n23 e22.name,KB v24 e22.value,KW w25 e22.wraps,SuiteR sp A26,KB z5 k6,Cl b3 203 [vint r.collection,vint r.epoch,vint r.writer,vint r.count,bx],KM mv2 q.pol.members,ChainR x1 sp q.chain,KB bx r.box,Al R]) (es [1,11,2,0,7,0,0,0,0,0,0,0,0,0,0,0,0] rfl) ?_
     refine WN.ent (L':=[ReplayO rp sp x1 ({ q with seen:=q.seen.set e22.writer.toNat e22.seq,pol:=q48,docs:=d60 }:Rep),Cl b54 53 [vint q48.founder,vint q48.epoch,mv49],Cl b34 33 (ecs e22 n23 v24 w25),KB n23 e22.name,KB v24 e22.value,KW w25 e22.wraps,SuiteR sp A26,KB z5 k6,Cl b3 203 [vint r.collection,vint r.epoch,vint r.writer,vint r.count,bx],KM mv2 q.pol.members,ChainR x1 sp q.chain,KB bx r.box,Al R]) (Ent.rep' (sv2,mv49,dp2,gp2) rfl (Rep.fine_pol (Rep.fine_seen hfine2 (k:=e22.writer.toNat) (x:=e22.seq) (by omega) (by omega)) hpl17 hpe16) rfl) ?_
     refine WN.ent (L':=[ReplayO rp sp x1 ({ q with seen:=q.seen.set e22.writer.toNat e22.seq,pol:=q48,docs:=d60 }:Rep),ChainR x1 sp q.chain,Cl b54 53 [vint q48.founder,vint q48.epoch,mv49],Cl b34 33 (ecs e22 n23 v24 w25),KB n23 e22.name,KB v24 e22.value,KW w25 e22.wraps,SuiteR sp A26,KB z5 k6,Cl b3 203 [vint r.collection,vint r.epoch,vint r.writer,vint r.count,bx],KM mv2 q.pol.members,KB bx r.box,Al R]) (es [0,9,0,0,0,0,0,0,0,0,0,0,0] rfl) ?_
     refine WN.ent (L':=[ReplayR rp sp ({ q with seen:=q.seen.set e22.writer.toNat e22.seq,pol:=q48,docs:=d60 }:Rep),Cl b54 53 [vint q48.founder,vint q48.epoch,mv49],Cl b34 33 (ecs e22 n23 v24 w25),KB n23 e22.name,KB v24 e22.value,KW w25 e22.wraps,SuiteR sp A26,KB z5 k6,Cl b3 203 [vint r.collection,vint r.epoch,vint r.writer,vint r.count,bx],KM mv2 q.pol.members,KB bx r.box,Al R]) (Ent.rep' x1 rfl trivial rfl) ?_
     refine Qm (k:=Qu (OpQ.loadN (i:=2) rfl rfl ld33 rfl rfl rfl) (k:=?_))
     refine Wc [.tmp 103,.tmp 104] [vptr rp 0,.agg #[vint e22.kind,vint e22.writer,vint e22.seq,n23,v24,vint e22.who,vint e22.rights,vint e22.epoch,w25]] Tryz.call197 (repLearn_fn rp sp ({ q with seen:=q.seen.set e22.writer.toNat e22.seq,pol:=q48,docs:=d60 }:Rep) e22 n23 v24 w25 A26 (by first | omega | (simp; done) | (simp; omega) | (simp at *; omega)) (by first | omega | (simp; done) | (simp; omega) | (simp at *; omega))) ((ed 3 rfl).trans ((ed 5 rfl).trans ((ed 7 rfl).trans (ep [3,8,2,1,0] rfl)))) ?_
     rintro _ _ ⟨ks62,A63,h64,h65,rfl,rfl⟩
     refine Nw [(4,vint 0)] [ReplayR rp sp ({ ({ q with seen:=q.seen.set e22.writer.toNat e22.seq,pol:=q48,docs:=d60 }:Rep) with keys:=ks62 }:Rep),SuiteR sp A63,Cl b54 53 [vint q48.founder,vint q48.epoch,mv49],Cl b34 33 (ecs e22 n23 v24 w25),KB n23 e22.name,KB v24 e22.value,KW w25 e22.wraps,KB z5 k6,Cl b3 203 [vint r.collection,vint r.epoch,vint r.writer,vint r.count,bx],KM mv2 q.pol.members,KB bx r.box,Al R] ?_
     refine Sn (Qa (k:=Nl [(4,vint 0)] ?_))
     refine W.ret (ret1 (M:=[ReplayR rp sp ({ ({ q with seen:=q.seen.set e22.writer.toNat e22.seq,pol:=q48,docs:=d60 }:Rep) with keys:=ks62 }:Rep),SuiteR sp A63]) rfl rfl (⟨0,({ ({ q with seen:=q.seen.set e22.writer.toNat e22.seq,pol:=q48,docs:=d60 }:Rep) with keys:=ks62 }:Rep),A63,(by unfold Spec.outcome; rw [if_neg (by omega)]; simp only [h7,h36]; rw [if_neg h39]; rw [if_neg (by omega)]; simp only [h56]; simp only [h61,h64]),(by omega),rfl,rfl⟩) (es [0,0,9] rfl))
    refine W.cut (X:=Int × Nat) (φ:=fun x=>match x with | (x51,b56)=>(Spec.papply q.pol e22 = .error x51)∧(x51≠0)) (E:=fun x=>match x with | (x51,b56)=>[(0,vptr rp 0),(4,vint 0),(7,vptr b34 0),(8,vint x51),(9,vptr b56 0)]) (F:=fun x=>match x with | (x51,b56)=>[Cl b56 53 [vint 0,vint 0,N0],Cl rp 208 (rcs sp x1 q sv2 mv2 dp2 gp2++(q.seen.set e22.writer.toNat e22.seq).map vint),Cl b34 33 (ecs e22 n23 v24 w25),KB n23 e22.name,KB v24 e22.value,KW w25 e22.wraps,SuiteR sp A26,KB z5 k6,RingR gp2 q.keys,Cl b3 203 [vint r.collection,vint r.epoch,vint r.writer,vint r.count,bx],KB sv2 q.secret,KM mv2 q.pol.members,DocsR dp2 q.docs,ChainR x1 sp q.chain,KB bx r.box,Al R]) (fun x hx=>?_) (fun K1066=>?_)
    ·obtain ⟨x51,b56⟩:=x
     obtain ⟨h58,h59⟩:=hx
     refine Ww [(0,vptr rp 0),(4,vint 0),(7,vptr b34 0),(8,vint x51),(9,vptr b56 0)] [Cl b56 53 [vint 0,vint 0,N0],Cl rp 208 (rcs sp x1 q sv2 mv2 dp2 gp2++(q.seen.set e22.writer.toNat e22.seq).map vint),Cl b34 33 (ecs e22 n23 v24 w25),KB n23 e22.name,KB v24 e22.value,KW w25 e22.wraps,SuiteR sp A26,KB z5 k6,RingR gp2 q.keys,Cl b3 203 [vint r.collection,vint r.epoch,vint r.writer,vint r.count,bx],KB sv2 q.secret,KM mv2 q.pol.members,DocsR dp2 q.docs,ChainR x1 sp q.chain,KB bx r.box,Al R] ?_
     refine W.seq (Sn (Qm (k:=?_)))
     refine Qu (OpQ.neq rfl rfl rfl) (k:=Nl [(0,vptr rp 0),(4,vint 0),(7,vptr b34 0),(8,vint x51),(9,vptr b56 0),(91,.bool (decide (x51≠0)))] ?_)
     refine Cp rfl (fun h60=>?_) (fun h60=>absurd h59 h60)
     refine Sn (Qm (k:=Qa (k:=Nl [(0,vptr rp 0),(4,vint x51),(7,vptr b34 0),(9,vptr b56 0)] ?_)))
     refine W.ent (L':=[Cl rp 208 (rcs sp x1 q sv2 mv2 dp2 gp2++(q.seen.set e22.writer.toNat e22.seq).map vint),KB sv2 q.secret,KM mv2 q.pol.members,DocsR dp2 q.docs,RingR gp2 q.keys,Cl b56 53 [vint 0,vint 0,N0],Cl b34 33 (ecs e22 n23 v24 w25),KB n23 e22.name,KB v24 e22.value,KW w25 e22.wraps,SuiteR sp A26,KB z5 k6,Cl b3 203 [vint r.collection,vint r.epoch,vint r.writer,vint r.count,bx],ChainR x1 sp q.chain,KB bx r.box,Al R]) (es [1,9,9,9,7,0,0,0,0,0,0,0,0,0,0,0] rfl) ?_
     refine W.ent (L':=[ReplayO rp sp x1 ({ q with seen:=q.seen.set e22.writer.toNat e22.seq }:Rep),Cl b56 53 [vint 0,vint 0,N0],Cl b34 33 (ecs e22 n23 v24 w25),KB n23 e22.name,KB v24 e22.value,KW w25 e22.wraps,SuiteR sp A26,KB z5 k6,Cl b3 203 [vint r.collection,vint r.epoch,vint r.writer,vint r.count,bx],ChainR x1 sp q.chain,KB bx r.box,Al R]) (Ent.rep' (sv2,mv2,dp2,gp2) rfl (Rep.fine_seen hfine2 (by omega) (by omega)) rfl) ?_
     refine W.ent (L':=[ReplayO rp sp x1 ({ q with seen:=q.seen.set e22.writer.toNat e22.seq }:Rep),ChainR x1 sp q.chain,Cl b56 53 [vint 0,vint 0,N0],Cl b34 33 (ecs e22 n23 v24 w25),KB n23 e22.name,KB v24 e22.value,KW w25 e22.wraps,SuiteR sp A26,KB z5 k6,Cl b3 203 [vint r.collection,vint r.epoch,vint r.writer,vint r.count,bx],KB bx r.box,Al R]) (es [0,8,0,0,0,0,0,0,0,0,0,0] rfl) ?_
     refine W.ent (L':=[ReplayR rp sp ({ q with seen:=q.seen.set e22.writer.toNat e22.seq }:Rep),Cl b56 53 [vint 0,vint 0,N0],Cl b34 33 (ecs e22 n23 v24 w25),KB n23 e22.name,KB v24 e22.value,KW w25 e22.wraps,SuiteR sp A26,KB z5 k6,Cl b3 203 [vint r.collection,vint r.epoch,vint r.writer,vint r.count,bx],KB bx r.box,Al R]) (Ent.rep' x1 rfl trivial rfl) ?_
     refine W.ret (thn_r (ret1 (M:=[ReplayR rp sp ({ q with seen:=q.seen.set e22.writer.toNat e22.seq }:Rep),SuiteR sp A26]) rfl rfl (⟨x51,({ q with seen:=q.seen.set e22.writer.toNat e22.seq }:Rep),A26,(by unfold Spec.outcome; rw [if_neg (by omega)]; simp only [h7,h36]; rw [if_neg h39]; rw [if_neg (by omega)]; simp only [h58]),(by omega),rfl,rfl⟩) (es [0,5,8] rfl)))
    refine W.seq (W.drawG mixed ?_)
    refine Gq 0 [] rfl (OpQ.move rfl rfl) ?_
    refine Gq 1 [] rfl (OpQ.nilCheck rfl rfl) ?_
    refine Gq 2 [] rfl (Of (fa208_3 _ _)) ?_
    refine WG.hold (Cl rp 208 (rcs sp x1 q sv2 mv2 dp2 gp2++(q.seen.set e22.writer.toNat e22.seq).map vint),[]) ?_
    refine Gq 3 [0] rfl (OpQ.loadN (i:=0) rfl rfl ld53 rfl rfl rfl) ?_
    refine WG.hold (Cl b34 33 (ecs e22 n23 v24 w25),[]) ?_
    refine Gq 4 [1,0] rfl (OpQ.loadN (i:=0) rfl rfl ld33 rfl rfl rfl) ?_
    refine WG.two (i:=5) (j:=9) (by kernel_rfl) ?_ ?_
    ·refine UpG.call rfl rfl rfl (OpCall.mk (xs:=[.tmp 85,.tmp 86]) (vs:=[.agg #[vint q.pol.founder,vint q.pol.epoch,mv2],.agg #[vint e22.kind,vint e22.writer,vint e22.seq,n23,v24,vint e22.who,vint e22.rights,vint e22.epoch,w25]]) rfl ⟨rfl,rfl,trivial⟩ Tryz.call137) (PApply_fn q.pol mv2 e22 n23 v24 w25 (by first | omega | (simp; done) | (simp; omega) | (simp at *; omega))) ((ed 10 rfl).trans ((ed 3 rfl).trans ((ed 5 rfl).trans ((ed 7 rfl).trans (ep [3,2,1,0] rfl))))) ?_
     rintro _ _ (⟨q48,mv49,h50,rfl,rfl⟩ | ⟨x51,h52,h53,rfl,rfl⟩)
     ·refine ⟨es [2,1] rfl,?_⟩
      refine Gq 6 [2,1] rfl (OpQ.move rfl rfl) ?_
      refine Gq 7 [2,1] rfl (OpQ.extract rfl rfl rfl) ?_
      refine Gq 8 [2,1] rfl (OpQ.extract rfl rfl rfl) ?_
      refine WG.one (i:=9) (by kernel_rfl) (UpG.run rfl rfl rfl (OpRun.alloc rfl zv53 rfl) ?_)
      rintro _ _ ⟨b54,rfl,rfl⟩
      refine ⟨es [3,2] rfl,?_⟩
      refine WG.fact (fun _ _ s=>(sl_facts (i:=1) rfl s).2.2) (fun ho55=>?_)
      refine WG.one (i:=10) (by kernel_rfl) (UpG.run rfl rfl rfl (OpRun.store (i:=0) (vs:=[vint q48.founder,vint q48.epoch,mv49]) (cs':=[vint q48.founder,vint q48.epoch,mv49]) rfl rfl rfl sz53 rfl rfl (one_cons rfl (one_cons rfl (one_cons ho55 one_nil))) rfl (Lb rfl) rfl) ?_)
      rintro _ _ ⟨rfl,rfl⟩
      refine ⟨es [3,2] rfl,?_⟩
      refine Gq 11 [3,2] rfl (OpQ.assign rfl rfl) ?_
      refine WG.done (by kernel_rfl) ?_
      refine thn_n ?_
      exact W.weak (by exact ⟨rfl,rfl,rfl,rfl,rfl,trivial⟩) (es [0,0,0,0,0,0,0,0,0,0,0,0,0,0,0,0,0] rfl) (K1041 (q48,mv49,b54) h50)
     refine ⟨es [1,0] rfl,?_⟩
     refine Gq 6 [1,0] rfl (OpQ.move rfl rfl) ?_
     refine Gq 7 [1,0] rfl (OpQ.extract rfl rfl rfl) ?_
     refine Gq 8 [1,0] rfl (OpQ.extract rfl rfl rfl) ?_
     refine WG.one (i:=9) (by kernel_rfl) (UpG.run rfl rfl rfl (OpRun.alloc rfl zv53 rfl) ?_)
     rintro _ _ ⟨b56,rfl,rfl⟩
     refine ⟨es [2,1] rfl,?_⟩
     refine WG.one (i:=10) (by kernel_rfl) (UpG.run rfl rfl rfl (OpRun.store (i:=0) (vs:=[vint 0,vint 0,N0]) (cs':=[vint 0,vint 0,N0]) rfl rfl rfl sz53 rfl rfl (O3 one_nil) rfl (Lb rfl) rfl) ?_)
     rintro _ _ ⟨rfl,rfl⟩
     refine ⟨es [2,1] rfl,?_⟩
     refine Gq 11 [2,1] rfl (OpQ.assign rfl rfl) ?_
     refine WG.done (by kernel_rfl) ?_
     refine thn_n ?_
     exact W.weak (by exact ⟨rfl,rfl,rfl,rfl,rfl,trivial⟩) (es [0,0,0,0,0,0,0,0,0,0,0,0,0,0,0,0] rfl) (K1066 (x51,b56) ⟨h52,h53⟩)
    refine UpG.run rfl rfl rfl (OpRun.alloc rfl zv53 rfl) ?_
    rintro _ _ ⟨b57,rfl,rfl⟩
    refine ⟨es [2,1] rfl,?_⟩
    refine WG.one (i:=5) (by kernel_rfl) (UpG.call rfl rfl rfl (OpCall.mk (xs:=[.tmp 85,.tmp 86]) (vs:=[.agg #[vint q.pol.founder,vint q.pol.epoch,mv2],.agg #[vint e22.kind,vint e22.writer,vint e22.seq,n23,v24,vint e22.who,vint e22.rights,vint e22.epoch,w25]]) rfl ⟨rfl,rfl,trivial⟩ Tryz.call137) (PApply_fn q.pol mv2 e22 n23 v24 w25 (by first | omega | (simp; done) | (simp; omega) | (simp at *; omega))) ((ed 11 rfl).trans ((ed 4 rfl).trans ((ed 6 rfl).trans ((ed 8 rfl).trans (ep [3,2,1,0] rfl))))) ?_)
    rintro _ _ (⟨q58,mv59,h60,rfl,rfl⟩ | ⟨x61,h62,h63,rfl,rfl⟩)
    ·refine ⟨es [3,2] rfl,?_⟩
     refine Gq 6 [3,2] rfl (OpQ.move rfl rfl) ?_
     refine Gq 7 [3,2] rfl (OpQ.extract rfl rfl rfl) ?_
     refine Gq 8 [3,2] rfl (OpQ.extract rfl rfl rfl) ?_
     refine WG.fact (fun _ _ s=>(sl_facts (i:=0) rfl s).2.2) (fun ho64=>?_)
     refine WG.one (i:=10) (by kernel_rfl) (UpG.run rfl rfl rfl (OpRun.store (i:=1) (vs:=[vint q58.founder,vint q58.epoch,mv59]) (cs':=[vint q58.founder,vint q58.epoch,mv59]) rfl rfl rfl sz53 rfl rfl (one_cons rfl (one_cons rfl (one_cons ho64 one_nil))) rfl (Lb rfl) rfl) ?_)
     rintro _ _ ⟨rfl,rfl⟩
     refine ⟨es [3,2] rfl,?_⟩
     refine Gq 11 [3,2] rfl (OpQ.assign rfl rfl) ?_
     refine WG.done (by kernel_rfl) ?_
     refine thn_n ?_
     exact W.weak (by exact ⟨rfl,rfl,rfl,rfl,rfl,trivial⟩) (es [0,0,0,0,0,0,0,0,0,0,0,0,0,0,0,0,0] rfl) (K1041 (q58,mv59,b57) h60)
    refine ⟨es [2,1] rfl,?_⟩
    refine Gq 6 [2,1] rfl (OpQ.move rfl rfl) ?_
    refine Gq 7 [2,1] rfl (OpQ.extract rfl rfl rfl) ?_
    refine Gq 8 [2,1] rfl (OpQ.extract rfl rfl rfl) ?_
    refine WG.one (i:=10) (by kernel_rfl) (UpG.run rfl rfl rfl (OpRun.store (i:=0) (vs:=[vint 0,vint 0,N0]) (cs':=[vint 0,vint 0,N0]) rfl rfl rfl sz53 rfl rfl (O3 one_nil) rfl (Lb rfl) rfl) ?_)
    rintro _ _ ⟨rfl,rfl⟩
    refine ⟨es [2,1] rfl,?_⟩
    refine Gq 11 [2,1] rfl (OpQ.assign rfl rfl) ?_
    refine WG.done (by kernel_rfl) ?_
    refine thn_n ?_
    exact W.weak (by exact ⟨rfl,rfl,rfl,rfl,rfl,trivial⟩) (es [0,0,0,0,0,0,0,0,0,0,0,0,0,0,0,0] rfl) (K1066 (x61,b57) ⟨h62,h63⟩)
   refine Gq 2 [1] rfl (OpQ.decF (OpQ.neq rfl rfl rfl) h40) ?_
   refine Gq 3 [1] rfl (OpQ.move rfl rfl) ?_
   refine Gs 4 [1] ?_
   refine Gs 5 [1] ?_
   refine Gs 6 [1] ?_
   refine Gs 7 [1] ?_
   refine Gs 8 [1] ?_
   refine Gs 9 [1] ?_
   refine Gs 10 [1] ?_
   refine Gs 11 [1] ?_
   refine Gq 12 [1] rfl (OpQ.pickF rfl rfl rfl) ?_
   refine WG.done (by kernel_rfl) ?_
   refine thn_n (Wl [(0,vptr rp 0),(4,vint 0),(7,vptr b34 0),(8,vint 0),(80,.bool false)] ?_)
   refine W.condF rfl ?_
   refine W.skip (thn_n (Wl [(0,vptr rp 0),(4,vint 0),(7,vptr b34 0),(8,vint 0)] ?_))
   refine W.cut (X:=Policy × Value × Nat) (φ:=fun x=>match x with | (q71,mv72,b77)=>(Spec.papply q.pol e22 = .ok q71)) (E:=fun x=>match x with | (q71,mv72,b77)=>[(0,vptr rp 0),(4,vint 0),(7,vptr b34 0),(8,vint 0),(9,vptr b77 0)]) (F:=fun x=>match x with | (q71,mv72,b77)=>[Cl b77 53 [vint q71.founder,vint q71.epoch,mv72],KM mv72 q71.members,Cl rp 208 (rcs sp x1 q sv2 mv2 dp2 gp2++(q.seen.set e22.writer.toNat e22.seq).map vint),Cl b34 33 (ecs e22 n23 v24 w25),KB n23 e22.name,KB v24 e22.value,KW w25 e22.wraps,SuiteR sp A26,KB z5 k6,RingR gp2 q.keys,Cl b3 203 [vint r.collection,vint r.epoch,vint r.writer,vint r.count,bx],KB sv2 q.secret,KM mv2 q.pol.members,DocsR dp2 q.docs,ChainR x1 sp q.chain,KB bx r.box,Al R]) (fun x hx=>?_) (fun K1064=>?_)
   ·obtain ⟨q71,mv72,b77⟩:=x
    have h79:Spec.papply q.pol e22 = .ok q71:=hx; clear hx
    refine Ww [(0,vptr rp 0),(4,vint 0),(7,vptr b34 0),(8,vint 0),(9,vptr b77 0)] [Cl b77 53 [vint q71.founder,vint q71.epoch,mv72],KM mv72 q71.members,Cl rp 208 (rcs sp x1 q sv2 mv2 dp2 gp2++(q.seen.set e22.writer.toNat e22.seq).map vint),Cl b34 33 (ecs e22 n23 v24 w25),KB n23 e22.name,KB v24 e22.value,KW w25 e22.wraps,SuiteR sp A26,KB z5 k6,RingR gp2 q.keys,Cl b3 203 [vint r.collection,vint r.epoch,vint r.writer,vint r.count,bx],KB sv2 q.secret,KM mv2 q.pol.members,DocsR dp2 q.docs,ChainR x1 sp q.chain,KB bx r.box,Al R] ?_
    refine W.seq (Sn (Qm (k:=?_)))
    refine Qu (OpQ.neq rfl rfl rfl) (k:=Nl [(0,vptr rp 0),(4,vint 0),(7,vptr b34 0),(8,vint 0),(9,vptr b77 0),(91,.bool (decide ((0:Int)≠0)))] ?_)
    refine Cp rfl (fun h80=>absurd h80 (by decide)) (fun h80=>?_)
    refine W.skip (thn_n (Wl [(0,vptr rp 0),(4,vint 0),(7,vptr b34 0),(9,vptr b77 0)] ?_))
    refine Sn (Qm (k:=Qu (OpQ.loadN (i:=0) rfl rfl ld53 rfl rfl rfl) (k:=Qu (OpQ.nilCheck rfl rfl) (k:=Qu (Of (fa208_3 _ _)) (k:=?_)))))
    refine Nf 1 fun ho81=>?_
    refine Rn (OpRun.store (i:=2) (vs:=[vint q71.founder,vint q71.epoch,mv72]) (cs':=[vptr sp 0,vint q.coll,vint q.founder,vint q.who,sv2,vptr x1 0,vint q71.founder,vint q71.epoch,mv72,vptr dp2 0,vptr gp2 0]++(q.seen.set e22.writer.toNat e22.seq).map vint) rfl rfl rfl sz53 rfl rfl (one_cons rfl (one_cons rfl (one_cons ho81 one_nil))) rfl (Lb rfl) rfl) (k:=Nw [(0,vptr rp 0),(4,vint 0),(7,vptr b34 0)] [Cl rp 208 ([vptr sp 0,vint q.coll,vint q.founder,vint q.who,sv2,vptr x1 0,vint q71.founder,vint q71.epoch,mv72,vptr dp2 0,vptr gp2 0]++(q.seen.set e22.writer.toNat e22.seq).map vint),Cl b77 53 [vint q71.founder,vint q71.epoch,mv72],KM mv72 q71.members,Cl b34 33 (ecs e22 n23 v24 w25),KB n23 e22.name,KB v24 e22.value,KW w25 e22.wraps,SuiteR sp A26,KB z5 k6,RingR gp2 q.keys,Cl b3 203 [vint r.collection,vint r.epoch,vint r.writer,vint r.count,bx],KB sv2 q.secret,KM mv2 q.pol.members,DocsR dp2 q.docs,ChainR x1 sp q.chain,KB bx r.box,Al R] ?_)
    refine W.seq (W.drawG mixed ?_)
    refine Gq 0 [] rfl (OpQ.move rfl rfl) ?_
    refine Gq 1 [] rfl (OpQ.nilCheck rfl rfl) ?_
    refine Gq 2 [] rfl (Of (fa208_4 _ _)) ?_
    refine WG.hold (Cl rp 208 ([vptr sp 0,vint q.coll,vint q.founder,vint q.who,sv2,vptr x1 0,vint q71.founder,vint q71.epoch,mv72,vptr dp2 0,vptr gp2 0]++(q.seen.set e22.writer.toNat e22.seq).map vint),[]) ?_
    refine Gq 3 [0] rfl (Ol 0 ld56) ?_
    refine WG.hold (Cl b34 33 (ecs e22 n23 v24 w25),[]) ?_
    refine Gq 4 [3,0] rfl (OpQ.loadN (i:=0) rfl rfl ld33 rfl rfl rfl) ?_
    refine WG.one (i:=5) (by kernel_rfl) (UpG.call rfl rfl rfl (OpCall.mk (xs:=[.tmp 100,.tmp 101]) (vs:=[vptr dp2 0,.agg #[vint e22.kind,vint e22.writer,vint e22.seq,n23,v24,vint e22.who,vint e22.rights,vint e22.epoch,w25]]) rfl ⟨rfl,rfl,trivial⟩ Tryz.call138) (docsApply_fn dp2 q.docs e22 n23 v24 w25) ((ed 4 rfl).trans ((ed 6 rfl).trans ((ed 8 rfl).trans (ep [16,2,1,0] rfl)))) ?_)
    rintro _ _ ⟨x82,d83,h84,rfl,rfl⟩
    refine ⟨es [4,1] rfl,?_⟩
    refine WG.done (by kernel_rfl) ?_
    refine thn_n (Ww [(0,vptr rp 0),(4,vint 0),(7,vptr b34 0)] [DocsR dp2 d83,Cl rp 208 ([vptr sp 0,vint q.coll,vint q.founder,vint q.who,sv2,vptr x1 0,vint q71.founder,vint q71.epoch,mv72,vptr dp2 0,vptr gp2 0]++(q.seen.set e22.writer.toNat e22.seq).map vint),Cl b77 53 [vint q71.founder,vint q71.epoch,mv72],KM mv72 q71.members,Cl b34 33 (ecs e22 n23 v24 w25),KB n23 e22.name,KB v24 e22.value,KW w25 e22.wraps,SuiteR sp A26,KB z5 k6,RingR gp2 q.keys,Cl b3 203 [vint r.collection,vint r.epoch,vint r.writer,vint r.count,bx],KB sv2 q.secret,KM mv2 q.pol.members,ChainR x1 sp q.chain,KB bx r.box,Al R] ?_)
    refine W.seq (W.region ?_)
    have hpl17:=Spec.papply_len h79; have hpe16:=Spec.papply_epoch hfine2h h79
    refine WN.ent (L':=[Cl rp 208 ([vptr sp 0,vint q.coll,vint q.founder,vint q.who,sv2,vptr x1 0,vint q71.founder,vint q71.epoch,mv72,vptr dp2 0,vptr gp2 0]++(q.seen.set e22.writer.toNat e22.seq).map vint),KB sv2 q.secret,KM mv72 q71.members,DocsR dp2 d83,RingR gp2 q.keys,Cl b77 53 [vint q71.founder,vint q71.epoch,mv72],Cl b34 33 (ecs e22 n23 v24 w25),KB n23 e22.name,KB v24 e22.value,KW w25 e22.wraps,SuiteR sp A26,KB z5 k6,Cl b3 203 [vint r.collection,vint r.epoch,vint r.writer,vint r.count,bx],KM mv2 q.pol.members,ChainR x1 sp q.chain,KB bx r.box,Al R]) (es [1,11,2,0,7,0,0,0,0,0,0,0,0,0,0,0,0] rfl) ?_
    refine WN.ent (L':=[ReplayO rp sp x1 ({ q with seen:=q.seen.set e22.writer.toNat e22.seq,pol:=q71,docs:=d83 }:Rep),Cl b77 53 [vint q71.founder,vint q71.epoch,mv72],Cl b34 33 (ecs e22 n23 v24 w25),KB n23 e22.name,KB v24 e22.value,KW w25 e22.wraps,SuiteR sp A26,KB z5 k6,Cl b3 203 [vint r.collection,vint r.epoch,vint r.writer,vint r.count,bx],KM mv2 q.pol.members,ChainR x1 sp q.chain,KB bx r.box,Al R]) (Ent.rep' (sv2,mv72,dp2,gp2) rfl (Rep.fine_pol (Rep.fine_seen hfine2 (k:=e22.writer.toNat) (x:=e22.seq) (by omega) (by omega)) hpl17 hpe16) rfl) ?_
    refine WN.ent (L':=[ReplayO rp sp x1 ({ q with seen:=q.seen.set e22.writer.toNat e22.seq,pol:=q71,docs:=d83 }:Rep),ChainR x1 sp q.chain,Cl b77 53 [vint q71.founder,vint q71.epoch,mv72],Cl b34 33 (ecs e22 n23 v24 w25),KB n23 e22.name,KB v24 e22.value,KW w25 e22.wraps,SuiteR sp A26,KB z5 k6,Cl b3 203 [vint r.collection,vint r.epoch,vint r.writer,vint r.count,bx],KM mv2 q.pol.members,KB bx r.box,Al R]) (es [0,9,0,0,0,0,0,0,0,0,0,0,0] rfl) ?_
    refine WN.ent (L':=[ReplayR rp sp ({ q with seen:=q.seen.set e22.writer.toNat e22.seq,pol:=q71,docs:=d83 }:Rep),Cl b77 53 [vint q71.founder,vint q71.epoch,mv72],Cl b34 33 (ecs e22 n23 v24 w25),KB n23 e22.name,KB v24 e22.value,KW w25 e22.wraps,SuiteR sp A26,KB z5 k6,Cl b3 203 [vint r.collection,vint r.epoch,vint r.writer,vint r.count,bx],KM mv2 q.pol.members,KB bx r.box,Al R]) (Ent.rep' x1 rfl trivial rfl) ?_
    refine Qm (k:=Qu (OpQ.loadN (i:=2) rfl rfl ld33 rfl rfl rfl) (k:=?_))
    refine Wc [.tmp 103,.tmp 104] [vptr rp 0,.agg #[vint e22.kind,vint e22.writer,vint e22.seq,n23,v24,vint e22.who,vint e22.rights,vint e22.epoch,w25]] Tryz.call197 (repLearn_fn rp sp ({ q with seen:=q.seen.set e22.writer.toNat e22.seq,pol:=q71,docs:=d83 }:Rep) e22 n23 v24 w25 A26 (by first | omega | (simp; done) | (simp; omega) | (simp at *; omega)) (by first | omega | (simp; done) | (simp; omega) | (simp at *; omega))) ((ed 3 rfl).trans ((ed 5 rfl).trans ((ed 7 rfl).trans (ep [3,8,2,1,0] rfl)))) ?_
    rintro _ _ ⟨ks85,A86,h87,h88,rfl,rfl⟩
    refine Nw [(4,vint 0)] [ReplayR rp sp ({ ({ q with seen:=q.seen.set e22.writer.toNat e22.seq,pol:=q71,docs:=d83 }:Rep) with keys:=ks85 }:Rep),SuiteR sp A86,Cl b77 53 [vint q71.founder,vint q71.epoch,mv72],Cl b34 33 (ecs e22 n23 v24 w25),KB n23 e22.name,KB v24 e22.value,KW w25 e22.wraps,KB z5 k6,Cl b3 203 [vint r.collection,vint r.epoch,vint r.writer,vint r.count,bx],KM mv2 q.pol.members,KB bx r.box,Al R] ?_
    refine Sn (Qa (k:=Nl [(4,vint 0)] ?_))
    refine W.ret (ret1 (M:=[ReplayR rp sp ({ ({ q with seen:=q.seen.set e22.writer.toNat e22.seq,pol:=q71,docs:=d83 }:Rep) with keys:=ks85 }:Rep),SuiteR sp A86]) rfl rfl (⟨0,({ ({ q with seen:=q.seen.set e22.writer.toNat e22.seq,pol:=q71,docs:=d83 }:Rep) with keys:=ks85 }:Rep),A86,(by unfold Spec.outcome; rw [if_neg (by omega)]; simp only [h7,h36]; rw [if_neg h39]; rw [if_neg (by omega)]; simp only [h79]; simp only [h84,h87]),(by omega),rfl,rfl⟩) (es [0,0,9] rfl))
   refine W.cut (X:=Int × Nat) (φ:=fun x=>match x with | (x74,b79)=>(Spec.papply q.pol e22 = .error x74)∧(x74≠0)) (E:=fun x=>match x with | (x74,b79)=>[(0,vptr rp 0),(4,vint 0),(7,vptr b34 0),(8,vint x74),(9,vptr b79 0)]) (F:=fun x=>match x with | (x74,b79)=>[Cl b79 53 [vint 0,vint 0,N0],Cl rp 208 (rcs sp x1 q sv2 mv2 dp2 gp2++(q.seen.set e22.writer.toNat e22.seq).map vint),Cl b34 33 (ecs e22 n23 v24 w25),KB n23 e22.name,KB v24 e22.value,KW w25 e22.wraps,SuiteR sp A26,KB z5 k6,RingR gp2 q.keys,Cl b3 203 [vint r.collection,vint r.epoch,vint r.writer,vint r.count,bx],KB sv2 q.secret,KM mv2 q.pol.members,DocsR dp2 q.docs,ChainR x1 sp q.chain,KB bx r.box,Al R]) (fun x hx=>?_) (fun K1089=>?_)
   ·obtain ⟨x74,b79⟩:=x
    obtain ⟨h81,h82⟩:=hx
    refine Ww [(0,vptr rp 0),(4,vint 0),(7,vptr b34 0),(8,vint x74),(9,vptr b79 0)] [Cl b79 53 [vint 0,vint 0,N0],Cl rp 208 (rcs sp x1 q sv2 mv2 dp2 gp2++(q.seen.set e22.writer.toNat e22.seq).map vint),Cl b34 33 (ecs e22 n23 v24 w25),KB n23 e22.name,KB v24 e22.value,KW w25 e22.wraps,SuiteR sp A26,KB z5 k6,RingR gp2 q.keys,Cl b3 203 [vint r.collection,vint r.epoch,vint r.writer,vint r.count,bx],KB sv2 q.secret,KM mv2 q.pol.members,DocsR dp2 q.docs,ChainR x1 sp q.chain,KB bx r.box,Al R] ?_
    refine W.seq (Sn (Qm (k:=?_)))
    refine Qu (OpQ.neq rfl rfl rfl) (k:=Nl [(0,vptr rp 0),(4,vint 0),(7,vptr b34 0),(8,vint x74),(9,vptr b79 0),(91,.bool (decide (x74≠0)))] ?_)
    refine Cp rfl (fun h83=>?_) (fun h83=>absurd h82 h83)
    refine Sn (Qm (k:=Qa (k:=Nl [(0,vptr rp 0),(4,vint x74),(7,vptr b34 0),(9,vptr b79 0)] ?_)))
    refine W.ent (L':=[Cl rp 208 (rcs sp x1 q sv2 mv2 dp2 gp2++(q.seen.set e22.writer.toNat e22.seq).map vint),KB sv2 q.secret,KM mv2 q.pol.members,DocsR dp2 q.docs,RingR gp2 q.keys,Cl b79 53 [vint 0,vint 0,N0],Cl b34 33 (ecs e22 n23 v24 w25),KB n23 e22.name,KB v24 e22.value,KW w25 e22.wraps,SuiteR sp A26,KB z5 k6,Cl b3 203 [vint r.collection,vint r.epoch,vint r.writer,vint r.count,bx],ChainR x1 sp q.chain,KB bx r.box,Al R]) (es [1,9,9,9,7,0,0,0,0,0,0,0,0,0,0,0] rfl) ?_
    refine W.ent (L':=[ReplayO rp sp x1 ({ q with seen:=q.seen.set e22.writer.toNat e22.seq }:Rep),Cl b79 53 [vint 0,vint 0,N0],Cl b34 33 (ecs e22 n23 v24 w25),KB n23 e22.name,KB v24 e22.value,KW w25 e22.wraps,SuiteR sp A26,KB z5 k6,Cl b3 203 [vint r.collection,vint r.epoch,vint r.writer,vint r.count,bx],ChainR x1 sp q.chain,KB bx r.box,Al R]) (Ent.rep' (sv2,mv2,dp2,gp2) rfl (Rep.fine_seen hfine2 (by omega) (by omega)) rfl) ?_
    refine W.ent (L':=[ReplayO rp sp x1 ({ q with seen:=q.seen.set e22.writer.toNat e22.seq }:Rep),ChainR x1 sp q.chain,Cl b79 53 [vint 0,vint 0,N0],Cl b34 33 (ecs e22 n23 v24 w25),KB n23 e22.name,KB v24 e22.value,KW w25 e22.wraps,SuiteR sp A26,KB z5 k6,Cl b3 203 [vint r.collection,vint r.epoch,vint r.writer,vint r.count,bx],KB bx r.box,Al R]) (es [0,8,0,0,0,0,0,0,0,0,0,0] rfl) ?_
    refine W.ent (L':=[ReplayR rp sp ({ q with seen:=q.seen.set e22.writer.toNat e22.seq }:Rep),Cl b79 53 [vint 0,vint 0,N0],Cl b34 33 (ecs e22 n23 v24 w25),KB n23 e22.name,KB v24 e22.value,KW w25 e22.wraps,SuiteR sp A26,KB z5 k6,Cl b3 203 [vint r.collection,vint r.epoch,vint r.writer,vint r.count,bx],KB bx r.box,Al R]) (Ent.rep' x1 rfl trivial rfl) ?_
    refine W.ret (thn_r (ret1 (M:=[ReplayR rp sp ({ q with seen:=q.seen.set e22.writer.toNat e22.seq }:Rep),SuiteR sp A26]) rfl rfl (⟨x74,({ q with seen:=q.seen.set e22.writer.toNat e22.seq }:Rep),A26,(by unfold Spec.outcome; rw [if_neg (by omega)]; simp only [h7,h36]; rw [if_neg h39]; rw [if_neg (by omega)]; simp only [h81]),(by omega),rfl,rfl⟩) (es [0,5,8] rfl)))
   refine W.seq (W.drawG mixed ?_)
   refine Gq 0 [] rfl (OpQ.move rfl rfl) ?_
   refine Gq 1 [] rfl (OpQ.nilCheck rfl rfl) ?_
   refine Gq 2 [] rfl (Of (fa208_3 _ _)) ?_
   refine WG.hold (Cl rp 208 (rcs sp x1 q sv2 mv2 dp2 gp2++(q.seen.set e22.writer.toNat e22.seq).map vint),[]) ?_
   refine Gq 3 [0] rfl (OpQ.loadN (i:=0) rfl rfl ld53 rfl rfl rfl) ?_
   refine WG.hold (Cl b34 33 (ecs e22 n23 v24 w25),[]) ?_
   refine Gq 4 [1,0] rfl (OpQ.loadN (i:=0) rfl rfl ld33 rfl rfl rfl) ?_
   refine WG.two (i:=5) (j:=9) (by kernel_rfl) ?_ ?_
   ·refine UpG.call rfl rfl rfl (OpCall.mk (xs:=[.tmp 85,.tmp 86]) (vs:=[.agg #[vint q.pol.founder,vint q.pol.epoch,mv2],.agg #[vint e22.kind,vint e22.writer,vint e22.seq,n23,v24,vint e22.who,vint e22.rights,vint e22.epoch,w25]]) rfl ⟨rfl,rfl,trivial⟩ Tryz.call137) (PApply_fn q.pol mv2 e22 n23 v24 w25 (by first | omega | (simp; done) | (simp; omega) | (simp at *; omega))) ((ed 10 rfl).trans ((ed 3 rfl).trans ((ed 5 rfl).trans ((ed 7 rfl).trans (ep [3,2,1,0] rfl))))) ?_
    rintro _ _ (⟨q71,mv72,h73,rfl,rfl⟩ | ⟨x74,h75,h76,rfl,rfl⟩)
    ·refine ⟨es [2,1] rfl,?_⟩
     refine Gq 6 [2,1] rfl (OpQ.move rfl rfl) ?_
     refine Gq 7 [2,1] rfl (OpQ.extract rfl rfl rfl) ?_
     refine Gq 8 [2,1] rfl (OpQ.extract rfl rfl rfl) ?_
     refine WG.one (i:=9) (by kernel_rfl) (UpG.run rfl rfl rfl (OpRun.alloc rfl zv53 rfl) ?_)
     rintro _ _ ⟨b77,rfl,rfl⟩
     refine ⟨es [3,2] rfl,?_⟩
     refine WG.fact (fun _ _ s=>(sl_facts (i:=1) rfl s).2.2) (fun ho78=>?_)
     refine WG.one (i:=10) (by kernel_rfl) (UpG.run rfl rfl rfl (OpRun.store (i:=0) (vs:=[vint q71.founder,vint q71.epoch,mv72]) (cs':=[vint q71.founder,vint q71.epoch,mv72]) rfl rfl rfl sz53 rfl rfl (one_cons rfl (one_cons rfl (one_cons ho78 one_nil))) rfl (Lb rfl) rfl) ?_)
     rintro _ _ ⟨rfl,rfl⟩
     refine ⟨es [3,2] rfl,?_⟩
     refine Gq 11 [3,2] rfl (OpQ.assign rfl rfl) ?_
     refine WG.done (by kernel_rfl) ?_
     refine thn_n ?_
     exact W.weak (by exact ⟨rfl,rfl,rfl,rfl,rfl,trivial⟩) (es [0,0,0,0,0,0,0,0,0,0,0,0,0,0,0,0,0] rfl) (K1064 (q71,mv72,b77) h73)
    refine ⟨es [1,0] rfl,?_⟩
    refine Gq 6 [1,0] rfl (OpQ.move rfl rfl) ?_
    refine Gq 7 [1,0] rfl (OpQ.extract rfl rfl rfl) ?_
    refine Gq 8 [1,0] rfl (OpQ.extract rfl rfl rfl) ?_
    refine WG.one (i:=9) (by kernel_rfl) (UpG.run rfl rfl rfl (OpRun.alloc rfl zv53 rfl) ?_)
    rintro _ _ ⟨b79,rfl,rfl⟩
    refine ⟨es [2,1] rfl,?_⟩
    refine WG.one (i:=10) (by kernel_rfl) (UpG.run rfl rfl rfl (OpRun.store (i:=0) (vs:=[vint 0,vint 0,N0]) (cs':=[vint 0,vint 0,N0]) rfl rfl rfl sz53 rfl rfl (O3 one_nil) rfl (Lb rfl) rfl) ?_)
    rintro _ _ ⟨rfl,rfl⟩
    refine ⟨es [2,1] rfl,?_⟩
    refine Gq 11 [2,1] rfl (OpQ.assign rfl rfl) ?_
    refine WG.done (by kernel_rfl) ?_
    refine thn_n ?_
    exact W.weak (by exact ⟨rfl,rfl,rfl,rfl,rfl,trivial⟩) (es [0,0,0,0,0,0,0,0,0,0,0,0,0,0,0,0] rfl) (K1089 (x74,b79) ⟨h75,h76⟩)
   refine UpG.run rfl rfl rfl (OpRun.alloc rfl zv53 rfl) ?_
   rintro _ _ ⟨b80,rfl,rfl⟩
   refine ⟨es [2,1] rfl,?_⟩
   refine WG.one (i:=5) (by kernel_rfl) (UpG.call rfl rfl rfl (OpCall.mk (xs:=[.tmp 85,.tmp 86]) (vs:=[.agg #[vint q.pol.founder,vint q.pol.epoch,mv2],.agg #[vint e22.kind,vint e22.writer,vint e22.seq,n23,v24,vint e22.who,vint e22.rights,vint e22.epoch,w25]]) rfl ⟨rfl,rfl,trivial⟩ Tryz.call137) (PApply_fn q.pol mv2 e22 n23 v24 w25 (by first | omega | (simp; done) | (simp; omega) | (simp at *; omega))) ((ed 11 rfl).trans ((ed 4 rfl).trans ((ed 6 rfl).trans ((ed 8 rfl).trans (ep [3,2,1,0] rfl))))) ?_)
   rintro _ _ (⟨q81,mv82,h83,rfl,rfl⟩ | ⟨x84,h85,h86,rfl,rfl⟩)
   ·refine ⟨es [3,2] rfl,?_⟩
    refine Gq 6 [3,2] rfl (OpQ.move rfl rfl) ?_
    refine Gq 7 [3,2] rfl (OpQ.extract rfl rfl rfl) ?_
    refine Gq 8 [3,2] rfl (OpQ.extract rfl rfl rfl) ?_
    refine WG.fact (fun _ _ s=>(sl_facts (i:=0) rfl s).2.2) (fun ho87=>?_)
    refine WG.one (i:=10) (by kernel_rfl) (UpG.run rfl rfl rfl (OpRun.store (i:=1) (vs:=[vint q81.founder,vint q81.epoch,mv82]) (cs':=[vint q81.founder,vint q81.epoch,mv82]) rfl rfl rfl sz53 rfl rfl (one_cons rfl (one_cons rfl (one_cons ho87 one_nil))) rfl (Lb rfl) rfl) ?_)
    rintro _ _ ⟨rfl,rfl⟩
    refine ⟨es [3,2] rfl,?_⟩
    refine Gq 11 [3,2] rfl (OpQ.assign rfl rfl) ?_
    refine WG.done (by kernel_rfl) ?_
    refine thn_n ?_
    exact W.weak (by exact ⟨rfl,rfl,rfl,rfl,rfl,trivial⟩) (es [0,0,0,0,0,0,0,0,0,0,0,0,0,0,0,0,0] rfl) (K1064 (q81,mv82,b80) h83)
   refine ⟨es [2,1] rfl,?_⟩
   refine Gq 6 [2,1] rfl (OpQ.move rfl rfl) ?_
   refine Gq 7 [2,1] rfl (OpQ.extract rfl rfl rfl) ?_
   refine Gq 8 [2,1] rfl (OpQ.extract rfl rfl rfl) ?_
   refine WG.one (i:=10) (by kernel_rfl) (UpG.run rfl rfl rfl (OpRun.store (i:=0) (vs:=[vint 0,vint 0,N0]) (cs':=[vint 0,vint 0,N0]) rfl rfl rfl sz53 rfl rfl (O3 one_nil) rfl (Lb rfl) rfl) ?_)
   rintro _ _ ⟨rfl,rfl⟩
   refine ⟨es [2,1] rfl,?_⟩
   refine Gq 11 [2,1] rfl (OpQ.assign rfl rfl) ?_
   refine WG.done (by kernel_rfl) ?_
   refine thn_n ?_
   exact W.weak (by exact ⟨rfl,rfl,rfl,rfl,rfl,trivial⟩) (es [0,0,0,0,0,0,0,0,0,0,0,0,0,0,0,0] rfl) (K1089 (x84,b80) ⟨h85,h86⟩)
  refine W.cut (X:=Int × (List Thing) × Nat) (φ:=fun x=>match x with | (e29,A30,b38)=>(Spec.sopen A q.secret k6 r=(.error e29,A30))∧(e29≠0)∧(A30.length≤A.length+2)) (E:=fun x=>match x with | (e29,A30,b38)=>[(0,vptr rp 0),(3,vptr b3 0),(4,vint 0),(7,vptr b38 0),(8,vint e29)]) (F:=fun x=>match x with | (e29,A30,b38)=>[Cl b38 33 [vint 0,vint 0,vint 0,N0,N0,vint 0,vint 0,vint 0,N0],SuiteR sp A30,KB z5 k6,RingR gp2 q.keys,Cl b3 203 [vint r.collection,vint r.epoch,vint r.writer,vint r.count,bx],Cl rp 208 (rcs sp x1 q sv2 mv2 dp2 gp2++q.seen.map vint),KB sv2 q.secret,KM mv2 q.pol.members,DocsR dp2 q.docs,ChainR x1 sp q.chain,KB bx r.box,Al R]) (fun x hx=>?_) (fun K1088=>?_)
  ·obtain ⟨e29,A30,b38⟩:=x
   obtain ⟨h40,h41,h42⟩:=hx
   refine Ww [(0,vptr rp 0),(3,vptr b3 0),(4,vint 0),(7,vptr b38 0),(8,vint e29)] [Cl b38 33 [vint 0,vint 0,vint 0,N0,N0,vint 0,vint 0,vint 0,N0],SuiteR sp A30,KB z5 k6,RingR gp2 q.keys,Cl b3 203 [vint r.collection,vint r.epoch,vint r.writer,vint r.count,bx],Cl rp 208 (rcs sp x1 q sv2 mv2 dp2 gp2++q.seen.map vint),KB sv2 q.secret,KM mv2 q.pol.members,DocsR dp2 q.docs,ChainR x1 sp q.chain,KB bx r.box,Al R] ?_
   refine W.seq (W.block (Sn (Qm (k:=?_))))
   refine Qu (OpQ.neq rfl rfl rfl) (k:=Qa (k:=Nl [(0,vptr rp 0),(3,vptr b3 0),(4,vint 0),(7,vptr b38 0),(8,vint e29),(45,.bool (decide (e29≠0)))] ?_))
   refine Cp rfl (fun h43=>?_) (fun h43=>absurd h41 h43)
   refine Sn (Qm (k:=Qa (k:=Nl [(0,vptr rp 0),(3,vptr b3 0),(4,vint e29),(7,vptr b38 0),(8,vint e29)] ?_)))
   refine W.ent (L':=[Cl rp 208 (rcs sp x1 q sv2 mv2 dp2 gp2++q.seen.map vint),KB sv2 q.secret,KM mv2 q.pol.members,DocsR dp2 q.docs,RingR gp2 q.keys,Cl b38 33 [vint 0,vint 0,vint 0,N0,N0,vint 0,vint 0,vint 0,N0],SuiteR sp A30,KB z5 k6,Cl b3 203 [vint r.collection,vint r.epoch,vint r.writer,vint r.count,bx],ChainR x1 sp q.chain,KB bx r.box,Al R]) (es [5,5,5,5,3,0,0,0,0,0,0,0] rfl) ?_
   refine W.ent (L':=[ReplayO rp sp x1 q,Cl b38 33 [vint 0,vint 0,vint 0,N0,N0,vint 0,vint 0,vint 0,N0],SuiteR sp A30,KB z5 k6,Cl b3 203 [vint r.collection,vint r.epoch,vint r.writer,vint r.count,bx],ChainR x1 sp q.chain,KB bx r.box,Al R]) (Ent.rep' (sv2,mv2,dp2,gp2) rfl hfine2 rfl) ?_
   refine W.ent (L':=[ReplayO rp sp x1 q,ChainR x1 sp q.chain,Cl b38 33 [vint 0,vint 0,vint 0,N0,N0,vint 0,vint 0,vint 0,N0],SuiteR sp A30,KB z5 k6,Cl b3 203 [vint r.collection,vint r.epoch,vint r.writer,vint r.count,bx],KB bx r.box,Al R]) (es [0,4,0,0,0,0,0,0] rfl) ?_
   refine W.ent (L':=[ReplayR rp sp q,Cl b38 33 [vint 0,vint 0,vint 0,N0,N0,vint 0,vint 0,vint 0,N0],SuiteR sp A30,KB z5 k6,Cl b3 203 [vint r.collection,vint r.epoch,vint r.writer,vint r.count,bx],KB bx r.box,Al R]) (Ent.rep' x1 rfl trivial rfl) ?_
   refine W.ret (inblk_r (thn_r (ret1 (M:=[ReplayR rp sp q,SuiteR sp A30]) rfl rfl (⟨e29,q,A30,(by unfold Spec.outcome; rw [if_neg (by omega)]; simp only [h7,h40]),(by omega),rfl,rfl⟩) (es [0,1,4] rfl))))
  refine W.seq (W.drawG mixed ?_)
  refine Gq 0 [] rfl (OpQ.move rfl rfl) ?_
  refine Gq 1 [] rfl (OpQ.nilCheck rfl rfl) ?_
  refine Gq 2 [] rfl (Of (fa208_0 _ _)) ?_
  refine WG.hold (Cl rp 208 (rcs sp x1 q sv2 mv2 dp2 gp2++q.seen.map vint),[]) ?_
  refine Gq 3 [3] rfl (Ol 0 ld40) ?_
  refine Gq 4 [3] rfl (OpQ.move rfl rfl) ?_
  refine Gq 5 [3] rfl (OpQ.nilCheck rfl rfl) ?_
  refine Gq 6 [3] rfl (Of (fa208_1 _ _)) ?_
  refine Gq 7 [3] rfl (Of (fa24_3 _ _)) ?_
  refine Gq 8 [3] rfl (Ol 0 ld22) ?_
  refine Gq 9 [3] rfl (OpQ.move rfl rfl) ?_
  refine WG.hold (Cl b3 203 [vint r.collection,vint r.epoch,vint r.writer,vint r.count,bx],[]) ?_
  refine Gq 10 [2,2] rfl (OpQ.loadN (i:=0) rfl rfl ld203 rfl rfl rfl) ?_
  refine WG.two (i:=11) (j:=15) (by kernel_rfl) ?_ ?_
  ·refine UpG.call rfl rfl rfl (OpCall.mk (xs:=[.tmp 34,.tmp 39,.tmp 40,.tmp 41]) (vs:=[vptr sp 0,sv2,z5,.agg #[vint r.collection,vint r.epoch,vint r.writer,vint r.count,bx]]) rfl ⟨rfl,rfl,rfl,rfl,trivial⟩ Tryz.call196) (SOpen_fn sp A sv2 q.secret z5 k6 r bx (by first | omega | (simp; done) | (simp; omega) | (simp at *; omega))) ((ed 4 rfl).trans ((ed 1 rfl).trans ((ed 11 rfl).trans (ep [11,2,1,0] rfl)))) ?_
   rintro _ _ (⟨e22,n23,v24,w25,A26,h27,h28,rfl,rfl⟩ | ⟨e29,A30,h31,h32,h33,rfl,rfl⟩)
   ·refine ⟨es [6,6] rfl,?_⟩
    refine Gq 12 [6,6] rfl (OpQ.move rfl rfl) ?_
    refine Gq 13 [6,6] rfl (OpQ.extract rfl rfl rfl) ?_
    refine Gq 14 [6,6] rfl (OpQ.extract rfl rfl rfl) ?_
    refine WG.one (i:=15) (by kernel_rfl) (UpG.run rfl rfl rfl (OpRun.alloc rfl zv33 rfl) ?_)
    rintro _ _ ⟨b34,rfl,rfl⟩
    refine ⟨es [7,7] rfl,?_⟩
    refine WG.fact (fun _ _ s=>(sl_facts (i:=3) rfl s).2.2) (fun ho35=>?_)
    refine WG.fact (fun _ _ s=>(sl_facts (i:=2) rfl s).2.2) (fun ho36=>?_)
    refine WG.fact (fun _ _ s=>(sl_facts (i:=1) rfl s).2.2) (fun ho37=>?_)
    refine WG.one (i:=16) (by kernel_rfl) (UpG.run rfl rfl rfl (OpRun.store (i:=0) (vs:=[vint e22.kind,vint e22.writer,vint e22.seq,n23,v24,vint e22.who,vint e22.rights,vint e22.epoch,w25]) (cs':=[vint e22.kind,vint e22.writer,vint e22.seq,n23,v24,vint e22.who,vint e22.rights,vint e22.epoch,w25]) rfl rfl rfl sz33 rfl rfl (O3 (one_cons ho37 (one_cons ho36 (O3 (one_cons ho35 one_nil))))) rfl (Lb rfl) rfl) ?_)
    rintro _ _ ⟨rfl,rfl⟩
    refine ⟨es [7,7] rfl,?_⟩
    refine Gq 17 [7,7] rfl (OpQ.assign rfl rfl) ?_
    refine WG.done (by kernel_rfl) ?_
    refine thn_n ?_
    exact W.weak (by exact ⟨rfl,rfl,rfl,rfl,rfl,trivial⟩) (es [0,0,0,0,0,0,0,0,0,0,0,0,0,0,0] rfl) (K1009 (e22,n23,v24,w25,A26,b34) ⟨h27,h28⟩)
   refine ⟨es [3,3] rfl,?_⟩
   refine Gq 12 [3,3] rfl (OpQ.move rfl rfl) ?_
   refine Gq 13 [3,3] rfl (OpQ.extract rfl rfl rfl) ?_
   refine Gq 14 [3,3] rfl (OpQ.extract rfl rfl rfl) ?_
   refine WG.one (i:=15) (by kernel_rfl) (UpG.run rfl rfl rfl (OpRun.alloc rfl zv33 rfl) ?_)
   rintro _ _ ⟨b38,rfl,rfl⟩
   refine ⟨es [4,4] rfl,?_⟩
   refine WG.one (i:=16) (by kernel_rfl) (UpG.run rfl rfl rfl (OpRun.store (i:=0) (vs:=[vint 0,vint 0,vint 0,N0,N0,vint 0,vint 0,vint 0,N0]) (cs':=[vint 0,vint 0,vint 0,N0,N0,vint 0,vint 0,vint 0,N0]) rfl rfl rfl sz33 rfl rfl (O3 (O3 (O3 one_nil))) rfl (Lb rfl) rfl) ?_)
   rintro _ _ ⟨rfl,rfl⟩
   refine ⟨es [4,4] rfl,?_⟩
   refine Gq 17 [4,4] rfl (OpQ.assign rfl rfl) ?_
   refine WG.done (by kernel_rfl) ?_
   refine thn_n ?_
   exact W.weak (by exact ⟨rfl,rfl,rfl,rfl,rfl,trivial⟩) (es [0,0,0,0,0,0,0,0,0,0,0,0] rfl) (K1088 (e29,A30,b38) ⟨h31,h32,h33⟩)
  refine UpG.run rfl rfl rfl (OpRun.alloc rfl zv33 rfl) ?_
  rintro _ _ ⟨b39,rfl,rfl⟩
  refine ⟨es [3,3] rfl,?_⟩
  refine WG.one (i:=11) (by kernel_rfl) (UpG.call rfl rfl rfl (OpCall.mk (xs:=[.tmp 34,.tmp 39,.tmp 40,.tmp 41]) (vs:=[vptr sp 0,sv2,z5,.agg #[vint r.collection,vint r.epoch,vint r.writer,vint r.count,bx]]) rfl ⟨rfl,rfl,rfl,rfl,trivial⟩ Tryz.call196) (SOpen_fn sp A sv2 q.secret z5 k6 r bx (by first | omega | (simp; done) | (simp; omega) | (simp at *; omega))) ((ed 5 rfl).trans ((ed 2 rfl).trans ((ed 12 rfl).trans (ep [12,2,1,0] rfl)))) ?_)
  rintro _ _ (⟨e40,n41,v42,w43,A44,h45,h46,rfl,rfl⟩ | ⟨e47,A48,h49,h50,h51,rfl,rfl⟩)
  ·refine ⟨es [7,7] rfl,?_⟩
   refine Gq 12 [7,7] rfl (OpQ.move rfl rfl) ?_
   refine Gq 13 [7,7] rfl (OpQ.extract rfl rfl rfl) ?_
   refine Gq 14 [7,7] rfl (OpQ.extract rfl rfl rfl) ?_
   refine WG.fact (fun _ _ s=>(sl_facts (i:=2) rfl s).2.2) (fun ho52=>?_)
   refine WG.fact (fun _ _ s=>(sl_facts (i:=1) rfl s).2.2) (fun ho53=>?_)
   refine WG.fact (fun _ _ s=>(sl_facts (i:=0) rfl s).2.2) (fun ho54=>?_)
   refine WG.one (i:=16) (by kernel_rfl) (UpG.run rfl rfl rfl (OpRun.store (i:=4) (vs:=[vint e40.kind,vint e40.writer,vint e40.seq,n41,v42,vint e40.who,vint e40.rights,vint e40.epoch,w43]) (cs':=[vint e40.kind,vint e40.writer,vint e40.seq,n41,v42,vint e40.who,vint e40.rights,vint e40.epoch,w43]) rfl rfl rfl sz33 rfl rfl (O3 (one_cons ho54 (one_cons ho53 (O3 (one_cons ho52 one_nil))))) rfl (Lb rfl) rfl) ?_)
   rintro _ _ ⟨rfl,rfl⟩
   refine ⟨es [7,7] rfl,?_⟩
   refine Gq 17 [7,7] rfl (OpQ.assign rfl rfl) ?_
   refine WG.done (by kernel_rfl) ?_
   refine thn_n ?_
   exact W.weak (by exact ⟨rfl,rfl,rfl,rfl,rfl,trivial⟩) (es [0,0,0,0,0,0,0,0,0,0,0,0,0,0,0] rfl) (K1009 (e40,n41,v42,w43,A44,b39) ⟨h45,h46⟩)
  refine ⟨es [4,4] rfl,?_⟩
  refine Gq 12 [4,4] rfl (OpQ.move rfl rfl) ?_
  refine Gq 13 [4,4] rfl (OpQ.extract rfl rfl rfl) ?_
  refine Gq 14 [4,4] rfl (OpQ.extract rfl rfl rfl) ?_
  refine WG.one (i:=16) (by kernel_rfl) (UpG.run rfl rfl rfl (OpRun.store (i:=1) (vs:=[vint 0,vint 0,vint 0,N0,N0,vint 0,vint 0,vint 0,N0]) (cs':=[vint 0,vint 0,vint 0,N0,N0,vint 0,vint 0,vint 0,N0]) rfl rfl rfl sz33 rfl rfl (O3 (O3 (O3 one_nil))) rfl (Lb rfl) rfl) ?_)
  rintro _ _ ⟨rfl,rfl⟩
  refine ⟨es [4,4] rfl,?_⟩
  refine Gq 17 [4,4] rfl (OpQ.assign rfl rfl) ?_
  refine WG.done (by kernel_rfl) ?_
  refine thn_n ?_
  exact W.weak (by exact ⟨rfl,rfl,rfl,rfl,rfl,trivial⟩) (es [0,0,0,0,0,0,0,0,0,0,0,0] rfl) (K1088 (e47,A48,b39) ⟨h49,h50,h51⟩)
 refine ⟨es [1,1] rfl,?_⟩
 refine Gq 7 [1,1] rfl (OpQ.move rfl rfl) ?_
 refine Gq 8 [1,1] rfl (OpQ.extract rfl rfl rfl) ?_
 refine Gq 9 [1,1] rfl (OpQ.extract rfl rfl rfl) ?_
 refine Gq 10 [1,1] rfl (OpQ.assign rfl rfl) ?_
 refine Gq 11 [1,1] rfl (OpQ.assign rfl rfl) ?_
 refine WG.done (by kernel_rfl) ?_
 refine thn_n (Ww [(0,vptr rp 0),(3,vptr b3 0),(4,vint 0),(5,N0),(6,.bool false)] [RingR gp2 q.keys,Cl b3 203 [vint r.collection,vint r.epoch,vint r.writer,vint r.count,bx],Cl rp 208 (rcs sp x1 q sv2 mv2 dp2 gp2++q.seen.map vint),KB sv2 q.secret,KM mv2 q.pol.members,DocsR dp2 q.docs,ChainR x1 sp q.chain,SuiteR sp A,KB bx r.box,Al R] ?_)
 refine W.seq (Sn (Qm (k:=?_)))
 refine Qu (OpQ.not rfl rfl) (k:=Nl [(0,vptr rp 0),(3,vptr b3 0),(4,vint 0),(5,N0),(29,.bool true)] ?_)
 refine W.condT rfl ?_
 refine Sn (Qa (k:=Nl [(0,vptr rp 0),(3,vptr b3 0),(4,vint 21),(5,N0)] ?_))
 refine W.ent (L':=[Cl rp 208 (rcs sp x1 q sv2 mv2 dp2 gp2++q.seen.map vint),KB sv2 q.secret,KM mv2 q.pol.members,DocsR dp2 q.docs,RingR gp2 q.keys,Cl b3 203 [vint r.collection,vint r.epoch,vint r.writer,vint r.count,bx],ChainR x1 sp q.chain,SuiteR sp A,KB bx r.box,Al R]) (es [2,2,2,2,0,0,0,0,0,0] rfl) ?_
 refine W.ent (L':=[ReplayO rp sp x1 q,Cl b3 203 [vint r.collection,vint r.epoch,vint r.writer,vint r.count,bx],ChainR x1 sp q.chain,SuiteR sp A,KB bx r.box,Al R]) (Ent.rep' (sv2,mv2,dp2,gp2) rfl hfine2 rfl) ?_
 refine W.ent (L':=[ReplayO rp sp x1 q,ChainR x1 sp q.chain,Cl b3 203 [vint r.collection,vint r.epoch,vint r.writer,vint r.count,bx],SuiteR sp A,KB bx r.box,Al R]) (es [0,1,0,0,0,0] rfl) ?_
 refine W.ent (L':=[ReplayR rp sp q,Cl b3 203 [vint r.collection,vint r.epoch,vint r.writer,vint r.count,bx],SuiteR sp A,KB bx r.box,Al R]) (Ent.rep' x1 rfl trivial rfl) ?_
 refine W.ret (thn_r (ret1 (M:=[ReplayR rp sp q,SuiteR sp A]) rfl rfl (⟨21,q,A,(by unfold Spec.outcome; rw [if_neg (by omega)]; simp only [h9]),(by omega),rfl,rfl⟩) (es [0,1,2] rfl)))
end Go.Lk
open Go.Proofs
set_option maxRecDepth 8000
namespace Go.Lk
open Asn renaming cells→Cl,row→Rw,kn→Kk,all→Al
theorem ix60:∀ (a:Addr) (m c:Nat) (p:Int) (w:World),0≤p→p < m→(Instr.indexAt 60 (.slice (some a) m c) (vint p)).run Tryz.prog w = .ok (.pointer (some (a.add (p.toNat*9)))) w:=run_indexAt_slice Tryz.runUnderlying60 sz33
theorem len60 (ty:TypeId):∀ (a:Option Addr) (n c:Nat) (w:World),(Builtin.len_ #[60] ty #[.slice a n c]).run Tryz.prog w = .ok (vint n) w:=fun _ _ _ _=>by kernel_rfl
theorem commit_fn (rp:Nat) (sp:Nat) (q:Rep) (bv:Value) (bs:Bytes) (A:List Thing) (hA:A.length < 1099511627690) (hb:bs.length≤1000000):Fn Tryz.prog 26 #[vptr rp 0,bv] [ReplayR rp sp q,SuiteR sp A,KB bv bs] (fun v M=>∃ (y:Int) (x:Int) (q':Rep) (A':List Thing),Spec.commit A q bs=(y,x,q',A')∧A'.length≤A.length+21∧.tuple #[vint y,vint x]=v∧M=[ReplayR rp sp q',SuiteR sp A']):=by
 refine Fi 38 Tryz.func26 fun g R=>?_
 refine Ww [(0,vptr rp 0),(1,bv)] [ReplayR rp sp q,SuiteR sp A,KB bv bs,Al R] ?_
 refine W.opens Opens.rep (i:=0) rfl (fun x1 _=>?_)
 refine We [ReplayO rp sp x1 q,ChainR x1 sp q.chain,SuiteR sp A,KB bv bs,Al R] ?_
 refine W.opens Opens.rep (i:=0) rfl (fun x2 hfine2=>?_)
 obtain ⟨sv2,mv2,dp2,gp2⟩:=x2
 refine We [Cl rp 208 (rcs sp x1 q sv2 mv2 dp2 gp2++q.seen.map vint),KB sv2 q.secret,KM mv2 q.pol.members,DocsR dp2 q.docs,RingR gp2 q.keys,ChainR x1 sp q.chain,SuiteR sp A,KB bv bs,Al R] ?_
 have hfine2u:=hfine2; unfold Rep.fine at hfine2u
 obtain ⟨hfine2a,hfine2b,hfine2c,hfine2d,hfine2e,hfine2f,hfine2g,hfine2h⟩:=hfine2u
 refine Sn (Qa (k:=Qa (k:=Nl [(0,vptr rp 0),(1,bv),(4,vint 0),(5,vint 0)] ?_)))
 refine Sn (Qm (k:=?_))
 refine Wc [.tmp 10] [bv] Tryz.call108 (RDecode_fn bv bs (by first | omega | (simp; done) | (simp; omega) | (simp at *; omega))) ((ed 7 rfl).trans (ep [0] rfl)) ?_
 rintro _ _ (⟨r3,b4,h5,rfl,rfl⟩ | ⟨h6,rfl,rfl⟩)
 ·refine Qm (k:=Qe (k:=Qe (k:=?_)))
  refine Ru (OpRun.alloc rfl zv203 rfl) ?_
  rintro _ _ ⟨b7,rfl,rfl⟩
  refine Nf 1 fun ho8=>?_
  refine Rn (OpRun.store (i:=0) (vs:=[vint r3.collection,vint r3.epoch,vint r3.writer,vint r3.count,b4]) (cs':=[vint r3.collection,vint r3.epoch,vint r3.writer,vint r3.count,b4]) rfl rfl rfl sz203 rfl rfl (O3 (one_cons rfl (one_cons ho8 one_nil))) rfl (Lb rfl) rfl) (k:=Qa (k:=Nw [(0,vptr rp 0),(1,bv),(4,vint 0),(5,vint 0),(6,vptr b7 0),(7,vint 0)] [Cl b7 203 [vint r3.collection,vint r3.epoch,vint r3.writer,vint r3.count,b4],KB b4 r3.box,Cl rp 208 (rcs sp x1 q sv2 mv2 dp2 gp2++q.seen.map vint),KB sv2 q.secret,KM mv2 q.pol.members,DocsR dp2 q.docs,RingR gp2 q.keys,ChainR x1 sp q.chain,SuiteR sp A,KB bv bs,Al R] ?_))
  refine W.seq (W.seq (W.drawG mixed ?_))
  refine Gq 0 [] rfl (OpQ.move rfl rfl) ?_
  refine Gq 1 [] rfl (OpQ.decF (OpQ.neq rfl rfl rfl) (by decide)) ?_
  refine Gq 2 [] rfl (OpQ.move rfl rfl) ?_
  refine Gq 3 [] rfl (Of (fa203_0 _ _)) ?_
  refine WG.hold (Cl b7 203 [vint r3.collection,vint r3.epoch,vint r3.writer,vint r3.count,b4],[]) ?_
  refine Gq 4 [0] rfl (Ol 0 ld3) ?_
  refine Gq 5 [0] rfl (OpQ.move rfl rfl) ?_
  refine Gq 6 [0] rfl (OpQ.nilCheck rfl rfl) ?_
  refine Gq 7 [0] rfl (Of (fa208_1 _ _)) ?_
  refine Gq 8 [0] rfl (Of (fa24_0 _ _)) ?_
  refine WG.hold (Cl rp 208 (rcs sp x1 q sv2 mv2 dp2 gp2++q.seen.map vint),[]) ?_
  refine Gq 9 [2,0] rfl (Ol 0 ld3) ?_
  refine Gq 10 [2,0] rfl (OpQ.neq rfl rfl rfl) ?_
  refine Gq 11 [2,0] rfl (OpQ.pickF rfl rfl rfl) ?_
  refine WG.done (by kernel_rfl) ?_
  refine thn_n (Wl [(0,vptr rp 0),(1,bv),(4,vint 0),(5,vint 0),(6,vptr b7 0),(25,.bool (decide (r3.collection≠q.coll)))] ?_)
  refine Cp rfl (fun h9=>?_) (fun h9=>?_)
  ·refine Sn (Qa (k:=Qa (k:=Nl [(0,vptr rp 0),(1,bv),(4,vint 10),(5,vint 0),(6,vptr b7 0)] ?_)))
   refine W.ent (L':=[Cl rp 208 (rcs sp x1 q sv2 mv2 dp2 gp2++q.seen.map vint),KB sv2 q.secret,KM mv2 q.pol.members,DocsR dp2 q.docs,RingR gp2 q.keys,Cl b7 203 [vint r3.collection,vint r3.epoch,vint r3.writer,vint r3.count,b4],KB b4 r3.box,ChainR x1 sp q.chain,SuiteR sp A,KB bv bs,Al R]) (es [2,2,2,2,2,0,0,0,0,0,0] rfl) ?_
   refine W.ent (L':=[ReplayO rp sp x1 q,Cl b7 203 [vint r3.collection,vint r3.epoch,vint r3.writer,vint r3.count,b4],KB b4 r3.box,ChainR x1 sp q.chain,SuiteR sp A,KB bv bs,Al R]) (Ent.rep' (sv2,mv2,dp2,gp2) rfl hfine2 rfl) ?_
   refine W.ent (L':=[ReplayO rp sp x1 q,ChainR x1 sp q.chain,Cl b7 203 [vint r3.collection,vint r3.epoch,vint r3.writer,vint r3.count,b4],KB b4 r3.box,SuiteR sp A,KB bv bs,Al R]) (es [0,2,0,0,0,0,0] rfl) ?_
   refine W.ent (L':=[ReplayR rp sp q,Cl b7 203 [vint r3.collection,vint r3.epoch,vint r3.writer,vint r3.count,b4],KB b4 r3.box,SuiteR sp A,KB bv bs,Al R]) (Ent.rep' x1 rfl trivial rfl) ?_
   refine W.ret (thn_r (ret2 (M:=[ReplayR rp sp q,SuiteR sp A]) rfl rfl rfl (⟨10,0,q,A,(by unfold Spec.commit; simp only [h5]; rw [if_pos h9]),(by omega),rfl,rfl⟩) (es [0,2,3] rfl)))
  refine W.skip (thn_n (Wl [(0,vptr rp 0),(1,bv),(4,vint 0),(5,vint 0),(6,vptr b7 0)] ?_))
  refine W.seq (Sn (Qm (k:=?_)))
  refine Qu (OpQ.nilCheck rfl rfl) (k:=Qu (Of (fa208_2 _ _)) (k:=Qu (Ol 2 ld95) (k:=Qm (k:=?_))))
  refine Wc [.tmp 29,.tmp 30] [vptr x1 0,bv] Tryz.call109 (chainAppend_fn x1 sp q.chain A bv bs (by first | omega | (simp; done) | (simp; omega) | (simp at *; omega))) ((ed 9 rfl).trans (ep [8,8,0] rfl)) ?_
  rintro _ _ ⟨e10,c11,A12,h13,h14,rfl,rfl⟩
  refine Qa (k:=Nw [(0,vptr rp 0),(4,vint 0),(5,vint 0),(6,vptr b7 0),(8,vint e10)] [ChainR x1 sp c11,SuiteR sp A12,Cl b7 203 [vint r3.collection,vint r3.epoch,vint r3.writer,vint r3.count,b4],KB b4 r3.box,Cl rp 208 (rcs sp x1 q sv2 mv2 dp2 gp2++q.seen.map vint),KB sv2 q.secret,KM mv2 q.pol.members,DocsR dp2 q.docs,RingR gp2 q.keys,KB bv bs,Al R] ?_)
  refine Sn (Qm (k:=Qu (OpQ.neq rfl rfl rfl) (k:=Nl [(0,vptr rp 0),(4,vint 0),(5,vint 0),(6,vptr b7 0),(8,vint e10),(33,.bool (decide (e10≠0)))] ?_)))
  refine Cp rfl (fun h15=>?_) (fun h15=>?_)
  ·refine Sn (Qm (k:=Qa (k:=Qa (k:=Nl [(0,vptr rp 0),(4,vint e10),(5,vint 0),(6,vptr b7 0)] ?_))))
   refine W.ent (L':=[Cl rp 208 (rcs sp x1 q sv2 mv2 dp2 gp2++q.seen.map vint),KB sv2 q.secret,KM mv2 q.pol.members,DocsR dp2 q.docs,RingR gp2 q.keys,ChainR x1 sp c11,SuiteR sp A12,Cl b7 203 [vint r3.collection,vint r3.epoch,vint r3.writer,vint r3.count,b4],KB b4 r3.box,KB bv bs,Al R]) (es [4,4,4,4,4,0,0,0,0,0,0] rfl) ?_
   refine W.ent (L':=[ReplayO rp sp x1 ({ q with chain:=c11 }:Rep),ChainR x1 sp c11,SuiteR sp A12,Cl b7 203 [vint r3.collection,vint r3.epoch,vint r3.writer,vint r3.count,b4],KB b4 r3.box,KB bv bs,Al R]) (Ent.rep' (sv2,mv2,dp2,gp2) rfl hfine2 rfl) ?_
   refine W.ent (L':=[ReplayO rp sp x1 ({ q with chain:=c11 }:Rep),ChainR x1 sp c11,SuiteR sp A12,Cl b7 203 [vint r3.collection,vint r3.epoch,vint r3.writer,vint r3.count,b4],KB b4 r3.box,KB bv bs,Al R]) (es [0,0,0,0,0,0,0] rfl) ?_
   refine W.ent (L':=[ReplayR rp sp ({ q with chain:=c11 }:Rep),SuiteR sp A12,Cl b7 203 [vint r3.collection,vint r3.epoch,vint r3.writer,vint r3.count,b4],KB b4 r3.box,KB bv bs,Al R]) (Ent.rep' x1 rfl trivial rfl) ?_
   refine W.ret (thn_r (ret2 (M:=[ReplayR rp sp ({ q with chain:=c11 }:Rep),SuiteR sp A12]) rfl rfl rfl (⟨e10,0,({ q with chain:=c11 }:Rep),A12,(by unfold Spec.commit; simp only [h5]; rw [if_neg h9]; simp only [h13]; rw [if_pos h15]),(by omega),rfl,rfl⟩) (es [0,0,3] rfl)))
  refine W.skip (thn_n (Wl [(0,vptr rp 0),(4,vint 0),(5,vint 0),(6,vptr b7 0)] ?_))
  refine Sn (WN.ent (L':=[Cl rp 208 (rcs sp x1 q sv2 mv2 dp2 gp2++q.seen.map vint),KB sv2 q.secret,KM mv2 q.pol.members,DocsR dp2 q.docs,RingR gp2 q.keys,ChainR x1 sp c11,SuiteR sp A12,Cl b7 203 [vint r3.collection,vint r3.epoch,vint r3.writer,vint r3.count,b4],KB b4 r3.box,KB bv bs,Al R]) (es [4,4,4,4,4,0,0,0,0,0,0] rfl) ?_)
  refine WN.ent (L':=[ReplayO rp sp x1 ({ q with chain:=c11 }:Rep),ChainR x1 sp c11,SuiteR sp A12,Cl b7 203 [vint r3.collection,vint r3.epoch,vint r3.writer,vint r3.count,b4],KB b4 r3.box,KB bv bs,Al R]) (Ent.rep' (sv2,mv2,dp2,gp2) rfl hfine2 rfl) ?_
  refine WN.ent (L':=[ReplayO rp sp x1 ({ q with chain:=c11 }:Rep),ChainR x1 sp c11,SuiteR sp A12,Cl b7 203 [vint r3.collection,vint r3.epoch,vint r3.writer,vint r3.count,b4],KB b4 r3.box,KB bv bs,Al R]) (es [0,0,0,0,0,0,0] rfl) ?_
  refine WN.ent (L':=[ReplayR rp sp ({ q with chain:=c11 }:Rep),SuiteR sp A12,Cl b7 203 [vint r3.collection,vint r3.epoch,vint r3.writer,vint r3.count,b4],KB b4 r3.box,KB bv bs,Al R]) (Ent.rep' x1 rfl trivial rfl) ?_
  refine Qm (k:=Qu (OpQ.loadN (i:=2) rfl rfl ld203 rfl rfl rfl) (k:=?_))
  refine Wc [.tmp 35,.tmp 36] [vptr rp 0,.agg #[vint r3.collection,vint r3.epoch,vint r3.writer,vint r3.count,b4]] Tryz.call110 (outcome_fn rp sp ({ q with chain:=c11 }:Rep) r3 b4 A12 (by first | omega | (simp; done) | (simp; omega) | (simp at *; omega))) ((ed 3 rfl).trans (ep [1,1,0] rfl)) ?_
  rintro _ _ ⟨x16,q17,A18,h19,h20,rfl,rfl⟩
  refine Qa (k:=Qa (k:=Nw [(4,vint 0),(5,vint x16)] [ReplayR rp sp q17,SuiteR sp A18,Cl b7 203 [vint r3.collection,vint r3.epoch,vint r3.writer,vint r3.count,b4],KB b4 r3.box,KB bv bs,Al R] ?_))
  refine W.ret (ret2 (M:=[ReplayR rp sp q17,SuiteR sp A18]) rfl rfl rfl (⟨0,x16,q17,A18,(by have he0:e10=0:=Decidable.of_not_not h15; unfold Spec.commit; simp only [h5]; rw [if_neg h9]; simp only [h13]; rw [if_neg h15]; simp only [h19]),(by omega),rfl,rfl⟩) (es [0,0,3] rfl))
 refine Qm (k:=Qe (k:=Qe (k:=?_)))
 refine Ru (OpRun.alloc rfl zv203 rfl) ?_
 rintro _ _ ⟨b21,rfl,rfl⟩
 refine Rn (OpRun.store (i:=0) (vs:=[vint 0,vint 0,vint 0,vint 0,N0]) (cs':=[vint 0,vint 0,vint 0,vint 0,N0]) rfl rfl rfl sz203 rfl rfl (O3 (one_cons rfl (one_cons rfl one_nil))) rfl (Lb rfl) rfl) (k:=Qa (k:=Nw [(0,vptr rp 0),(1,bv),(4,vint 0),(5,vint 0),(6,vptr b21 0),(7,vint 10)] [Cl b21 203 [vint 0,vint 0,vint 0,vint 0,N0],Cl rp 208 (rcs sp x1 q sv2 mv2 dp2 gp2++q.seen.map vint),KB sv2 q.secret,KM mv2 q.pol.members,DocsR dp2 q.docs,RingR gp2 q.keys,ChainR x1 sp q.chain,SuiteR sp A,KB bv bs,Al R] ?_))
 refine W.seq (W.seq (W.drawG mixed ?_))
 refine Gq 0 [] rfl (OpQ.move rfl rfl) ?_
 refine Gq 1 [] rfl (OpQ.decT (OpQ.neq rfl rfl rfl) (by decide)) ?_
 refine Gq 2 [] rfl (OpQ.move rfl rfl) ?_
 refine Gs 3 [] ?_
 refine Gs 4 [] ?_
 refine Gs 5 [] ?_
 refine Gs 6 [] ?_
 refine Gs 7 [] ?_
 refine Gs 8 [] ?_
 refine Gs 9 [] ?_
 refine Gs 10 [] ?_
 refine Gq 11 [] rfl (OpQ.pickT rfl rfl rfl) ?_
 refine WG.done (by kernel_rfl) ?_
 refine thn_n (Wl [(0,vptr rp 0),(1,bv),(4,vint 0),(5,vint 0),(6,vptr b21 0),(25,.bool true)] ?_)
 refine W.condT rfl ?_
 refine Sn (Qa (k:=Qa (k:=Nl [(0,vptr rp 0),(1,bv),(4,vint 10),(5,vint 0),(6,vptr b21 0)] ?_)))
 refine W.ent (L':=[Cl rp 208 (rcs sp x1 q sv2 mv2 dp2 gp2++q.seen.map vint),KB sv2 q.secret,KM mv2 q.pol.members,DocsR dp2 q.docs,RingR gp2 q.keys,Cl b21 203 [vint 0,vint 0,vint 0,vint 0,N0],ChainR x1 sp q.chain,SuiteR sp A,KB bv bs,Al R]) (es [1,1,1,1,1,0,0,0,0,0] rfl) ?_
 refine W.ent (L':=[ReplayO rp sp x1 q,Cl b21 203 [vint 0,vint 0,vint 0,vint 0,N0],ChainR x1 sp q.chain,SuiteR sp A,KB bv bs,Al R]) (Ent.rep' (sv2,mv2,dp2,gp2) rfl hfine2 rfl) ?_
 refine W.ent (L':=[ReplayO rp sp x1 q,ChainR x1 sp q.chain,Cl b21 203 [vint 0,vint 0,vint 0,vint 0,N0],SuiteR sp A,KB bv bs,Al R]) (es [0,1,0,0,0,0] rfl) ?_
 refine W.ent (L':=[ReplayR rp sp q,Cl b21 203 [vint 0,vint 0,vint 0,vint 0,N0],SuiteR sp A,KB bv bs,Al R]) (Ent.rep' x1 rfl trivial rfl) ?_
 refine W.ret (thn_r (ret2 (M:=[ReplayR rp sp q,SuiteR sp A]) rfl rfl rfl (⟨10,0,q,A,(by unfold Spec.commit; simp only [h6]),(by omega),rfl,rfl⟩) (es [0,1,2] rfl)))
theorem view_fn (rp:Nat) (sp:Nat) (q:Rep) (ev:Value) (el:List Entry):Fn Tryz.prog 58 #[vptr rp 0,ev] [ReplayR rp sp q,KE ev el] (fun v M=>∃ (p2:Policy) (mz:Value) (dq:Nat) (d2:Dic),Spec.view q el=(p2,d2)∧(p2.members.length≤17∧0≤p2.epoch∧p2.epoch≤16)∧.tuple #[.agg #[vint p2.founder,vint p2.epoch,mz],vptr dq 0]=v∧M=[KM mz p2.members,DocsR dq d2,ReplayR rp sp q]):=by
 refine Fi 37 Tryz.func58 fun g R=>?_
 refine Ww [(0,vptr rp 0),(1,ev)] [ReplayR rp sp q,KE ev el,Al R] ?_
 refine W.fact (fun _ _ s=>replay_fine (i:=0) rfl s) (fun hfq=>?_)
 have hp17:=hfq.2.2.1
 refine Sn (Ru (OpRun.alloc rfl zv53 rfl) ?_)
 rintro _ _ ⟨b1,rfl,rfl⟩
 refine Qa (k:=Nw [(0,vptr rp 0),(1,ev),(4,vptr b1 0),(5,.pointer none)] [Cl b1 53 [vint 0,vint 0,N0],ReplayR rp sp q,KE ev el,Al R] ?_)
 refine Sn (Qm (k:=?_))
 refine Wc [.tmp 12] [vptr rp 0] Tryz.call29 (repPolicy_fn rp sp q) (ep [1] rfl) ?_
 rintro _ _ ⟨mz2,rfl,rfl⟩
 refine Qm (k:=?_)
 refine Wc [.tmp 14] [vptr rp 0] Tryz.call31 (repDocs_fn rp sp q) (ep [1] rfl) ?_
 rintro _ _ ⟨dq3,rfl,rfl⟩
 refine Ru (OpRun.alloc rfl zv53 rfl) ?_
 rintro _ _ ⟨b4,rfl,rfl⟩
 refine Nf 3 fun ho5=>?_
 refine Rn (OpRun.store (i:=0) (vs:=[vint q.pol.founder,vint q.pol.epoch,mz2]) (cs':=[vint q.pol.founder,vint q.pol.epoch,mz2]) rfl rfl rfl sz53 rfl rfl (one_cons rfl (one_cons rfl (one_cons ho5 one_nil))) rfl (Lb rfl) rfl) (k:=Qa (k:=Nw [(1,ev),(4,vptr b1 0),(5,.pointer none),(6,vptr b4 0),(7,vptr dq3 0)] [Cl b4 53 [vint q.pol.founder,vint q.pol.epoch,mz2],DocsR dq3 q.docs,ReplayR rp sp q,KM mz2 q.pol.members,Cl b1 53 [vint 0,vint 0,N0],KE ev el,Al R] ?_))
 refine W.seq (Sn (Qm (k:=?_)))
 refine Nk 5 fun hl6=>?_
 refine Qu (OpQ.lenSl (i:=5) rfl rfl rfl (len60 _)) (k:=Qm (k:=Nl [(4,vptr b1 0),(5,.pointer none),(6,vptr b4 0),(7,vptr dq3 0),(16,ev),(17,vint (el.length:Int)),(18,vint 0)] ?_))
 refine W.block (W.opens Opens.sl (i:=5) rfl (fun f7 _=>?_))
 refine We [Ka 33 9 ev el.length f7,Kr Enc.entry f7 el,Cl b4 53 [vint q.pol.founder,vint q.pol.epoch,mz2],DocsR dq3 q.docs,ReplayR rp sp q,KM mz2 q.pol.members,Cl b1 53 [vint 0,vint 0,N0],Al R] ?_
 refine W.loop (X:=Nat × Policy × Dic × Value) (fun x=>match x with | (k,p,d,mv)=>[(4,vptr b1 0),(5,.pointer none),(6,vptr b4 0),(7,vptr dq3 0),(16,ev),(17,vint (el.length:Int)),(18,vint (k:Int))]) (fun x=>match x with | (k,p,d,mv)=>[Asn.pure (k≤el.length∧Spec.view q el=(el.drop k).foldl Spec.vstep (p,d)∧p.members.length≤17∧0≤p.epoch∧p.epoch≤16),Cl b4 53 [vint p.founder,vint p.epoch,mv],KM mv p.members,DocsR dq3 d,Ka 33 9 ev el.length f7,Kr Enc.entry f7 el,ReplayR rp sp q,Cl b1 53 [vint 0,vint 0,N0],Al R]) (fun x=>match x with | (k,p,d,mv)=>el.length - k) (0,q.pol,q.docs,mz2) ⟨rfl,rfl,rfl,rfl,rfl,rfl,rfl,trivial⟩ ((es [2,4,2,0,0,0,0,0] rfl).trans (Ent.pure_in (by exact ⟨Nat.zero_le _,rfl,hp17,hfq.2.2.2.2.2.2.2⟩))) (fun x=>?_)
 obtain ⟨k,p,d,mv⟩:=x
 show W _ _ _ _ _ [(4,vptr b1 0),(5,.pointer none),(6,vptr b4 0),(7,vptr dq3 0),(16,ev),(17,vint (el.length:Int)),(18,vint (k:Int))] [Asn.pure (k≤el.length∧Spec.view q el=(el.drop k).foldl Spec.vstep (p,d)∧p.members.length≤17∧0≤p.epoch∧p.epoch≤16),Cl b4 53 [vint p.founder,vint p.epoch,mv],KM mv p.members,DocsR dq3 d,Ka 33 9 ev el.length f7,Kr Enc.entry f7 el,ReplayR rp sp q,Cl b1 53 [vint 0,vint 0,N0],Al R]
 refine W.opens Opens.pure (i:=0) rfl (fun _ hI8=>?_)
 replace hI8:=hI8
 show W _ _ _ _ _ [(4,vptr b1 0),(5,.pointer none),(6,vptr b4 0),(7,vptr dq3 0),(16,ev),(17,vint (el.length:Int)),(18,vint (k:Int))] [Cl b4 53 [vint p.founder,vint p.epoch,mv],KM mv p.members,DocsR dq3 d,Ka 33 9 ev el.length f7,Kr Enc.entry f7 el,ReplayR rp sp q,Cl b1 53 [vint 0,vint 0,N0],Al R]
 refine Sn (Qu (OpQ.lss rfl rfl rfl) (k:=Nl [(4,vptr b1 0),(5,.pointer none),(6,vptr b4 0),(7,vptr dq3 0),(16,ev),(17,vint (el.length:Int)),(18,vint (k:Int)),(19,.bool (decide ((k:Int) < (el.length:Int))))] ?_))
 refine W.seq (Cp rfl (fun h9=>?_) (fun h9=>?_))
 ·refine W.skip (thn_n (Wl [(4,vptr b1 0),(5,.pointer none),(6,vptr b4 0),(7,vptr dq3 0),(16,ev),(17,vint (el.length:Int)),(18,vint (k:Int))] ?_))
  refine W.seq (W.block (W.seq (W.region ?_)))
  have hIp:=hI8.2.2.1
  refine WN.opens (Opens.entry (xs:=el) (i:=k) (by omega)) (i:=4) rfl (fun zz he10=>?_)
  obtain ⟨za,zb,zc⟩:=zz; dsimp only at he10
  refine Ne [KB za ((el.getD k default).name),KB zb ((el.getD k default).value),KW zc ((el.getD k default).wraps),Kr Enc.entry f7 el,Cl b4 53 [vint p.founder,vint p.epoch,mv],KM mv p.members,DocsR dq3 d,Ka 33 9 ev el.length f7,ReplayR rp sp q,Cl b1 53 [vint 0,vint 0,N0],Al R] (Qu (OpQ.indexAddr (i:=7) (j:=k*9) rfl rfl rfl rfl (by omega) (by omega) (by omega) ix60) (k:=Qu (OpQ.loadSubN (i:=7) rfl rfl rfl he10 rfl (by omega) (by decide) ld33) (k:=?_)))
  refine Ru (OpRun.alloc rfl zv33 rfl) ?_
  rintro _ _ ⟨b11,rfl,rfl⟩
  refine Nf 3 fun ho12=>?_
  refine Nf 2 fun ho13=>?_
  refine Nf 1 fun ho14=>?_
  refine Rn (OpRun.store (i:=0) (vs:=[vint ((el.getD k default).kind),vint ((el.getD k default).writer),vint ((el.getD k default).seq),za,zb,vint ((el.getD k default).who),vint ((el.getD k default).rights),vint ((el.getD k default).epoch),zc]) (cs':=[vint ((el.getD k default).kind),vint ((el.getD k default).writer),vint ((el.getD k default).seq),za,zb,vint ((el.getD k default).who),vint ((el.getD k default).rights),vint ((el.getD k default).epoch),zc]) rfl rfl rfl sz33 rfl rfl (O3 (one_cons ho14 (one_cons ho13 (O3 (one_cons ho12 one_nil))))) rfl (Lb rfl) rfl) (k:=Nw [(4,vptr b1 0),(5,.pointer none),(6,vptr b4 0),(7,vptr dq3 0),(9,vptr b11 0),(16,ev),(17,vint (el.length:Int)),(18,vint (k:Int))] [Cl b11 33 (ecs (el.getD k default) za zb zc),KB za ((el.getD k default).name),KB zb ((el.getD k default).value),KW zc ((el.getD k default).wraps),Kr Enc.entry f7 el,Cl b4 53 [vint p.founder,vint p.epoch,mv],KM mv p.members,DocsR dq3 d,Ka 33 9 ev el.length f7,ReplayR rp sp q,Cl b1 53 [vint 0,vint 0,N0],Al R] ?_)
  refine Sn (Qu (OpQ.loadN (i:=5) rfl rfl ld53 rfl rfl rfl) (k:=Qu (OpQ.loadN (i:=0) rfl rfl ld33 rfl rfl rfl) (k:=?_)))
  refine Wc [.tmp 23,.tmp 24] [.agg #[vint p.founder,vint p.epoch,mv],.agg #[vint ((el.getD k default).kind),vint ((el.getD k default).writer),vint ((el.getD k default).seq),za,zb,vint ((el.getD k default).who),vint ((el.getD k default).rights),vint ((el.getD k default).epoch),zc]] Tryz.call137 (PApply_fn p mv (el.getD k default) za zb zc (by first | omega | (simp; done) | (simp; omega) | (simp at *; omega))) ((ed 6 rfl).trans ((ed 2 rfl).trans ((ed 4 rfl).trans ((ed 6 rfl).trans (ep [3,2,1,0] rfl))))) ?_
  rintro _ _ (⟨q15,mv16,h17,rfl,rfl⟩ | ⟨x18,h19,h20,rfl,rfl⟩)
  ·refine Qm (k:=Qe (k:=Qe (k:=?_)))
   refine Ru (OpRun.alloc rfl zv53 rfl) ?_
   rintro _ _ ⟨b21,rfl,rfl⟩
   refine Nf 1 fun ho22=>?_
   refine Rn (OpRun.store (i:=0) (vs:=[vint q15.founder,vint q15.epoch,mv16]) (cs':=[vint q15.founder,vint q15.epoch,mv16]) rfl rfl rfl sz53 rfl rfl (one_cons rfl (one_cons rfl (one_cons ho22 one_nil))) rfl (Lb rfl) rfl) (k:=Qa (k:=Nw [(4,vptr b1 0),(5,.pointer none),(6,vptr b4 0),(7,vptr dq3 0),(9,vptr b11 0),(10,vptr b21 0),(11,vint 0),(16,ev),(17,vint (el.length:Int)),(18,vint (k:Int))] [Cl b21 53 [vint q15.founder,vint q15.epoch,mv16],KM mv16 q15.members,Cl b11 33 (ecs (el.getD k default) za zb zc),KB za ((el.getD k default).name),KB zb ((el.getD k default).value),KW zc ((el.getD k default).wraps),Kr Enc.entry f7 el,Cl b4 53 [vint p.founder,vint p.epoch,mv],KM mv p.members,DocsR dq3 d,Ka 33 9 ev el.length f7,ReplayR rp sp q,Cl b1 53 [vint 0,vint 0,N0],Al R] ?_))
   refine Sn (Qm (k:=Qu (OpQ.eql rfl rfl rfl) (k:=Nl [(4,vptr b1 0),(5,.pointer none),(6,vptr b4 0),(7,vptr dq3 0),(9,vptr b11 0),(10,vptr b21 0),(16,ev),(17,vint (el.length:Int)),(18,vint (k:Int)),(29,.bool (decide ((0:Int)=0)))] ?_)))
   refine Cp rfl (fun h23=>?_) (fun h23=>absurd (by decide) h23)
   refine Sn (Qu (OpQ.loadN (i:=0) rfl rfl ld53 rfl rfl rfl) (k:=Rn (OpRun.store (i:=7) (vs:=[vint q15.founder,vint q15.epoch,mv16]) (cs':=[vint q15.founder,vint q15.epoch,mv16]) rfl rfl rfl sz53 rfl rfl (one_cons rfl (one_cons rfl (one_cons ho22 one_nil))) rfl (Lb rfl) rfl) (k:=Nw [(4,vptr b1 0),(5,.pointer none),(6,vptr b4 0),(7,vptr dq3 0),(9,vptr b11 0),(16,ev),(17,vint (el.length:Int)),(18,vint (k:Int))] [Cl b4 53 [vint q15.founder,vint q15.epoch,mv16],Cl b21 53 [vint q15.founder,vint q15.epoch,mv16],KM mv16 q15.members,Cl b11 33 (ecs (el.getD k default) za zb zc),KB za ((el.getD k default).name),KB zb ((el.getD k default).value),KW zc ((el.getD k default).wraps),Kr Enc.entry f7 el,KM mv p.members,DocsR dq3 d,Ka 33 9 ev el.length f7,ReplayR rp sp q,Cl b1 53 [vint 0,vint 0,N0],Al R] ?_)))
   refine W.region (Qm (k:=?_))
   refine Qu (OpQ.loadN (i:=3) rfl rfl ld33 rfl rfl rfl) (k:=?_)
   refine Wc [.tmp 31,.tmp 32] [vptr dq3 0,.agg #[vint ((el.getD k default).kind),vint ((el.getD k default).writer),vint ((el.getD k default).seq),za,zb,vint ((el.getD k default).who),vint ((el.getD k default).rights),vint ((el.getD k default).epoch),zc]] Tryz.call138 (docsApply_fn dq3 d (el.getD k default) za zb zc) ((ed 4 rfl).trans ((ed 6 rfl).trans ((ed 8 rfl).trans (ep [12,2,1,0] rfl)))) ?_
   rintro _ _ ⟨x24,d25,h26,rfl,rfl⟩
   refine WN.nil (inblk_n (thn_n (Ww [(4,vptr b1 0),(5,.pointer none),(6,vptr b4 0),(7,vptr dq3 0),(16,ev),(17,vint (el.length:Int)),(18,vint (k:Int))] [DocsR dq3 d25,Cl b4 53 [vint q15.founder,vint q15.epoch,mv16],Cl b21 53 [vint q15.founder,vint q15.epoch,mv16],KM mv16 q15.members,Cl b11 33 (ecs (el.getD k default) za zb zc),KB za ((el.getD k default).name),KB zb ((el.getD k default).value),KW zc ((el.getD k default).wraps),Kr Enc.entry f7 el,KM mv p.members,Ka 33 9 ev el.length f7,ReplayR rp sp q,Cl b1 53 [vint 0,vint 0,N0],Al R] ?_)))
   refine W.region (Qu (OpQ.add rfl rfl rfl ⟨by omega,by omega⟩) (k:=?_))
   refine Qm (k:=?_)
   refine WN.nil (thn_n ⟨(k+1,q15,d25,mv16),by (show el.length - (k+1) < el.length - k); omega,⟨rfl,rfl,rfl,rfl,rfl,rfl,(Eq.trans (b:=some (vint ((k:Int)+1))) rfl (by first | rfl | (congr 2; omega))),trivial⟩,?_⟩)
   exact (es [1,2,0,7,5,6,6,6] rfl).trans (Ent.pure_in (by refine ⟨by omega,?_,?_⟩; (rw [hI8.2.1,Spec.foldl_at (d:=default) (by omega)]; congr 1; unfold Spec.vstep; simp only [h17,h26]); exact ⟨Spec.papply_len h17,Spec.papply_epoch hI8.2.2.2 h17⟩))
  refine Qm (k:=Qe (k:=Qe (k:=?_)))
  refine Ru (OpRun.alloc rfl zv53 rfl) ?_
  rintro _ _ ⟨b27,rfl,rfl⟩
  refine Rn (OpRun.store (i:=0) (vs:=[vint 0,vint 0,N0]) (cs':=[vint 0,vint 0,N0]) rfl rfl rfl sz53 rfl rfl (O3 one_nil) rfl (Lb rfl) rfl) (k:=Qa (k:=Nw [(4,vptr b1 0),(5,.pointer none),(6,vptr b4 0),(7,vptr dq3 0),(9,vptr b11 0),(10,vptr b27 0),(11,vint x18),(16,ev),(17,vint (el.length:Int)),(18,vint (k:Int))] [Cl b27 53 [vint 0,vint 0,N0],Cl b11 33 (ecs (el.getD k default) za zb zc),KB za ((el.getD k default).name),KB zb ((el.getD k default).value),KW zc ((el.getD k default).wraps),Kr Enc.entry f7 el,Cl b4 53 [vint p.founder,vint p.epoch,mv],KM mv p.members,DocsR dq3 d,Ka 33 9 ev el.length f7,ReplayR rp sp q,Cl b1 53 [vint 0,vint 0,N0],Al R] ?_))
  refine Sn (Qm (k:=Qu (OpQ.eql rfl rfl rfl) (k:=Nl [(4,vptr b1 0),(5,.pointer none),(6,vptr b4 0),(7,vptr dq3 0),(9,vptr b11 0),(10,vptr b27 0),(16,ev),(17,vint (el.length:Int)),(18,vint (k:Int)),(29,.bool (decide (x18=0)))] ?_)))
  refine Cp rfl (fun h28=>absurd h28 h20) (fun h28=>?_)
  refine W.skip (inblk_n (thn_n (Wl [(4,vptr b1 0),(5,.pointer none),(6,vptr b4 0),(7,vptr dq3 0),(16,ev),(17,vint (el.length:Int)),(18,vint (k:Int))] ?_)))
  refine W.region (Qu (OpQ.add rfl rfl rfl ⟨by omega,by omega⟩) (k:=?_))
  refine Qm (k:=?_)
  refine WN.nil (thn_n ⟨(k+1,p,d,mv),by (show el.length - (k+1) < el.length - k); omega,⟨rfl,rfl,rfl,rfl,rfl,rfl,(Eq.trans (b:=some (vint ((k:Int)+1))) rfl (by first | rfl | (congr 2; omega))),trivial⟩,?_⟩)
  exact (es [6,6,6,6,5,5,5,5] rfl).trans (Ent.pure_in (by refine ⟨by omega,?_,?_⟩; (rw [hI8.2.1,Spec.foldl_at (d:=default) (by omega)]; congr 1; unfold Spec.vstep; simp only [h19]); exact hI8.2.2))
 obtain rfl:k=el.length:=by omega
 have hvw:=hI8.2.1; rw [List.drop_length] at hvw
 refine W.exit (thn_x (thn_x (inblk_x (thn_n (Wl [(4,vptr b1 0),(5,.pointer none),(6,vptr b4 0),(7,vptr dq3 0)] ?_)))))
 refine Sn (Qu (OpQ.loadN (i:=0) rfl rfl ld53 rfl rfl rfl) (k:=Qm (k:=?_)))
 refine Nf 1 fun ho29=>?_
 refine Rn (OpRun.store (i:=6) (vs:=[vint p.founder,vint p.epoch,mv]) (cs':=[vint p.founder,vint p.epoch,mv]) rfl rfl rfl sz53 rfl rfl (one_cons rfl (one_cons rfl (one_cons ho29 one_nil))) rfl (Lb rfl) rfl) (k:=Qa (k:=Nw [(4,vptr b1 0),(5,vptr dq3 0)] [Cl b1 53 [vint p.founder,vint p.epoch,mv],Cl b4 53 [vint p.founder,vint p.epoch,mv],KM mv p.members,DocsR dq3 d,Ka 33 9 ev el.length f7,Kr Enc.entry f7 el,ReplayR rp sp q,Al R] ?_))
 refine W.ret (retC2 (M:=[KM mv p.members,DocsR dq3 d,ReplayR rp sp q]) (i:=0) rfl rfl rfl rfl rfl ld53 (⟨p,mv,dq3,d,(by rw [hvw]; rfl),(by exact hI8.2.2),rfl,rfl⟩) (es [2,2,4,4] rfl))
end Go.Lk
open Go.Proofs
set_option maxRecDepth 8000
namespace Go.Lk
open Asn renaming cells→Cl,row→Rw,kn→Kk,all→Al
theorem sz122:∀ (w:World),(sizeOf 122).run Tryz.prog w = .ok 5 w:=fun _=>by kernel_rfl
theorem fa122_0:∀ (b k:Nat) (w:World),(Instr.fieldAt 122 (vptr b k) 0).run Tryz.prog w = .ok (vptr b (k)) w:=fun _ _ _=>by kernel_rfl
theorem fa122_1:∀ (b k:Nat) (w:World),(Instr.fieldAt 122 (vptr b k) 1).run Tryz.prog w = .ok (vptr b (k+1)) w:=fun _ _ _=>by kernel_rfl
theorem fa122_2:∀ (b k:Nat) (w:World),(Instr.fieldAt 122 (vptr b k) 2).run Tryz.prog w = .ok (vptr b (k+2)) w:=fun _ _ _=>by kernel_rfl
theorem fa122_3:∀ (b k:Nat) (w:World),(Instr.fieldAt 122 (vptr b k) 3).run Tryz.prog w = .ok (vptr b (k+3)) w:=fun _ _ _=>by kernel_rfl
theorem fa122_4:∀ (b k:Nat) (w:World),(Instr.fieldAt 122 (vptr b k) 4).run Tryz.prog w = .ok (vptr b (k+4)) w:=fun _ _ _=>by kernel_rfl
theorem ld122:∀ (a:Addr) (w:World),(loadVar 122 a).run Tryz.prog w=((loadCells a 5).bind fun c=>.pure (Value.agg c)).run Tryz.prog w:=fun _ _=>by kernel_rfl
theorem zv122:∀ (w:World),(zeroValue 122).run Tryz.prog w = .ok (.agg #[.int .i64 0,.int .i64 0,.int .i64 0,.slice none 0 0,.slice none 0 0]) w:=fun _=>by kernel_rfl
theorem links1_fn (b:Value) (xs:Bytes):Fn Tryz.prog 300 #[b] [KB b xs] (fun v M=>.bool (!Spec.linkOk xs)=v∧M=[]):=by
 refine Fi 11 Tryz.func300 fun g R=>?_
 refine Ww [(0,b)] [KB b xs,Al R] ?_
 refine Sn (Qa (k:=Nl [(0,b),(2,.bool false)] ?_))
 refine Sn (Qm (k:=?_))
 refine Nk 0 fun hl1=>?_
 refine Qu (OpQ.lenSl (i:=0) rfl rfl rfl (len22 _)) (k:=?_)
 by_cases h2:(xs.length:Int) < 1
 ·refine Qu (OpQ.decT (OpQ.lss rfl rfl rfl) h2) (k:=Qm (k:=Qs (k:=Qs (k:=Qs (k:=Qt (k:=Qa (k:=Nl [(2,.bool true)] ?_)))))))
  refine W.ret (ret1 (M:=[]) rfl rfl (⟨(by unfold Spec.linkOk; rw [decide_eq_false (by omega)]; rfl),rfl⟩) (es [1] rfl))
 refine Qu (OpQ.decF (OpQ.lss rfl rfl rfl) h2) (k:=Qm (k:=Qm (k:=Qu (OpQ.lenSl (i:=0) rfl rfl rfl (len22 _)) (k:=Qu (OpQ.gtr rfl rfl rfl) (k:=Qf (k:=Qa (k:=Nl [(2,.bool (decide ((xs.length:Int) > 4096)))] ?_)))))))
 refine W.ret (ret1 (M:=[]) rfl rfl (⟨(by unfold Spec.linkOk; rw [← decide_not]; exact bool_dec (by omega)),rfl⟩) (es [1] rfl))
theorem Spec.all_take_succ {l:List Bytes} {p:Bytes→Bool} {k:Nat} (hk:k < l.length) (h:(l.take k).all p=true) (h':p (l.getD k [])=true):(l.take (k+1)).all p=true:=by
  rw [List.take_succ_eq_append_getElem hk,List.all_append,h,Bool.true_and]
  rw [List.getD_eq_getElem?_getD,List.getElem?_eq_getElem hk] at h'
  simpa using h'
theorem Spec.all_not {l:List Bytes} {p:Bytes→Bool} {k:Nat} (hk:k < l.length) (h':p (l.getD k [])=false):l.all p=false:=by
  rw [List.all_eq_false]
  refine ⟨l[k],List.getElem_mem hk,?_⟩
  rw [List.getD_eq_getElem?_getD,List.getElem?_eq_getElem hk] at h'
  simpa using h'
theorem IndexL_fn (s:Value) (l:List Bytes):Fn Tryz.prog 329 #[s,.func (.func 300) #[] #[]] [KS s l] (fun v M=>(∃ (i:Nat),l.all Spec.linkOk=false∧vint (i:Int)=v∧M=[])∨(l.all Spec.linkOk=true∧vint (-1)=v∧M=[])):=by
 refine Fi 19 Tryz.func329 fun g R=>?_
 refine Ww [(0,s),(1,.func (.func 300) #[] #[])] [KS s l,Al R] ?_
 refine Sn (Qa (k:=Nl [(0,s),(1,.func (.func 300) #[] #[]),(4,vint 0)] ?_))
 refine W.seq (Sn (Qm (k:=?_)))
 refine Nk 0 fun hl1=>?_
 refine Qu (OpQ.lenSl (i:=0) rfl rfl rfl (len30 _)) (k:=Qm (k:=Nl [(0,s),(1,.func (.func 300) #[] #[]),(4,vint 0),(7,vint (l.length:Int)),(8,vint 0)] ?_))
 refine W.block (W.opens Opens.sl (i:=0) rfl (fun f2 _=>?_))
 refine We [Ka 22 1 s l.length f2,Kr (Enc.sl Enc.u8 5) f2 l,Al R] ?_
 refine W.loop (X:=Nat) (fun k=>[(0,s),(1,.func (.func 300) #[] #[]),(4,vint 0),(7,vint (l.length:Int)),(8,vint (k:Int))]) (fun k=>[Asn.pure (k≤l.length∧(l.take k).all Spec.linkOk=true),Ka 22 1 s l.length f2,Kr (Enc.sl Enc.u8 5) f2 l,Al R]) (fun k=>l.length - k) 0 ⟨rfl,rfl,rfl,rfl,rfl,trivial⟩ ((es [0,0,0] rfl).trans (Ent.pure_in (by exact ⟨Nat.zero_le _,rfl⟩))) (fun x=>?_)
 obtain ⟨k,rfl⟩:∃ y,y=x:=⟨x,rfl⟩
 show W _ _ _ _ _ [(0,s),(1,.func (.func 300) #[] #[]),(4,vint 0),(7,vint (l.length:Int)),(8,vint (k:Int))] [Asn.pure (k≤l.length∧(l.take k).all Spec.linkOk=true),Ka 22 1 s l.length f2,Kr (Enc.sl Enc.u8 5) f2 l,Al R]
 refine W.opens Opens.pure (i:=0) rfl (fun _ hI3=>?_)
 replace hI3:=hI3
 show W _ _ _ _ _ [(0,s),(1,.func (.func 300) #[] #[]),(4,vint 0),(7,vint (l.length:Int)),(8,vint (k:Int))] [Ka 22 1 s l.length f2,Kr (Enc.sl Enc.u8 5) f2 l,Al R]
 refine Sn (Qu (OpQ.lss rfl rfl rfl) (k:=Nl [(0,s),(1,.func (.func 300) #[] #[]),(4,vint 0),(7,vint (l.length:Int)),(8,vint (k:Int)),(9,.bool (decide ((k:Int) < (l.length:Int))))] ?_))
 refine W.seq (Cp rfl (fun h4=>?_) (fun h4=>?_))
 ·refine W.skip (thn_n (Wl [(0,s),(1,.func (.func 300) #[] #[]),(4,vint 0),(7,vint (l.length:Int)),(8,vint (k:Int))] ?_))
  refine W.seq (W.block (Sn (Qm (k:=?_))))
  refine Qa (k:=Nl [(0,s),(1,.func (.func 300) #[] #[]),(4,vint 0),(5,vint (k:Int)),(7,vint (l.length:Int)),(8,vint (k:Int))] ?_)
  refine Sn (WN.ent (Ent.der (i:=1) (m:=Sl Enc.u8 5 (f2 k) (l.getD k [])) rfl (elemSl (getD_some [] (by omega)))) (Qm (k:=Qm (k:=Qm (k:=Qu (OpQ.indexAddr (i:=1) (j:=k) rfl rfl rfl rfl (by omega) (by omega) (by omega) ix30) (k:=Qu (OpQ.loadE (i:=1) rfl rfl rfl (by omega) ld22) (k:=?_)))))))
  refine WN.call rfl rfl (OpCall.clo (xs:=[.tmp 15]) (vs:=[f2 k]) rfl rfl ⟨rfl,trivial⟩ Tryz.call300) (links1_fn (f2 k) (l.getD k [])) ((ed 0 rfl).trans (ep [0] rfl)) ?_
  rintro _ _ ⟨rfl,rfl⟩
  refine Nw [(0,s),(1,.func (.func 300) #[] #[]),(4,vint 0),(5,vint (k:Int)),(7,vint (l.length:Int)),(8,vint (k:Int)),(16,.bool (!Spec.linkOk (l.getD k [])))] [KB (f2 k) (l.getD k []),Ka 22 1 s l.length f2,Kr (Enc.sl Enc.u8 5) f2 l,Al R] ?_
  refine W.cond rfl (fun h5=>?_) (fun h5=>?_)
  ·refine Sn (Qm (k:=Qa (k:=Nl [(0,s),(1,.func (.func 300) #[] #[]),(4,vint (k:Int)),(7,vint (l.length:Int)),(8,vint (k:Int))] ?_)))
   refine W.ret (inblk_r (thn_r (thn_r (inblk_r (thn_r (ret1 (M:=[]) rfl rfl (.inl ⟨k,(by exact Spec.all_not (k:=k) (by omega) (by simpa using h5)),rfl,rfl⟩) (es [3] rfl)))))))
  refine W.skip (inblk_n (thn_n (Wl [(0,s),(1,.func (.func 300) #[] #[]),(4,vint 0),(7,vint (l.length:Int)),(8,vint (k:Int))] ?_)))
  refine W.region (Qu (OpQ.add rfl rfl rfl ⟨by omega,by omega⟩) (k:=?_))
  refine Qm (k:=?_)
  refine WN.nil (thn_n ⟨(k+1),by (show l.length - (k+1) < l.length - k); omega,⟨rfl,rfl,rfl,rfl,(Eq.trans (b:=some (vint ((k:Int)+1))) rfl (by first | rfl | (congr 2; omega))),trivial⟩,?_⟩)
  exact (es [1,1,1] rfl).trans (Ent.pure_in (by exact ⟨by omega,Spec.all_take_succ (by omega) hI3.2 (by simpa using h5)⟩))
 obtain rfl:k=l.length:=by omega
 refine W.exit (thn_x (thn_x (inblk_x (thn_n (Wl [(4,vint 0)] ?_)))))
 refine Sn (Qa (k:=Nl [(4,vint (-1))] ?_))
 refine W.ret (ret1 (M:=[]) rfl rfl (.inr (⟨(by have:=hI3.2; rwa [List.take_length] at this),rfl,rfl⟩)) (es [2] rfl))
theorem ContainsL_fn (s:Value) (l:List Bytes):Fn Tryz.prog 299 #[s,.func (.func 300) #[] #[]] [KS s l] (fun v M=>.bool (!(l.all Spec.linkOk))=v∧M=[]):=by
 refine Fi 9 Tryz.func299 fun g R=>?_
 refine Ww [(0,s),(1,.func (.func 300) #[] #[])] [KS s l,Al R] ?_
 refine Sn (Qa (k:=Nl [(0,s),(1,.func (.func 300) #[] #[]),(4,.bool false)] ?_))
 refine Sn (Qm (k:=Qm (k:=?_)))
 refine Wc [.tmp 5,.tmp 6] [s,.func (.func 300) #[] #[]] Tryz.call329 (IndexL_fn s l) ((ed 0 rfl).trans (ep [0] rfl)) ?_
 rintro _ _ (⟨i1,h2,rfl,rfl⟩ | ⟨h3,rfl,rfl⟩)
 ·refine Qu (OpQ.geq rfl rfl rfl) (k:=Qa (k:=Nw [(4,.bool (decide ((i1:Int) ≥ 0)))] [KS s l,Al R] ?_))
  refine W.ret (ret1 (M:=[]) rfl rfl (⟨(by rw [h2]; first | rfl | exact (congrArg Value.bool (decide_eq_true (by omega))).symm ▸ rfl | (congr 1; simp)),rfl⟩) (es [1] rfl))
 refine Qu (OpQ.geq rfl rfl rfl) (k:=Qa (k:=Nw [(4,.bool (decide ((-1:Int) ≥ 0)))] [KS s l,Al R] ?_))
 refine W.ret (ret1 (M:=[]) rfl rfl (⟨(by rw [h3]; first | rfl | exact (congrArg Value.bool (decide_eq_true (by omega))).symm ▸ rfl | (congr 1; simp)),rfl⟩) (es [1] rfl))
theorem links_fn (s:Value) (l:List Bytes) (least:Int):Fn Tryz.prog 228 #[s,vint least] [KS s l] (fun v M=>.bool (Spec.linksOk l least)=v∧M=[]):=by
 refine Fi 19 Tryz.func228 fun g R=>?_
 refine Ww [(0,s),(1,vint least)] [KS s l,Al R] ?_
 refine Sn (Qa (k:=Nl [(0,s),(1,vint least),(4,.bool false)] ?_))
 refine Sn (Qm (k:=?_))
 refine Nk 0 fun hl1=>?_
 refine Qu (OpQ.lenSl (i:=0) rfl rfl rfl (len30 _)) (k:=Qm (k:=?_))
 by_cases h2:(l.length:Int) ≥ least
 ·refine Qu (OpQ.decT (OpQ.geq rfl rfl rfl) h2) (k:=Qm (k:=Qm (k:=Qu (OpQ.lenSl (i:=0) rfl rfl rfl (len30 _)) (k:=Qu (OpQ.leq rfl rfl rfl) (k:=?_)))))
  by_cases h3:(l.length:Int)≤8
  ·refine Qu (OpQ.decT (OpQ.pickT rfl rfl rfl) h3) (k:=Qm (k:=Qm (k:=?_)))
   refine Wc [.tmp 15,.func 300] [s,.func (.func 300) #[] #[]] Tryz.call299 (ContainsL_fn s l) ((ed 0 rfl).trans (ep [0] rfl)) ?_
   rintro _ _ ⟨rfl,rfl⟩
   refine Qu (OpQ.not rfl rfl) (k:=Qt (k:=Qa (k:=Nw [(4,.bool (!(!(l.all Spec.linkOk))))] [KS s l,Al R] ?_)))
   refine W.ret (ret1 (M:=[]) rfl rfl (⟨(congrArg Value.bool (by unfold Spec.linksOk; first | (rw [decide_eq_false (by omega)]; rfl) | (rw [decide_eq_true (by omega)]; simp))),rfl⟩) (es [1] rfl))
  refine Qu (OpQ.decF (OpQ.pickT rfl rfl rfl) h3) (k:=Qm (k:=Qs (k:=Qs (k:=Qs (k:=Qf (k:=Qa (k:=Nl [(4,.bool false)] ?_)))))))
  refine W.ret (ret1 (M:=[]) rfl rfl (⟨(congrArg Value.bool (by unfold Spec.linksOk; first | (rw [decide_eq_false (by omega)]; rfl) | (rw [decide_eq_true (by omega)]; simp))),rfl⟩) (es [1] rfl))
 refine Qu (OpQ.decF (OpQ.geq rfl rfl rfl) h2) (k:=Qm (k:=Qs (k:=Qs (k:=Qs (k:=Qf (k:=Qm (k:=Qs (k:=Qs (k:=Qs (k:=Qf (k:=Qa (k:=Nl [(4,.bool false)] ?_))))))))))))
 refine W.ret (ret1 (M:=[]) rfl rfl (⟨(congrArg Value.bool (by unfold Spec.linksOk; first | (rw [decide_eq_false (by omega)]; rfl) | (rw [decide_eq_true (by omega)]; simp))),rfl⟩) (es [1] rfl))
theorem FRight_fn (f:Frame) (lv:Value) (sv:Value):Fn Tryz.prog 147 #[.agg #[vint f.kind,vint f.coll,vint f.index,lv,sv]] [KS lv f.links,KB sv f.sum] (fun v M=>.bool (Spec.fright f)=v∧M=[]):=by
 refine Fi 74 Tryz.func147 fun g R=>?_
 refine Ww [(0,.agg #[vint f.kind,vint f.coll,vint f.index,lv,sv])] [KS lv f.links,KB sv f.sum,Al R] ?_
 refine Sn (Ru (OpRun.box rfl rfl rfl) ?_)
 rintro _ _ ⟨b1,rfl,rfl⟩
 refine Qa (k:=Nw [(1,vptr b1 0),(2,.bool false)] [Cl b1 122 [vint f.kind,vint f.coll,vint f.index,lv,sv],KS lv f.links,KB sv f.sum,Al R] ?_)
 refine W.seq (Sn (Qu (Of (fa122_1 _ _)) (k:=?_)))
 refine Qu (Ol 0 ld3) (k:=?_)
 by_cases h2:f.coll < 1
 ·refine Qu (OpQ.decT (OpQ.lss rfl rfl rfl) h2) (k:=Qm (k:=Qs (k:=Qs (k:=Qs (k:=Qt (k:=Qm (k:=Qs (k:=Qs (k:=Qs (k:=Qt (k:=Qm (k:=Qs (k:=Qs (k:=?_))))))))))))))
  refine Qs (k:=Qt (k:=Nl [(1,vptr b1 0),(2,.bool false),(20,.bool true)] ?_))
  refine W.condT rfl ?_
  refine Sn (Qa (k:=Nl [(1,vptr b1 0),(2,.bool false)] ?_))
  refine W.ret (thn_r (ret1 (M:=[]) rfl rfl (⟨(congrArg Value.bool (by unfold Spec.fright; rw [decide_eq_false (by omega)]; rfl)),rfl⟩) (es [3] rfl)))
 refine Qu (OpQ.decF (OpQ.lss rfl rfl rfl) h2) (k:=Qm (k:=Qu (Of (fa122_1 _ _)) (k:=Qu (Ol 0 ld3) (k:=Qu (OpQ.gtr rfl rfl rfl) (k:=?_)))))
 by_cases h3:f.coll > 1099511627776
 ·refine Qu (OpQ.decT (OpQ.pickF rfl rfl rfl) h3) (k:=Qm (k:=Qs (k:=Qs (k:=Qs (k:=Qt (k:=Qm (k:=Qs (k:=Qs (k:=Qs (k:=Qt (k:=Nl [(1,vptr b1 0),(2,.bool false),(20,.bool true)] ?_)))))))))))
  refine W.condT rfl ?_
  refine Sn (Qa (k:=Nl [(1,vptr b1 0),(2,.bool false)] ?_))
  refine W.ret (thn_r (ret1 (M:=[]) rfl rfl (⟨(congrArg Value.bool (by unfold Spec.fright; rw [decide_eq_false (by omega)]; rfl)),rfl⟩) (es [3] rfl)))
 refine Qu (OpQ.decF (OpQ.pickF rfl rfl rfl) h3) (k:=Qm (k:=Qu (Of (fa122_2 _ _)) (k:=Qu (Ol 0 ld3) (k:=Qu (OpQ.lss rfl rfl rfl) (k:=?_)))))
 by_cases h4:f.index < 0
 ·refine Qu (OpQ.decT (OpQ.pickF rfl rfl rfl) h4) (k:=Qm (k:=Qs (k:=Qs (k:=Qs (k:=Qt (k:=Nl [(1,vptr b1 0),(2,.bool false),(20,.bool true)] ?_))))))
  refine W.condT rfl ?_
  refine Sn (Qa (k:=Nl [(1,vptr b1 0),(2,.bool false)] ?_))
  refine W.ret (thn_r (ret1 (M:=[]) rfl rfl (⟨(congrArg Value.bool (by unfold Spec.fright; rw [decide_eq_false (by omega)]; rfl)),rfl⟩) (es [3] rfl)))
 refine Qu (OpQ.decF (OpQ.pickF rfl rfl rfl) h4) (k:=Qm (k:=Qu (Of (fa122_2 _ _)) (k:=Qu (Ol 0 ld3) (k:=Qu (OpQ.gtr rfl rfl rfl) (k:=Qf (k:=Nl [(1,vptr b1 0),(2,.bool false),(20,.bool (decide (f.index > 64)))] ?_))))))
 refine Cp rfl (fun h5=>?_) (fun h5=>?_)
 ·refine Sn (Qa (k:=Nl [(1,vptr b1 0),(2,.bool false)] ?_))
  refine W.ret (thn_r (ret1 (M:=[]) rfl rfl (⟨(congrArg Value.bool (by unfold Spec.fright; rw [decide_eq_false (by omega)]; rfl)),rfl⟩) (es [3] rfl)))
 refine W.skip (thn_n (Wl [(1,vptr b1 0),(2,.bool false)] ?_))
 refine W.seq (Sn (Qu (Of (fa122_0 _ _)) (k:=?_)))
 refine Qu (Ol 0 ld3) (k:=Nl [(1,vptr b1 0),(2,.bool false),(22,vint f.kind)] ?_)
 refine W.block (Sn (Qu (OpQ.eql rfl rfl rfl) (k:=?_)))
 refine Qa (k:=Nl [(1,vptr b1 0),(2,.bool false),(22,vint f.kind),(23,.bool (decide (f.kind=1)))] ?_)
 refine Cp rfl (fun h6=>?_) (fun h6=>?_)
 ·refine Sn (Qu (Of (fa122_3 _ _)) (k:=Qu (Ol 0 ld30) (k:=?_)))
  refine Wc [.tmp 26,.const (.int .i64 1)] [lv,vint 1] Tryz.call228 (links_fn lv f.links 1) ((ed 1 rfl).trans (ep [0] rfl)) ?_
  rintro _ _ ⟨rfl,rfl⟩
  refine Qm (k:=?_)
  cases h7:Spec.linksOk f.links 1
  ·refine Qs (k:=Qs (k:=Qs (k:=Qf (k:=Qm (k:=Qs (k:=Qs (k:=Qs (k:=Qs (k:=Qf (k:=Qa (k:=Nw [(2,.bool false)] [Cl b1 122 [vint f.kind,vint f.coll,vint f.index,lv,sv],KS lv f.links,KB sv f.sum,Al R] ?_)))))))))))
   refine W.ret (inblk_r (thn_r (ret1 (M:=[]) rfl rfl (⟨(congrArg Value.bool (by unfold Spec.fright; rw [decide_eq_true (by omega),Bool.true_and]; rw [if_pos (by omega)]; first | (simp_all; done) | (simp_all; omega) | (simp [*]; done) | (simp [*]; omega))),rfl⟩) (es [3] rfl))))
  refine Qu (Of (fa122_2 _ _)) (k:=Qu (Ol 0 ld3) (k:=Qu (OpQ.eql rfl rfl rfl) (k:=?_)))
  by_cases h8:f.index=0
  ·refine Qu (OpQ.decT (OpQ.pickT rfl rfl rfl) h8) (k:=Qm (k:=Qu (Of (fa122_4 _ _)) (k:=Qu (Ol 0 ld22) (k:=?_))))
   refine Nk 2 fun hl9=>?_
   refine Qu (OpQ.lenSl (i:=2) rfl rfl rfl (len22 _)) (k:=Qu (OpQ.eql rfl rfl rfl) (k:=Qt (k:=Qa (k:=Nw [(2,.bool (decide ((f.sum.length:Int)=0)))] [Cl b1 122 [vint f.kind,vint f.coll,vint f.index,lv,sv],KS lv f.links,KB sv f.sum,Al R] ?_))))
   refine W.ret (inblk_r (thn_r (ret1 (M:=[]) rfl rfl (⟨(congrArg Value.bool (by unfold Spec.fright; rw [decide_eq_true (by omega),Bool.true_and]; rw [if_pos (by omega)]; first | (simp_all; done) | (simp_all; omega) | (simp [*]; done) | (simp [*]; omega))),rfl⟩) (es [3] rfl))))
  refine Qu (OpQ.decF (OpQ.pickT rfl rfl rfl) h8) (k:=Qm (k:=Qs (k:=Qs (k:=Qs (k:=Qs (k:=Qf (k:=Qa (k:=Nw [(2,.bool false)] [Cl b1 122 [vint f.kind,vint f.coll,vint f.index,lv,sv],KS lv f.links,KB sv f.sum,Al R] ?_))))))))
  refine W.ret (inblk_r (thn_r (ret1 (M:=[]) rfl rfl (⟨(congrArg Value.bool (by unfold Spec.fright; rw [decide_eq_true (by omega),Bool.true_and]; rw [if_pos (by omega)]; first | (simp_all; done) | (simp_all; omega) | (simp [*]; done) | (simp [*]; omega))),rfl⟩) (es [3] rfl))))
 refine Sn (Qu (OpQ.eql rfl rfl rfl) (k:=Qa (k:=Nl [(1,vptr b1 0),(2,.bool false),(22,vint f.kind),(39,.bool (decide (f.kind=2)))] ?_)))
 refine Cp rfl (fun h10=>?_) (fun h10=>?_)
 ·refine Sn (Qu (Of (fa122_3 _ _)) (k:=Qu (Ol 0 ld30) (k:=?_)))
  refine Nk 1 fun hl11=>?_
  refine Qu (OpQ.lenSl (i:=1) rfl rfl rfl (len30 _)) (k:=?_)
  by_cases h12:(f.links.length:Int)=0
  ·refine Qu (OpQ.decT (OpQ.eql rfl rfl rfl) h12) (k:=Qm (k:=Qu (Of (fa122_4 _ _)) (k:=Qu (Ol 0 ld22) (k:=?_))))
   refine Nk 2 fun hl13=>?_
   refine Qu (OpQ.lenSl (i:=2) rfl rfl rfl (len22 _)) (k:=Qu (OpQ.eql rfl rfl rfl) (k:=Qt (k:=Qa (k:=Nl [(2,.bool (decide ((f.sum.length:Int)=0)))] ?_))))
   refine W.ret (inblk_r (thn_r (ret1 (M:=[]) rfl rfl (⟨(congrArg Value.bool (by unfold Spec.fright; rw [decide_eq_true (by omega),Bool.true_and]; rw [if_neg (by omega),if_pos (by omega)]; first | (simp_all; done) | (simp_all; omega) | (simp [*]; done) | (simp [*]; omega))),rfl⟩) (es [3] rfl))))
  refine Qu (OpQ.decF (OpQ.eql rfl rfl rfl) h12) (k:=Qm (k:=Qs (k:=Qs (k:=Qs (k:=Qs (k:=Qf (k:=Qa (k:=Nl [(2,.bool false)] ?_))))))))
  refine W.ret (inblk_r (thn_r (ret1 (M:=[]) rfl rfl (⟨(congrArg Value.bool (by unfold Spec.fright; rw [decide_eq_true (by omega),Bool.true_and]; rw [if_neg (by omega),if_pos (by omega)]; first | (simp_all; done) | (simp_all; omega) | (simp [*]; done) | (simp [*]; omega))),rfl⟩) (es [3] rfl))))
 refine Sn (Qu (OpQ.eql rfl rfl rfl) (k:=Qa (k:=Nl [(1,vptr b1 0),(2,.bool false),(22,vint f.kind),(51,.bool (decide (f.kind=3)))] ?_)))
 refine Cp rfl (fun h14=>?_) (fun h14=>?_)
 ·refine Sn (Qu (Of (fa122_3 _ _)) (k:=Qu (Ol 0 ld30) (k:=?_)))
  refine Wc [.tmp 54,.const (.int .i64 0)] [lv,vint 0] Tryz.call228 (links_fn lv f.links 0) ((ed 1 rfl).trans (ep [0] rfl)) ?_
  rintro _ _ ⟨rfl,rfl⟩
  refine Qm (k:=?_)
  cases h15:Spec.linksOk f.links 0
  ·refine Qs (k:=Qs (k:=Qs (k:=Qs (k:=Qf (k:=Qa (k:=Nw [(2,.bool false)] [Cl b1 122 [vint f.kind,vint f.coll,vint f.index,lv,sv],KS lv f.links,KB sv f.sum,Al R] ?_))))))
   refine W.ret (inblk_r (thn_r (ret1 (M:=[]) rfl rfl (⟨(congrArg Value.bool (by unfold Spec.fright; rw [decide_eq_true (by omega),Bool.true_and]; rw [if_neg (by omega),if_neg (by omega),if_pos (by omega)]; first | (simp_all; done) | (simp_all; omega) | (simp [*]; done) | (simp [*]; omega))),rfl⟩) (es [3] rfl))))
  refine Qu (Of (fa122_4 _ _)) (k:=Qu (Ol 0 ld22) (k:=?_))
  refine Nk 2 fun hl16=>?_
  refine Qu (OpQ.lenSl (i:=2) rfl rfl rfl (len22 _)) (k:=Qu (OpQ.eql rfl rfl rfl) (k:=Qt (k:=Qa (k:=Nw [(2,.bool (decide ((f.sum.length:Int)=0)))] [Cl b1 122 [vint f.kind,vint f.coll,vint f.index,lv,sv],KS lv f.links,KB sv f.sum,Al R] ?_))))
  refine W.ret (inblk_r (thn_r (ret1 (M:=[]) rfl rfl (⟨(congrArg Value.bool (by unfold Spec.fright; rw [decide_eq_true (by omega),Bool.true_and]; rw [if_neg (by omega),if_neg (by omega),if_pos (by omega)]; first | (simp_all; done) | (simp_all; omega) | (simp [*]; done) | (simp [*]; omega))),rfl⟩) (es [3] rfl))))
 refine Sn (Qu (OpQ.eql rfl rfl rfl) (k:=Qa (k:=Nl [(1,vptr b1 0),(2,.bool false),(62,.bool (decide (f.kind=4)))] ?_)))
 refine Cp rfl (fun h17=>?_) (fun h17=>?_)
 ·refine Sn (Qu (Of (fa122_3 _ _)) (k:=Qu (Ol 0 ld30) (k:=?_)))
  refine Nk 1 fun hl18=>?_
  refine Qu (OpQ.lenSl (i:=1) rfl rfl rfl (len30 _)) (k:=?_)
  by_cases h19:(f.links.length:Int)=0
  ·refine Qu (OpQ.decT (OpQ.eql rfl rfl rfl) h19) (k:=Qm (k:=Qu (Of (fa122_4 _ _)) (k:=Qu (Ol 0 ld22) (k:=?_))))
   refine Nk 2 fun hl20=>?_
   refine Qu (OpQ.lenSl (i:=2) rfl rfl rfl (len22 _)) (k:=Qu (OpQ.eql rfl rfl rfl) (k:=Qt (k:=Qa (k:=Nl [(2,.bool (decide ((f.sum.length:Int)=32)))] ?_))))
   refine W.ret (inblk_r (thn_r (ret1 (M:=[]) rfl rfl (⟨(congrArg Value.bool (by unfold Spec.fright; rw [decide_eq_true (by omega),Bool.true_and]; rw [if_neg (by omega),if_neg (by omega),if_neg (by omega),if_pos (by omega)]; first | (simp_all; done) | (simp_all; omega) | (simp [*]; done) | (simp [*]; omega))),rfl⟩) (es [3] rfl))))
  refine Qu (OpQ.decF (OpQ.eql rfl rfl rfl) h19) (k:=Qm (k:=Qs (k:=Qs (k:=Qs (k:=Qs (k:=Qf (k:=Qa (k:=Nl [(2,.bool false)] ?_))))))))
  refine W.ret (inblk_r (thn_r (ret1 (M:=[]) rfl rfl (⟨(congrArg Value.bool (by unfold Spec.fright; rw [decide_eq_true (by omega),Bool.true_and]; rw [if_neg (by omega),if_neg (by omega),if_neg (by omega),if_pos (by omega)]; first | (simp_all; done) | (simp_all; omega) | (simp [*]; done) | (simp [*]; omega))),rfl⟩) (es [3] rfl))))
 refine W.skip (inblk_n (thn_n (Wl [(2,.bool false)] ?_)))
 refine Sn (Qa (k:=Nl [(2,.bool false)] ?_))
 refine W.ret (ret1 (M:=[]) rfl rfl (⟨(congrArg Value.bool (by unfold Spec.fright; rw [decide_eq_true (by omega),Bool.true_and]; rw [if_neg (by omega),if_neg (by omega),if_neg (by omega),if_neg (by omega)])),rfl⟩) (es [3] rfl))
theorem Spec.map_take_succ {α:Type} {l:List Bytes} {p:Bytes→α} {k:Nat} (hk:k < l.length):(l.take (k+1)).map p=(l.take k).map p++[p (l.getD k [])]:=by
  rw [List.take_succ_eq_append_getElem hk,List.map_append,List.getD_eq_getElem?_getD,List.getElem?_eq_getElem hk]; rfl
theorem FEncode_fn (f:Frame) (lv:Value) (sv:Value):Fn Tryz.prog 66 #[.agg #[vint f.kind,vint f.coll,vint f.index,lv,sv]] [KS lv f.links,KB sv f.sum] (fun v M=>(∃ (r:Value) (bs:Bytes),Spec.fencode f = .ok bs∧bs.length≤32768∧.tuple #[r,vint 0]=v∧M=[KB r bs])∨(∃ (e2:Int),Spec.fencode f = .error e2∧e2≠0∧.tuple #[.slice none 0 0,vint e2]=v∧M=[])):=by
 refine Fi 53 Tryz.func66 fun g R=>?_
 refine Ww [(0,.agg #[vint f.kind,vint f.coll,vint f.index,lv,sv])] [KS lv f.links,KB sv f.sum,Al R] ?_
 refine Sn (Ru (OpRun.box rfl rfl rfl) ?_)
 rintro _ _ ⟨b1,rfl,rfl⟩
 refine Qa (k:=Qa (k:=Nw [(1,vptr b1 0),(2,N0),(3,vint 0)] [Cl b1 122 [vint f.kind,vint f.coll,vint f.index,lv,sv],KS lv f.links,KB sv f.sum,Al R] ?_))
 refine W.seq (Sn (Qu (OpQ.loadN (i:=0) rfl rfl ld122 rfl rfl rfl) (k:=?_)))
 refine Wc [.tmp 9] [.agg #[vint f.kind,vint f.coll,vint f.index,lv,sv]] Tryz.call147 (FRight_fn f lv sv) ((ed 1 rfl).trans ((ed 3 rfl).trans (ep [1,0] rfl))) ?_
 rintro _ _ ⟨rfl,rfl⟩
 refine Qu (OpQ.not rfl rfl) (k:=Nw [(1,vptr b1 0),(2,N0),(3,vint 0),(11,.bool (!(Spec.fright f)))] [Cl b1 122 [vint f.kind,vint f.coll,vint f.index,lv,sv],KS lv f.links,KB sv f.sum,Al R] ?_)
 refine W.cond rfl (fun h2=>?_) (fun h2=>?_)
 ·refine Sn (Qa (k:=Qa (k:=Nl [(1,vptr b1 0),(2,N0),(3,vint 10)] ?_)))
  refine W.ret (thn_r (ret2 (M:=[]) rfl rfl rfl (.inr (⟨10,(by unfold Spec.fencode; rw [if_pos (by simp_all)]),(by omega),rfl,rfl⟩)) (es [3] rfl)))
 refine W.skip (thn_n (Wl [(1,vptr b1 0),(2,N0),(3,vint 0)] ?_))
 refine Sn (Qu (Of (fa122_0 _ _)) (k:=Qu (Ol 0 ld3) (k:=Qu (OpQ.mkiface (v:=vint f.kind) (u:=Value.iface 3 (vint f.kind)) rfl rfl (fun _=>by kernel_rfl)) (k:=Qu (Of (fa122_1 _ _)) (k:=Qu (Ol 0 ld3) (k:=Qu (OpQ.mkiface (v:=vint f.coll) (u:=Value.iface 3 (vint f.coll)) rfl rfl (fun _=>by kernel_rfl)) (k:=Qu (Of (fa122_2 _ _)) (k:=Qu (Ol 0 ld3) (k:=Qu (OpQ.mkiface (v:=vint f.index) (u:=Value.iface 3 (vint f.index)) rfl rfl (fun _=>by kernel_rfl)) (k:=Qu (Of (fa122_3 _ _)) (k:=Qu (Ol 0 ld30) (k:=?_))))))))))))
 refine Nk 1 fun hl3=>?_
 refine Qu (OpQ.lenSl (i:=1) rfl rfl rfl (len30 _)) (k:=Qu (OpQ.mkiface (v:=vint (f.links.length:Int)) (u:=Value.iface 3 (vint (f.links.length:Int))) rfl rfl (fun _=>by kernel_rfl)) (k:=?_))
 refine Ru (OpRun.buildSlice (qs:=[(0,Value.iface 3 (vint f.kind)),(1,Value.iface 3 (vint f.coll)),(2,Value.iface 3 (vint f.index)),(3,Value.iface 3 (vint (f.links.length:Int)))]) (cs:=[Value.iface 3 (vint f.kind),Value.iface 3 (vint f.coll),Value.iface 3 (vint f.index),Value.iface 3 (vint (f.links.length:Int))]) (E:=20) (sz:=1) rfl ⟨rfl,rfl,rfl,rfl,rfl,rfl,rfl,rfl,trivial⟩ (fun _=>by kernel_rfl) (O3 (one_cons rfl one_nil)) rfl (by decide)) ?_
 rintro v4 _ ⟨h5a,h5b,h5c,rfl⟩
 refine WN.ent (Ent.know (m:=CellsRel Enc.part ([Value.iface 3 (vint f.kind),Value.iface 3 (vint f.coll),Value.iface 3 (vint f.index),Value.iface 3 (vint (f.links.length:Int))]) ([Part.n f.kind,Part.n f.coll,Part.n f.index,Part.n (f.links.length:Int)])) (fun K h s=>(CellsRel.cons (cs:=[Value.iface 3 (vint f.kind)]) (ds:=[Value.iface 3 (vint f.coll),Value.iface 3 (vint f.index),Value.iface 3 (vint (f.links.length:Int))]) rfl Enc.part_n (CellsRel.cons (cs:=[Value.iface 3 (vint f.coll)]) (ds:=[Value.iface 3 (vint f.index),Value.iface 3 (vint (f.links.length:Int))]) rfl Enc.part_n (CellsRel.cons (cs:=[Value.iface 3 (vint f.index)]) (ds:=[Value.iface 3 (vint (f.links.length:Int))]) rfl Enc.part_n (CellsRel.cons (cs:=[Value.iface 3 (vint (f.links.length:Int))]) (ds:=[]) rfl Enc.part_n CellsRel.nil)))))) ?_
 refine Ne [Kx Enc.part ([Value.iface 3 (vint f.kind),Value.iface 3 (vint f.coll),Value.iface 3 (vint f.index),Value.iface 3 (vint (f.links.length:Int))]) ([Part.n f.kind,Part.n f.coll,Part.n f.index,Part.n (f.links.length:Int)]),Rw 20 1 v4 ([Value.iface 3 (vint f.kind),Value.iface 3 (vint f.coll),Value.iface 3 (vint f.index),Value.iface 3 (vint (f.links.length:Int))]),Cl b1 122 [vint f.kind,vint f.coll,vint f.index,lv,sv],KS lv f.links,KB sv f.sum,Al R] (Qa (k:=Nl [(1,vptr b1 0),(2,N0),(3,vint 0),(4,v4)] ?_))
 refine W.seq (Sn (Qu (Of (fa122_3 _ _)) (k:=?_)))
 refine Qu (Ol 2 ld30) (k:=Qu (OpQ.lenSl (i:=3) rfl rfl rfl (len30 _)) (k:=Qm (k:=Nl [(1,vptr b1 0),(2,N0),(3,vint 0),(4,v4),(27,lv),(28,vint (f.links.length:Int)),(29,vint 0)] ?_)))
 refine W.block ?_
 have hfr:=Spec.fright_has (f:=f) (by simp_all); have hll:=hfr.2.2.2.2.2.2.1
 refine W.opens Opens.sl (i:=3) rfl (fun f6 _=>?_)
 refine We [Ka 22 1 lv f.links.length f6,Kr (Enc.sl Enc.u8 5) f6 f.links,Kx Enc.part ([Value.iface 3 (vint f.kind),Value.iface 3 (vint f.coll),Value.iface 3 (vint f.index),Value.iface 3 (vint (f.links.length:Int))]) ([Part.n f.kind,Part.n f.coll,Part.n f.index,Part.n (f.links.length:Int)]),Rw 20 1 v4 ([Value.iface 3 (vint f.kind),Value.iface 3 (vint f.coll),Value.iface 3 (vint f.index),Value.iface 3 (vint (f.links.length:Int))]),Cl b1 122 [vint f.kind,vint f.coll,vint f.index,lv,sv],KB sv f.sum,Al R] ?_
 refine W.loop (X:=Nat × Value × List Value) (fun x=>match x with | (k,o,cs)=>[(1,vptr b1 0),(4,o),(27,lv),(28,vint (f.links.length:Int)),(29,vint (k:Int))]) (fun x=>match x with | (k,o,cs)=>[Asn.pure (k≤f.links.length∧cs.length=4+k),Rw 20 1 o cs,Kx Enc.part cs ([Part.n f.kind,Part.n f.coll,Part.n f.index,Part.n (f.links.length:Int)]++(f.links.take k).map Part.b),Ka 22 1 lv f.links.length f6,Kr (Enc.sl Enc.u8 5) f6 f.links,Cl b1 122 [vint f.kind,vint f.coll,vint f.index,lv,sv],KB sv f.sum,Al R]) (fun x=>match x with | (k,o,cs)=>f.links.length - k) (0,v4,[Value.iface 3 (vint f.kind),Value.iface 3 (vint f.coll),Value.iface 3 (vint f.index),Value.iface 3 (vint (f.links.length:Int))]) ⟨rfl,rfl,rfl,rfl,rfl,trivial⟩ (((es [3,2,0,0,0,0,0] rfl).trans (Ent.of_eq (by simp only [List.take_zero,List.map_nil,List.append_nil]))).trans (Ent.pure_in (by exact ⟨Nat.zero_le _,rfl⟩))) (fun x=>?_)
 obtain ⟨k,o,cs⟩:=x
 show W _ _ _ _ _ [(1,vptr b1 0),(4,o),(27,lv),(28,vint (f.links.length:Int)),(29,vint (k:Int))] [Asn.pure (k≤f.links.length∧cs.length=4+k),Rw 20 1 o cs,Kx Enc.part cs ([Part.n f.kind,Part.n f.coll,Part.n f.index,Part.n (f.links.length:Int)]++(f.links.take k).map Part.b),Ka 22 1 lv f.links.length f6,Kr (Enc.sl Enc.u8 5) f6 f.links,Cl b1 122 [vint f.kind,vint f.coll,vint f.index,lv,sv],KB sv f.sum,Al R]
 refine W.opens Opens.pure (i:=0) rfl (fun _ hI7=>?_)
 replace hI7:=hI7
 show W _ _ _ _ _ [(1,vptr b1 0),(4,o),(27,lv),(28,vint (f.links.length:Int)),(29,vint (k:Int))] [Rw 20 1 o cs,Kx Enc.part cs ([Part.n f.kind,Part.n f.coll,Part.n f.index,Part.n (f.links.length:Int)]++(f.links.take k).map Part.b),Ka 22 1 lv f.links.length f6,Kr (Enc.sl Enc.u8 5) f6 f.links,Cl b1 122 [vint f.kind,vint f.coll,vint f.index,lv,sv],KB sv f.sum,Al R]
 refine Sn (Qu (OpQ.lss rfl rfl rfl) (k:=Nl [(1,vptr b1 0),(4,o),(27,lv),(28,vint (f.links.length:Int)),(29,vint (k:Int)),(30,.bool (decide ((k:Int) < (f.links.length:Int))))] ?_))
 refine W.seq (Cp rfl (fun h8=>?_) (fun h8=>?_))
 ·refine W.skip (thn_n (Wl [(1,vptr b1 0),(4,o),(27,lv),(28,vint (f.links.length:Int)),(29,vint (k:Int))] ?_))
  refine W.seq (W.block (Sn (Qu (OpQ.indexAddr (i:=2) (j:=k) rfl rfl rfl rfl (by omega) (by omega) (by omega) ix30) (k:=?_))))
  refine Qu (OpQ.loadE (i:=2) rfl rfl rfl (by omega) ld22) (k:=Qa (k:=Nl [(1,vptr b1 0),(4,o),(6,f6 k),(27,lv),(28,vint (f.links.length:Int)),(29,vint (k:Int))] ?_))
  refine W.region (WN.ent (Ent.der (i:=3) (m:=Sl Enc.u8 5 (f6 k) (f.links.getD k [])) rfl (elemSl (getD_some [] (by omega)))) ?_)
  refine Qm (k:=Qm (k:=?_))
  refine WN.fact (fun _ _ s=>sl_isS (i:=0) rfl s) (fun hS9=>?_)
  refine Qu (OpQ.mkiface (v:=f6 k) (u:=Value.iface 22 (f6 k)) rfl rfl (fun _=>by obtain ⟨_,_,_,e1⟩:=hS9; rw [e1]; kernel_rfl)) (k:=?_)
  refine Ru (OpRun.buildSlice (qs:=[(0,Value.iface 22 (f6 k))]) (cs:=[Value.iface 22 (f6 k)]) (E:=20) (sz:=1) rfl ⟨rfl,rfl,trivial⟩ (fun _=>by kernel_rfl) (one_cons rfl one_nil) rfl (by decide)) ?_
  rintro v10 _ ⟨h11a,h11b,h11c,rfl⟩
  refine WN.ent (Ent.know (m:=CellsRel Enc.part ([Value.iface 22 (f6 k)]) ([Part.b (f.links.getD k [])])) (fun K h s=>(CellsRel.cons (cs:=[Value.iface 22 (f6 k)]) (ds:=[]) rfl (Enc.part_b (kat 1 s rfl)) CellsRel.nil))) ?_
  refine Ne [Kx Enc.part ([Value.iface 22 (f6 k)]) ([Part.b (f.links.getD k [])]),Rw 20 1 v10 ([Value.iface 22 (f6 k)]),KB (f6 k) (f.links.getD k []),Rw 20 1 o cs,Kx Enc.part cs ([Part.n f.kind,Part.n f.coll,Part.n f.index,Part.n (f.links.length:Int)]++(f.links.take k).map Part.b),Ka 22 1 lv f.links.length f6,Kr (Enc.sl Enc.u8 5) f6 f.links,Cl b1 122 [vint f.kind,vint f.coll,vint f.index,lv,sv],KB sv f.sum,Al R] ?_
  refine Nr 3 fun hr14a hr14b hr14c=>?_
  try simp only [La,Lc,Ln] at hr14a
  refine Nr 1 fun hr15a hr15b hr15c=>?_
  try simp only [La,Lc,Ln] at hr15a
  refine Ru (OpRun.appendRow (i:=3) (j:=1) rfl rfl rfl rfl rfl Tryz.underlying274 (inf:=Tryz.t20) (by kernel_rfl) rfl rfl rfl (by_:=16) rfl (by first | omega | (simp; omega)) (by first | omega | (simp; omega))) ?_
  rintro v12 _ ⟨h13a,h13b,rfl⟩
  refine WN.ent (Ent.know (m:=CellsRel Enc.part (cs++([Value.iface 22 (f6 k)])) (([Part.n f.kind,Part.n f.coll,Part.n f.index,Part.n (f.links.length:Int)]++(f.links.take k).map Part.b)++([Part.b (f.links.getD k [])]))) (fun K h s=>CellsRel.append (e:=Enc.part) (cs:=cs) (ds:=[Value.iface 22 (f6 k)]) (xs:=[Part.n f.kind,Part.n f.coll,Part.n f.index,Part.n (f.links.length:Int)]++(f.links.take k).map Part.b) (ys:=[Part.b (f.links.getD k [])]) (kat 3 s rfl) (kat 1 s rfl))) ?_
  refine Ne [Kx Enc.part (cs++([Value.iface 22 (f6 k)])) (([Part.n f.kind,Part.n f.coll,Part.n f.index,Part.n (f.links.length:Int)]++(f.links.take k).map Part.b)++([Part.b (f.links.getD k [])])),Rw 20 1 v12 (cs++([Value.iface 22 (f6 k)])),Kx Enc.part ([Value.iface 22 (f6 k)]) ([Part.b (f.links.getD k [])]),KB (f6 k) (f.links.getD k []),Kx Enc.part cs ([Part.n f.kind,Part.n f.coll,Part.n f.index,Part.n (f.links.length:Int)]++(f.links.take k).map Part.b),Ka 22 1 lv f.links.length f6,Kr (Enc.sl Enc.u8 5) f6 f.links,Cl b1 122 [vint f.kind,vint f.coll,vint f.index,lv,sv],KB sv f.sum,Al R] (Qa (k:=?_))
  refine WN.nil (inblk_n (thn_n (Wl [(1,vptr b1 0),(4,v12),(27,lv),(28,vint (f.links.length:Int)),(29,vint (k:Int))] ?_)))
  refine W.region (Qu (OpQ.add rfl rfl rfl ⟨by omega,by omega⟩) (k:=?_))
  refine Qm (k:=?_)
  refine WN.nil (thn_n ⟨(k+1,v12,cs++([Value.iface 22 (f6 k)])),by (show f.links.length - (k+1) < f.links.length - k); omega,⟨rfl,rfl,rfl,rfl,(Eq.trans (b:=some (vint ((k:Int)+1))) rfl (by first | rfl | (congr 2; omega))),trivial⟩,?_⟩)
  exact ((es [1,0,3,3,3,3,3] rfl).trans (Ent.of_eq (by rw [Spec.map_take_succ (by omega),← List.append_assoc]))).trans (Ent.pure_in (by exact ⟨by omega,by have:=hI7.2; simp; omega⟩))
 obtain rfl:k=f.links.length:=by omega
 refine W.exit (thn_x (thn_x (inblk_x (thn_n (Ww [(1,vptr b1 0),(4,o)] [Rw 20 1 o cs,Kx Enc.part cs ([Part.n f.kind,Part.n f.coll,Part.n f.index,Part.n (f.links.length:Int)]++(f.links.take f.links.length).map Part.b),Ka 22 1 lv f.links.length f6,Kr (Enc.sl Enc.u8 5) f6 f.links,Cl b1 122 [vint f.kind,vint f.coll,vint f.index,lv,sv],KB sv f.sum,Al R] ?_)))))
 refine Sn (Qm (k:=Qu (Of (fa122_4 _ _)) (k:=Qu (Ol 4 ld22) (k:=?_))))
 refine WN.fact (fun _ _ s=>sl_isS (i:=5) rfl s) (fun hS16=>?_)
 refine Qu (OpQ.mkiface (v:=sv) (u:=Value.iface 22 (sv)) rfl rfl (fun _=>by obtain ⟨_,_,_,e1⟩:=hS16; rw [e1]; kernel_rfl)) (k:=?_)
 refine Ru (OpRun.buildSlice (qs:=[(0,Value.iface 22 (sv))]) (cs:=[Value.iface 22 (sv)]) (E:=20) (sz:=1) rfl ⟨rfl,rfl,trivial⟩ (fun _=>by kernel_rfl) (one_cons rfl one_nil) rfl (by decide)) ?_
 rintro v17 _ ⟨h18a,h18b,h18c,rfl⟩
 refine WN.ent (Ent.know (m:=CellsRel Enc.part ([Value.iface 22 (sv)]) ([Part.b f.sum])) (fun K h s=>(CellsRel.cons (cs:=[Value.iface 22 (sv)]) (ds:=[]) rfl (Enc.part_b (kat 6 s rfl)) CellsRel.nil))) ?_
 refine Ne [Kx Enc.part ([Value.iface 22 (sv)]) ([Part.b f.sum]),Rw 20 1 v17 ([Value.iface 22 (sv)]),Rw 20 1 o cs,Kx Enc.part cs ([Part.n f.kind,Part.n f.coll,Part.n f.index,Part.n (f.links.length:Int)]++(f.links.take f.links.length).map Part.b),Ka 22 1 lv f.links.length f6,Kr (Enc.sl Enc.u8 5) f6 f.links,Cl b1 122 [vint f.kind,vint f.coll,vint f.index,lv,sv],KB sv f.sum,Al R] ?_
 refine Nr 2 fun hr21a hr21b hr21c=>?_
 try simp only [La,Lc,Ln] at hr21a
 refine Nr 1 fun hr22a hr22b hr22c=>?_
 try simp only [La,Lc,Ln] at hr22a
 refine Ru (OpRun.appendRow (i:=2) (j:=1) rfl rfl rfl rfl rfl Tryz.underlying274 (inf:=Tryz.t20) (by kernel_rfl) rfl rfl rfl (by_:=16) rfl (by first | omega | (simp; omega)) (by first | omega | (simp; omega))) ?_
 rintro v19 _ ⟨h20a,h20b,rfl⟩
 refine WN.ent (Ent.know (m:=CellsRel Enc.part (cs++([Value.iface 22 (sv)])) (([Part.n f.kind,Part.n f.coll,Part.n f.index,Part.n (f.links.length:Int)]++(f.links.take f.links.length).map Part.b)++([Part.b f.sum]))) (fun K h s=>CellsRel.append (e:=Enc.part) (cs:=cs) (ds:=[Value.iface 22 (sv)]) (xs:=[Part.n f.kind,Part.n f.coll,Part.n f.index,Part.n (f.links.length:Int)]++(f.links.take f.links.length).map Part.b) (ys:=[Part.b f.sum]) (kat 2 s rfl) (kat 1 s rfl))) ?_
 refine Ne [Kx Enc.part (cs++([Value.iface 22 (sv)])) (([Part.n f.kind,Part.n f.coll,Part.n f.index,Part.n (f.links.length:Int)]++(f.links.take f.links.length).map Part.b)++([Part.b f.sum])),Rw 20 1 v19 (cs++([Value.iface 22 (sv)])),Kx Enc.part ([Value.iface 22 (sv)]) ([Part.b f.sum]),Kx Enc.part cs ([Part.n f.kind,Part.n f.coll,Part.n f.index,Part.n (f.links.length:Int)]++(f.links.take f.links.length).map Part.b),Ka 22 1 lv f.links.length f6,Kr (Enc.sl Enc.u8 5) f6 f.links,Cl b1 122 [vint f.kind,vint f.coll,vint f.index,lv,sv],KB sv f.sum,Al R] ?_
 refine WN.freezeRel (e:=Enc.part) (i:=1) (j:=0) (Lb rfl) rfl rfl ?_
 refine Ne [Kk (Sl Enc.part 20 v19 (([Part.n f.kind,Part.n f.coll,Part.n f.index,Part.n (f.links.length:Int)]++(f.links.take f.links.length).map Part.b)++([Part.b f.sum]))),Kx Enc.part (cs++([Value.iface 22 (sv)])) (([Part.n f.kind,Part.n f.coll,Part.n f.index,Part.n (f.links.length:Int)]++(f.links.take f.links.length).map Part.b)++([Part.b f.sum])),Kx Enc.part ([Value.iface 22 (sv)]) ([Part.b f.sum]),Kx Enc.part cs ([Part.n f.kind,Part.n f.coll,Part.n f.index,Part.n (f.links.length:Int)]++(f.links.take f.links.length).map Part.b),Ka 22 1 lv f.links.length f6,Kr (Enc.sl Enc.u8 5) f6 f.links,Cl b1 122 [vint f.kind,vint f.coll,vint f.index,lv,sv],KB sv f.sum,Al R] ?_
 refine Wc [.tmp 45] [v19] Tryz.call148 (Put_fn v19 (([Part.n f.kind,Part.n f.coll,Part.n f.index,Part.n (f.links.length:Int)]++(f.links.take f.links.length).map Part.b)++([Part.b f.sum])) (by first | omega | (simp; done) | (simp; omega) | (simp at *; omega))) ((ed 0 rfl).trans (ep [0] rfl)) ?_
 rintro _ _ (⟨r23,bs24,h25,h26,rfl,rfl⟩ | ⟨e27,h28,h29,rfl,rfl⟩)
 ·refine Qm (k:=Qe (k:=Qe (k:=Qa (k:=Qa (k:=Nw [(7,r23)] [KB r23 bs24,Kk (Sl Enc.part 20 v19 (([Part.n f.kind,Part.n f.coll,Part.n f.index,Part.n (f.links.length:Int)]++(f.links.take f.links.length).map Part.b)++([Part.b f.sum]))),Kx Enc.part (cs++([Value.iface 22 (sv)])) (([Part.n f.kind,Part.n f.coll,Part.n f.index,Part.n (f.links.length:Int)]++(f.links.take f.links.length).map Part.b)++([Part.b f.sum])),Kx Enc.part ([Value.iface 22 (sv)]) ([Part.b f.sum]),Kx Enc.part cs ([Part.n f.kind,Part.n f.coll,Part.n f.index,Part.n (f.links.length:Int)]++(f.links.take f.links.length).map Part.b),Ka 22 1 lv f.links.length f6,Kr (Enc.sl Enc.u8 5) f6 f.links,Cl b1 122 [vint f.kind,vint f.coll,vint f.index,lv,sv],KB sv f.sum,Al R] ?_)))))
  refine W.seq (Sn (Qm (k:=?_)))
  refine Nk 0 fun hl30=>?_
  refine Qu (OpQ.lenSl (i:=0) rfl rfl rfl (len22 _)) (k:=Qu (OpQ.gtr rfl rfl rfl) (k:=Nl [(7,r23),(51,.bool (decide ((bs24.length:Int) > 32768)))] ?_))
  refine Cp rfl (fun h31=>?_) (fun h31=>?_)
  ·refine Sn (Qa (k:=Qa (k:=Nl [(2,N0),(3,vint 11),(7,r23)] ?_)))
   refine W.ret (thn_r (ret2 (M:=[]) rfl rfl rfl (.inr (⟨11,(by unfold Spec.fencode Spec.fparts; rw [if_neg (by simp_all)]; have hp:=h25; rw [List.take_length] at hp; simp only [hp]; rw [if_pos (by omega)]),(by omega),rfl,rfl⟩)) (es [9] rfl)))
  refine W.skip (thn_n (Wl [(7,r23)] ?_))
  refine Sn (Qm (k:=Qa (k:=Qa (k:=Nl [(2,r23),(3,vint 0)] ?_))))
  refine W.ret (ret2 (M:=[KB r23 bs24]) rfl rfl rfl (.inl ⟨r23,bs24,(by unfold Spec.fencode Spec.fparts; rw [if_neg (by simp_all)]; have hp:=h25; rw [List.take_length] at hp; simp only [hp]; rw [if_neg (by omega)]),(by omega),rfl,rfl⟩) (es [0,8] rfl))
 exfalso; have hp:=h28; rw [List.take_length] at hp; have h8:=Spec.put_fparts (f:=f) (by simp_all); unfold Spec.fparts at h8; rw [h8] at hp; cases hp
theorem FDecode_fn (b:Value) (bs:Bytes) (hb:bs.length≤1000000):Fn Tryz.prog 65 #[b] [KB b bs] (fun v M=>(∃ (f:Frame) (lv:Value) (sv:Value),Spec.fdecode bs = .ok f∧.tuple #[.agg #[vint f.kind,vint f.coll,vint f.index,lv,sv],vint 0]=v∧M=[KS lv f.links,KB sv f.sum])∨(∃ (x:Int),Spec.fdecode bs = .error x∧x≠0∧.tuple #[.agg #[vint 0,vint 0,vint 0,.slice none 0 0,.slice none 0 0],vint x]=v∧M=[])):=by
 refine Fi 56 Tryz.func65 fun g R=>?_
 refine Ww [(0,b)] [KB b bs,Al R] ?_
 refine Sn (Ru (OpRun.alloc rfl zv122 rfl) ?_)
 rintro _ _ ⟨b1,rfl,rfl⟩
 refine Qa (k:=Nw [(0,b),(2,vptr b1 0),(3,vint 0)] [Cl b1 122 [vint 0,vint 0,vint 0,N0,N0],KB b bs,Al R] ?_)
 refine W.seq (Sn (Qm (k:=?_)))
 refine Nk 1 fun hl2=>?_
 refine Qu (OpQ.lenSl (i:=1) rfl rfl rfl (len22 _)) (k:=Qu (OpQ.gtr rfl rfl rfl) (k:=Nl [(0,b),(2,vptr b1 0),(3,vint 0),(10,.bool (decide ((bs.length:Int) > 32768)))] ?_))
 refine Cp rfl (fun h3=>?_) (fun h3=>?_)
 ·refine Sn (Qu (OpQ.build (qs:=[]) (v:=.agg #[vint 0,vint 0,vint 0,N0,N0]) rfl trivial (fun _=>by kernel_rfl)) (k:=Rn (OpRun.store (i:=0) (vs:=[vint 0,vint 0,vint 0,N0,N0]) (cs':=[vint 0,vint 0,vint 0,N0,N0]) rfl rfl rfl sz122 rfl rfl (O3 (one_cons rfl (one_cons rfl one_nil))) rfl (Lb rfl) rfl) (k:=Qa (k:=Nw [(0,b),(2,vptr b1 0),(3,vint 11)] [Cl b1 122 [vint 0,vint 0,vint 0,N0,N0],KB b bs,Al R] ?_))))
  refine W.ret (thn_r (retC2 (M:=[]) (i:=0) rfl rfl rfl rfl rfl ld122 (.inr (⟨11,(by unfold Spec.fdecode; rw [if_pos (by omega)]),(by omega),rfl,rfl⟩)) (es [2] rfl)))
 refine W.skip (thn_n (Wl [(0,b),(2,vptr b1 0),(3,vint 0)] ?_))
 refine Sn (Qm (k:=?_))
 refine Wc [.tmp 12] [b] Tryz.call142 (Read_fn b bs (by first | omega | (simp; done) | (simp; omega) | (simp at *; omega))) ((ed 1 rfl).trans (ep [0] rfl)) ?_
 rintro _ _ ⟨rp4,rfl,rfl⟩
 refine Qa (k:=Nw [(2,vptr b1 0),(3,vint 0),(4,vptr rp4 0)] [ReaderR rp4 (some bs),Cl b1 122 [vint 0,vint 0,vint 0,N0,N0],KB b bs,Al R] ?_)
 refine Sn (Qm (k:=Qu (OpQ.makeFuncB (xs:=[.tmp 14]) (vs:=[vptr rp4 0]) rfl ⟨rfl,trivial⟩) (k:=Qa (k:=Nl [(2,vptr b1 0),(3,vint 0),(4,vptr rp4 0),(5,.func (.func 143) #[vptr rp4 0] #[])] ?_))))
 refine Sn (Ru (OpRun.alloc rfl zv122 rfl) ?_)
 rintro _ _ ⟨b5,rfl,rfl⟩
 refine Nw [(2,vptr b1 0),(3,vint 0),(4,vptr rp4 0),(5,.func (.func 143) #[vptr rp4 0] #[]),(6,vptr b5 0)] [Cl b5 122 [vint 0,vint 0,vint 0,N0,N0],ReaderR rp4 (some bs),Cl b1 122 [vint 0,vint 0,vint 0,N0,N0],KB b bs,Al R] ?_
 refine Sn (Qm (k:=?_))
 refine WN.call rfl rfl (OpCall.bound (bs:=[vptr rp4 0]) (os:=[.const (.int .i64 1),.const (.int .i64 4)]) (xs:=[vint 1,vint 4]) rfl rfl ⟨rfl,rfl,trivial⟩ Tryz.call143) (Number_fn rp4 (some bs) 1 4) (ep [1] rfl) ?_
 rintro _ _ ⟨x6,s7,h8,rfl,rfl⟩
 refine Qu (Of (fa122_0 _ _)) (k:=Rn (OpRun.store (i:=1) (vs:=[vint x6]) (cs':=[vint x6,vint 0,vint 0,N0,N0]) rfl rfl rfl sz3 rfl rfl (one_cons rfl one_nil) rfl (Lb rfl) rfl) (k:=Nw [(2,vptr b1 0),(3,vint 0),(4,vptr rp4 0),(5,.func (.func 143) #[vptr rp4 0] #[]),(6,vptr b5 0)] [Cl b5 122 [vint x6,vint 0,vint 0,N0,N0],ReaderR rp4 s7,Cl b1 122 [vint 0,vint 0,vint 0,N0,N0],KB b bs,Al R] ?_))
 refine Sn (Qm (k:=?_))
 refine WN.call rfl rfl (OpCall.bound (bs:=[vptr rp4 0]) (os:=[.const (.int .i64 1),.const (.int .i64 1099511627776)]) (xs:=[vint 1,vint 1099511627776]) rfl rfl ⟨rfl,rfl,trivial⟩ Tryz.call143) (Number_fn rp4 s7 1 1099511627776) (ep [1] rfl) ?_
 rintro _ _ ⟨x9,s10,h11,rfl,rfl⟩
 refine Qu (Of (fa122_1 _ _)) (k:=Rn (OpRun.store (i:=1) (vs:=[vint x9]) (cs':=[vint x6,vint x9,vint 0,N0,N0]) rfl rfl rfl sz3 rfl rfl (one_cons rfl one_nil) rfl (Lb rfl) rfl) (k:=Nw [(2,vptr b1 0),(3,vint 0),(4,vptr rp4 0),(5,.func (.func 143) #[vptr rp4 0] #[]),(6,vptr b5 0)] [Cl b5 122 [vint x6,vint x9,vint 0,N0,N0],ReaderR rp4 s10,Cl b1 122 [vint 0,vint 0,vint 0,N0,N0],KB b bs,Al R] ?_))
 refine Sn (Qm (k:=?_))
 refine WN.call rfl rfl (OpCall.bound (bs:=[vptr rp4 0]) (os:=[.const (.int .i64 0),.const (.int .i64 64)]) (xs:=[vint 0,vint 64]) rfl rfl ⟨rfl,rfl,trivial⟩ Tryz.call143) (Number_fn rp4 s10 0 64) (ep [1] rfl) ?_
 rintro _ _ ⟨x12,s13,h14,rfl,rfl⟩
 refine Qu (Of (fa122_2 _ _)) (k:=Rn (OpRun.store (i:=1) (vs:=[vint x12]) (cs':=[vint x6,vint x9,vint x12,N0,N0]) rfl rfl rfl sz3 rfl rfl (one_cons rfl one_nil) rfl (Lb rfl) rfl) (k:=Nw [(2,vptr b1 0),(3,vint 0),(4,vptr rp4 0),(5,.func (.func 143) #[vptr rp4 0] #[]),(6,vptr b5 0)] [Cl b5 122 [vint x6,vint x9,vint x12,N0,N0],ReaderR rp4 s13,Cl b1 122 [vint 0,vint 0,vint 0,N0,N0],KB b bs,Al R] ?_))
 refine W.seq (Sn (Qm (k:=?_)))
 refine WN.call rfl rfl (OpCall.bound (bs:=[vptr rp4 0]) (os:=[.const (.int .i64 0),.const (.int .i64 8)]) (xs:=[vint 0,vint 8]) rfl rfl ⟨rfl,rfl,trivial⟩ Tryz.call143) (Number_fn rp4 s13 0 8) (ep [1] rfl) ?_
 rintro _ _ ⟨x15,s16,h17,rfl,rfl⟩
 refine Qa (k:=Nw [(2,vptr b1 0),(3,vint 0),(4,vptr rp4 0),(6,vptr b5 0),(7,vint x15)] [ReaderR rp4 s16,Cl b5 122 [vint x6,vint x9,vint x12,N0,N0],Cl b1 122 [vint 0,vint 0,vint 0,N0,N0],KB b bs,Al R] ?_)
 refine W.block ?_
 have hn0:=Spec.rnumber_range h17 (by omega) (by omega)
 obtain ⟨n0,rfl⟩:∃ m:Nat,x15=m:=⟨x15.toNat,by omega⟩
 refine W.ent (Ent.rowNil (E:=22) (sz:=1)) ?_
 refine W.ent (Ent.know (m:=CellsRel (Enc.sl Enc.u8 5) [] []) (fun _ _ _=>CellsRel.nil)) ?_
 refine W.ent (L':=[Kx (Enc.sl Enc.u8 5) ([]) ([]),Rw 22 1 (N0) ([]),ReaderR rp4 s16,Cl b5 122 [vint x6,vint x9,vint x12,N0,N0],Cl b1 122 [vint 0,vint 0,vint 0,N0,N0],KB b bs,Al R]) (es [0,0,0,0,0,0,0] rfl) ?_
 refine W.loop (X:=Nat × Value × List Value × List Bytes × Option Bytes) (fun x=>match x with | (n,o,cs,ws,s)=>[(2,vptr b1 0),(3,vint 0),(4,vptr rp4 0),(6,vptr b5 0),(7,vint (n:Int))]) (fun x=>match x with | (n,o,cs,ws,s)=>[Asn.pure (Spec.rlinks n0 s16=(ws++(Spec.rlinks n s).1,(Spec.rlinks n s).2)∧ws.length+n≤8∧cs.length=ws.length),Cl b5 122 [vint x6,vint x9,vint x12,o,N0],Rw 22 1 o cs,Kx (Enc.sl Enc.u8 5) cs ws,ReaderR rp4 s,Cl b1 122 [vint 0,vint 0,vint 0,N0,N0],KB b bs,Al R]) (fun x=>match x with | (n,o,cs,ws,s)=>n) (n0,(N0),[],[],s16) ⟨rfl,rfl,rfl,rfl,rfl,trivial⟩ ((es [3,1,0,0,0,0,0] rfl).trans (Ent.pure_in (by exact ⟨by simp,by simp; omega,by simp⟩))) (fun x=>?_)
 obtain ⟨n,o,cs,ws,s⟩:=x
 show W _ _ _ _ _ [(2,vptr b1 0),(3,vint 0),(4,vptr rp4 0),(6,vptr b5 0),(7,vint (n:Int))] [Asn.pure (Spec.rlinks n0 s16=(ws++(Spec.rlinks n s).1,(Spec.rlinks n s).2)∧ws.length+n≤8∧cs.length=ws.length),Cl b5 122 [vint x6,vint x9,vint x12,o,N0],Rw 22 1 o cs,Kx (Enc.sl Enc.u8 5) cs ws,ReaderR rp4 s,Cl b1 122 [vint 0,vint 0,vint 0,N0,N0],KB b bs,Al R]
 refine W.opens Opens.pure (i:=0) rfl (fun _ hI18=>?_)
 replace hI18:=hI18
 show W _ _ _ _ _ [(2,vptr b1 0),(3,vint 0),(4,vptr rp4 0),(6,vptr b5 0),(7,vint (n:Int))] [Cl b5 122 [vint x6,vint x9,vint x12,o,N0],Rw 22 1 o cs,Kx (Enc.sl Enc.u8 5) cs ws,ReaderR rp4 s,Cl b1 122 [vint 0,vint 0,vint 0,N0,N0],KB b bs,Al R]
 refine W.seq (Sn (Qm (k:=?_)))
 by_cases h19:(n:Int) > 0
 ·refine Qu (OpQ.decT (OpQ.gtr rfl rfl rfl) h19) (k:=Qm (k:=Qm (k:=?_)))
  refine Wc [.tmp 30] [vptr rp4 0] Tryz.call144 (Bad_fn rp4 s) (ep [3] rfl) ?_
  rintro _ _ ⟨rfl,rfl⟩
  refine Qu (OpQ.not rfl rfl) (k:=Qt (k:=Nw [(2,vptr b1 0),(3,vint 0),(4,vptr rp4 0),(6,vptr b5 0),(7,vint (n:Int)),(33,.bool (!s.isNone))] [ReaderR rp4 s,Cl b5 122 [vint x6,vint x9,vint x12,o,N0],Rw 22 1 o cs,Kx (Enc.sl Enc.u8 5) cs ws,Cl b1 122 [vint 0,vint 0,vint 0,N0,N0],KB b bs,Al R] ?_))
  refine W.cond rfl (fun h20=>?_) (fun h20=>?_)
  ·refine W.skip (thn_n (Wl [(2,vptr b1 0),(3,vint 0),(4,vptr rp4 0),(6,vptr b5 0),(7,vint (n:Int))] ?_))
   refine W.seq (W.block (W.drawG mixed ?_))
   obtain ⟨m,rfl⟩:∃ m,n=m+1:=⟨n - 1,by omega⟩
   obtain ⟨s,rfl⟩:∃ z,s=some z:=by cases s <;> simp_all
   refine Gq 0 [] rfl (Of (fa122_3 _ _)) ?_
   refine WG.hold (Cl b5 122 [vint x6,vint x9,vint x12,o,N0],[7]) ?_
   refine Gq 1 [1] rfl (Ol 0 ld30) ?_
   refine Gq 2 [1] rfl (OpQ.move rfl rfl) ?_
   refine WG.one (i:=3) (by kernel_rfl) (UpG.call rfl rfl rfl (OpCall.mk (xs:=[.tmp 38,.const (.int .i64 1),.const (.int .i64 4096)]) (vs:=[vptr rp4 0,vint 1,vint 4096]) rfl ⟨rfl,rfl,rfl,trivial⟩ Tryz.call145) (Text_fn rp4 (some s) 1 4096 (by first | omega | (simp; done) | (simp; omega) | (simp at *; omega)) (by first | omega | (simp; done) | (simp; omega) | (simp at *; omega))) (ep [0] rfl) ?_)
   rintro _ _ ⟨r21,x22,s23,h24,rfl,rfl⟩
   refine ⟨es [2] rfl,?_⟩
   refine WG.fact (fun _ _ s=>sl_isS (i:=0) rfl s) (fun hS27=>?_)
   refine WG.fact (fun _ _ s=>(sl_facts (i:=0) rfl s).2.2) (fun ho28=>?_)
   refine WG.one (i:=4) (by kernel_rfl) (UpG.run rfl rfl rfl (OpRun.buildSlice (qs:=[(0,r21)]) (cs:=[r21]) (E:=22) (sz:=1) rfl ⟨rfl,rfl,trivial⟩ (fun _=>by obtain ⟨_,_,_,e1⟩:=hS27; rw [e1]; kernel_rfl) (one_cons ho28 one_nil) rfl (by decide)) ?_)
   rintro v25 _ ⟨h26a,h26b,h26c,rfl⟩
   refine ⟨es [3] rfl,?_⟩
   refine WG.ent (Ent.know (m:=CellsRel (Enc.sl Enc.u8 5) ([r21]) ([x22])) (fun K h s=>(CellsRel.cons (cs:=[r21]) (ds:=[]) rfl (Enc.sl_mk (kat 1 s rfl)) CellsRel.nil))) ?_
   refine WG.ent (L':=[Kx (Enc.sl Enc.u8 5) ([r21]) ([x22]),Rw 22 1 v25 ([r21]),KB r21 x22,ReaderR rp4 s23,Cl b5 122 [vint x6,vint x9,vint x12,o,N0],Rw 22 1 o cs,Kx (Enc.sl Enc.u8 5) cs ws,Cl b1 122 [vint 0,vint 0,vint 0,N0,N0],KB b bs,Al R]) er ?_
   refine WG.fact (fun _ _ s=>row_facts (i:=5) rfl s) (fun hr31=>?_)
   obtain ⟨hr31a,hr31b,hr31c⟩:=hr31; try simp only [La,Lc,Ln] at hr31a
   refine WG.fact (fun _ _ s=>row_facts (i:=1) rfl s) (fun hr32=>?_)
   obtain ⟨hr32a,hr32b,hr32c⟩:=hr32; try simp only [La,Lc,Ln] at hr32a
   refine WG.one (i:=5) (by kernel_rfl) (UpG.run rfl rfl rfl (OpRun.appendRow (i:=5) (j:=1) rfl rfl rfl rfl rfl Tryz.underlying30 (inf:=Tryz.t22) (by kernel_rfl) rfl rfl rfl (by_:=24) rfl (by first | omega | (simp; omega)) (by first | omega | (simp; omega))) ?_)
   rintro v29 _ ⟨h30a,h30b,rfl⟩
   refine ⟨es [4] rfl,?_⟩
   refine WG.ent (Ent.know (m:=CellsRel (Enc.sl Enc.u8 5) (cs++([r21])) (ws++([x22]))) (fun K h s=>CellsRel.append (e:=Enc.sl Enc.u8 5) (cs:=cs) (ds:=[r21]) (xs:=ws) (ys:=[x22]) (kat 5 s rfl) (kat 1 s rfl))) ?_
   refine WG.ent (L':=[Kx (Enc.sl Enc.u8 5) (cs++([r21])) (ws++([x22])),Rw 22 1 v29 (cs++([r21])),Kx (Enc.sl Enc.u8 5) ([r21]) ([x22]),KB r21 x22,ReaderR rp4 s23,Cl b5 122 [vint x6,vint x9,vint x12,o,N0],Kx (Enc.sl Enc.u8 5) cs ws,Cl b1 122 [vint 0,vint 0,vint 0,N0,N0],KB b bs,Al R]) er ?_
   refine Gq 6 [5] rfl (Of (fa122_3 _ _)) ?_
   refine WG.one (i:=7) (by kernel_rfl) (UpG.run rfl rfl rfl (OpRun.store (i:=5) (vs:=[v29]) (cs':=[vint x6,vint x9,vint x12,v29,N0]) rfl rfl rfl sz30 (cells_one h30b) rfl (one_cons h30b one_nil) rfl (Lb rfl) rfl) ?_)
   rintro _ _ ⟨rfl,rfl⟩
   refine ⟨es [] rfl,?_⟩
   refine WG.done (by kernel_rfl) ?_
   refine inblk_n (thn_n (Ww [(2,vptr b1 0),(3,vint 0),(4,vptr rp4 0),(6,vptr b5 0),(7,vint ((m+1):Int))] [Cl b5 122 [vint x6,vint x9,vint x12,v29,N0],Kx (Enc.sl Enc.u8 5) (cs++([r21])) (ws++([x22])),Rw 22 1 v29 (cs++([r21])),Kx (Enc.sl Enc.u8 5) ([r21]) ([x22]),KB r21 x22,ReaderR rp4 s23,Kx (Enc.sl Enc.u8 5) cs ws,Cl b1 122 [vint 0,vint 0,vint 0,N0,N0],KB b bs,Al R] ?_))
   refine W.region (Qm (k:=?_))
   refine Qu (OpQ.sub rfl rfl rfl ⟨by omega,by omega⟩) (k:=Qa (k:=?_))
   refine WN.nil (thn_n ⟨(m,v29,cs++([r21]),ws++([x22]),s23),by (show m < (m+1)); omega,⟨rfl,rfl,rfl,rfl,(Eq.trans (b:=some (vint (((m+1):Int) - 1))) rfl (by first | rfl | (congr 2; omega))),trivial⟩,?_⟩)
   exact (es [0,1,0,2,3,3,3] rfl).trans (Ent.pure_in (by refine ⟨?_,by have:=hI18.2.1; simp; omega,by have:=hI18.2.2; simp; omega⟩; rw [hI18.1,Spec.rlinks_succ h24]; simp))
  have hend:Spec.rlinks n0 s16=(ws,s):=by rw [hI18.1]; cases s with | none=>rw [Spec.rlinks_none,List.append_nil] | some z=>(have hz:n=0:=(by first | omega | exact absurd h20 (by simp))); (subst hz); (simp only [Spec.rlinks,List.append_nil])
  refine W.exit (thn_x (thn_x (inblk_x (thn_n (Wl [(2,vptr b1 0),(3,vint 0),(4,vptr rp4 0),(6,vptr b5 0)] ?_)))))
  refine Sn (Qm (k:=?_))
  refine Wc [.tmp 43,.const (.int .i64 0),.const (.int .i64 32)] [vptr rp4 0,vint 0,vint 32] Tryz.call145 (Text_fn rp4 s 0 32 (by first | omega | (simp; done) | (simp; omega) | (simp at *; omega)) (by first | omega | (simp; done) | (simp; omega) | (simp at *; omega))) (ep [0] rfl) ?_
  rintro _ _ ⟨r33,x34,s35,h36,rfl,rfl⟩
  refine Qu (Of (fa122_4 _ _)) (k:=?_)
  refine Nf 0 fun ho37=>?_
  refine Rn (OpRun.store (i:=2) (vs:=[r33]) (cs':=[vint x6,vint x9,vint x12,o,r33]) rfl rfl rfl sz22 (cells_one ho37) rfl (one_cons ho37 one_nil) rfl (Lb rfl) rfl) (k:=Nw [(2,vptr b1 0),(3,vint 0),(4,vptr rp4 0),(6,vptr b5 0)] [Cl b5 122 [vint x6,vint x9,vint x12,o,r33],KB r33 x34,ReaderR rp4 s35,Rw 22 1 o cs,Kx (Enc.sl Enc.u8 5) cs ws,Cl b1 122 [vint 0,vint 0,vint 0,N0,N0],KB b bs,Al R] ?_)
  refine W.seq (Sn (Qm (k:=?_)))
  refine Wc [.tmp 46] [vptr rp4 0] Tryz.call146 (End_fn rp4 s35) (ep [2] rfl) ?_
  rintro _ _ ⟨rfl,rfl⟩
  by_cases h38:¬ (s35=some [])
  ·refine Qu (OpQ.decT (OpQ.notP rfl rfl) h38) (k:=Qm (k:=Qs (k:=Qs (k:=Qs (k:=Qt (k:=Nw [(2,vptr b1 0),(3,vint 0),(6,vptr b5 0),(53,.bool true)] [ReaderR rp4 s35,Cl b5 122 [vint x6,vint x9,vint x12,o,r33],KB r33 x34,Rw 22 1 o cs,Kx (Enc.sl Enc.u8 5) cs ws,Cl b1 122 [vint 0,vint 0,vint 0,N0,N0],KB b bs,Al R] ?_))))))
   refine W.condT rfl ?_
   refine Sn (Qu (OpQ.build (qs:=[]) (v:=.agg #[vint 0,vint 0,vint 0,N0,N0]) rfl trivial (fun _=>by kernel_rfl)) (k:=Rn (OpRun.store (i:=5) (vs:=[vint 0,vint 0,vint 0,N0,N0]) (cs':=[vint 0,vint 0,vint 0,N0,N0]) rfl rfl rfl sz122 rfl rfl (O3 (one_cons rfl (one_cons rfl one_nil))) rfl (Lb rfl) rfl) (k:=Qa (k:=Nw [(2,vptr b1 0),(3,vint 10),(6,vptr b5 0)] [Cl b1 122 [vint 0,vint 0,vint 0,N0,N0],ReaderR rp4 s35,Cl b5 122 [vint x6,vint x9,vint x12,o,r33],KB r33 x34,Rw 22 1 o cs,Kx (Enc.sl Enc.u8 5) cs ws,KB b bs,Al R] ?_))))
   refine Wr 4 fun hr39a hr39b hr39c=>?_
   try simp only [La,Lc,Ln] at hr39a
   have hre:Spec.rframe (some bs)=((⟨x6,x9,x12,ws,x34⟩:Frame),s35):=by simp only [Spec.rframe,h8,h11,h14,h17,h36,Int.toNat_natCast,hend]
   refine W.ret (thn_r (retC2 (M:=[]) (i:=0) rfl rfl rfl rfl rfl ld122 (.inr (⟨10,(by unfold Spec.fdecode; rw [if_neg (by omega),hre]; show (if _ then _ else _)=_; rw [if_neg (by clear hend hI18 hre; simp_all)]),(by omega),rfl,rfl⟩)) (es [7] rfl)))
  refine Qu (OpQ.decF (OpQ.notP rfl rfl) h38) (k:=Qm (k:=Qu (OpQ.loadN (i:=1) rfl rfl ld122 rfl rfl rfl) (k:=?_)))
  refine WN.freezeRel (e:=Enc.sl Enc.u8 5) (i:=3) (j:=3) (Lb rfl) rfl rfl ?_
  refine Ne [KS o ws,ReaderR rp4 s35,Cl b5 122 [vint x6,vint x9,vint x12,o,r33],KB r33 x34,Kx (Enc.sl Enc.u8 5) cs ws,Cl b1 122 [vint 0,vint 0,vint 0,N0,N0],KB b bs,Al R] ?_
  refine Wc [.tmp 50] [.agg #[vint x6,vint x9,vint x12,o,r33]] Tryz.call147 (FRight_fn (⟨x6,x9,x12,ws,x34⟩:Frame) o r33) ((ed 0 rfl).trans ((ed 4 rfl).trans (ep [1,0] rfl))) ?_
  rintro _ _ ⟨rfl,rfl⟩
  refine Qu (OpQ.not rfl rfl) (k:=Qf (k:=Nw [(2,vptr b1 0),(3,vint 0),(6,vptr b5 0),(53,.bool (!(Spec.fright (⟨x6,x9,x12,ws,x34⟩:Frame))))] [KS o ws,ReaderR rp4 s35,Cl b5 122 [vint x6,vint x9,vint x12,o,r33],KB r33 x34,Kx (Enc.sl Enc.u8 5) cs ws,Cl b1 122 [vint 0,vint 0,vint 0,N0,N0],KB b bs,Al R] ?_))
  refine W.cond rfl (fun h40=>?_) (fun h40=>?_)
  ·refine Sn (Qu (OpQ.build (qs:=[]) (v:=.agg #[vint 0,vint 0,vint 0,N0,N0]) rfl trivial (fun _=>by kernel_rfl)) (k:=Rn (OpRun.store (i:=5) (vs:=[vint 0,vint 0,vint 0,N0,N0]) (cs':=[vint 0,vint 0,vint 0,N0,N0]) rfl rfl rfl sz122 rfl rfl (O3 (one_cons rfl (one_cons rfl one_nil))) rfl (Lb rfl) rfl) (k:=Qa (k:=Nw [(2,vptr b1 0),(3,vint 10),(6,vptr b5 0)] [Cl b1 122 [vint 0,vint 0,vint 0,N0,N0],KS o ws,ReaderR rp4 s35,Cl b5 122 [vint x6,vint x9,vint x12,o,r33],KB r33 x34,Kx (Enc.sl Enc.u8 5) cs ws,KB b bs,Al R] ?_))))
   have hre:Spec.rframe (some bs)=((⟨x6,x9,x12,ws,x34⟩:Frame),s35):=by simp only [Spec.rframe,h8,h11,h14,h17,h36,Int.toNat_natCast,hend]
   refine W.ret (thn_r (retC2 (M:=[]) (i:=0) rfl rfl rfl rfl rfl ld122 (.inr (⟨10,(by unfold Spec.fdecode; rw [if_neg (by omega),hre]; show (if _ then _ else _)=_; rw [if_neg (by clear hend hI18 hre; simp_all)]),(by omega),rfl,rfl⟩)) (es [7] rfl)))
  refine W.skip (thn_n (Wl [(2,vptr b1 0),(3,vint 0),(6,vptr b5 0)] ?_))
  refine Sn (Qu (OpQ.loadN (i:=2) rfl rfl ld122 rfl rfl rfl) (k:=?_))
  refine Nf 0 fun ho41=>?_
  refine Rn (OpRun.store (i:=5) (vs:=[vint x6,vint x9,vint x12,o,r33]) (cs':=[vint x6,vint x9,vint x12,o,r33]) rfl rfl rfl sz122 rfl rfl (O3 (one_cons ho41 (one_cons ho37 one_nil))) rfl (Lb rfl) rfl) (k:=Qa (k:=Nw [(2,vptr b1 0),(3,vint 0)] [Cl b1 122 [vint x6,vint x9,vint x12,o,r33],KS o ws,ReaderR rp4 s35,Cl b5 122 [vint x6,vint x9,vint x12,o,r33],KB r33 x34,Kx (Enc.sl Enc.u8 5) cs ws,KB b bs,Al R] ?_))
  have hre:Spec.rframe (some bs)=((⟨x6,x9,x12,ws,x34⟩:Frame),s35):=by simp only [Spec.rframe,h8,h11,h14,h17,h36,Int.toNat_natCast,hend]
  refine W.ret (retC2 (M:=[KS o ((⟨x6,x9,x12,ws,x34⟩:Frame).links),KB r33 ((⟨x6,x9,x12,ws,x34⟩:Frame).sum)]) (i:=0) rfl rfl rfl rfl rfl ld122 (.inl ⟨(⟨x6,x9,x12,ws,x34⟩:Frame),o,r33,(by unfold Spec.fdecode; rw [if_neg (by omega),hre]; show (if _ then _ else _)=_; rw [if_pos (by clear hend hI18 hre; simp_all)]),rfl,rfl⟩) (es [1,3,5] rfl))
 refine Qu (OpQ.decF (OpQ.gtr rfl rfl rfl) h19) (k:=Qm (k:=Qs (k:=Qs (k:=Qs (k:=Qf (k:=Nl [(2,vptr b1 0),(3,vint 0),(4,vptr rp4 0),(6,vptr b5 0),(7,vint (n:Int)),(33,.bool false)] ?_))))))
 refine W.condF rfl ?_
 have hend:Spec.rlinks n0 s16=(ws,s):=by rw [hI18.1]; cases s with | none=>rw [Spec.rlinks_none,List.append_nil] | some z=>(have hz:n=0:=(by first | omega | exact absurd h19 (by simp))); (subst hz); (simp only [Spec.rlinks,List.append_nil])
 refine W.exit (thn_x (thn_x (inblk_x (thn_n (Wl [(2,vptr b1 0),(3,vint 0),(4,vptr rp4 0),(6,vptr b5 0)] ?_)))))
 refine Sn (Qm (k:=?_))
 refine Wc [.tmp 43,.const (.int .i64 0),.const (.int .i64 32)] [vptr rp4 0,vint 0,vint 32] Tryz.call145 (Text_fn rp4 s 0 32 (by first | omega | (simp; done) | (simp; omega) | (simp at *; omega)) (by first | omega | (simp; done) | (simp; omega) | (simp at *; omega))) (ep [3] rfl) ?_
 rintro _ _ ⟨r42,x43,s44,h45,rfl,rfl⟩
 refine Qu (Of (fa122_4 _ _)) (k:=?_)
 refine Nf 0 fun ho46=>?_
 refine Rn (OpRun.store (i:=2) (vs:=[r42]) (cs':=[vint x6,vint x9,vint x12,o,r42]) rfl rfl rfl sz22 (cells_one ho46) rfl (one_cons ho46 one_nil) rfl (Lb rfl) rfl) (k:=Nw [(2,vptr b1 0),(3,vint 0),(4,vptr rp4 0),(6,vptr b5 0)] [Cl b5 122 [vint x6,vint x9,vint x12,o,r42],KB r42 x43,ReaderR rp4 s44,Rw 22 1 o cs,Kx (Enc.sl Enc.u8 5) cs ws,Cl b1 122 [vint 0,vint 0,vint 0,N0,N0],KB b bs,Al R] ?_)
 refine W.seq (Sn (Qm (k:=?_)))
 refine Wc [.tmp 46] [vptr rp4 0] Tryz.call146 (End_fn rp4 s44) (ep [2] rfl) ?_
 rintro _ _ ⟨rfl,rfl⟩
 by_cases h47:¬ (s44=some [])
 ·refine Qu (OpQ.decT (OpQ.notP rfl rfl) h47) (k:=Qm (k:=Qs (k:=Qs (k:=Qs (k:=Qt (k:=Nw [(2,vptr b1 0),(3,vint 0),(6,vptr b5 0),(53,.bool true)] [ReaderR rp4 s44,Cl b5 122 [vint x6,vint x9,vint x12,o,r42],KB r42 x43,Rw 22 1 o cs,Kx (Enc.sl Enc.u8 5) cs ws,Cl b1 122 [vint 0,vint 0,vint 0,N0,N0],KB b bs,Al R] ?_))))))
  refine W.condT rfl ?_
  refine Sn (Qu (OpQ.build (qs:=[]) (v:=.agg #[vint 0,vint 0,vint 0,N0,N0]) rfl trivial (fun _=>by kernel_rfl)) (k:=Rn (OpRun.store (i:=5) (vs:=[vint 0,vint 0,vint 0,N0,N0]) (cs':=[vint 0,vint 0,vint 0,N0,N0]) rfl rfl rfl sz122 rfl rfl (O3 (one_cons rfl (one_cons rfl one_nil))) rfl (Lb rfl) rfl) (k:=Qa (k:=Nw [(2,vptr b1 0),(3,vint 10),(6,vptr b5 0)] [Cl b1 122 [vint 0,vint 0,vint 0,N0,N0],ReaderR rp4 s44,Cl b5 122 [vint x6,vint x9,vint x12,o,r42],KB r42 x43,Rw 22 1 o cs,Kx (Enc.sl Enc.u8 5) cs ws,KB b bs,Al R] ?_))))
  refine Wr 4 fun hr48a hr48b hr48c=>?_
  try simp only [La,Lc,Ln] at hr48a
  have hre:Spec.rframe (some bs)=((⟨x6,x9,x12,ws,x43⟩:Frame),s44):=by simp only [Spec.rframe,h8,h11,h14,h17,h45,Int.toNat_natCast,hend]
  refine W.ret (thn_r (retC2 (M:=[]) (i:=0) rfl rfl rfl rfl rfl ld122 (.inr (⟨10,(by unfold Spec.fdecode; rw [if_neg (by omega),hre]; show (if _ then _ else _)=_; rw [if_neg (by clear hend hI18 hre; simp_all)]),(by omega),rfl,rfl⟩)) (es [7] rfl)))
 refine Qu (OpQ.decF (OpQ.notP rfl rfl) h47) (k:=Qm (k:=Qu (OpQ.loadN (i:=1) rfl rfl ld122 rfl rfl rfl) (k:=?_)))
 refine WN.freezeRel (e:=Enc.sl Enc.u8 5) (i:=3) (j:=3) (Lb rfl) rfl rfl ?_
 refine Ne [KS o ws,ReaderR rp4 s44,Cl b5 122 [vint x6,vint x9,vint x12,o,r42],KB r42 x43,Kx (Enc.sl Enc.u8 5) cs ws,Cl b1 122 [vint 0,vint 0,vint 0,N0,N0],KB b bs,Al R] ?_
 refine Wc [.tmp 50] [.agg #[vint x6,vint x9,vint x12,o,r42]] Tryz.call147 (FRight_fn (⟨x6,x9,x12,ws,x43⟩:Frame) o r42) ((ed 0 rfl).trans ((ed 4 rfl).trans (ep [1,0] rfl))) ?_
 rintro _ _ ⟨rfl,rfl⟩
 refine Qu (OpQ.not rfl rfl) (k:=Qf (k:=Nw [(2,vptr b1 0),(3,vint 0),(6,vptr b5 0),(53,.bool (!(Spec.fright (⟨x6,x9,x12,ws,x43⟩:Frame))))] [KS o ws,ReaderR rp4 s44,Cl b5 122 [vint x6,vint x9,vint x12,o,r42],KB r42 x43,Kx (Enc.sl Enc.u8 5) cs ws,Cl b1 122 [vint 0,vint 0,vint 0,N0,N0],KB b bs,Al R] ?_))
 refine W.cond rfl (fun h49=>?_) (fun h49=>?_)
 ·refine Sn (Qu (OpQ.build (qs:=[]) (v:=.agg #[vint 0,vint 0,vint 0,N0,N0]) rfl trivial (fun _=>by kernel_rfl)) (k:=Rn (OpRun.store (i:=5) (vs:=[vint 0,vint 0,vint 0,N0,N0]) (cs':=[vint 0,vint 0,vint 0,N0,N0]) rfl rfl rfl sz122 rfl rfl (O3 (one_cons rfl (one_cons rfl one_nil))) rfl (Lb rfl) rfl) (k:=Qa (k:=Nw [(2,vptr b1 0),(3,vint 10),(6,vptr b5 0)] [Cl b1 122 [vint 0,vint 0,vint 0,N0,N0],KS o ws,ReaderR rp4 s44,Cl b5 122 [vint x6,vint x9,vint x12,o,r42],KB r42 x43,Kx (Enc.sl Enc.u8 5) cs ws,KB b bs,Al R] ?_))))
  have hre:Spec.rframe (some bs)=((⟨x6,x9,x12,ws,x43⟩:Frame),s44):=by simp only [Spec.rframe,h8,h11,h14,h17,h45,Int.toNat_natCast,hend]
  refine W.ret (thn_r (retC2 (M:=[]) (i:=0) rfl rfl rfl rfl rfl ld122 (.inr (⟨10,(by unfold Spec.fdecode; rw [if_neg (by omega),hre]; show (if _ then _ else _)=_; rw [if_neg (by clear hend hI18 hre; simp_all)]),(by omega),rfl,rfl⟩)) (es [7] rfl)))
 refine W.skip (thn_n (Wl [(2,vptr b1 0),(3,vint 0),(6,vptr b5 0)] ?_))
 refine Sn (Qu (OpQ.loadN (i:=2) rfl rfl ld122 rfl rfl rfl) (k:=?_))
 refine Nf 0 fun ho50=>?_
 refine Rn (OpRun.store (i:=5) (vs:=[vint x6,vint x9,vint x12,o,r42]) (cs':=[vint x6,vint x9,vint x12,o,r42]) rfl rfl rfl sz122 rfl rfl (O3 (one_cons ho50 (one_cons ho46 one_nil))) rfl (Lb rfl) rfl) (k:=Qa (k:=Nw [(2,vptr b1 0),(3,vint 0)] [Cl b1 122 [vint x6,vint x9,vint x12,o,r42],KS o ws,ReaderR rp4 s44,Cl b5 122 [vint x6,vint x9,vint x12,o,r42],KB r42 x43,Kx (Enc.sl Enc.u8 5) cs ws,KB b bs,Al R] ?_))
 have hre:Spec.rframe (some bs)=((⟨x6,x9,x12,ws,x43⟩:Frame),s44):=by simp only [Spec.rframe,h8,h11,h14,h17,h45,Int.toNat_natCast,hend]
 refine W.ret (retC2 (M:=[KS o ((⟨x6,x9,x12,ws,x43⟩:Frame).links),KB r42 ((⟨x6,x9,x12,ws,x43⟩:Frame).sum)]) (i:=0) rfl rfl rfl rfl rfl ld122 (.inl ⟨(⟨x6,x9,x12,ws,x43⟩:Frame),o,r42,(by unfold Spec.fdecode; rw [if_neg (by omega),hre]; show (if _ then _ else _)=_; rw [if_pos (by clear hend hI18 hre; simp_all)]),rfl,rfl⟩) (es [1,3,5] rfl))
end Go.Lk
open Go.Proofs
namespace Go.Lk
structure Cli where
  rep:Rep
  pend:List (Entry × Bytes)
  count:Int
  last:Int
  alarm:Bool
  deriving Inhabited
def Cli.fine (c:Cli):Prop:=c.pend.length≤8∧(∀ p ∈ c.pend,Spec.right p.1=true∧1≤p.2.length∧p.2.length≤2090)∧0≤c.count∧c.count≤1099511627776∧0≤c.last∧c.last≤1099511627776
def Enc.waits:Enc (Entry × Bytes):=⟨10,fun K cs e=>∃ nv vv wv rv,cs=[vint e.1.kind,vint e.1.writer,vint e.1.seq,nv,vv,vint e.1.who,vint e.1.rights,vint e.1.epoch,wv,rv]∧Sl.φ Enc.u8 5 nv e.1.name K∧Sl.φ Enc.u8 5 vv e.1.value K∧Sl.φ Enc.wrap 227 wv e.1.wraps K∧Sl.φ Enc.u8 5 rv e.2 K,
  fun hk ⟨a,b,c,d,h1,h2,h3,h4,h5⟩=>⟨a,b,c,d,h1,Sl.mono hk h2,Sl.mono hk h3,Sl.mono hk h4,Sl.mono hk h5⟩⟩
theorem Enc.waits_mk {K:PH} {e:Entry × Bytes} {nv vv wv rv:Value} (h2:(Sl Enc.u8 5 nv e.1.name).φ K) (h3:(Sl Enc.u8 5 vv e.1.value).φ K) (h4:(Sl Enc.wrap 227 wv e.1.wraps).φ K) (h5:(Sl Enc.u8 5 rv e.2).φ K) :
    Enc.waits.rel K [vint e.1.kind,vint e.1.writer,vint e.1.seq,nv,vv,vint e.1.who,vint e.1.rights,vint e.1.epoch,wv,rv] e:=⟨nv,vv,wv,rv,rfl,h2,h3,h4,h5⟩
theorem Opens.waits {cs:List Value} {xs:List (Entry × Bytes)} {i:Nat} (h:i < xs.length) :
    Opens (Asn.kn (CellsRel Enc.waits cs xs)) (fun z:Value × Value × Value × Value=>(cs.drop (i*10)).take 10=[vint (xs.getD i default).1.kind,vint (xs.getD i default).1.writer,vint (xs.getD i default).1.seq,z.1,z.2.1,vint (xs.getD i default).1.who,vint (xs.getD i default).1.rights,vint (xs.getD i default).1.epoch,z.2.2.1,z.2.2.2])
      (fun z=>[KB z.1 (xs.getD i default).1.name,KB z.2.1 (xs.getD i default).1.value,KW z.2.2.1 (xs.getD i default).1.wraps,KB z.2.2.2 (xs.getD i default).2,Asn.kn (CellsRel Enc.waits cs xs)]):=fun K hp p=>by
  obtain ⟨a,b,c,d,h1,h2,h3,h4,h5⟩:=p.2 i _ (getD_some default h)
  exact ⟨(a,b,c,d),h1,PH.emp,hp,Split.emp_left hp,h2,PH.emp,hp,Split.emp_left hp,h3,PH.emp,hp,Split.emp_left hp,h4,PH.emp,hp,Split.emp_left hp,h5,PH.emp,hp,Split.emp_left hp,p,trivial⟩
abbrev ccs (sp:Nat) (c:Cli) (sv:Value) (rp:Nat) (pv:Value):List Value:=[vptr sp 0,vint c.rep.coll,vint c.rep.founder,vint c.rep.who,sv,vptr rp 0,pv,vint c.count,vint c.last,.bool c.alarm]
def ClientR (cl sp:Nat) (c:Cli):Asn:=Asn.rep (fun _:Value × Nat × Value × List Value=>c.fine) fun x =>
  [Asn.cells cl 230 (ccs sp c x.1 x.2.1 x.2.2.1),KB x.1 c.rep.secret,ReplayR x.2.1 sp c.rep,Asn.row 236 10 x.2.2.1 x.2.2.2,Asn.kn (CellsRel Enc.waits x.2.2.2 c.pend)]
theorem Cli.fine_at {c:Cli} (h:c.fine) {k:Nat} (hk:k < c.pend.length):Spec.right (c.pend.getD k default).1=true∧1≤(c.pend.getD k default).2.length∧(c.pend.getD k default).2.length≤2090:=by
  rw [List.getD_eq_getElem?_getD,List.getElem?_eq_getElem hk]
  exact h.2.1 _ (List.getElem_mem hk)
theorem map_fst_succ {l:List (Entry × Bytes)} {k:Nat} (hk:k < l.length):(l.take (k+1)).map Prod.fst=(l.take k).map Prod.fst++[(l.getD k default).1]:=by
  rw [List.take_succ_eq_append_getElem hk,List.map_append,List.getD_eq_getElem?_getD,List.getElem?_eq_getElem hk]; rfl
theorem map_snd_succ {l:List (Entry × Bytes)} {k:Nat} (hk:k < l.length):(l.take (k+1)).map Prod.snd=(l.take k).map Prod.snd++[(l.getD k default).2]:=by
  rw [List.take_succ_eq_append_getElem hk,List.map_append,List.getD_eq_getElem?_getD,List.getElem?_eq_getElem hk]; rfl
theorem filter_succ_T {α:Type} {l:List α} {k:Nat} {d:α} {p:α→Bool} (hk:k < l.length) (h:p (l.getD k d)=true):(l.take (k+1)).filter p=(l.take k).filter p++[l.getD k d]:=by
  have e:l.getD k d=l[k]:=by rw [List.getD_eq_getElem?_getD,List.getElem?_eq_getElem hk]; rfl
  rw [e] at h ⊢
  rw [List.take_succ_eq_append_getElem hk,List.filter_append,List.filter_cons_of_pos h]; rfl
theorem filter_succ_F {α:Type} {l:List α} {k:Nat} {d:α} {p:α→Bool} (hk:k < l.length) (h:p (l.getD k d)=false):(l.take (k+1)).filter p=(l.take k).filter p:=by
  have e:l.getD k d=l[k]:=by rw [List.getD_eq_getElem?_getD,List.getElem?_eq_getElem hk]; rfl
  rw [e] at h
  rw [List.take_succ_eq_append_getElem hk,List.filter_append,List.filter_cons_of_neg (by simpa using h)]; simp
theorem replay_chain64 {g:G} {w:World} {L R:List Asn} {i rp sp:Nat} {r:Rep} (hL:take1 i L=some (ReplayR rp sp r,R)) (s:Sat g w L):r.chain.links.length≤64:=by
  obtain ⟨cp,_,s1⟩:=Sat.opens Opens.rep hL s
  obtain ⟨x,hx,_⟩:=Sat.opens (i:=1) Opens.rep rfl s1
  exact hx.2.1
namespace Spec
def tal (a b:Int):Value:=.complex .f64 (FloatKind.f64.nearest a) (FloatKind.f64.nearest b)
def see (c:Cli):Policy × Dic:=view c.rep (c.pend.map Prod.fst)
def cseq (c:Cli):Int:=max c.last (seenOf c.rep c.rep.who)+1
def cseal (A:List Thing) (c:Cli) (e:Entry) (epoch:Int):Int × Cli × List Thing :=
  match ringKey c.rep.keys epoch with
  | none=>(21,c,A)
  | some k =>
    match sseal A c.rep.secret k ⟨c.rep.coll,epoch,c.rep.who,c.count+1,[]⟩ e with
    | .error x=>(x,c,A)
    | .ok (r,A) =>
      match rencode r with
      | .ok b=>(0,{ c with pend:=c.pend++[(e,b)],count:=c.count+1,last:=e.seq },A)
      | .error _=>(0,{ c with pend:=c.pend++[(e,[])],count:=c.count+1,last:=e.seq },A)
def asIssued (c:Cli) (e:Entry):Entry:=⟨e.kind,c.rep.who,cseq c,e.name,e.value,e.who,e.rights,e.epoch,e.wraps⟩
def issue (A:List Thing) (c:Cli) (e:Entry):Int × Cli × List Thing :=
  if c.alarm=true then (42,c,A) else
  if may (see c).1 (asIssued c e)=10 then (10,c,A) else if e.kind=5 then (13,c,A) else if c.pend.length=8 then (33,c,A) else
  if may (see c).1 (asIssued c e)≠0 then (may (see c).1 (asIssued c e),c,A) else
  cseal A c (asIssued c e) (see c).1.epoch
def clientNew (A:List Thing) (coll founder who:Int) (secret:Bytes):Option Cli × List Thing :=
  match repNew A coll founder who secret with
  | (some r,A)=>(some ⟨r,[],0,0,false⟩,A)
  | (none,A)=>(none,A)
theorem repNew_has {A A':List Thing} {coll founder who:Int} {secret:Bytes} {r:Rep} (h:repNew A coll founder who secret=(some r,A')):r.coll=coll∧r.founder=founder∧r.who=who∧r.secret=secret:=by
  unfold repNew at h
  split at h
  · cases h
  · cases h; exact ⟨rfl,rfl,rfl,rfl⟩
def wraps (secret:Bytes) (epoch:Int) (key:Bytes):List Int→List Thing→List Wrap × List Thing
  | [],A=>([],A)
  | who :: l,A =>
    match wrap A secret who epoch key with
    | (.ok b,A)=>(⟨who,b⟩ :: (wraps secret epoch key l A).1,(wraps secret epoch key l A).2)
    | (.error _,A)=>(⟨who,[]⟩ :: (wraps secret epoch key l A).1,(wraps secret epoch key l A).2)
theorem wraps_at {s:Bytes} {ep:Int} {key:Bytes} {rs:List Int} {k:Nat} {A:List Thing} (hk:k < rs.length) :
    wraps s ep key (rs.drop k) A=match wrap A s (rs.getD k 0) ep key with
    | (.ok b,A)=>(⟨rs.getD k 0,b⟩ :: (wraps s ep key (rs.drop (k+1)) A).1,(wraps s ep key (rs.drop (k+1)) A).2)
    | (.error _,A)=>(⟨rs.getD k 0,[]⟩ :: (wraps s ep key (rs.drop (k+1)) A).1,(wraps s ep key (rs.drop (k+1)) A).2):=by
  rw [drop_getD (d:=0) hk,wraps]
def pushFrame (c:Cli):Frame:=⟨1,c.rep.coll,0,c.pend.map Prod.snd,[]⟩
def push (c:Cli):List Bytes × Int :=
  if c.alarm=true then ([],42) else
  if c.pend.length=0 then ([],0) else
  match fencode (pushFrame c) with
  | .ok b=>([b],0)
  | .error _=>([[]],0)
def linkIn (coll:Int) (b:Bytes):Bool:=match rdecode b with | .ok r=>decide (r.collection=coll) | .error _=>false
def check (c:Cli) (f:Frame):Int :=
  if f.kind≠3 then 13 else if f.coll≠c.rep.coll then 40 else if c.alarm=true then 42 else if f.index≠c.rep.chain.links.length then 41 else
  if f.links.all (linkIn c.rep.coll)=false then 10 else
  if (c.rep.chain.links.length:Int)+f.links.length > 64 then 33 else 0
def commits:List Bytes→List Thing→Rep→List Int × Rep × List Thing
  | [],A,r=>([],r,A)
  | b :: l,A,r=>match commit A r b with
    | (_,x,r,A)=>(x :: (commits l A r).1,(commits l A r).2)
theorem commits_at {l:List Bytes} {k:Nat} {A:List Thing} {r:Rep} (hk:k < l.length) :
    commits (l.drop k) A r=match commit A r (l.getD k []) with
    | (_,x,r,A)=>(x :: (commits (l.drop (k+1)) A r).1,(commits (l.drop (k+1)) A r).2):=by
  rw [drop_getD (d:=[]) hk,commits]
theorem fdecode_right {b:Bytes} {f:Frame} (h:fdecode b = .ok f):fright f=true:=by
  unfold fdecode at h
  split at h
  · cases h
  · generalize rframe (some b)=p at h
    obtain ⟨x,s⟩:=p
    dsimp only at h
    split at h
    · rename_i hh; cases h; exact hh.2
    · cases h
theorem fright_lens {f:Frame} (h:fright f=true):∀ i,i < f.links.length→(f.links.getD i []).length≤1000000:=fun i hi=>by
  have:=(fright_has h).2.2.2.2.2.2.2.1 f.links[i] (List.getElem_mem hi)
  rw [List.getD_eq_getElem?_getD,List.getElem?_eq_getElem hi]
  simp only [Option.getD_some]; omega
def left (r:Rep) (l:List (Entry × Bytes)):List (Entry × Bytes):=l.filter fun w=>decide (w.1.seq > seenOf r r.who)
def ctake (A:List Thing) (c:Cli) (b:Bytes):Int × List Int × Cli × List Thing :=
  match fdecode b with
  | .error e=>(e,[],c,A)
  | .ok f =>
    if check c f≠0 then (check c f,[],c,A) else
    match commits f.links A c.rep with
    | (o,r,A)=>(0,o,{ c with rep:=r,pend:=left r c.pend },A)
def compare (c:Cli) (i:Int) (sum:Bytes):Int × Cli :=
  (chainCheck c.rep.chain i sum,{ c with alarm:=c.alarm || decide (chainCheck c.rep.chain i sum=24) })
theorem sseal_right {A:List Thing} {s k:Bytes} {r:Record} {e:Entry} {x:Record × List Thing} (h:sseal A s k r e = .ok x):right e=true:=by
  unfold sseal at h
  split at h
  · cases h
  · rename_i b hb; exact (encode_length hb).1
theorem seenOf_range {r:Rep} (h:r.fine) (w:Int):0≤seenOf r w∧seenOf r w≤1099511627776:=by
  unfold seenOf
  split
  · omega
  · exact h.2.1 _
theorem sseal_numbers {A A':List Thing} {s k:Bytes} {r r':Record} {e:Entry} (h:sseal A s k r e = .ok (r',A')):numbers r':=by
  unfold sseal at h
  repeat' split at h
  all_goals first
    | (cases h; done)
    | (rename_i h9 _ _ _ _ _ _ _ _ _ _ _ _ _ _ _; cases h; have h8:=Decidable.of_not_not h9; unfold numbers at h8 ⊢; exact h8)
    | (cases h; rename_i hn; unfold numbers at *; simp_all)
theorem rencode_length {r:Record} {b:Bytes} (h:rencode r = .ok b):b.length=26+r.box.length:=by
  unfold rencode at h
  split at h
  · cases h; simp; omega
  · cases h
theorem outcome_same {A A':List Thing} {r r':Rep} {x:Record} {y:Int} (h:outcome A r x=(y,r',A')):r'.coll=r.coll∧r'.founder=r.founder∧r'.who=r.who∧r'.secret=r.secret∧r'.chain=r.chain:=by
  unfold outcome at h
  repeat' split at h
  all_goals first
    | (cases h; exact ⟨rfl,rfl,rfl,rfl,rfl⟩)
    | (dsimp only at h
       repeat' split at h
       all_goals (cases h; exact ⟨rfl,rfl,rfl,rfl,rfl⟩))
theorem commit_same {A A':List Thing} {r r':Rep} {b:Bytes} {y x:Int} (h:commit A r b=(y,x,r',A')):r'.coll=r.coll∧r'.founder=r.founder∧r'.who=r.who∧r'.secret=r.secret:=by
  unfold commit at h
  split at h
  · cases h; exact ⟨rfl,rfl,rfl,rfl⟩
  · split at h
    · cases h; exact ⟨rfl,rfl,rfl,rfl⟩
    · generalize chainAppend A r.chain b=p at h
      obtain ⟨e,c,A1⟩:=p
      dsimp only at h
      split at h
      · cases h; exact ⟨rfl,rfl,rfl,rfl⟩
      · generalize ho:outcome A1 { r with chain:=c } _=o at h
        obtain ⟨a,b1,c1⟩:=o
        cases h
        have:=outcome_same ho
        exact ⟨this.1,this.2.1,this.2.2.1,this.2.2.2.1⟩
end Spec
end Go.Lk
open Go.Proofs
set_option maxRecDepth 8000
namespace Go.Lk
open Asn renaming cells→Cl,row→Rw,kn→Kk,all→Al
theorem sz236:∀ (w:World),(sizeOf 236).run Tryz.prog w = .ok 10 w:=fun _=>by kernel_rfl
theorem fa230_1:∀ (b k:Nat) (w:World),(Instr.fieldAt 230 (vptr b k) 1).run Tryz.prog w = .ok (vptr b (k+1)) w:=fun _ _ _=>by kernel_rfl
theorem fa230_2:∀ (b k:Nat) (w:World),(Instr.fieldAt 230 (vptr b k) 2).run Tryz.prog w = .ok (vptr b (k+5)) w:=fun _ _ _=>by kernel_rfl
theorem fa230_3:∀ (b k:Nat) (w:World),(Instr.fieldAt 230 (vptr b k) 3).run Tryz.prog w = .ok (vptr b (k+6)) w:=fun _ _ _=>by kernel_rfl
theorem fa230_5:∀ (b k:Nat) (w:World),(Instr.fieldAt 230 (vptr b k) 5).run Tryz.prog w = .ok (vptr b (k+8)) w:=fun _ _ _=>by kernel_rfl
theorem fa230_6:∀ (b k:Nat) (w:World),(Instr.fieldAt 230 (vptr b k) 6).run Tryz.prog w = .ok (vptr b (k+9)) w:=fun _ _ _=>by kernel_rfl
theorem fa236_0:∀ (b k:Nat) (w:World),(Instr.fieldAt 236 (vptr b k) 0).run Tryz.prog w = .ok (vptr b (k)) w:=fun _ _ _=>by kernel_rfl
theorem ix228:∀ (a:Addr) (m c:Nat) (p:Int) (w:World),0≤p→p < m→(Instr.indexAt 228 (.slice (some a) m c) (vint p)).run Tryz.prog w = .ok (.pointer (some (a.add (p.toNat*10)))) w:=run_indexAt_slice Tryz.runUnderlying228 sz236
theorem ld228:∀ (a:Addr) (w:World),(loadVar 228 a).run Tryz.prog w=(Go.load a).run Tryz.prog w:=fun _ _=>by kernel_rfl
theorem ld236:∀ (a:Addr) (w:World),(loadVar 236 a).run Tryz.prog w=((loadCells a 10).bind fun c=>.pure (Value.agg c)).run Tryz.prog w:=fun _ _=>by kernel_rfl
theorem ld41:∀ (a:Addr) (w:World),(loadVar 41 a).run Tryz.prog w=(Go.load a).run Tryz.prog w:=fun _ _=>by kernel_rfl
theorem len228 (ty:TypeId):∀ (a:Option Addr) (n c:Nat) (w:World),(Builtin.len_ #[228] ty #[.slice a n c]).run Tryz.prog w = .ok (vint n) w:=fun _ _ _ _=>by kernel_rfl
theorem zv236:∀ (w:World),(zeroValue 236).run Tryz.prog w = .ok (.agg #[.int .i64 0,.int .i64 0,.int .i64 0,.slice none 0 0,.slice none 0 0,.int .i64 0,.int .i64 0,.int .i64 0,.slice none 0 0,.slice none 0 0]) w:=fun _=>by kernel_rfl
theorem Make_fn (a:Int) (b:Int) (h:0≤a∧a≤1099511627776∧0≤b∧b≤1099511627776):Fn Tryz.prog 124 #[vint a,vint b] [] (fun v M=>.tuple #[Spec.tal a b,vint 0]=v∧M=[]):=by
 refine Fi 25 Tryz.func124 fun g R=>?_
 refine Ww [(0,vint a),(1,vint b)] [Al R] ?_
 refine Sn (Qa (k:=Qa (k:=Nl [(0,vint a),(1,vint b),(4,.complex .f64 0 0),(5,vint 0)] ?_)))
 refine W.seq (Sn (Qm (k:=?_)))
 by_cases h1:a < 0
 ·refine Qu (OpQ.decT (OpQ.lss rfl rfl rfl) h1) (k:=Qm (k:=Qs (k:=Qs (k:=Qt (k:=Qm (k:=Qs (k:=Qs (k:=Qt (k:=Qm (k:=Qs (k:=Qs (k:=Qt (k:=Nl [(0,vint a),(1,vint b),(4,.complex .f64 0 0),(5,vint 0),(19,.bool true)] ?_)))))))))))))
  refine W.condT rfl ?_
  refine Sn (Qa (k:=Qa (k:=Nl [(0,vint a),(1,vint b),(4,.complex .f64 0 0),(5,vint 12)] ?_)))
  refine W.ret (thn_r ?_)
  exfalso; omega
 refine Qu (OpQ.decF (OpQ.lss rfl rfl rfl) h1) (k:=Qm (k:=Qm (k:=Qu (OpQ.gtr rfl rfl rfl) (k:=?_))))
 by_cases h2:a > 1099511627776
 ·refine Qu (OpQ.decT (OpQ.pickF rfl rfl rfl) h2) (k:=Qm (k:=Qs (k:=Qs (k:=Qt (k:=Qm (k:=Qs (k:=Qs (k:=Qt (k:=Nl [(0,vint a),(1,vint b),(4,.complex .f64 0 0),(5,vint 0),(19,.bool true)] ?_)))))))))
  refine W.condT rfl ?_
  refine Sn (Qa (k:=Qa (k:=Nl [(0,vint a),(1,vint b),(4,.complex .f64 0 0),(5,vint 12)] ?_)))
  refine W.ret (thn_r ?_)
  exfalso; omega
 refine Qu (OpQ.decF (OpQ.pickF rfl rfl rfl) h2) (k:=Qm (k:=Qm (k:=Qu (OpQ.lss rfl rfl rfl) (k:=?_))))
 by_cases h3:b < 0
 ·refine Qu (OpQ.decT (OpQ.pickF rfl rfl rfl) h3) (k:=Qm (k:=Qs (k:=Qs (k:=Qt (k:=Nl [(0,vint a),(1,vint b),(4,.complex .f64 0 0),(5,vint 0),(19,.bool true)] ?_)))))
  refine W.condT rfl ?_
  refine Sn (Qa (k:=Qa (k:=Nl [(0,vint a),(1,vint b),(4,.complex .f64 0 0),(5,vint 12)] ?_)))
  refine W.ret (thn_r ?_)
  exfalso; omega
 refine Qu (OpQ.decF (OpQ.pickF rfl rfl rfl) h3) (k:=Qm (k:=Qm (k:=Qu (OpQ.gtr rfl rfl rfl) (k:=Qf (k:=Nl [(0,vint a),(1,vint b),(4,.complex .f64 0 0),(5,vint 0),(19,.bool (decide (b > 1099511627776)))] ?_)))))
 refine Cp rfl (fun h4=>?_) (fun h4=>?_)
 ·refine Sn (Qa (k:=Qa (k:=Nl [(0,vint a),(1,vint b),(4,.complex .f64 0 0),(5,vint 12)] ?_)))
  refine W.ret (thn_r ?_)
  exfalso; omega
 refine W.skip (thn_n (Wl [(0,vint a),(1,vint b),(4,.complex .f64 0 0),(5,vint 0)] ?_))
 refine Sn (Qm (k:=Qu (OpQ.convF rfl rfl Tryz.runUnderlying147 (fun w=>⟨_,Tryz.runUnderlying3 w⟩)) (k:=Qm (k:=Qu (OpQ.convF rfl rfl Tryz.runUnderlying147 (fun w=>⟨_,Tryz.runUnderlying3 w⟩)) (k:=Qu (OpQ.complex rfl rfl rfl) (k:=Qa (k:=Qa (k:=Nl [(4,.complex .f64 (FloatKind.f64.nearest a) (FloatKind.f64.nearest b)),(5,vint 0)] ?_))))))))
 refine W.ret (ret2 (M:=[]) rfl rfl rfl (⟨rfl,rfl⟩) (es [0] rfl))
theorem cseq_fn (cl:Nat) (sp:Nat) (c:Cli) (sv:Value) (rp:Nat) (pv:Value) (pcs:List Value) (hf:c.fine):Fn Tryz.prog 119 #[vptr cl 0] [Cl cl 230 (ccs sp c sv rp pv),KB sv c.rep.secret,ReplayR rp sp c.rep,Rw 236 10 pv pcs,Kk (CellsRel Enc.waits pcs c.pend)] (fun v M=>(1≤Spec.cseq c∧Spec.cseq c≤1099511627777)∧vint (Spec.cseq c)=v∧M=[Cl cl 230 (ccs sp c sv rp pv),KB sv c.rep.secret,ReplayR rp sp c.rep,Rw 236 10 pv pcs,Kk (CellsRel Enc.waits pcs c.pend)]):=by
 refine Fi 19 Tryz.func119 fun g R=>?_
 refine Ww [(0,vptr cl 0)] [Cl cl 230 (ccs sp c sv rp pv),KB sv c.rep.secret,ReplayR rp sp c.rep,Rw 236 10 pv pcs,Kx Enc.waits pcs c.pend,Al R] ?_
 refine W.fact (fun _ _ s=>replay_fine (i:=2) rfl s) (fun hrf=>?_)
 have hsr:=Spec.seenOf_range hrf c.rep.who; have hla:=hf.2.2.2.2
 refine Sn (Qa (k:=Nl [(0,vptr cl 0),(2,vint 0)] ?_))
 refine W.seq (W.drawG mixed ?_)
 refine Gq 0 [] rfl (OpQ.move rfl rfl) ?_
 refine Gq 1 [] rfl (OpQ.nilCheck rfl rfl) ?_
 refine Gq 2 [] rfl (Of (fa230_5 _ _)) ?_
 refine WG.hold (Cl cl 230 (ccs sp c sv rp pv),[]) ?_
 refine Gq 3 [0] rfl (Ol 0 ld3) ?_
 refine Gq 4 [0] rfl (OpQ.move rfl rfl) ?_
 refine Gq 5 [0] rfl (OpQ.nilCheck rfl rfl) ?_
 refine Gq 6 [0] rfl (Of (fa230_2 _ _)) ?_
 refine Gq 7 [0] rfl (Ol 0 ld41) ?_
 refine Gq 8 [0] rfl (OpQ.move rfl rfl) ?_
 refine Gq 9 [0] rfl (OpQ.nilCheck rfl rfl) ?_
 refine Gq 10 [0] rfl (Of (fa230_1 _ _)) ?_
 refine Gq 11 [0] rfl (Of (fa24_2 _ _)) ?_
 refine Gq 12 [0] rfl (Ol 0 ld3) ?_
 refine WG.one (i:=13) (by kernel_rfl) (UpG.call rfl rfl rfl (OpCall.mk (xs:=[.tmp 10,.tmp 15]) (vs:=[vptr rp 0,vint c.rep.who]) rfl ⟨rfl,rfl,trivial⟩ Tryz.call104) (repSeen_fn rp sp c.rep c.rep.who) (ep [2] rfl) ?_)
 rintro _ _ ⟨rfl,rfl⟩
 refine ⟨es [1] rfl,?_⟩
 refine Gq 14 [1] rfl (OpQ.maxI rfl rfl rfl) ?_
 refine Gq 15 [1] rfl (OpQ.add rfl rfl rfl ⟨by omega,by omega⟩) ?_
 refine Gq 16 [1] rfl (OpQ.assign rfl rfl) ?_
 refine WG.done (by kernel_rfl) ?_
 refine thn_n (Ww [(2,vint ((max c.last (Spec.seenOf c.rep c.rep.who))+1))] [ReplayR rp sp c.rep,Cl cl 230 (ccs sp c sv rp pv),KB sv c.rep.secret,Rw 236 10 pv pcs,Kx Enc.waits pcs c.pend,Al R] ?_)
 refine Wr 3 fun hr1a hr1b hr1c=>?_
 try simp only [La,Lc,Ln] at hr1a
 refine W.ret (ret1 (M:=[Cl cl 230 (ccs sp c sv rp pv),KB sv c.rep.secret,ReplayR rp sp c.rep,Rw 236 10 pv pcs,Kx Enc.waits pcs c.pend]) rfl rfl (⟨(by unfold Spec.cseq; omega),(by first | rfl | exact bool_dec (by omega) | exact bool_F (by omega) | exact bool_T (by omega) | exact (bool_dec (by omega)).symm | exact (bool_F (by omega)).symm | exact (bool_T (by omega)).symm | simp [*]),rfl⟩) (es [1,1,0,0,0,0] rfl))
theorem Alarm_fn (cl:Nat) (sp:Nat) (c:Cli) (sv:Value) (rp:Nat) (pv:Value) (pcs:List Value):Fn Tryz.prog 44 #[vptr cl 0] [Cl cl 230 (ccs sp c sv rp pv),KB sv c.rep.secret,ReplayR rp sp c.rep,Rw 236 10 pv pcs,Kk (CellsRel Enc.waits pcs c.pend)] (fun v M=>.bool c.alarm=v∧M=[Cl cl 230 (ccs sp c sv rp pv),KB sv c.rep.secret,ReplayR rp sp c.rep,Rw 236 10 pv pcs,Kk (CellsRel Enc.waits pcs c.pend)]):=by
 refine Fi 7 Tryz.func44 fun g R=>?_
 refine Ww [(0,vptr cl 0)] [Cl cl 230 (ccs sp c sv rp pv),KB sv c.rep.secret,ReplayR rp sp c.rep,Rw 236 10 pv pcs,Kx Enc.waits pcs c.pend,Al R] ?_
 refine Sn (Qa (k:=Nl [(0,vptr cl 0),(2,.bool false)] ?_))
 refine Sn (Qm (k:=Qu (OpQ.nilCheck rfl rfl) (k:=Qu (Of (fa230_6 _ _)) (k:=Qu (Ol 0 ld4) (k:=Qa (k:=Nl [(2,.bool c.alarm)] ?_))))))
 refine Wr 3 fun hr1a hr1b hr1c=>?_
 try simp only [La,Lc,Ln] at hr1a
 refine W.ret (ret1 (M:=[Cl cl 230 (ccs sp c sv rp pv),KB sv c.rep.secret,ReplayR rp sp c.rep,Rw 236 10 pv pcs,Kx Enc.waits pcs c.pend]) rfl rfl (⟨rfl,rfl⟩) (es [0,0,0,0,0,0] rfl))
theorem cReplay_fn (cl:Nat) (sp:Nat) (c:Cli) (sv:Value) (rp:Nat) (pv:Value) (pcs:List Value):Fn Tryz.prog 80 #[vptr cl 0] [Cl cl 230 (ccs sp c sv rp pv),KB sv c.rep.secret,ReplayR rp sp c.rep,Rw 236 10 pv pcs,Kk (CellsRel Enc.waits pcs c.pend)] (fun v M=>vptr rp 0=v∧M=[Cl cl 230 (ccs sp c sv rp pv),KB sv c.rep.secret,ReplayR rp sp c.rep,Rw 236 10 pv pcs,Kk (CellsRel Enc.waits pcs c.pend)]):=by
 refine Fi 7 Tryz.func80 fun g R=>?_
 refine Ww [(0,vptr cl 0)] [Cl cl 230 (ccs sp c sv rp pv),KB sv c.rep.secret,ReplayR rp sp c.rep,Rw 236 10 pv pcs,Kx Enc.waits pcs c.pend,Al R] ?_
 refine Sn (Qa (k:=Nl [(0,vptr cl 0),(2,.pointer none)] ?_))
 refine Sn (Qm (k:=Qu (OpQ.nilCheck rfl rfl) (k:=Qu (Of (fa230_2 _ _)) (k:=Qu (Ol 0 ld41) (k:=Qa (k:=Nl [(2,vptr rp 0)] ?_))))))
 refine Wr 3 fun hr1a hr1b hr1c=>?_
 try simp only [La,Lc,Ln] at hr1a
 refine W.ret (ret1 (M:=[Cl cl 230 (ccs sp c sv rp pv),KB sv c.rep.secret,ReplayR rp sp c.rep,Rw 236 10 pv pcs,Kx Enc.waits pcs c.pend]) rfl rfl (⟨rfl,rfl⟩) (es [0,0,0,0,0,0] rfl))
theorem cHead_fn (cl:Nat) (sp:Nat) (c:Cli) (sv:Value) (rp:Nat) (pv:Value) (pcs:List Value):Fn Tryz.prog 41 #[vptr cl 0] [Cl cl 230 (ccs sp c sv rp pv),KB sv c.rep.secret,ReplayR rp sp c.rep,Rw 236 10 pv pcs,Kk (CellsRel Enc.waits pcs c.pend)] (fun v M=>∃ (z:Value),(c.rep.chain.sums.getD c.rep.chain.links.length []).length≤32∧.agg #[vint (c.rep.chain.links.length:Int),z]=v∧M=[KB z (c.rep.chain.sums.getD c.rep.chain.links.length []),Cl cl 230 (ccs sp c sv rp pv),KB sv c.rep.secret,ReplayR rp sp c.rep,Rw 236 10 pv pcs,Kk (CellsRel Enc.waits pcs c.pend)]):=by
 refine Fi 9 Tryz.func41 fun g R=>?_
 refine Ww [(0,vptr cl 0)] [Cl cl 230 (ccs sp c sv rp pv),KB sv c.rep.secret,ReplayR rp sp c.rep,Rw 236 10 pv pcs,Kx Enc.waits pcs c.pend,Al R] ?_
 refine Sn (Ru (OpRun.alloc rfl zv74 rfl) ?_)
 rintro _ _ ⟨b1,rfl,rfl⟩
 refine Nw [(0,vptr cl 0),(2,vptr b1 0)] [Cl b1 74 [vint 0,N0],Cl cl 230 (ccs sp c sv rp pv),KB sv c.rep.secret,ReplayR rp sp c.rep,Rw 236 10 pv pcs,Kx Enc.waits pcs c.pend,Al R] ?_
 refine Sn (Qm (k:=Qu (OpQ.nilCheck rfl rfl) (k:=Qu (Of (fa230_2 _ _)) (k:=Qu (Ol 1 ld41) (k:=?_)))))
 refine Wc [.tmp 6] [vptr rp 0] Tryz.call52 (repChain_fn rp sp c.rep) (ep [3] rfl) ?_
 rintro _ _ ⟨cp2,rfl,rfl⟩
 refine Wc [.tmp 7] [vptr cp2 0] Tryz.call125 (chainHead_fn cp2 sp c.rep.chain) (ep [1] rfl) ?_
 rintro _ _ ⟨z3,h4,rfl,rfl⟩
 refine Nf 0 fun ho5=>?_
 refine Rn (OpRun.store (i:=3) (vs:=[vint (c.rep.chain.links.length:Int),z3]) (cs':=[vint (c.rep.chain.links.length:Int),z3]) rfl rfl rfl sz74 rfl rfl (one_cons rfl (one_cons ho5 one_nil)) rfl (Lb rfl) rfl) (k:=Nw [(2,vptr b1 0)] [Cl b1 74 [vint (c.rep.chain.links.length:Int),z3],KB z3 (c.rep.chain.sums.getD c.rep.chain.links.length []),ChainR cp2 sp c.rep.chain,ReplayO rp sp cp2 c.rep,Cl cl 230 (ccs sp c sv rp pv),KB sv c.rep.secret,Rw 236 10 pv pcs,Kx Enc.waits pcs c.pend,Al R] ?_)
 refine Wr 6 fun hr6a hr6b hr6c=>?_
 try simp only [La,Lc,Ln] at hr6a
 refine W.ent (L':=[ReplayO rp sp cp2 c.rep,ChainR cp2 sp c.rep.chain,Cl b1 74 [vint (c.rep.chain.links.length:Int),z3],KB z3 (c.rep.chain.sums.getD c.rep.chain.links.length []),Cl cl 230 (ccs sp c sv rp pv),KB sv c.rep.secret,Rw 236 10 pv pcs,Kx Enc.waits pcs c.pend,Al R]) (es [3,2,0,0,0,0,0,0,0] rfl) ?_
 refine W.ent (L':=[ReplayR rp sp c.rep,Cl b1 74 [vint (c.rep.chain.links.length:Int),z3],KB z3 (c.rep.chain.sums.getD c.rep.chain.links.length []),Cl cl 230 (ccs sp c sv rp pv),KB sv c.rep.secret,Rw 236 10 pv pcs,Kx Enc.waits pcs c.pend,Al R]) (Ent.rep' cp2 rfl trivial rfl) ?_
 refine W.ret (retC (M:=[KB z3 (c.rep.chain.sums.getD c.rep.chain.links.length []),Cl cl 230 (ccs sp c sv rp pv),KB sv c.rep.secret,ReplayR rp sp c.rep,Rw 236 10 pv pcs,Kx Enc.waits pcs c.pend]) (i:=1) rfl rfl rfl rfl ld74 (⟨z3,(by first | assumption | rfl | omega | (simp; done) | (simp; omega) | (simp [*]; done) | (simp [*]; omega)),rfl,rfl⟩) (es [2,2,2,0,1,1,1] rfl))
theorem Pending_fn (cl:Nat) (sp:Nat) (c:Cli) (sv:Value) (rp:Nat) (pv:Value) (pcs:List Value) (hf:c.fine):Fn Tryz.prog 63 #[vptr cl 0] [Cl cl 230 (ccs sp c sv rp pv),Rw 236 10 pv pcs,Kk (CellsRel Enc.waits pcs c.pend)] (fun v M=>∃ (z:Value),z=v∧M=[KE z (c.pend.map Prod.fst),Cl cl 230 (ccs sp c sv rp pv),Rw 236 10 pv pcs,Kk (CellsRel Enc.waits pcs c.pend)]):=by
 refine Fi 36 Tryz.func63 fun g R=>?_
 refine Ww [(0,vptr cl 0)] [Cl cl 230 (ccs sp c sv rp pv),Rw 236 10 pv pcs,Kx Enc.waits pcs c.pend,Al R] ?_
 refine Sn (Qa (k:=Nl [(0,vptr cl 0),(2,N0)] ?_))
 refine Sn (Qa (k:=Nl [(0,vptr cl 0),(2,N0),(3,N0)] ?_))
 refine W.seq (Sn (Qm (k:=?_)))
 refine Qu (OpQ.nilCheck rfl rfl) (k:=Qu (Of (fa230_3 _ _)) (k:=Qu (Ol 0 ld228) (k:=?_)))
 refine Nr 1 fun hr1a hr1b hr1c=>?_
 try simp only [La,Lc,Ln] at hr1a
 refine WN.fact (fun _ _ s=>cr_len (i:=2) rfl s) (fun hc2=>?_)
 replace hc2:pcs.length=c.pend.length*10:=hc2
 refine Qu (OpQ.lenRow (i:=1) rfl rfl rfl (len228 _)) (k:=Qm (k:=Nl [(2,N0),(3,N0),(13,pv),(14,vint (slen pv:Int)),(15,vint 0)] ?_))
 refine W.block ?_
 have hsl:slen pv=c.pend.length:=by omega
 have hf8:=hf.1
 refine W.ent (Ent.rowNil (E:=33) (sz:=9)) ?_
 refine W.ent (Ent.know (m:=CellsRel Enc.entry [] []) (fun _ _ _=>CellsRel.nil)) ?_
 refine W.ent (L':=[Kx Enc.entry ([]) ([]),Rw 33 9 (N0) ([]),Cl cl 230 (ccs sp c sv rp pv),Rw 236 10 pv pcs,Kx Enc.waits pcs c.pend,Al R]) (es [0,0,0,0,0,0] rfl) ?_
 refine W.loop (X:=Nat × Value × List Value) (fun x=>match x with | (k,o,cs)=>[(2,N0),(3,o),(13,pv),(14,vint (slen pv:Int)),(15,vint (k:Int))]) (fun x=>match x with | (k,o,cs)=>[Asn.pure (k≤c.pend.length∧cs.length=9*k),Rw 33 9 o cs,Kx Enc.entry cs ((c.pend.take k).map Prod.fst),Cl cl 230 (ccs sp c sv rp pv),Rw 236 10 pv pcs,Kx Enc.waits pcs c.pend,Al R]) (fun x=>match x with | (k,o,cs)=>c.pend.length - k) (0,(N0),[]) ⟨rfl,rfl,rfl,rfl,rfl,trivial⟩ (((es [1,0,0,0,0,0] rfl).trans (Ent.of_eq (by rfl))).trans (Ent.pure_in (by exact ⟨Nat.zero_le _,by simp⟩))) (fun x=>?_)
 obtain ⟨k,o,cs⟩:=x
 show W _ _ _ _ _ [(2,N0),(3,o),(13,pv),(14,vint (slen pv:Int)),(15,vint (k:Int))] [Asn.pure (k≤c.pend.length∧cs.length=9*k),Rw 33 9 o cs,Kx Enc.entry cs ((c.pend.take k).map Prod.fst),Cl cl 230 (ccs sp c sv rp pv),Rw 236 10 pv pcs,Kx Enc.waits pcs c.pend,Al R]
 refine W.opens Opens.pure (i:=0) rfl (fun _ hI3=>?_)
 replace hI3:=hI3
 show W _ _ _ _ _ [(2,N0),(3,o),(13,pv),(14,vint (slen pv:Int)),(15,vint (k:Int))] [Rw 33 9 o cs,Kx Enc.entry cs ((c.pend.take k).map Prod.fst),Cl cl 230 (ccs sp c sv rp pv),Rw 236 10 pv pcs,Kx Enc.waits pcs c.pend,Al R]
 refine Sn (Qu (OpQ.lss rfl rfl rfl) (k:=Nl [(2,N0),(3,o),(13,pv),(14,vint (slen pv:Int)),(15,vint (k:Int)),(16,.bool (decide ((k:Int) < (slen pv:Int))))] ?_))
 refine W.seq (Cp rfl (fun h4=>?_) (fun h4=>?_))
 ·refine W.skip (thn_n (Wl [(2,N0),(3,o),(13,pv),(14,vint (slen pv:Int)),(15,vint (k:Int))] ?_))
  refine W.seq (W.block (Sn (WN.opens (Opens.waits (xs:=c.pend) (i:=k) (by omega)) (i:=4) rfl (fun zz he5=>?_))))
  obtain ⟨wa,wb,wc,wd⟩:=zz; dsimp only at he5
  refine Ne [KB wa ((c.pend.getD k default).1.name),KB wb ((c.pend.getD k default).1.value),KW wc ((c.pend.getD k default).1.wraps),KB wd ((c.pend.getD k default).2),Kx Enc.waits pcs c.pend,Rw 33 9 o cs,Kx Enc.entry cs ((c.pend.take k).map Prod.fst),Cl cl 230 (ccs sp c sv rp pv),Rw 236 10 pv pcs,Al R] ?_
  have hk9:=hf.2.1; have hfa:=Cli.fine_at hf (k:=k) (by omega); obtain ⟨b0,hb1,hb2⟩:=Spec.encode_decode hfa.1; have hbl:=Spec.encode_length hb1
  refine Nr 8 fun hr6a hr6b hr6c=>?_
  try simp only [La,Lc,Ln] at hr6a
  refine WN.fact (fun _ _ s=>cr_len (i:=4) rfl s) (fun hc7=>?_)
  replace hc7:pcs.length=c.pend.length*10:=hc7
  refine Qu (OpQ.indexRow (i:=8) (j:=k*10) rfl rfl rfl rfl (by omega) (by omega) (by omega) ix228) (k:=Qu (OpQ.loadRowN (i:=8) (vs:=[vint ((c.pend.getD k default).1.kind),vint ((c.pend.getD k default).1.writer),vint ((c.pend.getD k default).1.seq),wa,wb,vint ((c.pend.getD k default).1.who),vint ((c.pend.getD k default).1.rights),vint ((c.pend.getD k default).1.epoch),wc,wd]) rfl rfl rfl he5 rfl (by decide) ld236) (k:=?_))
  refine Ru (OpRun.alloc rfl zv236 rfl) ?_
  rintro _ _ ⟨b8,rfl,rfl⟩
  refine Nf 4 fun ho9=>?_
  refine Nf 3 fun ho10=>?_
  refine Nf 2 fun ho11=>?_
  refine Nf 1 fun ho12=>?_
  refine Rn (OpRun.store (i:=0) (vs:=[vint ((c.pend.getD k default).1.kind),vint ((c.pend.getD k default).1.writer),vint ((c.pend.getD k default).1.seq),wa,wb,vint ((c.pend.getD k default).1.who),vint ((c.pend.getD k default).1.rights),vint ((c.pend.getD k default).1.epoch),wc,wd]) (cs':=[vint ((c.pend.getD k default).1.kind),vint ((c.pend.getD k default).1.writer),vint ((c.pend.getD k default).1.seq),wa,wb,vint ((c.pend.getD k default).1.who),vint ((c.pend.getD k default).1.rights),vint ((c.pend.getD k default).1.epoch),wc,wd]) rfl rfl rfl sz236 rfl rfl (O3 (one_cons ho12 (one_cons ho11 (O3 (one_cons ho10 (one_cons ho9 one_nil)))))) rfl (Lb rfl) rfl) (k:=Nw [(2,N0),(3,o),(5,vptr b8 0),(13,pv),(14,vint (slen pv:Int)),(15,vint (k:Int))] [Cl b8 236 [vint ((c.pend.getD k default).1.kind),vint ((c.pend.getD k default).1.writer),vint ((c.pend.getD k default).1.seq),wa,wb,vint ((c.pend.getD k default).1.who),vint ((c.pend.getD k default).1.rights),vint ((c.pend.getD k default).1.epoch),wc,wd],KB wa ((c.pend.getD k default).1.name),KB wb ((c.pend.getD k default).1.value),KW wc ((c.pend.getD k default).1.wraps),KB wd ((c.pend.getD k default).2),Kx Enc.waits pcs c.pend,Rw 33 9 o cs,Kx Enc.entry cs ((c.pend.take k).map Prod.fst),Cl cl 230 (ccs sp c sv rp pv),Rw 236 10 pv pcs,Al R] ?_)
  refine Sn (Qu (Of (fa236_0 _ _)) (k:=Qu (OpQ.loadN (i:=0) rfl rfl ld33 rfl rfl rfl) (k:=?_)))
  refine Wc [.tmp 21] [.agg #[vint ((c.pend.getD k default).1.kind),vint ((c.pend.getD k default).1.writer),vint ((c.pend.getD k default).1.seq),wa,wb,vint ((c.pend.getD k default).1.who),vint ((c.pend.getD k default).1.rights),vint ((c.pend.getD k default).1.epoch),wc]] Tryz.call121 (Encode_fn ((c.pend.getD k default).1) wa wb wc) ((ed 1 rfl).trans ((ed 3 rfl).trans ((ed 5 rfl).trans (ep [2,1,0] rfl)))) ?_
  rintro _ _ (⟨r13,bs14,h15,h16,rfl,rfl⟩ | ⟨e17,h18,h19,rfl,rfl⟩)
  ·refine Qm (k:=Qe (k:=Qe (k:=Qa (k:=Qa (k:=Nw [(2,N0),(3,o),(6,r13),(13,pv),(14,vint (slen pv:Int)),(15,vint (k:Int))] [KB r13 bs14,Cl b8 236 [vint ((c.pend.getD k default).1.kind),vint ((c.pend.getD k default).1.writer),vint ((c.pend.getD k default).1.seq),wa,wb,vint ((c.pend.getD k default).1.who),vint ((c.pend.getD k default).1.rights),vint ((c.pend.getD k default).1.epoch),wc,wd],KB wa ((c.pend.getD k default).1.name),KB wb ((c.pend.getD k default).1.value),KW wc ((c.pend.getD k default).1.wraps),KB wd ((c.pend.getD k default).2),Kx Enc.waits pcs c.pend,Rw 33 9 o cs,Kx Enc.entry cs ((c.pend.take k).map Prod.fst),Cl cl 230 (ccs sp c sv rp pv),Rw 236 10 pv pcs,Al R] ?_)))))
   refine W.seq (W.region ?_)
   obtain rfl:bs14=b0:=by rw [hb1] at h15; cases h15; rfl
   refine Qm (k:=?_)
   refine Wc [.tmp 26] [r13] Tryz.call122 (Decode_fn r13 bs14 (by first | omega | (simp; done) | (simp; omega) | (simp at *; omega))) ((ed 0 rfl).trans (ep [0] rfl)) ?_
   rintro _ _ (⟨e20,n21,v22,w23,h24,rfl,rfl⟩ | ⟨h25,rfl,rfl⟩)
   ·refine Qm (k:=Qe (k:=Qe (k:=?_)))
    refine Ru (OpRun.alloc rfl zv33 rfl) ?_
    rintro _ _ ⟨b26,rfl,rfl⟩
    refine Nf 3 fun ho27=>?_
    refine Nf 2 fun ho28=>?_
    refine Nf 1 fun ho29=>?_
    refine Rn (OpRun.store (i:=0) (vs:=[vint e20.kind,vint e20.writer,vint e20.seq,n21,v22,vint e20.who,vint e20.rights,vint e20.epoch,w23]) (cs':=[vint e20.kind,vint e20.writer,vint e20.seq,n21,v22,vint e20.who,vint e20.rights,vint e20.epoch,w23]) rfl rfl rfl sz33 rfl rfl (O3 (one_cons ho29 (one_cons ho28 (O3 (one_cons ho27 one_nil))))) rfl (Lb rfl) rfl) (k:=Qa (k:=Nw [(2,N0),(3,o),(8,vptr b26 0),(13,pv),(14,vint (slen pv:Int)),(15,vint (k:Int))] [Cl b26 33 (ecs e20 n21 v22 w23),KB n21 e20.name,KB v22 e20.value,KW w23 e20.wraps,KB r13 bs14,Cl b8 236 [vint ((c.pend.getD k default).1.kind),vint ((c.pend.getD k default).1.writer),vint ((c.pend.getD k default).1.seq),wa,wb,vint ((c.pend.getD k default).1.who),vint ((c.pend.getD k default).1.rights),vint ((c.pend.getD k default).1.epoch),wc,wd],KB wa ((c.pend.getD k default).1.name),KB wb ((c.pend.getD k default).1.value),KW wc ((c.pend.getD k default).1.wraps),KB wd ((c.pend.getD k default).2),Kx Enc.waits pcs c.pend,Rw 33 9 o cs,Kx Enc.entry cs ((c.pend.take k).map Prod.fst),Cl cl 230 (ccs sp c sv rp pv),Rw 236 10 pv pcs,Al R] ?_))
    refine W.region ?_
    obtain rfl:e20=(c.pend.getD k default).1:=by rw [hb2] at h24; cases h24; rfl
    refine Qm (k:=Qu (OpQ.loadN (i:=0) rfl rfl ld33 rfl rfl rfl) (k:=?_))
    refine WN.fact (fun _ _ s=>sl_isS (i:=1) rfl s) (fun hS32=>?_)
    refine WN.fact (fun _ _ s=>sl_isS (i:=2) rfl s) (fun hS33=>?_)
    refine WN.fact (fun _ _ s=>sl_isS (i:=3) rfl s) (fun hS34=>?_)
    refine Ru (OpRun.buildSlice (qs:=[(0,.agg #[vint ((c.pend.getD k default).1.kind),vint ((c.pend.getD k default).1.writer),vint ((c.pend.getD k default).1.seq),n21,v22,vint ((c.pend.getD k default).1.who),vint ((c.pend.getD k default).1.rights),vint ((c.pend.getD k default).1.epoch),w23])]) (cs:=[vint ((c.pend.getD k default).1.kind),vint ((c.pend.getD k default).1.writer),vint ((c.pend.getD k default).1.seq),n21,v22,vint ((c.pend.getD k default).1.who),vint ((c.pend.getD k default).1.rights),vint ((c.pend.getD k default).1.epoch),w23]) (E:=33) (sz:=9) rfl ⟨rfl,rfl,trivial⟩ (fun _=>by obtain ⟨_,_,_,e1⟩:=hS32; rw [e1]; obtain ⟨_,_,_,e2⟩:=hS33; rw [e2]; obtain ⟨_,_,_,e3⟩:=hS34; rw [e3]; kernel_rfl) (O3 (one_cons ho29 (one_cons ho28 (O3 (one_cons ho27 one_nil))))) rfl (by decide)) ?_
    rintro v30 _ ⟨h31a,h31b,h31c,rfl⟩
    refine WN.ent (Ent.know (m:=CellsRel Enc.entry ([vint ((c.pend.getD k default).1.kind),vint ((c.pend.getD k default).1.writer),vint ((c.pend.getD k default).1.seq),n21,v22,vint ((c.pend.getD k default).1.who),vint ((c.pend.getD k default).1.rights),vint ((c.pend.getD k default).1.epoch),w23]) ([(c.pend.getD k default).1])) (fun K h s=>(CellsRel.cons (cs:=[vint ((c.pend.getD k default).1.kind),vint ((c.pend.getD k default).1.writer),vint ((c.pend.getD k default).1.seq),n21,v22,vint ((c.pend.getD k default).1.who),vint ((c.pend.getD k default).1.rights),vint ((c.pend.getD k default).1.epoch),w23]) (ds:=[]) rfl (Enc.entry_mk (e:=(c.pend.getD k default).1) (kat 2 s rfl) (kat 3 s rfl) (kat 4 s rfl)) CellsRel.nil))) ?_
    refine Ne [Kx Enc.entry ([vint ((c.pend.getD k default).1.kind),vint ((c.pend.getD k default).1.writer),vint ((c.pend.getD k default).1.seq),n21,v22,vint ((c.pend.getD k default).1.who),vint ((c.pend.getD k default).1.rights),vint ((c.pend.getD k default).1.epoch),w23]) ([(c.pend.getD k default).1]),Rw 33 9 v30 ([vint ((c.pend.getD k default).1.kind),vint ((c.pend.getD k default).1.writer),vint ((c.pend.getD k default).1.seq),n21,v22,vint ((c.pend.getD k default).1.who),vint ((c.pend.getD k default).1.rights),vint ((c.pend.getD k default).1.epoch),w23]),Cl b26 33 (ecs (c.pend.getD k default).1 n21 v22 w23),KB n21 ((c.pend.getD k default).1.name),KB v22 ((c.pend.getD k default).1.value),KW w23 ((c.pend.getD k default).1.wraps),KB r13 bs14,Cl b8 236 [vint ((c.pend.getD k default).1.kind),vint ((c.pend.getD k default).1.writer),vint ((c.pend.getD k default).1.seq),wa,wb,vint ((c.pend.getD k default).1.who),vint ((c.pend.getD k default).1.rights),vint ((c.pend.getD k default).1.epoch),wc,wd],KB wa ((c.pend.getD k default).1.name),KB wb ((c.pend.getD k default).1.value),KW wc ((c.pend.getD k default).1.wraps),KB wd ((c.pend.getD k default).2),Kx Enc.waits pcs c.pend,Rw 33 9 o cs,Kx Enc.entry cs ((c.pend.take k).map Prod.fst),Cl cl 230 (ccs sp c sv rp pv),Rw 236 10 pv pcs,Al R] ?_
    refine Nr 13 fun hr37a hr37b hr37c=>?_
    try simp only [La,Lc,Ln] at hr37a
    refine Nr 1 fun hr38a hr38b hr38c=>?_
    try simp only [La,Lc,Ln] at hr38a
    refine Ru (OpRun.appendRow (i:=13) (j:=1) rfl rfl rfl rfl rfl Tryz.underlying60 (inf:=Tryz.t33) (by kernel_rfl) rfl rfl rfl (by_:=120) rfl (by first | omega | (simp; omega)) (by first | omega | (simp; omega))) ?_
    rintro v35 _ ⟨h36a,h36b,rfl⟩
    refine WN.ent (Ent.know (m:=CellsRel Enc.entry (cs++([vint ((c.pend.getD k default).1.kind),vint ((c.pend.getD k default).1.writer),vint ((c.pend.getD k default).1.seq),n21,v22,vint ((c.pend.getD k default).1.who),vint ((c.pend.getD k default).1.rights),vint ((c.pend.getD k default).1.epoch),w23])) (((c.pend.take k).map Prod.fst)++([(c.pend.getD k default).1]))) (fun K h s=>CellsRel.append (e:=Enc.entry) (cs:=cs) (ds:=[vint ((c.pend.getD k default).1.kind),vint ((c.pend.getD k default).1.writer),vint ((c.pend.getD k default).1.seq),n21,v22,vint ((c.pend.getD k default).1.who),vint ((c.pend.getD k default).1.rights),vint ((c.pend.getD k default).1.epoch),w23]) (xs:=(c.pend.take k).map Prod.fst) (ys:=[(c.pend.getD k default).1]) (kat 13 s rfl) (kat 1 s rfl))) ?_
    refine Ne [Kx Enc.entry (cs++([vint ((c.pend.getD k default).1.kind),vint ((c.pend.getD k default).1.writer),vint ((c.pend.getD k default).1.seq),n21,v22,vint ((c.pend.getD k default).1.who),vint ((c.pend.getD k default).1.rights),vint ((c.pend.getD k default).1.epoch),w23])) (((c.pend.take k).map Prod.fst)++([(c.pend.getD k default).1])),Rw 33 9 v35 (cs++([vint ((c.pend.getD k default).1.kind),vint ((c.pend.getD k default).1.writer),vint ((c.pend.getD k default).1.seq),n21,v22,vint ((c.pend.getD k default).1.who),vint ((c.pend.getD k default).1.rights),vint ((c.pend.getD k default).1.epoch),w23])),Kx Enc.entry ([vint ((c.pend.getD k default).1.kind),vint ((c.pend.getD k default).1.writer),vint ((c.pend.getD k default).1.seq),n21,v22,vint ((c.pend.getD k default).1.who),vint ((c.pend.getD k default).1.rights),vint ((c.pend.getD k default).1.epoch),w23]) ([(c.pend.getD k default).1]),Cl b26 33 (ecs (c.pend.getD k default).1 n21 v22 w23),KB n21 ((c.pend.getD k default).1.name),KB v22 ((c.pend.getD k default).1.value),KW w23 ((c.pend.getD k default).1.wraps),KB r13 bs14,Cl b8 236 [vint ((c.pend.getD k default).1.kind),vint ((c.pend.getD k default).1.writer),vint ((c.pend.getD k default).1.seq),wa,wb,vint ((c.pend.getD k default).1.who),vint ((c.pend.getD k default).1.rights),vint ((c.pend.getD k default).1.epoch),wc,wd],KB wa ((c.pend.getD k default).1.name),KB wb ((c.pend.getD k default).1.value),KW wc ((c.pend.getD k default).1.wraps),KB wd ((c.pend.getD k default).2),Kx Enc.waits pcs c.pend,Kx Enc.entry cs ((c.pend.take k).map Prod.fst),Cl cl 230 (ccs sp c sv rp pv),Rw 236 10 pv pcs,Al R] ?_
    refine Qa (k:=?_)
    refine WN.nil (inblk_n (thn_n (Wl [(2,N0),(3,v35),(13,pv),(14,vint (slen pv:Int)),(15,vint (k:Int))] ?_)))
    refine W.region (Qu (OpQ.add rfl rfl rfl ⟨by omega,by omega⟩) (k:=?_))
    refine Qm (k:=?_)
    refine WN.nil (thn_n ⟨(k+1,v35,cs++([vint ((c.pend.getD k default).1.kind),vint ((c.pend.getD k default).1.writer),vint ((c.pend.getD k default).1.seq),n21,v22,vint ((c.pend.getD k default).1.who),vint ((c.pend.getD k default).1.rights),vint ((c.pend.getD k default).1.epoch),w23])),by (show c.pend.length - (k+1) < c.pend.length - k); omega,⟨rfl,rfl,rfl,rfl,(Eq.trans (b:=some (vint ((k:Int)+1))) rfl (by first | rfl | (congr 2; omega))),trivial⟩,?_⟩)
    exact ((es [1,0,13,13,11,12] rfl).trans (Ent.of_eq (by rw [map_fst_succ (by omega)]))).trans (Ent.pure_in (by exact ⟨by omega,by have:=hI3.2; simp; omega⟩))
   exfalso; rw [hb2] at h25; cases h25
  exfalso; rw [hb1] at h18; cases h18
 obtain rfl:k=c.pend.length:=by omega
 refine W.exit (thn_x (thn_x (inblk_x (thn_n (Ww [(2,N0),(3,o)] [Rw 33 9 o cs,Kx Enc.entry cs ((c.pend.take c.pend.length).map Prod.fst),Cl cl 230 (ccs sp c sv rp pv),Rw 236 10 pv pcs,Kx Enc.waits pcs c.pend,Al R] ?_)))))
 refine Sn (Qm (k:=Qa (k:=Nl [(2,o)] ?_)))
 refine Wr 0 fun hr39a hr39b hr39c=>?_
 try simp only [La,Lc,Ln] at hr39a
 refine Wr 3 fun hr40a hr40b hr40c=>?_
 try simp only [La,Lc,Ln] at hr40a
 refine W.freezeRel (e:=Enc.entry) (i:=0) (j:=0) (Lb rfl) rfl rfl ?_
 refine We [KE o ((c.pend.take c.pend.length).map Prod.fst),Kx Enc.entry cs ((c.pend.take c.pend.length).map Prod.fst),Cl cl 230 (ccs sp c sv rp pv),Rw 236 10 pv pcs,Kx Enc.waits pcs c.pend,Al R] ?_
 refine W.ret (ret1 (M:=[KE o (c.pend.map Prod.fst),Cl cl 230 (ccs sp c sv rp pv),Rw 236 10 pv pcs,Kx Enc.waits pcs c.pend]) rfl rfl (⟨o,rfl,rfl⟩) ((es [0,1,1,1,1] rfl).trans (Ent.of_eq (by rw [List.take_length]; rfl))))
theorem See_fn (cl:Nat) (sp:Nat) (c:Cli) (sv:Value) (rp:Nat) (pv:Value) (pcs:List Value) (hf:c.fine):Fn Tryz.prog 64 #[vptr cl 0] [Cl cl 230 (ccs sp c sv rp pv),KB sv c.rep.secret,ReplayR rp sp c.rep,Rw 236 10 pv pcs,Kk (CellsRel Enc.waits pcs c.pend)] (fun v M=>∃ (p2:Policy) (mz:Value) (dq:Nat) (d2:Dic),Spec.see c=(p2,d2)∧(p2.members.length≤17∧0≤p2.epoch∧p2.epoch≤16)∧.tuple #[.agg #[vint p2.founder,vint p2.epoch,mz],vptr dq 0]=v∧M=[KM mz p2.members,DocsR dq d2,Cl cl 230 (ccs sp c sv rp pv),KB sv c.rep.secret,ReplayR rp sp c.rep,Rw 236 10 pv pcs,Kk (CellsRel Enc.waits pcs c.pend)]):=by
 refine Fi 13 Tryz.func64 fun g R=>?_
 refine Ww [(0,vptr cl 0)] [Cl cl 230 (ccs sp c sv rp pv),KB sv c.rep.secret,ReplayR rp sp c.rep,Rw 236 10 pv pcs,Kx Enc.waits pcs c.pend,Al R] ?_
 refine Sn (Ru (OpRun.alloc rfl zv53 rfl) ?_)
 rintro _ _ ⟨b1,rfl,rfl⟩
 refine Qa (k:=Nw [(0,vptr cl 0),(2,vptr b1 0),(3,.pointer none)] [Cl b1 53 [vint 0,vint 0,N0],Cl cl 230 (ccs sp c sv rp pv),KB sv c.rep.secret,ReplayR rp sp c.rep,Rw 236 10 pv pcs,Kx Enc.waits pcs c.pend,Al R] ?_)
 refine W.seq (W.drawG mixed ?_)
 refine Gq 0 [] rfl (OpQ.move rfl rfl) ?_
 refine Gq 1 [] rfl (OpQ.nilCheck rfl rfl) ?_
 refine Gq 2 [] rfl (Of (fa230_2 _ _)) ?_
 refine WG.hold (Cl cl 230 (ccs sp c sv rp pv),[]) ?_
 refine Gq 3 [1] rfl (Ol 0 ld41) ?_
 refine Gq 4 [1] rfl (OpQ.move rfl rfl) ?_
 refine WG.one (i:=5) (by kernel_rfl) (UpG.call rfl rfl rfl (OpCall.mk (xs:=[.tmp 8]) (vs:=[vptr cl 0]) rfl ⟨rfl,trivial⟩ Tryz.call63) (Pending_fn cl sp c sv rp pv pcs (by assumption)) ((ed 5 rfl).trans (ep [2,4,0] rfl)) ?_)
 rintro _ _ ⟨z2,rfl,rfl⟩
 refine ⟨es [1] rfl,?_⟩
 refine WG.one (i:=6) (by kernel_rfl) (UpG.call rfl rfl rfl (OpCall.mk (xs:=[.tmp 7,.tmp 9]) (vs:=[vptr rp 0,z2]) rfl ⟨rfl,rfl,trivial⟩ Tryz.call58) (view_fn rp sp c.rep z2 (c.pend.map Prod.fst)) ((ed 0 rfl).trans (ep [7,0] rfl)) ?_)
 rintro _ _ ⟨p3,mz4,dq5,d6,h7,h8,rfl,rfl⟩
 refine ⟨es [4] rfl,?_⟩
 refine Gq 7 [4] rfl (OpQ.extract rfl rfl rfl) ?_
 refine Gq 8 [4] rfl (OpQ.extract rfl rfl rfl) ?_
 refine WG.fact (fun _ _ s=>(sl_facts (i:=0) rfl s).2.2) (fun ho9=>?_)
 refine WG.one (i:=9) (by kernel_rfl) (UpG.run rfl rfl rfl (OpRun.store (i:=7) (vs:=[vint p3.founder,vint p3.epoch,mz4]) (cs':=[vint p3.founder,vint p3.epoch,mz4]) rfl rfl rfl sz53 rfl rfl (one_cons rfl (one_cons rfl (one_cons ho9 one_nil))) rfl (Lb rfl) rfl) ?_)
 rintro _ _ ⟨rfl,rfl⟩
 refine ⟨es [5] rfl,?_⟩
 refine Gq 10 [5] rfl (OpQ.assign rfl rfl) ?_
 refine WG.done (by kernel_rfl) ?_
 refine thn_n (Ww [(2,vptr b1 0),(3,vptr dq5 0)] [Cl b1 53 [vint p3.founder,vint p3.epoch,mz4],KM mz4 p3.members,DocsR dq5 d6,ReplayR rp sp c.rep,KE z2 (c.pend.map Prod.fst),Cl cl 230 (ccs sp c sv rp pv),Rw 236 10 pv pcs,Kx Enc.waits pcs c.pend,KB sv c.rep.secret,Kx Enc.waits pcs c.pend,Al R] ?_)
 refine Wr 6 fun hr10a hr10b hr10c=>?_
 try simp only [La,Lc,Ln] at hr10a
 refine W.ret (retC2 (M:=[KM mz4 p3.members,DocsR dq5 d6,Cl cl 230 (ccs sp c sv rp pv),KB sv c.rep.secret,ReplayR rp sp c.rep,Rw 236 10 pv pcs,Kx Enc.waits pcs c.pend]) (i:=0) rfl rfl rfl rfl rfl ld53 (⟨p3,mz4,dq5,d6,(by first | assumption | rfl | omega | (simp; done) | (simp; omega) | (simp [*]; done) | (simp [*]; omega)),(by first | assumption | rfl | omega | (simp; done) | (simp; omega) | (simp [*]; done) | (simp [*]; omega)),rfl,rfl⟩) (es [1,1,3,5,1,2,2,3] rfl))
end Go.Lk
