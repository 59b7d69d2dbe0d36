/- The law KeyCovers answers true at every list of numbers, on every schedule. No condition. -/
import Derived.Test.YtoaaoiipickclaaGreatKeyCovers4
import Derived.Conc.LeavingOf
import Derived.Conc.Holds
import Derived.ProofKit
import Derived.Test.YtoaaoiipickclaaGreatChecked
import Derived.Test.YtoaaoiipickclaaGreatRows
set_option linter.all false
set_option maxRecDepth 4000
set_option maxHeartbeats 1000000
namespace Go.Gg
open Go.Conc Go.Proofs Go.ChangeShapes Go.WideShapes Go.ChangeAt Go.RowKit
def zqE (W : World) : View:=⟨fun b o => W.cell? ⟨b,o,none⟩,fun _ => none,0,.plain⟩
def env0 (W : World) : Env:=⟨(zqE W).imm,1,fun _ => 0,fun _ _ => (none,0),fun _ => 0,fun _ => none,true⟩
theorem sat0 (W : World) : Sat (zqE W) W:=⟨fun _ _ _ h => h,fun _ _ h => by cases h⟩
theorem conc0 (W : World) : Conc (env0 W) (zqE W) [.main] where
 I:=rfl
 n:=rfl
 obj:=fun k x h => by
  match k,h with
  | 0,h => cases h; exact rfl
  | k + 1,h => cases h
 inj:=fun i j x y b hi hj h1 h2 => by
  match i,hi with
  | 0,hi => cases hi; cases h1
  | i + 1,hi => cases hi
 group:=fun g h => by cases h
 chan:=fun c h => by cases h
 top:=fun _ => ⟨rfl,rfl⟩
 fr:=fun b y h => by cases h
theorem zjf {f : FuncId} {W : World} {args : Array Value} {avs : List AV} {Q : Value -> Prop} (hi : Tryz.prog.inits.idxOf? f = none) (hd : Denl (env0 W) avs args) (h : FnC true Tryz.prog f [.main] avs (fun a _ => ∀ E v,Den E a v -> Q v) (fun _ _ => False)) :
  ∃ M last o w' t',runNT Tryz.prog (M + 1) (solo (G (Frame.enter Tryz.prog f args .normal) []) W) #[] = (.ended o w',t') /\ runN Tryz.prog M (solo (G (Frame.enter Tryz.prog f args .normal) []) W) = .next last /\ step Tryz.prog last = .ended o w' /\ Conc.Good Tryz.prog (fun v w => Q v /\ Left W.heap.size W w) last o w' t' :=
 zgE hi (V:=zqE W) rfl rfl rfl (sat0 W) (h (env0 W) (zqE W) args (conc0 W) hd) fun o V' r => by
  cases o with
  | ret v =>
   obtain ⟨av,E',H',_,hro,_,hden,_,hk⟩:=r;exact ⟨hro,v,rfl,fun w _ hl => ⟨hk _ _ hden,hl⟩⟩
  | panic ch =>
   obtain ⟨pv,v,E',H',_,_,_,_,_,_,hf⟩:=r;exact hf.elim
theorem Left.below {W w : World} (h : Left W.heap.size W w) : Below W.heap.size W w:=⟨h.os,h.tape,h.out,h.size,h.old⟩
theorem Tz.own : ownKnob Tryz.prog.godebug = none:=by kernel_rfl
theorem Tz.laidOut : laidOutB Tryz.prog = true:=by kernel_rfl
theorem Tz.u30 : Tryz.prog.underlying 30 = some (.slice 3):=by kernel_rfl
theorem Tz.u3 : Tryz.prog.underlying 3 = some (.int .i64):=by kernel_rfl
theorem Tz.u4 : Tryz.prog.underlying 4 = some .bool:=by kernel_rfl
theorem Tz.c3 : Tryz.prog.cellsOf 3 = 1:=by kernel_rfl
theorem Tz.b3 : Tryz.prog.bytesOf 3 = 8:=by kernel_rfl
structure Rd (W : World) (e : TypeId) {α : Type} (f : α -> List AV) (n : Nat) : Prop where
 cells : Tryz.prog.cellsOf e = n
 len : ∀ a,(f a).length = n
 rd : ∀ {H : Type} {enc : TypeId × Value -> H} {fuel : Nat} {cs : List Value} {x : DataW H × List MemPlace},DataW.trod enc Tryz.prog W 0 (fun _ => true) true fuel e cs = some x -> ∃ a,Denl (env0 W) (f a) cs.toArray
section
variable {W : World}
theorem zoF {E : Env} {a : AV} {v : Value} (h : Den E a v) : Denl E [a] [v].toArray:=⟨rfl,fun i x e => by
 match i,e with
 | 0,e => cases e; exact h⟩
theorem zoi {E : Env} {l m : List AV} {xs ys : List Value} (h : Denl E l xs.toArray) (k : Denl E m ys.toArray) : Denl E (l ++ m) (xs ++ ys).toArray:=by
 have:=zcN h k;simpa using this
theorem rd_int {e : TypeId} {k : IntKind} (hu : Tryz.prog.underlying e = some (.int k)) (hc : Tryz.prog.cellsOf e = 1) : Rd W e (fun z : Int => [AV.val (.int k z)]) 1 where
 cells:=hc
 len:=fun _ => rfl
 rd:=fun h => by
  obtain ⟨n,rfl,_,_⟩:=DataW.trod_int hu h;exact ⟨n,zoF (.val _)⟩
theorem zt2 {e : TypeId} (hu : Tryz.prog.underlying e = some .bool) (hc : Tryz.prog.cellsOf e = 1) : Rd W e (fun z : Bool => [bv z]) 1 where
 cells:=hc
 len:=fun _ => rfl
 rd:=fun h => by
  obtain ⟨n,rfl,_⟩:=DataW.trod_bool hu h;exact ⟨n,zoF (.val _)⟩
theorem zqN {α : Type} {Q : Nat -> α -> Prop} : ∀ n,(∀ i,i < n -> ∃ a,Q i a) -> ∃ l : List α,l.length = n /\ ∀ (i : Nat) a,l[i]? = some a -> Q i a
 | 0,_ => ⟨[],rfl,fun i a e => by simp at e⟩
 | n + 1,h => by
  obtain ⟨l,hl,hq⟩:=zqN n fun i hi => h i (by omega);obtain ⟨a,ha⟩:=h n (by omega);refine ⟨l ++ [a],by simp [hl],fun i b e => ?_⟩;by_cases hi : i < n
  ·rw [List.getElem?_append_left (by omega)] at e; exact hq i b e
  ·have hi2 : i = n:=(by have:=get_lt e; simp at this; omega);subst hi2;rw [List.getElem?_append_right (by omega),hl,Nat.sub_self] at e;cases e; exact ha
theorem zqo {α : Type} {f : α -> List AV} {n : Nat} (hf : ∀ a,(f a).length = n) : ∀ (l : List α) (q r : Nat),r < n -> (l.flatMap f)[q * n + r]? = (l[q]?).bind fun a => (f a)[r]?
 | [],q,r,_ => by simp
 | a :: l,0,r,h => by
  rw [List.flatMap_cons,Nat.zero_mul,Nat.zero_add,List.getElem?_append_left (by rw [hf]; exact h)]; rfl
 | a :: l,q + 1,r,h => by
  rw [List.flatMap_cons,List.getElem?_append_right (by rw [hf,Nat.succ_mul]; omega),hf,List.getElem?_cons_succ,<- zqo hf l q r h];congr 1;rw [Nat.succ_mul]; omega
theorem zqn {α : Type} {f : α -> List AV} {n : Nat} (hf : ∀ a,(f a).length = n) : ∀ l : List α,(l.flatMap f).length = l.length * n
 | [] => by simp
 | a :: l => by rw [List.flatMap_cons,List.length_append,hf,zqn hf l,List.length_cons,Nat.succ_mul]; omega
theorem zqX {a : Addr} {v : Value} (h : W.cell? a = some v) : a.spot = none:=by
 unfold World.cell? at h;split at h
 ·split at h
  ·cases h
  ·rename_i hs; simpa using hs
 ·cases h
theorem add_zero (a : Addr) : a.add 0 = a:=by unfold Addr.add; simp
theorem zoB {α : Type} {t e : TypeId} {f : α -> List AV} {n : Nat} (hu : Tryz.prog.underlying t = some (.slice e)) (hc : Tryz.prog.cellsOf t = 1) (hR : Rd W e f n) (hn : 0 < n) : Rd W t (fun l : List α => [AV.sl l.length (l.flatMap f) .shut]) 1 where
 cells:=hc
 len:=fun _ => rfl
 rd:=fun {H enc fuel cs x} h => by
  rcases DataW.trod_slice hu h with ⟨rfl,_⟩ | ⟨a,len,cap,elems,rest,m,_,rfl,_,_,hl,_,hlen,hel,hsp,_⟩
  ·exact ⟨[],zoF (.nil trivial)⟩
  ·have hrest:=(hsp rfl).2;have hrl:=(hsp rfl).1;have each : ∀ i,i < len -> ∃ y cs',W.cells? 0 (a.add (i * n)) n = some cs' /\ Denl (env0 W) (f y) cs'.toArray:=fun i hi => by
    have h1:=hel i hi;rw [hR.cells] at h1;obtain ⟨z,hz⟩:=zaE (xs:=elems) (i:=i) (by omega);rw [hz] at h1;obtain ⟨cs',hcs,hy⟩:=Option.bind_eq_some_iff.1 h1;obtain ⟨y,hd⟩:=hR.rd hy;exact ⟨y,cs',hcs,hd⟩
   by_cases hcap : cap = 0
   ·subst hcap;have : len = 0:=(by omega);subst this;exact ⟨[],zoF (.nil trivial)⟩
   ·have hspot : a.spot = none:=by
     have one : ∀ cs',W.cells? 0 a n = some cs' -> a.spot = none:=fun cs' hcs => by
      obtain ⟨_,hcl,hcell⟩:=World.cells?_some hcs;obtain ⟨v,hv⟩:=zaE (xs:=cs') (i:=0) (by omega);have:=hcell 0 hn;rw [hv,add_zero] at this;exact zqX this
     by_cases hz : len = 0
     ·have h1:=hrest 0 (by omega);rw [hR.cells,hz,Nat.zero_add,Nat.zero_mul,add_zero] at h1;obtain ⟨z,hz⟩:=zaE (xs:=rest) (i:=0) (by omega);rw [hz] at h1;obtain ⟨cs',hcs,_⟩:=Option.bind_eq_some_iff.1 h1;exact one cs' hcs
     ·obtain ⟨y,cs',hcs,_⟩:=each 0 (by omega);rw [Nat.zero_mul,add_zero] at hcs;exact one cs' hcs
    obtain ⟨b,o,sp⟩:=a;simp only at hspot;subst hspot;obtain ⟨l,hll,hq⟩:=zqN (Q:=fun i y => ∃ cs',W.cells? 0 ((⟨b,o,none⟩ : Addr).add (i * n)) n = some cs' /\ Denl (env0 W) (f y) cs'.toArray) len each;have at2 : ∀ (q r : Nat),q < len -> r < n -> ∃ (y : α) (cs' : List Value),l[q]? = some y /\ cs'.length = n /\ Denl (env0 W) (f y) cs'.toArray /\ W.cell? ⟨b,o + (q * n + r),none⟩ = cs'[r]?:=fun q r hq1 hr => by
     obtain ⟨y,hy⟩:=zaE (xs:=l) (i:=q) (by omega);obtain ⟨cs',hcs,hd⟩:=hq q y hy;obtain ⟨_,hcl,hcell⟩:=World.cells?_some hcs;refine ⟨y,cs',hy,hcl,hd,?_⟩;have:=hcell r hr;rw [zbr,zbr,Nat.add_assoc] at this;exact this
    refine ⟨l,zoF ?_⟩;have hfl:=zqn hR.len l;have hdiv : ∀ i,i < len * n -> i / n < len /\ i % n < n /\ i / n * n + i % n = i:=fun i hi => ⟨by rw [Nat.div_lt_iff_lt_mul hn]; exact hi,Nat.mod_lt _ hn,by rw [Nat.mul_comm]; exact Nat.div_add_mod i n⟩;rw [hll] at hfl ⊢;refine .sl b o cap (fun i => (W.cell? ⟨b,o + i,none⟩).getD undef) hl trivial (fun i hi => ?_) fun i x hx => ?_
    ·rw [hfl] at hi;obtain ⟨h1,h2,h3⟩:=hdiv i hi;obtain ⟨y,cs',_,hcl,_,hcell⟩:=at2 _ _ h1 h2;rw [h3] at hcell;obtain ⟨v,hv⟩:=zaE (xs:=cs') (i:=i % n) (by omega);rw [hv] at hcell;show W.cell? ⟨b,o + i,none⟩ = _;rw [hcell]; rfl
    ·have hi:=get_lt hx;rw [hfl] at hi;obtain ⟨h1,h2,h3⟩:=hdiv i hi;obtain ⟨y,cs',hy,hcl,hd,hcell⟩:=at2 _ _ h1 h2;rw [<- h3,zqo hR.len l _ _ h2,hy] at hx;have hx : (f y)[i % n]? = some x:=hx;rw [h3] at hcell;obtain ⟨v,hv⟩:=zaE (xs:=cs') (i:=i % n) (by omega);rw [hv] at hcell;rw [hcell];have:=hd.2 _ x hx;rw [Array.getD_eq_getD_getElem?] at this;simpa [hv] using this
def fieldAt (P : Program) (t i : Nat) : Option (TypeId × Nat):=match P.underlying t with
 | some (.struct fs) => (fs[i]?).map fun f => (f.type,f.offset)
 | _ => none
theorem zmY {H : Type} {enc : TypeId × Value -> H} {t i ft off fuel : Nat} {cs : List Value} {x : DataW H × List MemPlace} (hf : fieldAt Tryz.prog t i = some (ft,off)) (h : DataW.trod enc Tryz.prog W 0 (fun _ => true) true fuel t cs = some x) : cs.length = Tryz.prog.cellsOf t /\ ∃ m y,DataW.trod enc Tryz.prog W 0 (fun _ => true) true m ft ((cs.drop off).take (Tryz.prog.cellsOf ft)) = some y:=by
 unfold fieldAt at hf;split at hf
 ·rename_i fs hu;obtain ⟨xs,n,_,_,hl,hxl,hfs⟩:=DataW.trod_struct hu h;obtain ⟨fd,hfd,e⟩:=Option.map_eq_some_iff.1 hf;cases e;refine ⟨hl,n,?_⟩;have:=hfs i fd hfd;obtain ⟨y,hy⟩:=zaE (xs:=xs) (i:=i) (by rw [hxl]; exact (Array.getElem?_eq_some_iff.1 hfd).1);exact ⟨y,by rw [this,hy]⟩
 ·cases hf
theorem zto {α β γ : Type} {t ta tb na nb : Nat} {f : α -> List AV} {g : β -> List AV} {h : γ -> List AV} (fa : fieldAt Tryz.prog t 0 = some (ta,0)) (fb : fieldAt Tryz.prog t 1 = some (tb,na)) (hc : Tryz.prog.cellsOf t = na + nb) (ha : Rd W ta f na) (hb : Rd W tb g nb) (mk : α -> β -> γ) (hmk : ∀ a b,h (mk a b) = f a ++ g b) (hl : ∀ c,(h c).length = na + nb) : Rd W t h (na + nb) where
 cells:=hc
 len:=hl
 rd:=fun {H enc fuel cs x} hd => by
  obtain ⟨hcl,m,y,hy⟩:=zmY fa hd;obtain ⟨_,m2,y2,hy2⟩:=zmY fb hd;rw [ha.cells,List.drop_zero] at hy;rw [hb.cells] at hy2;obtain ⟨a,hda⟩:=ha.rd hy;obtain ⟨b,hdb⟩:=hb.rd hy2;refine ⟨mk a b,?_⟩;rw [hmk];have e : cs = cs.take na ++ (cs.drop na).take nb:=by
   rw [List.take_of_length_le (l:=cs.drop na) (by rw [List.length_drop,hcl,hc]; omega),List.take_append_drop]
  rw [e];exact zoi hda hdb
theorem zrG {α β γ δ : Type} {t ta tb tc na nb nc : Nat} {f : α -> List AV} {g : β -> List AV} {g3 : γ -> List AV} {h : δ -> List AV} (fa : fieldAt Tryz.prog t 0 = some (ta,0)) (fb : fieldAt Tryz.prog t 1 = some (tb,na)) (fc : fieldAt Tryz.prog t 2 = some (tc,na + nb)) (hc : Tryz.prog.cellsOf t = na + nb + nc) (ha : Rd W ta f na) (hb : Rd W tb g nb) (hc3 : Rd W tc g3 nc) (mk : α -> β -> γ -> δ) (hmk : ∀ a b c,h (mk a b c) = f a ++ g b ++ g3 c) (hl : ∀ c,(h c).length = na + nb + nc) : Rd W t h (na + nb + nc) where
 cells:=hc
 len:=hl
 rd:=fun {H enc fuel cs x} hd => by
  obtain ⟨hcl,m,y,hy⟩:=zmY fa hd;obtain ⟨_,m2,y2,hy2⟩:=zmY fb hd;obtain ⟨_,m3,y3,hy3⟩:=zmY fc hd;rw [ha.cells,List.drop_zero] at hy;rw [hb.cells] at hy2;rw [hc3.cells] at hy3;obtain ⟨a,hda⟩:=ha.rd hy;obtain ⟨b,hdb⟩:=hb.rd hy2;obtain ⟨c,hdc⟩:=hc3.rd hy3;refine ⟨mk a b c,?_⟩;rw [hmk];have e : cs = cs.take na ++ (cs.drop na).take nb ++ (cs.drop (na + nb)).take nc:=by
   rw [List.take_of_length_le (l:=cs.drop (na + nb)) (by rw [List.length_drop,hcl,hc]; omega),List.append_assoc,<- List.drop_drop,List.take_append_drop,List.take_append_drop]
  rw [e];exact zoi (zoi hda hdb) hdc
theorem zt1 {α β γ γ' δ : Type} {t ta tb tc td na nb nc nd : Nat} {f : α -> List AV} {g : β -> List AV} {g3 : γ -> List AV} {g4 : γ' -> List AV} {h : δ -> List AV} (fa : fieldAt Tryz.prog t 0 = some (ta,0)) (fb : fieldAt Tryz.prog t 1 = some (tb,na)) (fc : fieldAt Tryz.prog t 2 = some (tc,na + nb)) (fd : fieldAt Tryz.prog t 3 = some (td,na + nb + nc)) (hc : Tryz.prog.cellsOf t = na + nb + nc + nd) (ha : Rd W ta f na) (hb : Rd W tb g nb) (hc3 : Rd W tc g3 nc) (hd4 : Rd W td g4 nd) (mk : α -> β -> γ -> γ' -> δ) (hmk : ∀ a b c d,h (mk a b c d) = f a ++ g b ++ g3 c ++ g4 d) (hl : ∀ c,(h c).length = na + nb + nc + nd) : Rd W t h (na + nb + nc + nd) where
 cells:=hc
 len:=hl
 rd:=fun {H enc fuel cs x} hd => by
  obtain ⟨hcl,m,y,hy⟩:=zmY fa hd;obtain ⟨_,m2,y2,hy2⟩:=zmY fb hd;obtain ⟨_,m3,y3,hy3⟩:=zmY fc hd;obtain ⟨_,m4,y4,hy4⟩:=zmY fd hd;rw [ha.cells,List.drop_zero] at hy;rw [hb.cells] at hy2;rw [hc3.cells] at hy3;rw [hd4.cells] at hy4;obtain ⟨a,hda⟩:=ha.rd hy;obtain ⟨b,hdb⟩:=hb.rd hy2;obtain ⟨c,hdc⟩:=hc3.rd hy3;obtain ⟨d,hdd⟩:=hd4.rd hy4;refine ⟨mk a b c d,?_⟩;rw [hmk];have e : cs = cs.take na ++ (cs.drop na).take nb ++ (cs.drop (na + nb)).take nc ++ (cs.drop (na + nb + nc)).take nd:=by
   rw [List.take_of_length_le (l:=cs.drop (na + nb + nc)) (by rw [List.length_drop,hcl,hc]; omega),List.append_assoc,List.append_assoc,<- List.drop_drop (i:=nc),List.take_append_drop,<- List.drop_drop,List.take_append_drop,List.take_append_drop]
  rw [e];exact zoi (zoi (zoi hda hdb) hdc) hdd
end
theorem zpX {H : Type} {enc : TypeId × Value -> H} {W W' : World} (hb : Below W.heap.size W W') : ∀ (ts : List TypeId) (vs : List Value) (ds : List (DataW H)) (ps : List MemPlace),(∀ t ∈ ts,Tryz.prog.readableRec t = true /\ t < Tryz.prog.types.size) -> DataW.TrodAll enc Tryz.prog W 0 (fun _ => true) true ts vs ds ps -> (∀ x ∈ ps,x.block < W.heap.size) ->
  DataW.TrodAll enc Tryz.prog W' 0 (fun b => decide (b < W.heap.size)) true ts vs ds ps
 | [],vs,ds,ps,_,h,_ => by
  obtain ⟨rfl,rfl,rfl⟩:=trodAll_nil h;exact trodAll_mk0
 | t :: ts,vs,ds,ps,ht,h,hlt => by
  obtain ⟨v,vs',d,ds',p,q,rfl,rfl,rfl,h1,h2⟩:=trodAll_cons h;have h0:=ht t List.mem_cons_self;exact ⟨p,q,Below.trod Tz.laidOut h0.1 h0.2 h1 hb fun x hx => hlt x (List.mem_append_left _ hx),zpX hb ts vs' ds' q (fun t h => ht t (List.mem_cons_of_mem _ h)) h2 fun x hx => hlt x (List.mem_append_right _ hx),rfl⟩
theorem zpu {H : Type} {enc : TypeId × Value -> H} {W : World} : ∀ (ts : List TypeId) (vs : List Value) (ds : List (DataW H)) (ps : List MemPlace),DataW.TrodAll enc Tryz.prog W 0 (fun _ => true) true ts vs ds ps -> ds.length = ts.length
 | [],vs,ds,ps,h => by obtain ⟨rfl,rfl,rfl⟩:=trodAll_nil h; rfl
 | t :: ts,vs,ds,ps,h => by
  obtain ⟨v,vs',d,ds',p,q,rfl,rfl,rfl,h1,h2⟩:=trodAll_cons h;rw [List.length_cons,List.length_cons,zpu ts vs' ds' q h2]
def zra (f : FuncId) (ts : List TypeId) : Prop:=∀ (W : World) {H : Type} (enc : TypeId × Value -> H) (args : Array Value) (ds : List (DataW H)) (ps : List MemPlace) (base : Nat) (ws : List TypeId),(∀ (j : Nat) t v,ts[j]? = some t -> args[j]? = some v -> Value.okWide Tryz.prog W .any base t v) ->
 DataW.TrodAll enc Tryz.prog W 0 (fun _ => true) true ts args.toList ds ps -> (DataW.weightsEach Tryz.prog (ts ++ ws) ds).all (· <= reachBytes) = true -> ∃ avs,Denl (env0 W) avs args /\ FnC true Tryz.prog f [.main] avs (fun a _ => a = bv true) (fun _ _ => False)
set_option maxRecDepth 100000 in
theorem zqe {f : FuncId} {fn : Func} {s : ChangeSpec} {ts : List TypeId} (hf : Tryz.prog.funcs[f]? = some fn) (hp : fn.params = ts.toArray) (hr : fn.resultTypes = #[4]) (hv : s.vars = []) (hs : ∀ (H : Type) (ds : List (DataW H)),ds.length = ts.length -> s.fn H ds = { results:=[.lit (.bool true)],args:=ds }) (hi : Tryz.prog.inits.idxOf? f = none)
  (hread : ∀ t ∈ ts,Tryz.prog.readableRec t = true /\ t < Tryz.prog.types.size) (hlaw : zra f ts)
  (os : Os) (started : os.Started) (H : Type) (enc : TypeId × Value -> H)
  (hwit : ∃ (w : World) (tape : Tape) (i : Input),w.os = os /\ (w.forCall tape i).Shaped Tryz.checked.prog /\ i.vars = [] /\ Input.okWide Tryz.checked.prog (w.forCall tape i) .any w.heap.size f i /\
   s.pre6 enc Tryz.checked.prog fn [] false (w.forCall tape i).memory i.args /\ ({} : Assume).holds Tryz.checked.prog (lone (Frame.enter Tryz.checked.prog f i.args .normal) [] (w.forCall tape i))) :
  ReturnsInLeavingWide {} Tryz.checked os f .any (s.pre6 enc Tryz.prog fn [] false) (s.post enc Tryz.prog fn false true false false):=by
 refine returnsInLeavingWide_of_change_sized (C:=Tryz.checked) Tz.own started hf hwit ?_;intro W base args ds gs before hval0 hW _ hsz0 _;have hval : ∀ (j : Nat) t v,ts[j]? = some t -> args[j]? = some v -> Value.okWide Tryz.prog W .any base t v:=fun j t v e => hval0 j t v (by rw [hp]; simpa using e);have hW':=hW;obtain ⟨p,q,hA0,hV,rfl,_,_⟩:=hW;have hA : DataW.TrodAll enc Tryz.prog W 0 (fun _ => true) true ts args.toList ds p:=by
  have : DataW.TrodAll enc Tryz.prog W 0 (fun _ => true) true fn.params.toList args.toList ds p:=hA0;rw [hp] at this;simpa using this
 have hdl:=zpu _ _ _ _ hA;rw [hv] at hV;obtain ⟨rfl,rfl⟩:=trodVars_none hV;have hsz : (DataW.weightsEach Tryz.prog (ts ++ s.plain.varTypes Tryz.prog) ds).all (· <= reachBytes) = true:=by
  have h : (DataW.weightsEach Tryz.prog (fn.params.toList ++ s.plain.varTypes Tryz.prog) (ds ++ [])).all (· <= reachBytes) = true:=hsz0;rw [List.append_nil,hp] at h;simpa using h
 simp only [List.append_nil] at hW';have hlt : ∀ x ∈ p,x.block < W.heap.size:=fun x hx => by simpa using hW'.lt x hx
 obtain ⟨avs,hden,hfn⟩:=hlaw W enc args ds p base _ hval hA hsz;obtain ⟨M,last,o,w',t',h1,h2,h3,h4⟩:=zjf (Q:=fun v => v = .bool true) (args:=args) (avs:=avs) hi hden (hfn.mono (fun a H' e E v hden => by subst e; cases hden; rfl) fun _ _ h => h);refine ⟨M,last,o,w',t',h1,h2,h3,h4.mono fun v ⟨hQ,hL⟩ => ?_⟩;subst hQ;have hb:=hL.below;refine ⟨ds,[],_,[],p,[],hW',?_,?_,by rw [hv]; exact (by rw [List.append_nil,hs H ds hdl]; rfl),hb.frame _,fun h => by cases h⟩
 ·rw [List.append_nil,hs H ds hdl,hr];exact trodAll_mk1 (shut_bool Tz.u4 true)
 ·rw [List.append_nil,hs H ds hdl,hp];have e : ts.toArray.toList = ts:=by simp
  rw [e];exact zpX hb ts _ _ _ hread hA hlt
end Go.Gg
set_option maxRecDepth 100000
namespace Go.Gg
open Go.Conc Go.Proofs Go.ChangeShapes Go.WideShapes Go.ChangeAt Go.RowKit
theorem Rd.as {W : World} {e : TypeId} {α : Type} {f g : α -> List AV} {n : Nat} (h : Rd W e f n) (he : ∀ a,f a = g a) : Rd W e g n:=by
 have : f = g:=funext he;subst this; exact h
section
variable {W : World}
theorem zqy : Rd W 3 (fun z : Int => [iv z]) 1:=rd_int (by kernel_rfl) (by kernel_rfl)
theorem rdBool : Rd W 4 (fun z : Bool => [bv z]) 1:=zt2 (by kernel_rfl) (by kernel_rfl)
theorem zqS (xs : List Int) : (xs.flatMap fun z => [iv z]) = xs.map iv:=by
 induction xs with
 | nil => rfl
 | cons x xs ih => rw [List.flatMap_cons,ih]; rfl
theorem zqB (ls : List (List Band)) : (ls.flatMap fun l => [aBands l]) = ls.map aBands:=by
 induction ls with
 | nil => rfl
 | cons x xs ih => rw [List.flatMap_cons,ih]; rfl
theorem ztp : Rd W 30 (fun xs : List Int => [aInts xs]) 1:=(zoB (by kernel_rfl) (by kernel_rfl) zqy (by decide)).as fun xs => by rw [zqS]; rfl
theorem ztq : Rd W 63 Band.l 2:=zto (na:=1) (nb:=1) (by kernel_rfl) (by kernel_rfl) (by kernel_rfl) zqy zqy Band.mk (fun _ _ => rfl) (fun _ => rfl)
theorem zqI : Rd W 29 (fun xs : List Band => [aBands xs]) 1:=zoB (by kernel_rfl) (by kernel_rfl) ztq (by decide)
theorem rdKey : Rd W 65 Key.l 3:=zto (na:=1) (nb:=2) (by kernel_rfl) (by kernel_rfl) (by kernel_rfl) ztp ztq Key.mk (fun _ _ => rfl) (fun _ => rfl)
theorem rdTry : Rd W 28 Try.l 3:=zrG (na:=1) (nb:=1) (nc:=1) (by kernel_rfl) (by kernel_rfl) (by kernel_rfl) (by kernel_rfl) zqy zqy rdBool Try.mk (fun _ _ _ => rfl) (fun _ => rfl)
theorem rdKeys : Rd W 22 (fun xs : List Key => [zmv xs]) 1:=zoB (by kernel_rfl) (by kernel_rfl) rdKey (by decide)
theorem zt5 : Rd W 23 (fun xs : List (List Band) => [zml xs]) 1:=(zoB (by kernel_rfl) (by kernel_rfl) zqI (by decide)).as fun xs => by rw [zqB]; rfl
theorem zt4 : Rd W 24 (fun xs : List Try => [zmm xs]) 1:=zoB (by kernel_rfl) (by kernel_rfl) rdTry (by decide)
theorem rdRing : Rd W 26 Ring.l 4:=zt1 (na:=1) (nb:=1) (nc:=1) (nd:=1) (by kernel_rfl) (by kernel_rfl) (by kernel_rfl) (by kernel_rfl) (by kernel_rfl) zqy rdKeys zt5 zt4 Ring.mk (fun _ _ _ _ => rfl) (fun _ => rfl)
section
variable {H : Type} {enc : TypeId × Value -> H} {base : Nat} {t : TypeId} {v : Value} {d : DataW H} {p : List MemPlace}
theorem zpW {α : Type} {e : TypeId} {f : α -> AV} (hu : Tryz.prog.underlying t = some (.slice e)) (hR : Rd W t (fun a => [f a]) 1) (hok : Value.okWide Tryz.prog W .any base t v) (h : DataW.Trod enc Tryz.prog W 0 (fun _ => true) true t v d p) : ∃ a,Den (env0 W) (f a) v:=by
 obtain ⟨a,len,cap,rfl⟩:=okWide_slice hu hok;obtain ⟨fuel,h⟩:=h;obtain ⟨x,hx⟩:=hR.rd h;exact ⟨x,hx.2 0 _ rfl⟩
theorem zpt {α : Type} {fs : Array Field} {f : α -> List AV} {n : Nat} (hu : Tryz.prog.underlying t = some (.struct fs)) (hR : Rd W t f n) (hok : Value.okWide Tryz.prog W .any base t v) (h : DataW.Trod enc Tryz.prog W 0 (fun _ => true) true t v d p) : ∃ a,Den (env0 W) (.agg (f a)) v:=by
 obtain ⟨cs,rfl,_⟩:=okWide_struct hu hok;obtain ⟨fuel,h⟩:=h;obtain ⟨x,hx⟩:=hR.rd h;exact ⟨x,.agg (by simpa [Value.cells] using hx.1) fun i a e => by simpa [Value.cells] using hx.2 i a e⟩
def isStruct (P : Program) (t : TypeId) : Bool:=match P.underlying t with
 | some (.struct _) => true
 | _ => false
theorem isStruct.out {P : Program} {t : TypeId} (h : isStruct P t = true) : ∃ fs,P.underlying t = some (.struct fs):=by
 unfold isStruct at h;split at h
 ·exact ⟨_,by assumption⟩
 ·cases h
theorem zsN (hok : Value.okWide Tryz.prog W .any base 26 v) (h : DataW.Trod enc Tryz.prog W 0 (fun _ => true) true 26 v d p) : ∃ x : Ring,Den (env0 W) x.av v:=by
 obtain ⟨fs,hu⟩:=isStruct.out (P:=Tryz.prog) (t:=26) (by kernel_rfl);exact zpt hu rdRing hok h
theorem zu8 (hok : Value.okWide Tryz.prog W .any base 28 v) (h : DataW.Trod enc Tryz.prog W 0 (fun _ => true) true 28 v d p) : ∃ x : Try,Den (env0 W) x.av v:=by
 obtain ⟨fs,hu⟩:=isStruct.out (P:=Tryz.prog) (t:=28) (by kernel_rfl);exact zpt hu rdTry hok h
theorem zsO {ds : List (DataW H)} {ts : List TypeId} {j : Nat} (hok : Value.okWide Tryz.prog W .any base 30 v) (h : DataW.Trod enc Tryz.prog W 0 (fun _ => true) true 30 v d p) (hsz : (DataW.weightsEach Tryz.prog ts ds).all (· <= reachBytes) = true) (ht : ts[j]? = some 30) (hd : ds[j]? = some d) : ∃ zs,zs.length <= 2 ^ 50 /\ Den (env0 W) (aInts zs) v:=by
 obtain ⟨zs,hz⟩:=zpW Tz.u30 ztp hok h;refine ⟨zs,?_,hz⟩;obtain ⟨a,len,cap,rfl⟩:=okWide_slice Tz.u30 hok;have hzl : zs.length = len:=by
  unfold aInts at hz;generalize zs.length = m at hz ⊢;generalize zs.map iv = l at hz;cases hz with
  | sl => rfl
  | nil => rfl
 obtain ⟨fuel,h⟩:=h;rcases DataW.trod_slice Tz.u30 h with ⟨e,_⟩ | ⟨a',len',cap',elems,rest,n,_,e,ex,_,_,_,hlen,_⟩
 ·simp [Value.cells] at e;obtain ⟨_,rfl,_⟩:=e;rw [hzl]; exact Nat.zero_le _
 ·simp [Value.cells] at e;obtain ⟨_,rfl,_⟩:=e;simp only [Prod.mk.injEq] at ex;obtain ⟨rfl,_⟩:=ex;have:=sized_slice hsz ht hd Tz.u30;rw [Tz.b3] at this;simp only [List.length_map,reachBytes] at this;omega
end
end
def ioNums : List (List Nat):=[99,117,116] :: [97,116] :: [[67,104,101,99,107,115],[67,111,118,101,114,115],[66,97,103,115],[87,111,114,110],[87,114,111,110,103],[65,115,107],[67,111,118,101,114],[65,108,105,107,101],[84,101,108,108],[66,97,103],[67,117,116],[78,117,109,98,101,114,101,100],[67,111,117,110,116,115],[65,108,108],[84,114,117,101],[65,115,107,115],[78,101,119,115],[77,97,115,116,101,114],[77,111,114,101],[84,117,114,110,101,100],[75,110,111,119,110]].map ([103,108,97,100,115,116,111,110,101,47,103,108,97,100,115,116,111,110,101,108,97,119,48,56,46,75,101,121] ++ ·)
def ioCodes : List Nat:=[104,97,114,110,101,115,115,32,99,51,50,57,53,49,56,50,100,99,53,57,97,55,97,98,51,48,51,102,54,57,97,97,100,57,54,56,102,52,99,57,49,98,53,97,48,49,101,51,101,101,55,53,50,49,99,100,54,56,54,49,50,99,48,52,54,49,101,48,97,49,50,98] ++ ioNums.flatMap (32 :: ·)
set_option maxRecDepth 100000 in
theorem ioL : Tryz.prog.initOrder.toList = ioCodes.map Char.ofNat:=by
 have h : Tryz.prog.initOrder = String.ofList (ioCodes.map Char.ofNat):=by kernel_rfl
 rw [h,String.toList_ofList]
def ioWords : List (List Char):=ioNums.map fun l => l.map Char.ofNat
set_option maxRecDepth 100000 in
theorem ioW : behindMainWord (wordsSigns Tryz.prog.initOrder.toList) = ioWords:=by
 rw [ioL]
 kernel_rfl
section
variable {P : Program} {c : List Char} {rest : List (List Char)}
theorem zhx (h : behindMainWord (wordsSigns P.initOrder.toList) = c :: rest) (hc : c = "cut".toList) (h1 : stripLifts liftWords (c :: rest) = ([], c :: rest)) (h2 : P.laysLater = false) (h3 : P.bearsReflect = false) (h4 : P.doorFits [] = true) : P.mayEnter = true := by
 unfold Program.mayEnter;rw [h];subst hc;simp only [h1,h2,h3,h4,List.head?_cons,beq_self_eq_true,List.contains_nil,Bool.not_false,Bool.false_or,Bool.or_true,Bool.and_self,Bool.true_and]
theorem zgB (h : behindMainWord (wordsSigns P.initOrder.toList) = c :: rest) (hc : c = "cut".toList) (h1 : stripLifts liftWords (c :: rest) = ([], c :: rest)) : P.headLifts = [] := by
 unfold Program.headLifts;rw [h];simp only [h1,ite_self]
theorem zr7 (h : behindMainWord (wordsSigns P.initOrder.toList) = c :: rest) (hc : c = "cut".toList) (h1 : stripLifts liftWords (c :: rest) = ([], c :: rest)) : P.liftsFinal = false := by
 unfold Program.liftsFinal;rw [zgB h hc h1, h];subst hc;simp only [List.head?_cons, List.contains_nil, Bool.or_false];have : (some "cut".toList == some "carried".toList) = false := by decide +kernel
 rw [this,Bool.false_and]
theorem zuu (h : behindMainWord (wordsSigns P.initOrder.toList) = c :: rest) (hc : c = "cut".toList) : P.make = some .cut := by
 unfold Program.make;rw [h];subst hc;have e1 : ("cut".toList == "gc".toList) = false := by decide +kernel
 have e2 : ("cut".toList == "spec".toList) = false := by decide +kernel
 simp only [e1,e2,Bool.or_self,Bool.false_eq_true,if_false,beq_self_eq_true,Bool.true_or,if_true]
end
def zql : List Char:=ioWords.headD []
def zqO : List (List Char):=ioWords.tail
theorem ioW2 : behindMainWord (wordsSigns Tryz.prog.initOrder.toList) = zql :: zqO:=ioW.trans (by kernel_rfl)
theorem ioC : zql = "cut".toList := by kernel_rfl
theorem ioS : stripLifts liftWords (zql :: zqO) = ([],zql :: zqO):=by kernel_rfl
theorem Tz.mayEnter : Tryz.prog.mayEnter = true:=zhx ioW2 ioC ioS (by kernel_rfl) (by kernel_rfl) (by kernel_rfl)
theorem Tz.lifts : Tryz.prog.liftsFinal = false:=zr7 ioW2 ioC ioS
theorem Tz.make : Tryz.prog.make = some .cut:=zuu ioW2 ioC
theorem zkH {P : Program} {f : FuncId} {fn : Func} {s : ChangeSpec} {c : OpenClaim}
  (k0 : (c.wf (OpenSpec.ofChange s)) = true)
  (k1 : (laidOutB P) = true)
  (k2 : (mapsRowed P) = true)
  (k3 : (fn.params.all (P.readableRec ·)) = true)
  (k4 : (namedTie P c.named s.vars) = true)
  (k5 : ((c.stops == [])) = true)
  (k6 : ((P.stops == [])) = true)
  (k7 : ((c.knobs == [])) = true)
  (k8 : ((P.stopKnobs == [])) = true)
  (k9 : ((c.inPlace == P.inPlace f)) = true)
  (k10 : ((c.unfollowed == P.unfollowed f)) = true)
  (k11 : ((c.recurses == P.recurses f)) = true)
  (k12 : ((c.named == P.varsNamed f)) = true)
  (k13 : ((c.maps == (fn.params.toList ++ s.plain.varTypes P).any (P.mapsRec ·))) = true)
  (k14 : ((c.ifaces == (fn.params.toList ++ s.plain.varTypes P).any (P.ifacesRec ·))) = true)
  (k15 : ((c.mapsOut == P.mapsAmong fn.resultTypes.toList)) = true)
  (k16 : ((c.loops == (fn.params.toList ++ s.plain.varTypes P).any (P.loopsFrom ·))) = true)
  (k17 : ((c.wideKeys == (fn.params.toList ++ s.plain.varTypes P ++ fn.resultTypes.toList).any (P.wideKeysFrom ·))) = true)
  (k18 : (s.vars.all (P.varReadable ·)) = true)
  (k19 : (fn.resultTypes.all (fun t => P.readableRec t && decide (t < P.types.size))) = true)
  (k20 : ((c.ifacesOut == fn.resultTypes.toList.any (P.ifacesRec ·))) = true)
  (k21 : ((c.loopsOut == fn.resultTypes.toList.any (P.loopsFrom ·))) = true)
  (k22 : ((c.plainKeys == P.plainKeys)) = true)
  (k23 : (c.shortTexts.isNone) = true)
  (k24 : (P.stopsHeard) = true)
  (k25 : (P.mayEnter) = true)
  (k26 : ((c.lifted == P.liftsFinal)) = true)
  (k27 : ((P.make == some c.make)) = true)
  (k28 : c.domain.isEmpty = true) (k28' : c.kinds = [])
  (k29 : ((c.pinned == c.pinnedBy)) = true)
  (k30 : ((c.veiled == (fn.params.toList ++ s.plain.varTypes P ++ fn.resultTypes.toList).any (P.veiledRec ·))) = true)
  (k31 : (c.veiledFits P fn.params.toList (fn.params.toList ++ s.plain.varTypes P ++ fn.resultTypes.toList)) = true) : joinedFacts P f fn s c = true:=by
 simp only [joinedFacts,k0,k1,k2,k3,k4,k5,k6,k7,k8,k9,k10,k11,k12,k13,k14,k15,k16,k17,k18,k19,k20,k21,k22,k23,k24,k25,k26,k27,k28,k28',if_true,beq_self_eq_true,k29,k30,k31,Bool.and_self]
theorem zkB {c : OpenClaim} (h : c.lifted = false) : (c.lifted == Tryz.prog.liftsFinal) = true:=by rw [Tz.lifts,h]; rfl
theorem zr1 {c : OpenClaim} (h : c.make = .cut) : (Tryz.prog.make == some c.make) = true:=by rw [Tz.make,h]; rfl
end Go.Gg
namespace Go.Proofs.YtoaaoiipickclaaGreat
open Go.Conc Go.Proofs Go.Gg Go.ChangeShapes
theorem zsh : Tryz.prog.funcNamed Rows.keyCoversRow.func = some 4:=by kernel_rfl
theorem zqA : joinedFacts Tryz.prog 4 Tryz.f4 Rows.keyCoversSpec Rows.keyCoversRow = true :=
 zkH (by kernel_rfl) Tz.laidOut (by kernel_rfl) (by kernel_rfl) (by kernel_rfl) (by kernel_rfl) (by kernel_rfl) (by kernel_rfl) (by kernel_rfl) (by kernel_rfl) (by kernel_rfl) (by kernel_rfl) (by kernel_rfl) (by kernel_rfl) (by kernel_rfl) (by kernel_rfl) (by kernel_rfl) (by kernel_rfl) (by kernel_rfl) (by kernel_rfl) (by kernel_rfl) (by kernel_rfl) (by kernel_rfl) (by kernel_rfl) (by kernel_rfl) Tz.mayEnter (zkB (by kernel_rfl)) (zr1 (by kernel_rfl)) (by kernel_rfl) (by kernel_rfl) (by kernel_rfl) (by kernel_rfl) (by kernel_rfl)
theorem zsi : Tryz.f4.isInstance Tryz.prog Rows.keyCoversRow.origin Rows.keyCoversRow.targs:=of_decide_eq_true (by kernel_rfl)
theorem zsg : Tryz.f4.isWrapper Tryz.prog Rows.keyCoversRow.wrapper Rows.keyCoversRow.mainSum:=by unfold Func.isWrapper; first | (rw [if_pos (by decide +kernel)]; kernel_rfl) | (rw [if_neg (by decide +kernel)]; exact ⟨rfl,rfl⟩)
theorem zpC : zra 4 [26,28,29,30]:=fun W {H} enc args ds ps base ws hval hA hsz => by
 obtain ⟨v0,r0,d0,e0,p0,q0,ha,rfl,rfl,h0,hA⟩:=trodAll_cons hA;obtain ⟨v1,r1,d1,e1,p1,q1,rfl,rfl,rfl,h1,hA⟩:=trodAll_cons hA;obtain ⟨v2,r2,d2,e2,p2,q2,rfl,rfl,rfl,h2,hA⟩:=trodAll_cons hA;obtain ⟨v3,r3,d3,e3,p3,q3,rfl,rfl,rfl,h3,hA⟩:=trodAll_cons hA;obtain ⟨rfl,rfl,rfl⟩:=trodAll_nil hA;have hargs : args = #[v0,v1,v2,v3]:=by
  have:=congrArg List.toArray ha;simpa using this
 subst hargs;obtain ⟨x0,g0⟩:=zsN (hval 0 26 v0 rfl rfl) h0;obtain ⟨x1,g1⟩:=zu8 (hval 1 28 v1 rfl rfl) h1;obtain ⟨x2,g2⟩:=zpW (t:=29) (e:=63) (by kernel_rfl) zqI (hval 2 29 v2 rfl rfl) h2;obtain ⟨x3,hn,g3⟩:=zsO (j:=3) (hval 3 30 v3 rfl rfl) h3 hsz rfl rfl;refine ⟨[x0.av,x1.av,aBands x2,aInts x3],⟨rfl,fun i a e => ?_⟩,f4_c rfl hn rfl⟩
 match i,e with
 | 0,e => cases e; exact g0
 | 1,e => cases e; exact g1
 | 2,e => cases e; exact g2
 | 3,e => cases e; exact g3
theorem zoV (os : Os) (started : os.Started) (H : Type) (enc : TypeId × Value -> H) :
  ReturnsInLeavingWide {} Tryz.checked os 4 .any (Rows.keyCoversSpec.pre6 enc Tryz.prog Tryz.f4 Rows.keyCoversRow.domain false) (Rows.keyCoversSpec.post enc Tryz.prog Tryz.f4 false true false false) :=
 zqe (f:=4) (fn:=Tryz.f4) (s:=Rows.keyCoversSpec) (ts:=[26,28,29,30]) Tryz.func4 rfl rfl rfl (fun H ds h => by
   match ds,h with
   | [a,b,c,d],_ => rfl) (by kernel_rfl) (fun t ht => ⟨List.all_eq_true.1 (by kernel_rfl : [26,28,29,30].all Tryz.prog.readableRec = true) t (by revert ht; simp),of_decide_eq_true (List.all_eq_true.1 (by kernel_rfl : [26,28,29,30].all (fun t => decide (t < Tryz.prog.types.size)) = true) t (by revert ht; simp))⟩) zpC os started H enc
  (ChangeSpec.witness6 (enc:=enc) (C:=Tryz.checked) false ⟨#[],#[.agg #[.int .i64 0,.slice none 0 0,.slice none 0 0,.slice none 0 0],.agg #[.int .i64 0,.int .i64 0,.bool false],.slice none 0 0,.slice none 0 0],[]⟩ 8 (by kernel_rfl) (by kernel_rfl) (by kernel_rfl) (by kernel_rfl))
theorem keyCovers_holds : Rows.KeyCoversSaid :=
 OpenClaim.holds_of_wide_leaving 4 Tryz.f4 rfl rfl rfl rfl rfl rfl rfl ⟨rfl,rfl,rfl,rfl,rfl⟩ rfl rfl rfl rfl rfl zsh Tryz.func4 zqA zsi zsg
  (fun os started H enc _ => zoV os started H enc)
end Go.Proofs.YtoaaoiipickclaaGreat
