/- A part of the proof. -/
import Derived.Test.YtoaaoiipickclaaGreatKeyNumbered3
set_option linter.all false
set_option maxRecDepth 4000
set_option maxHeartbeats 1000000
namespace Go.Gg
open Go.Conc Go.Proofs
theorem or_u8 {a b : Nat} (ha : a < 256) (hb : b < 256) : IntKind.u8.wrap (BitVec.ofInt IntKind.u8.bits (a : Int) ||| BitVec.ofInt IntKind.u8.bits (b : Int)).toNat = ((a ||| b : Nat) : Int):=by
 rw [BitVec.toNat_or,zk8 ha,zk8 hb];exact zfk (Nat.or_lt_two_pow (n:=8) ha hb)
theorem zud {n : Nat} (h : n <= 4) : IntKind.u8.wrap (IntKind.u8.wrap (1 * 2 ^ (min n IntKind.u8.bits)) - 1) = ((2 ^ n - 1 : Nat) : Int):=by
 have : n = 0 \/ n = 1 \/ n = 2 \/ n = 3 \/ n = 4:=by omega
 rcases this with rfl | rfl | rfl | rfl | rfl <;> decide
def orM (x : Ring) (t : List Int) (keys : List Int) : Nat:=keys.foldl (fun a q => a ||| zmy x t q.toNat) 0
theorem zrT {x : Ring} {t keys : List Int} {i : Nat} {q : Int} (h : keys[i]? = some q) : orM x t (keys.take (i + 1)) = orM x t (keys.take i) ||| zmy x t q.toNat:=by
 obtain ⟨hj,rfl⟩:=List.getElem?_eq_some_iff.1 h;unfold orM;rw [List.take_succ_eq_append_getElem hj,List.foldl_append]; rfl
theorem orM_lt {x : Ring} (hl4 : x.locks.length <= 8) (t keys : List Int) : orM x t keys < 256:=by
 unfold orM;have : ∀ (l : List Int) (a : Nat),a < 256 -> l.foldl (fun a q => a ||| zmy x t q.toNat) a < 256:=by
  intro l;induction l with
  | nil => exact fun a h => h
  | cons y l ih => exact fun a h => ih _ (Nat.or_lt_two_pow (n:=8) h (zdn hl4 _ _))
 exact this keys 0 (by decide)
def zoo (x : Ring) (ts : List (List Int × Nat)) (keys : List Int) : Bool:=ts.all fun y => orM x y.1 keys == 2 ^ x.locks.length - 1
def znV (x : Ring) : Option (List Int):=zm5 x.keys.length (zoo x (zlD x []))
section
variable {lv : Bool} {H : List AObj} {k kp : AV -> List AObj -> Prop}
theorem f114_c {x : Ring} {keys : List Int} {e : End} {l r id ck : Nat} {ts : List (List Int × Nat)} (hl : H[l]? = some (.cells [.mp id] 118)) (hr : H[r]? = some (.cells [.rp (x.l ++ zlV x)] 100)) (hid : H[id]? = some (setObj ts ck)) (hb : ∀ y ∈ ts,y.2 < ck) (hnd : (ts.map (·.2)).Nodup) (hl4 : x.locks.length <= 4) (h4 : ∀ y ∈ ts,y.1.length = 4 /\ ∀ w ∈ y.1,0 <= w /\ w <= 2) (hkeys : ∀ q ∈ keys,0 <= q /\ q < 4) (hkl : keys.length < 2 ^ 30) (hk : k (bv (zoo x ts keys)) H) : FnC lv Tryz.prog 114 H [.sl keys.length (keys.map iv) e,.op l 0,.op r 0] k kp:=by
 refine zlA (rs:=[.tmp 4]) (nt:=44) Tryz.f114 fun hH hA => ?_;simp only [zlW,Nat.reduceAdd];rw [setObj] at hid;refine zfK ?_;refine zl5 ?_;simp only [seval,hl,hid];have hid' : ∀ L : List AObj,(H ++ L)[id]? = some (AObj.obj (Obj.map (List.map zlH ts).toArray ck)):=fun L => zay hid;have hr' : ∀ L : List AObj,(H ++ L)[r]? = some (.cells [.rp (x.l ++ zlV x)] 100):=fun L => zay hr;have hall:=zcO ts ck hb;have hokI : ∀ sn,HOk (H ++ [AObj.iter id ck sn ck]):=fun sn z hz => by
  have hl:=get_lt hid;rcases List.mem_append.1 hz with h | h
  ·exact (hH z h).mono (by simp)
  ·rw [List.mem_singleton.1 h]; show id < _; simp; omega
 refine zlC ?_;refine za9 (measure fun vs : List (List Int × Nat) => ts.length - vs.length).wf (fun vs => []) (fun vs => H ++ [.iter id ck (vs.map (·.2)).toArray ck]) (fun vs => ((vs.map (·.2)).Nodup /\ ∀ y ∈ vs,y ∈ ts) /\ ∀ y ∈ vs,(orM x y.1 keys == 2 ^ x.locks.length - 1) = true) [] (fun _ _ => rfl) (by simp) (by simp) (fun _ _ => by simp) ⟨⟨by simp,by simp⟩,by simp⟩ (fun hHs hLt vs hok R hR => ?_);refine zl5 ?_;simp only [seval,hid'];refine ⟨hall.elim .inl (fun h => .inr (.inl h)),fun e he hn => ?_,fun hs => ?_⟩
 ·obtain ⟨y,hy,rfl⟩ : ∃ y ∈ ts,zlH y = e:=by simpa using he
  have hyn : y.2 ∉ vs.map (·.2):=by simpa [zlH] using hn
  have hok':=zdk hok.1 hy hyn;have hrel:=zdl hok';refine zlu ?_;refine zly ?_;refine zlC ?_;obtain ⟨h41,h42⟩:=h4 y hy;have hborn : (zlH y).born = y.2:=rfl;have hlen : (y.1.map iv).length = 4:=by simp [h41]
  have hdrop : List.drop 4 [AV.val (Value.int IntKind.i64 0),AV.val (Value.int IntKind.i64 0),AV.val (Value.int IntKind.i64 0),AV.val (Value.int IntKind.i64 0)] = []:=rfl;refine zl5 ?_;simp only [seval,hid',Array.back?_push,hborn,zcL hnd hy,zb7,h41,hlen,hdrop];refine zfK ?_;refine zfK ?_;refine zlC ?_;rw [zdm];have hokC : HOk (H ++ [AObj.iter id ck ((vs ++ [y]).map (·.2)).toArray ck,.cells (y.1.map iv) 132]):=by
   have h1 : (H ++ [AObj.iter id ck ((vs ++ [y]).map (·.2)).toArray ck,.cells (y.1.map iv) 132]) = (H ++ [AObj.iter id ck ((vs ++ [y]).map (·.2)).toArray ck]) ++ [.cells (y.1.map iv) 132]:=(by simp);rw [h1];refine zc6 (hokI _) fun z hz n => ?_;rw [List.mem_singleton.1 hz];intro a ha;obtain ⟨w,_,rfl⟩:=List.mem_map.1 ha;exact .val _
  refine zaB keys.length (fun i : Nat => [(6,uv (orM x y.1 (keys.take i))),(17,iv i)]) (fun _ => H ++ [.iter id ck ((vs ++ [y]).map (·.2)).toArray ck,.cells (y.1.map iv) 132]) (fun i => True) (fun _ _ => rfl) (by simp only [seval]; simp [zaf,Wk.refl]; exact Wk.refl _) rfl (fun _ _ _ => rfl) trivial (fun hHs2 hLt2 i hin hi R2 hR2 => ?_);refine zfK ?_;refine zlu ?_;refine ⟨fun h => ?_,fun h => ?_⟩
  ·
   have hil : i < keys.length:=(by omega);obtain ⟨q,hq⟩:=zaE hil;obtain ⟨hq0,hq4⟩:=hkeys q (zas hq);obtain ⟨kn,rfl⟩ : ∃ m : Nat,q = m:=⟨q.toNat,by omega⟩;obtain ⟨w,hw⟩:=zaE (xs:=y.1) (i:=kn) (by omega);have hwb:=h42 w (zas hw);obtain ⟨wn,rfl⟩ : ∃ n : Nat,w = n:=⟨w.toNat,by omega⟩;have b4 : (0 <= (kn : Int) /\ (kn : Int) < 4) = True:=(by simp; omega);have b3 : (0 <= (wn : Int) /\ (wn : Int) < 3) = True:=(by simp; omega);have hm:=zdn (x:=x) (by omega) kn wn;have ho:=orM_lt (x:=x) (by omega) y.1 (keys.take i);have hin : zmy x y.1 (kn : Int).toNat = zmf x kn wn:=(by unfold zmy; rw [Int.toNat_natCast,u8z y.1 kn hw]; rfl);have sh4 : AV.shift 4 (.rp (x.l ++ zlV x)) = some (.rp (zlV x)):=(by simp [Ring.l,zdf,zdg]);have hi1 : IntKind.i64.wrap ((i : Int) + 1) = ((i + 1 : Nat) : Int):=(by rw [zau _ (by omega)]; rfl);refine zly ?_;refine zl5 ?_;simp only [seval,za2 hq,zaz hil];refine zma 12 ?_;simp only [seval,b4,b3,hr',zbf hw,sh4,zcH x (show kn < 4 by omega),zb0 x (show kn < 4 by omega) (show wn < 3 by omega),zlp,or_u8 ho hm];refine zl5 ?_;simp only [seval,hi1];refine hR2 _ ⟨hil,trivial,?_⟩;rw [zrT hq,hin];exact zlJ
  ·
   have hix : i = keys.length:=(by omega);subst hix;refine zlF ?_;rw [List.take_length];refine zl5 ?_;simp only [seval,hr',Ring.l,zlL,ziv,zud hl4];refine zlu ?_;refine ⟨fun h2 => ?_,fun h2 => ?_⟩
   ·
    have hne : ¬ orM x y.1 keys = 2 ^ x.locks.length - 1:=by
     intro e2;rw [e2] at h2;simp at h2
    have hr : zoo x ts keys = false:=by
     apply Bool.eq_false_iff.2;intro hc;exact hne (by simpa using List.all_eq_true.1 hc y hy)
    refine zfK ?_;refine zlz ?_;rw [hr] at hk;exact endV hH hk
   ·
    have heq : orM x y.1 keys = 2 ^ x.locks.length - 1:=by
     have h3 : ((orM x y.1 keys : Nat) : Int) = ((2 ^ x.locks.length - 1 : Nat) : Int):=(by simpa using h2);exact Int.ofNat_inj.1 h3
    refine zly ?_;refine hR _ ⟨vs ++ [y],hrel,⟨hok',fun z hz => ?_⟩,?_⟩
    ·rcases List.mem_append.1 hz with h | h
     ·exact hok.2 z h
     ·rw [List.mem_singleton.1 h]; simpa using heq
    ·exact zat (zam rfl rfl) (by simp) (hokI _) (by simp)
 ·have hp : vs.Perm ts:=zct hok.1.1 hnd hok.1.2 fun y hy => by
   have:=hs (zlH y) (by simp; exact ⟨y.1,y.2,hy,rfl⟩) (hb y hy);simpa [zlH] using this
  have hr : zoo x ts keys = true:=List.all_eq_true.2 fun y hy => hok.2 y (hp.mem_iff.2 hy);refine zlu ?_;refine zlF ?_;refine zfK ?_;refine zlz ?_;rw [hr] at hk;exact endV hH hk
theorem zro {l r id ck : Nat} {x : Ring} {ts : List (List Int × Nat)} (hl : H[l]? = some (.cells [.mp id] 118)) (hr : H[r]? = some (.cells [.rp (x.l ++ zlV x)] 100)) (hid : H[id]? = some (setObj ts ck)) (hb : ∀ y ∈ ts,y.2 < ck) (hnd : (ts.map (·.2)).Nodup) (hl4 : x.locks.length <= 4) (h4 : ∀ y ∈ ts,y.1.length = 4 /\ ∀ w ∈ y.1,0 <= w /\ w <= 2) : SoC lv H (.fn (.func 114) [] [.op l 0,.op r 0]) (zoo x ts) (fun xs => (∀ q ∈ xs,0 <= q /\ q < 4) /\ xs.length <= 6):=fun L xs e k kp hp h =>
 zlY (f114_c (zay hl) (zay hr) (zay hid) hb hnd hl4 h4 hp.1 (Nat.lt_of_le_of_lt hp.2 (by decide)) h)
theorem keysP {n : Nat} (hn : n <= 4) : ∀ k,k <= n -> ∀ y ∈ zmD n k,(∀ q ∈ y,0 <= q /\ q < 4) /\ y.length <= 6:=fun k hk y hy => by
 obtain ⟨h1,h2⟩:=zfE n (by omega) k (by omega) y hy;refine ⟨fun q hq => ?_,by omega⟩;have:=h2 q hq;omega
theorem f38_c {x : Ring} (hnr : zmA lv) (hmain : H[0]? = some .main) (hs : x.Small) (h1 : zlS x none ≠ 0 -> k (.tup [.sl 0 [] .exact,iv (zlS x none)]) H) (h2 : zlS x none = 0 -> znV x = none -> k (.tup [.sl 0 [] .exact,iv 11]) H) (h3 : zlS x none = 0 -> ∀ xs,znV x = some xs -> k (.tup [aInts xs,iv 0]) H) : FnC lv Tryz.prog 38 H [x.av] k kp:=by
 have hmn : ∀ L : List AObj,(H ++ L)[0]? = some .main:=fun L => zay hmain;refine zlA (rs:=[.tmp 2,.tmp 3]) (nt:=33) Tryz.f38 fun hH hA => ?_;simp only [zlW,Nat.reduceAdd,Ring.av];refine zl5 ?_;simp only [seval,Ring.l];refine zfK ?_;refine zl6 ((f99_c hnr (hmn _) hs zbA (fun hz => ?_) (fun hz => ?_)))
 ·(try simp only [seval]);refine zfK ?_;refine zlu ?_;refine ⟨fun h => ?_,fun h => absurd (by simpa using h) hz⟩;refine zfK ?_;refine zlz ?_;exact endA hH (Wk.refl _) (by simp [zap,zaD,zbh]) (h1 hz)
 ·(try simp only [seval]);refine zfK ?_;obtain ⟨ho,hne⟩:=zaP.1 hz;have hx:=zbp ho;have hx4:=hx.keys;have hx5:=hx.locks;have hle:=zbl hx [];have hlk : x.l ++ zlV x = iv x.cuts :: zl8 x.keys :: zlL x.locks :: zl4 x.tries :: zlV x:=rfl;refine zlu ?_;refine zly ?_;refine zl5 ?_;simp only [seval,List.mapM_cons,List.mapM_nil,Option.pure_def,Option.bind_eq_bind,hlk,zl8];refine zl6 ((f115_c (by omega) ?_));(try simp only [seval]);refine zl6 ((f113_c (P:=fun xs => (∀ q ∈ xs,0 <= q /\ q < 4) /\ xs.length <= 6) (by omega) (zro (l:=H.length + 4) (r:=H.length + 3) (id:=H.length + 2) (by simp only [seval] <;> rfl) (by simp only [seval] <;> rfl) (by simp only [seval] <;> rfl) (zbm x []) (zba x []) hx5 (zbt hx [])) (keysP hx4) ?_));(try simp only [seval]);rw [show zm5 x.keys.length (zoo x (zlD x [])) = znV x from rfl];refine zfK ?_;refine zlu ?_;cases hm : znV x with
  | none =>
   refine ⟨fun h => ?_,fun h => by simp at h⟩;refine zfK ?_;refine zlz ?_;exact endA hH (Wk.refl _) (by simp [zap,zaD,zbh]) (h2 hz hm)
  | some xs =>
   refine ⟨fun h => by simp at h,fun h => ?_⟩;refine zly ?_;refine zfK ?_;refine zlz ?_;exact endA hH (Wk.refl _) (by simp [zap,zaD,zbi]) (h3 hz xs hm)
def zpF (x : Ring) (t keys : List Int) : Bool:=(List.range x.locks.length).all fun b => (List.range b).all fun a => zn9 x t keys a b
def zpq (x : Ring) (ts : List (List Int × Nat)) (keys : List Int) : Bool:=ts.all fun y => zpF x y.1 keys
def zoM (x : Ring) : Option (List Int):=zm5 x.keys.length (zpq x (zlD x []))
theorem f120_c {x : Ring} {keys : List Int} {e : End} {l r id ck : Nat} {ts : List (List Int × Nat)} (hl : H[l]? = some (.cells [.mp id] 118)) (hr : H[r]? = some (.cells [.rp (x.l ++ zlV x)] 100)) (hid : H[id]? = some (setObj ts ck)) (hb : ∀ y ∈ ts,y.2 < ck) (hnd : (ts.map (·.2)).Nodup) (hl4 : x.locks.length <= 4) (h4 : ∀ y ∈ ts,y.1.length = 4 /\ ∀ w ∈ y.1,0 <= w /\ w <= 2) (hkeys : ∀ q ∈ keys,0 <= q /\ q < 4) (hkl : keys.length < 2 ^ 30) (hk : k (bv (zpq x ts keys)) H) : FnC lv Tryz.prog 120 H [.sl keys.length (keys.map iv) e,.op l 0,.op r 0] k kp:=by
 refine zlA (rs:=[.tmp 4]) (nt:=36) Tryz.f120 fun hH hA => ?_;simp only [zlW,Nat.reduceAdd];rw [setObj] at hid;refine zfK ?_;refine zl5 ?_;simp only [seval,hl,hid];have hid' : ∀ L : List AObj,(H ++ L)[id]? = some (AObj.obj (Obj.map (List.map zlH ts).toArray ck)):=fun L => zay hid;have hr' : ∀ L : List AObj,(H ++ L)[r]? = some (.cells [.rp (x.l ++ zlV x)] 100):=fun L => zay hr;have hall:=zcO ts ck hb;have hokI : ∀ sn,HOk (H ++ [AObj.iter id ck sn ck]):=fun sn z hz => by
  have hl:=get_lt hid;rcases List.mem_append.1 hz with h | h
  ·exact (hH z h).mono (by simp)
  ·rw [List.mem_singleton.1 h]; show id < _; simp; omega
 refine zlC ?_;refine za9 (measure fun vs : List (List Int × Nat) => ts.length - vs.length).wf (fun vs => []) (fun vs => H ++ [.iter id ck (vs.map (·.2)).toArray ck]) (fun vs => ((vs.map (·.2)).Nodup /\ ∀ y ∈ vs,y ∈ ts) /\ ∀ y ∈ vs,zpF x y.1 keys = true) [] (fun _ _ => rfl) (by simp) (by simp) (fun _ _ => by simp) ⟨⟨by simp,by simp⟩,by simp⟩ (fun hHs hLt vs hok R hR => ?_);refine zl5 ?_;simp only [seval,hid'];refine ⟨hall.elim .inl (fun h => .inr (.inl h)),fun e he hn => ?_,fun hs => ?_⟩
 ·obtain ⟨y,hy,rfl⟩ : ∃ y ∈ ts,zlH y = e:=by simpa using he
  have hyn : y.2 ∉ vs.map (·.2):=by simpa [zlH] using hn
  have hok':=zdk hok.1 hy hyn;have hrel:=zdl hok';refine zlu ?_;refine zly ?_;refine zlC ?_;obtain ⟨h41,h42⟩:=h4 y hy;have hborn : (zlH y).born = y.2:=rfl;have hlen : (y.1.map iv).length = 4:=by simp [h41]
  have hdrop : List.drop 4 [AV.val (Value.int IntKind.i64 0),AV.val (Value.int IntKind.i64 0),AV.val (Value.int IntKind.i64 0),AV.val (Value.int IntKind.i64 0)] = []:=rfl;refine zl5 ?_;simp only [seval,hid',Array.back?_push,hborn,zcL hnd hy,zb7,h41,hlen,hdrop];rw [zdm];have hokC : HOk (H ++ [AObj.iter id ck ((vs ++ [y]).map (·.2)).toArray ck,.cells (y.1.map iv) 132]):=by
   have h1 : (H ++ [AObj.iter id ck ((vs ++ [y]).map (·.2)).toArray ck,.cells (y.1.map iv) 132]) = (H ++ [AObj.iter id ck ((vs ++ [y]).map (·.2)).toArray ck]) ++ [.cells (y.1.map iv) 132]:=(by simp);rw [h1];refine zc6 (hokI _) fun z hz n => ?_;rw [List.mem_singleton.1 hz];intro a ha;obtain ⟨w,_,rfl⟩:=List.mem_map.1 ha;exact .val _
  refine zl5 ?_;simp only [seval,hr',Ring.l,zlL];refine zlC ?_;refine zmt x.locks.length (fun b : Nat => [(20,iv b)]) (fun _ => H ++ [.iter id ck ((vs ++ [y]).map (·.2)).toArray ck,.cells (y.1.map iv) 132]) (fun b => ∀ b' < b,∀ a < b',zn9 x y.1 keys a b' = true) (fun b hb => by omega) (fun hHs2 hLt2 b hbn hbo R2 hR2 => ?_);refine zfK ?_;refine zlu ?_;refine ⟨fun h => ?_,fun h => ?_⟩
  ·
   have hbl : b < x.locks.length:=(by omega);refine zly ?_;refine zfK ?_;refine zfK ?_;refine zlC ?_;refine zmt b (fun a : Nat => [(24,iv a)]) (fun _ => H ++ [.iter id ck ((vs ++ [y]).map (·.2)).toArray ck,.cells (y.1.map iv) 132]) (fun a => ∀ a' < a,zn9 x y.1 keys a' b = true) (fun a ha => by omega) (fun hHs3 hLt3 a han hao R3 hR3 => ?_);refine zfK ?_;refine zlu ?_;refine ⟨fun h2 => ?_,fun h2 => ?_⟩
   ·
    have hab : a < b:=(by omega);refine zly ?_;refine zfK ?_;have htk : List.take 4 (y.1.map iv) = y.1.map iv:=List.take_of_length_le (by omega);refine zl5 ?_;simp only [seval,hr',hlen,htk];refine zl6 ((f117_c (x:=x) (by omega) h41 h42 hkeys hkl ?_));(try simp only [seval]);refine zlu ?_;refine ⟨fun h3 => ?_,fun h3 => ?_⟩
    ·
     have hr : zpq x ts keys = false:=by
      apply Bool.eq_false_iff.2;intro hc;have h4:=List.all_eq_true.1 hc y hy;have h5:=List.all_eq_true.1 h4 b (List.mem_range.2 hbl);have h6:=List.all_eq_true.1 h5 a (List.mem_range.2 hab);rw [h6] at h3; simp at h3
     refine zfK ?_;refine zlz ?_;rw [hr] at hk;exact endV hH hk
    ·
     have ha1 : IntKind.i64.wrap ((a : Int) + 1) = ((a + 1 : Nat) : Int):=(by rw [zau _ (by omega)]; rfl);refine zly ?_;refine zl5 ?_;simp only [seval,ha1];refine hR3 _ ⟨hab,fun a' ha' => ?_,?_⟩
     ·by_cases e3 : a' = a
      ·subst e3; simpa using h3
      ·exact hao a' (by omega)
     ·exact zlJ
   ·
    have hax : a = b:=(by omega);subst hax;refine zlF ?_;have hb1 : IntKind.i64.wrap ((a : Int) + 1) = ((a + 1 : Nat) : Int):=(by rw [zau _ (by omega)]; rfl);refine zl5 ?_;simp only [seval,hb1];refine hR2 _ ⟨hbl,fun b' hb' a' ha' => ?_,?_⟩
    ·by_cases e3 : b' = a
     ·subst e3; exact hao a' ha'
     ·exact hbo b' (by omega) a' ha'
    ·exact zlJ
  ·
   have hbx : b = x.locks.length:=(by omega);subst hbx;refine zlF ?_;have heq : zpF x y.1 keys = true:=List.all_eq_true.2 fun b hb => List.all_eq_true.2 fun a ha => hbo b (List.mem_range.1 hb) a (List.mem_range.1 ha);refine hR _ ⟨vs ++ [y],hrel,⟨hok',fun z hz => ?_⟩,?_⟩
   ·rcases List.mem_append.1 hz with h | h
    ·exact hok.2 z h
    ·rw [List.mem_singleton.1 h]; exact heq
   ·exact zat (zam rfl rfl) (by simp) (hokI _) (by simp)
 ·have hp : vs.Perm ts:=zct hok.1.1 hnd hok.1.2 fun y hy => by
   have:=hs (zlH y) (by simp; exact ⟨y.1,y.2,hy,rfl⟩) (hb y hy);simpa [zlH] using this
  have hr : zpq x ts keys = true:=List.all_eq_true.2 fun y hy => hok.2 y (hp.mem_iff.2 hy);refine zlu ?_;refine zlF ?_;refine zfK ?_;refine zlz ?_;rw [hr] at hk;exact endV hH hk
theorem ztK {l r id ck : Nat} {x : Ring} {ts : List (List Int × Nat)} (hl : H[l]? = some (.cells [.mp id] 118)) (hr : H[r]? = some (.cells [.rp (x.l ++ zlV x)] 100)) (hid : H[id]? = some (setObj ts ck)) (hb : ∀ y ∈ ts,y.2 < ck) (hnd : (ts.map (·.2)).Nodup) (hl4 : x.locks.length <= 4) (h4 : ∀ y ∈ ts,y.1.length = 4 /\ ∀ w ∈ y.1,0 <= w /\ w <= 2) : SoC lv H (.fn (.func 120) [] [.op l 0,.op r 0]) (zpq x ts) (fun xs => (∀ q ∈ xs,0 <= q /\ q < 4) /\ xs.length <= 6):=fun L xs e k kp hp h =>
 zlY (f120_c (zay hl) (zay hr) (zay hid) hb hnd hl4 h4 hp.1 (Nat.lt_of_le_of_lt hp.2 (by decide)) h)
theorem f42_c {x : Ring} (hnr : zmA lv) (hmain : H[0]? = some .main) (hs : x.Small) (h1 : zlS x none ≠ 0 -> k (.tup [.sl 0 [] .exact,iv (zlS x none)]) H) (h2 : zlS x none = 0 -> zoM x = none -> k (.tup [.sl 0 [] .exact,iv 11]) H) (h3 : zlS x none = 0 -> ∀ xs,zoM x = some xs -> k (.tup [aInts xs,iv 0]) H) : FnC lv Tryz.prog 42 H [x.av] k kp:=by
 have hmn : ∀ L : List AObj,(H ++ L)[0]? = some .main:=fun L => zay hmain;refine zlA (rs:=[.tmp 2,.tmp 3]) (nt:=33) Tryz.f42 fun hH hA => ?_;simp only [zlW,Nat.reduceAdd,Ring.av];refine zl5 ?_;simp only [seval,Ring.l];refine zfK ?_;refine zl6 ((f99_c hnr (hmn _) hs zbA (fun hz => ?_) (fun hz => ?_)))
 ·(try simp only [seval]);refine zfK ?_;refine zlu ?_;refine ⟨fun h => ?_,fun h => absurd (by simpa using h) hz⟩;refine zfK ?_;refine zlz ?_;exact endA hH (Wk.refl _) (by simp [zap,zaD,zbh]) (h1 hz)
 ·(try simp only [seval]);refine zfK ?_;obtain ⟨ho,hne⟩:=zaP.1 hz;have hx:=zbp ho;have hx4:=hx.keys;have hx5:=hx.locks;have hle:=zbl hx [];have hlk : x.l ++ zlV x = iv x.cuts :: zl8 x.keys :: zlL x.locks :: zl4 x.tries :: zlV x:=rfl;refine zlu ?_;refine zly ?_;refine zl5 ?_;simp only [seval,List.mapM_cons,List.mapM_nil,Option.pure_def,Option.bind_eq_bind,hlk,zl8];refine zl6 ((f115_c (by omega) ?_));(try simp only [seval]);refine zl6 ((f113_c (P:=fun xs => (∀ q ∈ xs,0 <= q /\ q < 4) /\ xs.length <= 6) (by omega) (ztK (l:=H.length + 4) (r:=H.length + 3) (id:=H.length + 2) (by simp only [seval] <;> rfl) (by simp only [seval] <;> rfl) (by simp only [seval] <;> rfl) (zbm x []) (zba x []) hx5 (zbt hx [])) (keysP hx4) ?_));(try simp only [seval]);rw [show zm5 x.keys.length (zpq x (zlD x [])) = zoM x from rfl];refine zfK ?_;refine zlu ?_;cases hm : zoM x with
  | none =>
   refine ⟨fun h => ?_,fun h => by simp at h⟩;refine zfK ?_;refine zlz ?_;exact endA hH (Wk.refl _) (by simp [zap,zaD,zbh]) (h2 hz hm)
  | some xs =>
   refine ⟨fun h => by simp at h,fun h => ?_⟩;refine zly ?_;refine zfK ?_;refine zlz ?_;exact endA hH (Wk.refl _) (by simp [zap,zaD,zbi]) (h3 hz xs hm)
def zru (x : Ring) (ts : List (List Int × Nat)) (keys : List Int) (a b : Nat) : Bool:=ts.all fun y => !zn9 x y.1 keys a b
def zmL (x : Ring) (ts : List (List Int × Nat)) (keys : List Int) : Nat -> List Int × Nat
 | 0 => ([],0)
 | b + 1 => match (List.range b).find? fun a => zru x ts keys a b with
  | some a => ((zmL x ts keys b).1 ++ [(zmL x ts keys b).1.getD a 0],(zmL x ts keys b).2)
  | none => ((zmL x ts keys b).1 ++ [((zmL x ts keys b).2 : Int)],(zmL x ts keys b).2 + 1)
def zqc (x : Ring) : List Int:=(zmL x (zlD x []) (zmE x.keys.length) x.locks.length).1
theorem zeV (x : Ring) (ts : List (List Int × Nat)) (keys : List Int) : ∀ b,(zmL x ts keys b).1.length = b
 | 0 => rfl
 | b + 1 => by
  unfold zmL;split <;> simp [zeV x ts keys b]
theorem zfi (x : Ring) (ts : List (List Int × Nat)) (keys : List Int) : ∀ b,(zmL x ts keys b).2 <= b
 | 0 => Nat.le_refl _
 | b + 1 => by
  have:=zfi x ts keys b;unfold zmL;split <;> simp <;> omega
theorem zjl {f : Nat -> Bool} {a b : Nat} (hab : a < b) (hf : f a = true) (h : ∀ a' < a,f a' = false) : (List.range b).find? f = some a :=
 zfN (j:=a) (by simp [hab]) hf fun y hy => by
  have : List.take a (List.range b) = List.range a:=by rw [List.take_range,Nat.min_eq_left (by omega)]
  rw [this] at hy;exact h y (List.mem_range.1 hy)
theorem zeF {f : Nat -> Bool} {b : Nat} (h : ∀ a' < b,f a' = false) : (List.range b).find? f = none:=zdt fun y hy => h y (List.mem_range.1 hy)
theorem f40_c {x : Ring} (hnr : zmA lv) (hmain : H[0]? = some .main) (hs : x.Small) (h1 : zlS x none ≠ 0 -> k (.tup [.sl 0 [] .exact,iv (zlS x none)]) H) (h2 : zlS x none = 0 -> k (.tup [aInts (zqc x),iv 0]) H) : FnC lv Tryz.prog 40 H [x.av] k kp:=by
 have hmn : ∀ L : List AObj,(H ++ L)[0]? = some .main:=fun L => zay hmain;refine zlA (rs:=[.tmp 2,.tmp 3]) (nt:=70) Tryz.f40 fun hH hA => ?_;simp only [zlW,Nat.reduceAdd,Ring.av];refine zl5 ?_;simp only [seval,Ring.l];(repeat apply zaa);refine zcb ?_;refine zfK ?_;refine zl6 ((f99_c hnr (hmn _) hs zbA (fun hz => ?_) (fun hz => ?_)))
 ·(try simp only [seval]);refine zfK ?_;refine zlu ?_;refine ⟨fun h => ?_,fun h => absurd (by simpa using h) hz⟩;refine zfK ?_;refine zlz ?_;exact endA hH (Wk.refl _) (by simp [zap,zaD,zbh]) (h1 hz)
 ·(try simp only [seval]);refine zfK ?_;obtain ⟨ho,hne⟩:=zaP.1 hz;have hx:=zbp ho;have hx4:=hx.keys;have hx5:=hx.locks;have hle:=zbl hx [];have hlk : x.l ++ zlV x = iv x.cuts :: zl8 x.keys :: zlL x.locks :: zl4 x.tries :: zlV x:=rfl;have hkeys : ∀ q ∈ zmE x.keys.length,0 <= q /\ q < 4:=fun q hq => by
   obtain ⟨m,hm,rfl⟩:=List.mem_map.1 hq;have:=List.mem_range.1 hm;omega
  refine zlu ?_;refine zly ?_;refine zl5 ?_;simp only [seval,hlk,zl8];refine zl6 ((f115_c (by omega) ?_));(try simp only [seval]);refine zfK ?_
  (repeat apply zaa); refine zbV (t:=8) (sz:=1) (el:=3) (by simp only [seval] <;> rfl) ?_
  refine zfK ?_;(repeat apply zaa);refine zbQ ?_;simp only [seval];refine zl5 ?_;simp only [seval,zlL];refine zlC ?_;let ts:=zlD x [];let keys:=zmE x.keys.length;let al:=zmL x ts keys;have hal : ∀ b,(al b).1.length = b:=zeV x ts keys;have hb:=zbm x [];have hnd:=zba x [];have h4:=zbt hx [];have hall:=zcO (zlD x []) (zlK x).length hb;refine zaB x.locks.length (fun b : Nat => [(8,.sl b ((al b).1.map iv) (.opn (H.length + 3))),(9,iv (al b).2),(35,iv b)]) (fun b => H ++ [.cells x.l 26,.cells x.l 26,setObj (zlD x []) (zlK x).length,.tail b 1 3]) (fun _ => True) (fun _ _ => rfl) (by simp only [seval]; simp [zaf,Wk.refl]; first | exact Wk.refl _ | exact ⟨Wk.refl _,Wk.refl _⟩) rfl (fun _ _ _ => by simp) trivial (fun hHs hLt b hbn hbo R hR => ?_);refine zfK ?_;refine zlu ?_;refine ⟨fun h => ?_,fun h => ?_⟩
  ·
   have hbl : b < x.locks.length:=(by omega);have hb1 : IntKind.i64.wrap ((b : Int) + 1) = ((b + 1 : Nat) : Int):=(by rw [zau _ (by omega)]; rfl);have hml : (al b).2 <= b:=zfi x ts keys b;have hm1 : IntKind.i64.wrap (((al b).2 : Int) + 1) = (((al b).2 + 1 : Nat) : Int):=(by rw [zau _ (by omega)]; rfl);refine zly ?_;refine zfK ?_;(repeat apply zaa);refine zcb ?_;(repeat apply zaa);refine zbQ ?_;simp only [seval];refine zfK ?_;refine zlC ?_;refine zmt b (fun a : Nat => [(39,iv a)]) (fun _ => H ++ [.cells x.l 26,.cells x.l 26,setObj (zlD x []) (zlK x).length,.tail b 1 3]) (fun a => ∀ a' < a,zru x ts keys a' b = false) (fun a ha => by omega) (fun hHs2 hLt2 a han hao R2 hR2 => ?_);refine zfK ?_;refine zlu ?_;refine ⟨fun h2 => ?_,fun h2 => ?_⟩
   ·
    have hab : a < b:=(by omega);have ha1 : IntKind.i64.wrap ((a : Int) + 1) = ((a + 1 : Nat) : Int):=(by rw [zau _ (by omega)]; rfl);have hokB : HOk (H ++ [AObj.cells x.l 26,.cells x.l 26,setObj (zlD x []) (zlK x).length,.tail b 1 3]):=hHs2;have hokT : ∀ m,HOk (H ++ [AObj.cells x.l 26,.cells x.l 26,setObj (zlD x []) (zlK x).length,.tail m 1 3]):=fun m => by
     have h1:=zec (H:=H ++ [AObj.cells x.l 26,.cells x.l 26,setObj (zlD x []) (zlK x).length]) (L:=[]) (o:=.tail b 1 3) (o':=.tail m 1 3) (by simpa using hokB) (fun _ => trivial);simpa using h1
    have hokI : ∀ sn,HOk (H ++ [AObj.cells x.l 26,.cells x.l 26,setObj (zlD x []) (zlK x).length,.tail b 1 3,.iter (H.length + 1 + 1) (zlK x).length sn (zlK x).length]):=fun sn => by
     have h1 : (H ++ [AObj.cells x.l 26,.cells x.l 26,setObj (zlD x []) (zlK x).length,.tail b 1 3,.iter (H.length + 1 + 1) (zlK x).length sn (zlK x).length]) = (H ++ [AObj.cells x.l 26,.cells x.l 26,setObj (zlD x []) (zlK x).length,.tail b 1 3]) ++ [.iter (H.length + 1 + 1) (zlK x).length sn (zlK x).length]:=(by simp);rw [h1];intro z hz;rcases List.mem_append.1 hz with h | h
     ·exact (hokB z h).mono (by simp)
     ·rw [List.mem_singleton.1 h]; show H.length + 1 + 1 < _; simp
    refine zly ?_;refine zfK ?_;refine zl5 ?_;simp only [seval,zaL];refine zlC ?_;refine za9 (measure fun vs : List (List Int × Nat) => (zlD x []).length - vs.length).wf (fun vs => []) (fun vs => H ++ [.cells x.l 26,.cells x.l 26,setObj (zlD x []) (zlK x).length,.tail b 1 3,.iter (H.length + 1 + 1) (zlK x).length (vs.map (·.2)).toArray (zlK x).length]) (fun vs => ((vs.map (·.2)).Nodup /\ ∀ y ∈ vs,y ∈ zlD x []) /\ ∀ y ∈ vs,zn9 x y.1 keys a b = false) [] (fun _ _ => rfl) (by simp) (by simp [zaL]) (fun _ _ => by simp) ⟨⟨by simp,by simp⟩,by simp⟩ (fun hHs3 hLt3 vs hok R3 hR3 => ?_);refine zl5 ?_;simp only [seval,zaL];refine ⟨hall.elim .inl (fun h => .inr (.inl h)),fun e he hn => ?_,fun hs => ?_⟩
    ·obtain ⟨y,hy,rfl⟩ : ∃ y ∈ zlD x [],zlH y = e:=(by simpa using he);have hyn : y.2 ∉ vs.map (·.2):=(by simpa [zlH] using hn);have hok':=zdk hok.1 hy hyn;have hrel:=zdl hok';refine zlu ?_;refine zly ?_;refine zlC ?_;obtain ⟨h41,h42⟩:=h4 y hy;have hborn : (zlH y).born = y.2:=rfl;have hlen : (y.1.map iv).length = 4:=(by simp [h41]);have hdrop : List.drop 4 [AV.val (Value.int IntKind.i64 0),AV.val (Value.int IntKind.i64 0),AV.val (Value.int IntKind.i64 0),AV.val (Value.int IntKind.i64 0)] = []:=rfl;have htk : List.take 4 (y.1.map iv) = y.1.map iv:=List.take_of_length_le (by omega);refine zl5 ?_;simp only [seval,zaL,Array.back?_push,hborn,zcL hnd hy,zb7,h41,hlen,hdrop];refine zl5 ?_;simp only [seval,hlen,htk];refine zl6 ((f117_c (x:=x) (t:=y.1) (keys:=zmE x.keys.length) (e:=.shut) (a:=a) (b:=b) (by omega) h41 h42 hkeys (by rw [zca]; omega) ?_));(try simp only [seval]);refine zlu ?_;refine ⟨fun h3 => ?_,fun h3 => ?_⟩
     ·
      refine zlF ?_;refine zl5 ?_;simp only [seval,ha1];have hf : zru x ts keys a b = false:=by
       apply Bool.eq_false_iff.2;intro hc;have h5:=List.all_eq_true.1 hc y hy;have h6 : zn9 x y.1 keys a b = true:=h3;rw [h6] at h5; simp at h5
      refine hR2 _ ⟨hab,fun a' ha' => ?_,?_⟩
      ·by_cases e3 : a' = a
       ·subst e3; exact hf
       ·exact hao a' (by omega)
      ·exact zat (zam rfl rfl) (by simp only [seval]; simp [zaf,Wk.refl]) hokB (by simp [zap])
     ·
      refine zly ?_;rw [zdm];refine hR3 _ ⟨vs ++ [y],hrel,⟨hok',fun z hz => ?_⟩,?_⟩
      ·rcases List.mem_append.1 hz with h | h
       ·exact hok.2 z h
       ·rw [List.mem_singleton.1 h]; exact h3
      ·exact zat (zam rfl rfl) (by simp) (hokI _) (by simp)
    ·have hp : vs.Perm (zlD x []):=zct hok.1.1 hnd hok.1.2 fun y hy => by
      have:=hs (zlH y) (by simp; exact ⟨y.1,y.2,hy,rfl⟩) (hb y hy);simpa [zlH] using this
     have hf : zru x ts keys a b = true:=List.all_eq_true.2 fun y hy => by
      rw [hok.2 y (hp.mem_iff.2 hy)]; rfl
     have hfd:=zjl hab hf hao;have hsucc : al (b + 1) = ((al b).1 ++ [(al b).1.getD a 0],(al b).2):=by
      show zmL x ts keys (b + 1) = _;rw [zmL,hfd]
     obtain ⟨v,hv⟩:=zaE (xs:=(al b).1) (i:=a) (by rw [hal]; exact hab);have hgv:=u8z (al b).1 a hv;refine zlu ?_;refine zlF ?_;refine zl5 ?_;simp only [seval,za2 hv,zaz hab,z1,zqA,hal];refine ⟨by omega,?_⟩;refine zlF ?_;refine zl5 ?_;simp only [seval,hb1];refine hR _ ⟨hbl,trivial,?_⟩;rw [hsucc,hgv,List.map_append];exact zat (zam rfl rfl) (by simp only [seval]; simp [zaf,Wk.refl]) (hokT (b + 1)) (by simp [zap,zdq]; rintro a (⟨w,_,rfl⟩ | rfl) <;> exact .val _)
   ·
    have hax : a = b:=(by omega);subst hax;refine zlF ?_;refine zl5 ?_;simp only [seval,z1,zqA,hal];refine ⟨by omega,?_⟩;refine zl5 ?_;simp only [seval,hm1];refine zl5 ?_;simp only [seval,hb1];have hfd:=zeF hao;have hsucc : al (a + 1) = ((al a).1 ++ [((al a).2 : Int)],(al a).2 + 1):=by
     show zmL x ts keys (a + 1) = _;rw [zmL,hfd]
    refine hR _ ⟨hbl,trivial,?_⟩;rw [hsucc,List.map_append];exact zlJ
  ·
   have hbx : b = x.locks.length:=(by omega);subst hbx;refine zlF ?_;refine zfK ?_;refine zlz ?_;have ea : aInts (zqc x) = .sl x.locks.length ((al x.locks.length).1.map iv) .shut:=by
    unfold aInts;rw [show (zqc x).length = x.locks.length from hal _]; rfl
   rw [ea] at h2;exact endA hH (zdC (zaK _ _ _) (Wk.refl _)) (by simp [zap,zaD,za3]) (h2 hz)
def zmU (x : Ring) (us : List Turn) : Option Int:=if us.length <= 6 then (if us.all fun u => inM u.key 0 (x.keys.length - 1) then none else some 0) else some 3
theorem zf3 {x : Ring} {us : List Turn} : zmU x us = none <-> us.length <= 6 /\ ∀ u ∈ us,0 <= u.key /\ u.key <= x.keys.length - 1:=by
 unfold zmU;split
 ·split
  ·rename_i h1 h2;simp only [true_iff];refine ⟨h1,fun u hu => zbU.1 (List.all_eq_true.1 h2 u hu)⟩
  ·rename_i h1 h2;simp only [reduceCtorEq,false_iff];intro h;exact h2 (List.all_eq_true.2 fun u hu => zbU.2 (h.2 u hu))
 ·rename_i h1;simp only [reduceCtorEq,false_iff];intro h; exact h1 h.1
theorem f121_c {r i : Nat} {x : Ring} {us : List Turn} (hx : x.Small) (hul : us.length < 2 ^ 30) (hr : H[r]? = some (.cells [zmI us] 50)) (hi : H[i]? = some (.cells x.l 26)) (hk : zmU x us = none -> k (.tup []) H) (hp : ∀ f,zmU x us = some f -> kp (.ifc 106 (iv f)) H) : FnC lv Tryz.prog 121 H [.op r 0,.op i 0] k kp:=by
 refine zlA (rs:=[]) (nt:=20) Tryz.f121 fun hH hA => ?_;simp only [zlW,Nat.reduceAdd];have hi2:=hi;rw [Ring.l] at hi2;refine zl5 ?_;simp only [seval,hr,zmI];refine zl6 ((f90_c (fun h => ?_) (fun h => ?_)))
 ·have h5 : (us.length : Int) <= 6:=by simpa using h
  have h6 : us.length <= 6:=by omega
  (try simp only [seval]);refine zl5 ?_;simp only [seval,hr,zmI];refine zlC ?_;refine zmt us.length (fun i : Nat => [(10,iv i)]) (fun _ => H) (fun i => (us.take i).all (fun u => inM u.key 0 (x.keys.length - 1)) = true) (by simp) (fun hHs hLt j hjn hj R hR => ?_);refine zfK ?_;refine zlu ?_;refine ⟨fun h2 => ?_,fun h2 => ?_⟩
  ·have hjl : j < us.length:=(by omega);obtain ⟨u,hu⟩:=zaE hjl;have hj1 : IntKind.i64.wrap ((j : Int) + 1) = ((j + 1 : Nat) : Int):=(by rw [zau _ (by omega)]; rfl);have htk : (us.take (j + 1)).all (fun u => inM u.key 0 (x.keys.length - 1)) = ((us.take j).all (fun u => inM u.key 0 (x.keys.length - 1)) && inM u.key 0 (x.keys.length - 1)):=by
    obtain ⟨hj',rfl⟩:=List.getElem?_eq_some_iff.1 hu;rw [List.take_succ_eq_append_getElem hj',List.all_append]; simp
   refine zly ?_;refine zl5 ?_;simp only [seval,zh5 hu,zaz hjl];refine zl5 ?_;simp only [seval,zay hi2];refine zl6 ((f89_c (x:=x) ?_));(try simp only [seval]);refine zl6 ((f152_c hx (by simp only [seval] <;> rfl) (by simp only [seval] <;> rfl) (fun hin => ?_) (fun hin => ?_)))
   ·(try simp only [seval]);refine zl5 ?_;simp only [seval,hj1];refine hR _ ⟨hjl,by rw [htk,hj,hin]; rfl,?_⟩;exact (zmG hHs)
   ·(try simp only [seval]);have hw : zmU x us = some 0:=by
     unfold zmU;rw [if_pos h6,if_neg];intro hc;have:=List.all_eq_true.1 hc u (zas hu);rw [hin] at this; cases this
    exact zaJ (Wk.refl _) rfl (Nat.le_refl _) hH (by simp [zap,zey]) (hp 0 hw)
  ·have hjx : j = us.length:=(by omega);subst hjx;rw [List.take_length] at hj;refine zlF ?_;have hw : zmU x us = none:=by
    unfold zmU;rw [if_pos h6,if_pos hj]
   exact zao (hk hw)
 ·have h5 : ¬ (us.length : Int) <= 6:=by simpa using h
  have h6 : ¬ us.length <= 6:=by omega
  exact zao (hp 3 (by unfold zmU; rw [if_neg h6]))
theorem zlg {r i : Nat} {x : Ring} {us : List Turn} (hx : x.Small) (hul : us.length < 2 ^ 30) (hr : H[r]? = some (.cells [zmI us] 50)) (hi : H[i]? = some (.cells x.l 26)) : AskC lv H (.fn (.func 121) [] [.op r 0,.op i 0]) (zmU x us):=fun L k kp h1 h2 =>
 zlY (f121_c hx hul (zay hr) (zay hi) h1 h2)
def zoV (x : Ring) (t : List Int) (n : Nat) (u : Turn) : Bool:=(zmy x t u.key.toNat).testBit n == u.opens
def bagB (x : Ring) (ts : List (List Int × Nat)) (us : List Turn) (n : Nat) : Bool:=ts.any fun y => us.all (zoV x y.1 n)
def zmF (x : Ring) (us : List Turn) (n : Nat) : List Int:=((List.range n).filter (bagB x (zlD x []) us)).map fun i : Nat => (i : Int)
def zs9 (x : Ring) (us : List Turn) : List Int:=zmF x us x.locks.length
theorem ziB (x : Ring) (us : List Turn) (n : Nat) : (zmF x us n).length <= n:=by
 unfold zmF;rw [List.length_map];have:=List.length_filter_le (bagB x (zlD x []) us) (List.range n);simpa using this
theorem zdS (x : Ring) (us : List Turn) (n : Nat) : zmF x us (n + 1) = zmF x us n ++ (if bagB x (zlD x []) us n then [(n : Int)] else []):=by
 unfold zmF;rw [List.range_succ,List.filter_append,List.map_append];congr 1;by_cases h : bagB x (zlD x []) us n = true <;> simp [h]
theorem f46_c {x : Ring} {us : List Turn} (hnr : zmA lv) (hmain : H[0]? = some .main) (hs : x.Small) (hul : us.length < 2 ^ 30) (h1 : zlS x (zmU x us) ≠ 0 -> k (.tup [.sl 0 [] .exact,iv (zlS x (zmU x us))]) H) (h2 : zlS x (zmU x us) = 0 -> k (.tup [aInts (zs9 x us),iv 0]) H) : FnC lv Tryz.prog 46 H [x.av,zmI us] k kp:=by
 have hmn : ∀ L : List AObj,(H ++ L)[0]? = some .main:=fun L => zay hmain;refine zlA (rs:=[.tmp 4,.tmp 5]) (nt:=81) Tryz.f46 fun hH hA => ?_;simp only [zlW,Nat.reduceAdd,Ring.av];refine zl5 ?_;simp only [seval,Ring.l,zmI];(repeat apply zaa);refine zcb ?_;refine zl5 ?_;simp only [seval,List.mapM_cons,List.mapM_nil,Option.pure_def,Option.bind_eq_bind];have hask : AskC lv (H ++ [.cells x.l 26,.cells [zmI us] 50]) _ (zmU x us):=zlg (r:=H.length + 1) (i:=H.length) hs hul (by simp only [seval]) (by simp only [seval]);refine zl6 ((f99_c hnr (hmn _) hs hask (fun hz => ?_) (fun hz => ?_)))
 ·(try simp only [seval]);refine zfK ?_;refine zlu ?_;refine ⟨fun h => ?_,fun h => absurd (by simpa using h) hz⟩;refine zfK ?_;refine zlz ?_;exact endA hH (Wk.refl _) (by simp [zap,zaD,zbh]) (h1 hz)
 ·(try simp only [seval]);refine zfK ?_;obtain ⟨ho,hne⟩:=zaP.1 hz;have hx:=zbp ho;have hx4:=hx.keys;have hx5:=hx.locks;have hle:=zbl hx [];have hlk : x.l ++ zlV x = iv x.cuts :: zl8 x.keys :: zlL x.locks :: zl4 x.tries :: zlV x:=rfl;obtain ⟨hu6,hus⟩:=zf3.1 (zaN.1 ho).2;refine zlu ?_;refine zly ?_;refine zfK ?_
  (repeat apply zaa); refine zbV (t:=9) (sz:=1) (el:=3) (by simp only [seval] <;> rfl) ?_
  (repeat apply zaa);refine zbQ ?_;simp only [seval];refine zl5 ?_;simp only [seval,hlk,zlL];refine zlC ?_;have hb:=zbm x [];have hnd:=zba x [];have h4:=zbt hx [];have hall:=zcO (zlD x []) (zlK x).length hb;have hg3 : ∀ L : List AObj,(H ++ L)[H.length + 2 + 1]? = L[3]?:=fun L => zbD H L 3;refine zaB x.locks.length (fun n : Nat => [(9,.sl (zmF x us n).length ((zmF x us n).map iv) (.opn (H.length + 4))),(31,iv n)]) (fun n => H ++ [AObj.cells x.l 26,.cells [zmI us] 50,.cells x.l 26,setObj (zlD x []) (zlK x).length,.tail (zmF x us n).length 1 3]) (fun _ => True) (fun _ _ => rfl) (by simp only [seval]; simp [zaf,Wk.refl]; first | exact Wk.refl _ | exact ⟨Wk.refl _,Wk.refl _⟩) rfl (fun _ _ _ => by simp) trivial (fun hHs hLt n hnn hno R hR => ?_);refine zfK ?_;refine zlu ?_;refine ⟨fun h => ?_,fun h => ?_⟩
  ·
   have hnl : n < x.locks.length:=(by omega);have hn1 : IntKind.i64.wrap ((n : Int) + 1) = ((n + 1 : Nat) : Int):=(by rw [zau _ (by omega)]; rfl);have hwl:=ziB x us n;have hokB0 : HOk (H ++ [AObj.cells x.l 26,.cells [zmI us] 50,.cells x.l 26,setObj (zlD x []) (zlK x).length,.tail 0 1 3]):=hHs;have hokB : ∀ m,HOk (H ++ [AObj.cells x.l 26,.cells [zmI us] 50,.cells x.l 26,setObj (zlD x []) (zlK x).length,.tail m 1 3]):=fun m => by
    have h1:=zec (H:=H ++ [AObj.cells x.l 26,.cells [zmI us] 50,.cells x.l 26,setObj (zlD x []) (zlK x).length]) (L:=[]) (o:=.tail 0 1 3) (o':=.tail m 1 3) (by simpa using hokB0) (fun _ => trivial);simpa using h1
   have hokI : ∀ m sn,HOk (H ++ [AObj.cells x.l 26,.cells [zmI us] 50,.cells x.l 26,setObj (zlD x []) (zlK x).length,.tail m 1 3,.iter (H.length + 2 + 1) (zlK x).length sn (zlK x).length]):=fun m sn => by
    have h1 : (H ++ [AObj.cells x.l 26,.cells [zmI us] 50,.cells x.l 26,setObj (zlD x []) (zlK x).length,.tail m 1 3,.iter (H.length + 2 + 1) (zlK x).length sn (zlK x).length]) = (H ++ [AObj.cells x.l 26,.cells [zmI us] 50,.cells x.l 26,setObj (zlD x []) (zlK x).length,.tail m 1 3]) ++ [.iter (H.length + 2 + 1) (zlK x).length sn (zlK x).length]:=(by simp);rw [h1];intro z hz;rcases List.mem_append.1 hz with h | h
    ·exact (hokB m z h).mono (by simp)
    ·rw [List.mem_singleton.1 h]; show H.length + 2 + 1 < _; simp
   have hokC : ∀ m sn (t : List Int),HOk (H ++ [AObj.cells x.l 26,.cells [zmI us] 50,.cells x.l 26,setObj (zlD x []) (zlK x).length,.tail m 1 3,.iter (H.length + 2 + 1) (zlK x).length sn (zlK x).length,.cells (t.map iv) 132]):=fun m sn t => by
    have h1 : (H ++ [AObj.cells x.l 26,.cells [zmI us] 50,.cells x.l 26,setObj (zlD x []) (zlK x).length,.tail m 1 3,.iter (H.length + 2 + 1) (zlK x).length sn (zlK x).length,.cells (t.map iv) 132]) = (H ++ [AObj.cells x.l 26,.cells [zmI us] 50,.cells x.l 26,setObj (zlD x []) (zlK x).length,.tail m 1 3,.iter (H.length + 2 + 1) (zlK x).length sn (zlK x).length]) ++ [.cells (t.map iv) 132]:=(by simp);rw [h1];refine zc6 (hokI m sn) fun z hz n => ?_;rw [List.mem_singleton.1 hz];intro a ha;obtain ⟨w,_,rfl⟩:=List.mem_map.1 ha;exact .val _
   refine zly ?_;refine zfK ?_;(repeat apply zaa);refine zcb ?_;(repeat apply zaa);refine zbQ ?_;simp only [seval];refine zl5 ?_;simp only [seval,zaL,hg3];refine zlC ?_;refine za9 (measure fun vs : List (List Int × Nat) => (zlD x []).length - vs.length).wf (fun vs => []) (fun vs => H ++ [AObj.cells x.l 26,.cells [zmI us] 50,.cells x.l 26,setObj (zlD x []) (zlK x).length,.tail (zmF x us n).length 1 3,.iter (H.length + 2 + 1) (zlK x).length (vs.map (·.2)).toArray (zlK x).length]) (fun vs => ((vs.map (·.2)).Nodup /\ ∀ y ∈ vs,y ∈ zlD x []) /\ ∀ y ∈ vs,us.all (zoV x y.1 n) = false) [] (fun _ _ => rfl) (by simp) (by simp [zaL,zmI]) (fun _ _ => by simp) ⟨⟨by simp,by simp⟩,by simp⟩ (fun hHs3 hLt3 vs hok R3 hR3 => ?_);refine zl5 ?_;simp only [seval,zaL,hg3];refine ⟨hall.elim .inl (fun h => .inr (.inl h)),fun e he hn => ?_,fun hs => ?_⟩
   ·obtain ⟨y,hy,rfl⟩ : ∃ y ∈ zlD x [],zlH y = e:=(by simpa using he);have hyn : y.2 ∉ vs.map (·.2):=(by simpa [zlH] using hn);have hok':=zdk hok.1 hy hyn;have hrel:=zdl hok';refine zlu ?_;refine zly ?_;refine zlC ?_;obtain ⟨h41,h42⟩:=h4 y hy;have hborn : (zlH y).born = y.2:=rfl;have hlen : (y.1.map iv).length = 4:=(by simp [h41]);have hdrop : List.drop 4 [AV.val (Value.int IntKind.i64 0),AV.val (Value.int IntKind.i64 0),AV.val (Value.int IntKind.i64 0),AV.val (Value.int IntKind.i64 0)] = []:=rfl;refine zl5 ?_;simp only [seval,zaL,hg3,Array.back?_push,hborn,zcL hnd hy,zb7,h41,hlen,hdrop];refine zl5 ?_;simp only [seval,zmI];refine zlC ?_;rw [zdm];refine zmt us.length (fun j : Nat => [(42,iv j)]) (fun _ => H ++ [AObj.cells x.l 26,.cells [zmI us] 50,.cells x.l 26,setObj (zlD x []) (zlK x).length,.tail (zmF x us n).length 1 3,.iter (H.length + 2 + 1) (zlK x).length ((vs ++ [y]).map (·.2)).toArray (zlK x).length,.cells (y.1.map iv) 132]) (fun j => (us.take j).all (zoV x y.1 n) = true) (by simp) (fun hHs4 hLt4 j hjn hj R4 hR4 => ?_);refine zfK ?_;refine zlu ?_;refine ⟨fun h2 => ?_,fun h2 => ?_⟩
    ·
     have hjl : j < us.length:=(by omega);obtain ⟨u,hu⟩:=zaE hjl;obtain ⟨hk0,hk1⟩:=hus u (zas hu);obtain ⟨uk,uo⟩:=u;simp only at hk0 hk1;obtain ⟨kn,rfl⟩ : ∃ m : Nat,uk = m:=⟨uk.toNat,by omega⟩;have hkn : kn < 4:=(by omega);have hj1 : IntKind.i64.wrap ((j : Int) + 1) = ((j + 1 : Nat) : Int):=(by rw [zau _ (by omega)]; rfl);have htk : (us.take (j + 1)).all (zoV x y.1 n) = ((us.take j).all (zoV x y.1 n) && zoV x y.1 n ⟨kn,uo⟩):=by
      obtain ⟨hj',e5⟩:=List.getElem?_eq_some_iff.1 hu;rw [List.take_succ_eq_append_getElem hj',List.all_append,e5]; simp
     obtain ⟨w,hw⟩:=zaE (xs:=y.1) (i:=kn) (by omega);have hwb:=h42 w (zas hw);obtain ⟨wn,rfl⟩ : ∃ n : Nat,w = n:=⟨w.toNat,by omega⟩;have b4 : (0 <= (kn : Int) /\ (kn : Int) < 4) = True:=(by simp; omega);have b3 : (0 <= (wn : Int) /\ (wn : Int) < 3) = True:=(by simp; omega);have hm:=zdn (x:=x) (by omega) kn wn;have hfit : zoV x y.1 n ⟨kn,uo⟩ = ((zmf x kn wn).testBit n == uo):=by
      unfold zoV zmy;rw [Int.toNat_natCast,u8z y.1 kn hw]; rfl
     have hne0 : ((n : Int) != (n : Int)) = false:=(by simp);refine zly ?_;refine zl5 ?_;simp only [seval,zh5 hu,zaz hjl];refine zfK ?_;refine zl6 ((f122_c ?_));(try simp only [seval]);refine zma 23 ?_;simp only [seval,b4,b3,zbf hw,zcH x hkn,zb0 x hkn (show wn < 3 by omega),zfz,List.mapM_cons,List.mapM_nil,Option.pure_def,Option.bind_eq_bind];refine znT (iv n) (zlY (f123_c ⟨rfl,rfl⟩)) ?_;(try simp only [seval,hne0,b4,b3,zbf hw,zcH x hkn,zb0 x hkn (show wn < 3 by omega),zfz,List.mapM_cons,List.mapM_nil,Option.pure_def,Option.bind_eq_bind]);refine qInv (bv ((zmf x kn wn).testBit n == uo)) (zii hm ⟨rfl,rfl⟩) ?_;(try simp only [seval]);refine zlu ?_;refine ⟨fun h3 => ?_,fun h3 => ?_⟩
     ·
      have hff : zoV x y.1 n ⟨kn,uo⟩ = false:=(by rw [hfit]; simpa using h3);have hf : us.all (zoV x y.1 n) = false:=by
       apply Bool.eq_false_iff.2;intro hc;have h5:=List.all_eq_true.1 hc _ (zas hu);rw [hff] at h5; cases h5
      refine zlF ?_;refine hR3 _ ⟨vs ++ [y],hrel,⟨hok',fun z hz => ?_⟩,?_⟩
      ·rcases List.mem_append.1 hz with h | h
       ·exact hok.2 z h
       ·rw [List.mem_singleton.1 h]; exact hf
      ·exact zat (zam rfl rfl) (by simp) (hokI _ _) (by simp)
     ·
      have hff : zoV x y.1 n ⟨kn,uo⟩ = true:=(by rw [hfit]; simpa using h3);refine zly ?_;refine zl5 ?_;simp only [seval,hj1];refine hR4 _ ⟨hjl,by rw [htk,hj,hff]; rfl,?_⟩;exact zat (zam rfl rfl) (by simp only [seval]; simp [zaf,Wk.refl]) (hokC _ _ _) (by simp [zap])
    ·
     have hjx : j = us.length:=(by omega);subst hjx;rw [List.take_length] at hj;have hbag : bagB x (zlD x []) us n = true:=List.any_eq_true.2 ⟨y,hy,hj⟩;have hsucc : zmF x us (n + 1) = zmF x us n ++ [(n : Int)]:=(by rw [zdS,if_pos hbag]);have hsl : (zmF x us n ++ [(n : Int)]).length = (zmF x us n).length + 1:=(by simp);refine zlF ?_;refine zl5 ?_;simp only [seval,z1,zqA];refine ⟨by omega,?_⟩;refine zlF ?_;refine zl5 ?_;simp only [seval,hn1];refine hR _ ⟨hnl,trivial,?_⟩;rw [hsucc,hsl,List.map_append];exact zat (zam rfl rfl) (by simp only [seval]; simp [zaf,Wk.refl]) (hokB _) (by simp [zap,zdq]; rintro a (⟨w,_,rfl⟩ | rfl) <;> exact .val _)
   ·have hp : vs.Perm (zlD x []):=zct hok.1.1 hnd hok.1.2 fun y hy => by
     have:=hs (zlH y) (by simp; exact ⟨y.1,y.2,hy,rfl⟩) (hb y hy);simpa [zlH] using this
    have hbag : bagB x (zlD x []) us n = false:=by
     apply Bool.eq_false_iff.2;intro hc;obtain ⟨y,hy,hf⟩:=List.any_eq_true.1 hc;rw [hok.2 y (hp.mem_iff.2 hy)] at hf; cases hf
    have hsucc : zmF x us (n + 1) = zmF x us n:=(by rw [zdS,hbag]; simp);refine zlu ?_;refine zlF ?_;refine zl5 ?_;simp only [seval,hn1];refine hR _ ⟨hnl,trivial,?_⟩;rw [hsucc];exact zat (zam rfl rfl) (by simp only [seval]; simp [zaf,Wk.refl]) (hokB _) (by simp [zap,zdq])
  ·
   have hnx : n = x.locks.length:=(by omega);subst hnx;refine zlF ?_;refine zfK ?_;refine zlz ?_;exact endA hH (zdC (zaK _ _ _) (Wk.refl _)) (by simp [zap,zaD,za3]) (h2 hz)
def digs (c j : Nat) : List Int:=(List.range 4).map fun p => if p < c then (((j / 4 ^ (c - 1 - p)) % 4 : Nat) : Int) else 0
def znI (c j t : Nat) : List Int:=(List.range 4).map fun p => if c - t <= p then 0 else (digs c j).getD p 0
def zoL (c j t : Nat) : Bool:=(List.range c).all fun p => p < c - t || (digs c j).getD p 0 == 3
theorem zdu (c j : Nat) : (digs c j).length = 4:=by simp [digs]
theorem zcC (c j t : Nat) : (znI c j t).length = 4:=by simp [znI]
theorem zjp : ∀ c,c < 5 -> ∀ j,j < 4 ^ c -> znI c j 0 = digs c j /\ (zoL c j c = true -> j + 1 = 4 ^ c) /\ (∀ w ∈ digs c j,0 <= w /\ w <= 3) /\ zoL c j 0 = true:=by decide +kernel
theorem zuK : ∀ c,c < 5 -> ∀ j,j < 4 ^ c -> ∀ t,t < c -> (znI c j t)[c - 1 - t]? = some ((digs c j).getD (c - 1 - t) 0) /\ (znI c j t).set (c - 1 - t) 0 = znI c j (t + 1):=by decide +kernel
theorem zuJ : ∀ c,c < 5 -> ∀ j,j < 4 ^ c -> ∀ t,t < c -> zoL c j t = true -> (digs c j).getD (c - 1 - t) 0 = 3 -> zoL c j (t + 1) = true:=by decide +kernel
theorem zuI : ∀ c,c < 5 -> ∀ j,j < 4 ^ c -> ∀ t,t < c -> zoL c j t = true -> (digs c j).getD (c - 1 - t) 0 = 3 \/ (znI c j t).set (c - 1 - t) ((digs c j).getD (c - 1 - t) 0 + 1) = digs c (j + 1):=by decide +kernel
theorem zuH : ∀ c,c < 5 -> ∀ j,j < 4 ^ c -> ∀ t,t < c -> zoL c j t = true -> (digs c j).getD (c - 1 - t) 0 = 3 \/ j + 1 < 4 ^ c:=by decide +kernel
theorem zkT (c : Nat) : digs c 0 = [0,0,0,0]:=by simp [digs,List.range_succ]
def zoy (c : Nat) (f : List Int -> Bool) : Option (List Int):=(((List.range (4 ^ c)).map (digs c)).find? f).map fun d => d.take c
theorem zh2 {T T' : List (Nat × AV)} (h : ∀ p ∈ T',∃ b,look T p.1 = some b /\ Wk b p.2) {t : Nat} {a : AV} (e : look T' t = some a) : ∃ b,look T t = some b /\ Wk b a:=h _ (zbB e)
def DoC (lv : Bool) (H : List AObj) (so : AV) (f : List Int -> Bool) : Prop:=∀ (L : List AObj) (ds : List Int) (k kp : AV -> List AObj -> Prop),ds.length = 4 -> (∀ w ∈ ds,0 <= w /\ w <= 3) -> k (bv (f ds)) (H ++ L) -> CallC lv Tryz.prog so (H ++ L) [.agg (ds.map iv)] k kp
def zpd (H : List AObj) (x : Ring) (so : AV) (c j : Nat) : AS:=⟨[(0,.rp (x.l ++ zlV x)),(1,so),(6,.op H.length 0)],H ++ [.cells ((digs c j).map iv) 108]⟩
theorem f137_c {x : Ring} {so : AV} {f : List Int -> Bool} (hx : x.Ok) (hso : DoC lv H so f) (hk : k (.tup [aInts ((zoy x.cuts.toNat f).getD []),bv (zoy x.cuts.toNat f).isSome]) H) : FnC lv Tryz.prog 137 H [.rp (x.l ++ zlV x),so] k kp:=by
 refine zlA (rs:=[.tmp 4,.tmp 5]) (nt:=43) Tryz.f137 fun hH hA => ?_;simp only [zlW,Nat.reduceAdd];obtain ⟨hc1,hc4⟩:=hx.cuts;obtain ⟨c,hc⟩ : ∃ c : Nat,x.cuts = c:=⟨x.cuts.toNat,by omega⟩;have hcl : c < 5:=by omega
 have hp : 0 < 4 ^ c:=Nat.pow_pos (by decide);have hlk : x.l ++ zlV x = iv x.cuts :: zl8 x.keys :: zlL x.locks :: zl4 x.tries :: zlV x:=rfl;refine zfK ?_;(repeat apply zaa);refine zjB (fun m => zpd H x so c (4 ^ c - 1 - m)) (fun m => m < 4 ^ c /\ ∀ j < 4 ^ c - 1 - m,f (digs c j) = false) (l:=0) rfl (fun m hm => ?_) (fun hb => ⟨4 ^ c - 1,?_⟩)
 ·obtain ⟨hm,hbef⟩:=hm;generalize hj : 4 ^ c - 1 - m = j at hbef ⊢;have hjl : j < 4 ^ c:=by omega
  obtain ⟨hz0,hall3,hdb,ht0⟩:=zjp c hcl j hjl;have hdl : ((digs c j).map iv).length = 4:=by simp [zdu]
  have htk : List.take 4 ((digs c j).map iv) = (digs c j).map iv:=List.take_of_length_le (by omega);unfold zpd;refine zl5 ?_;simp only [seval,hdl,htk];refine zqQ (hso _ _ _ _ (zdu c j) hdb ?_);(try simp only [seval]);refine zlu ?_;refine ⟨fun h => ?_,fun h => ?_⟩
  ·
   have hcn : x.cuts.toNat = c:=(by omega);have hfi : zoy x.cuts.toNat f = some ((digs c j).take c):=by
    rw [hcn];unfold zoy;rw [zfN (j:=j) (x:=digs c j) (by simp [hjl]) h fun y hy => by
     rw [<- List.map_take,List.take_range,Nat.min_eq_left (by omega)] at hy;obtain ⟨j',hj',rfl⟩:=List.mem_map.1 hy;exact hbef j' (List.mem_range.1 hj')]
    rfl
   refine zl5 ?_;simp only [seval,hlk];refine ⟨by omega,by omega,?_⟩;refine zl6 ((f94_o (xs:=(digs c j).take c) (by simp only [seval] <;> rfl) (by rw [List.length_take,zdu]; omega) (by rw [List.map_take,hcn]; rfl) (by rw [List.length_take,zdu]; omega) ?_));(try simp only [seval]);refine zlz ?_;rw [hfi] at hk;exact endA hH (Wk.refl _) (by simp [zap,zaD,zbi]) hk
  ·
   have hw1 : IntKind.i64.wrap (x.cuts - 1) = (c : Int) - 1:=(by rw [zau _ (by omega),hc]);refine zly ?_;refine zl5 ?_;simp only [seval,hlk];refine zlC ?_;refine zaB c (fun t : Nat => [(7,iv ((c : Int) - 1 - (t : Int)))]) (fun t => H ++ [.cells ((znI c j t).map iv) 108]) (fun t => zoL c j t = true) (fun _ _ => rfl) (by simp only [seval]; simp [zaf,Wk.refl]; rw [hw1]; exact Wk.refl _) (by rw [hz0]) (fun _ _ _ => by simp) ht0 (fun hHs hLt t htn hto R hR => ?_);by_cases htc : t < c
   ·have hat : (c : Int) - 1 - (t : Int) = ((c - 1 - t : Nat) : Int):=(by omega);have hge : decide (((c - 1 - t : Nat) : Int) >= 0) = true:=(by simp);obtain ⟨hg,hset⟩:=zuK c hcl j hjl t htc;have b4 : (0 <= ((c - 1 - t : Nat) : Int) /\ ((c - 1 - t : Nat) : Int) < 4) = True:=(by simp; omega);rw [hat];refine zl5 ?_;simp only [seval,hge,decide_false,b4,zbf hg];refine zlu ?_;refine ⟨fun h2 => ?_,fun h2 => ?_⟩
    ·
     have h3 : (digs c j).getD (c - 1 - t) 0 = 3:=(by simpa using h2);have hl4 : ((znI c j t).map iv).length = 4:=(by simp [zcC]);have hlt4 : c - 1 - t < (znI c j t).length:=(by rw [zcC]; omega);have hoff : (c - 1 - t + 1 <= 4) = True:=(by simp; omega);have hw2 : IntKind.i64.wrap (((c - 1 - t : Nat) : Int) - 1) = (c : Int) - 1 - ((t + 1 : Nat) : Int):=(by rw [zau _ (by omega)]; omega);refine zly ?_;refine zl5 ?_;simp only [seval,b4,hl4,hoff,zfv hlt4,hset];refine ⟨by omega,?_⟩;refine zl5 ?_;simp only [seval,hw2];refine hR _ ⟨htc,zuJ c hcl j hjl t htc hto h3,?_⟩;rw [<- hat];exact zlJ
    ·have h3 : ¬ (digs c j).getD (c - 1 - t) 0 = 3:=(by simpa using h2);have h4:=(zuI c hcl j hjl t htc hto).resolve_left h3;have h5:=(zuH c hcl j hjl t htc hto).resolve_left h3;have hl4 : ((znI c j t).map iv).length = 4:=(by simp [zcC]);have hlt4 : c - 1 - t < (znI c j t).length:=(by rw [zcC]; omega);have hoff : (c - 1 - t + 1 <= 4) = True:=(by simp; omega);have hdg : 0 <= (digs c j).getD (c - 1 - t) 0 /\ (digs c j).getD (c - 1 - t) 0 <= 3:=by
      obtain ⟨w,hw⟩:=zaE (xs:=digs c j) (i:=c - 1 - t) (by rw [zdu]; omega);rw [u8z _ _ hw]; exact hdb w (zas hw)
     have hw3 : IntKind.i64.wrap ((digs c j).getD (c - 1 - t) 0 + 1) = (digs c j).getD (c - 1 - t) 0 + 1:=zau _ (by omega);refine zlF ?_;refine zl5 ?_;simp only [seval,hge,decide_false];refine zlu ?_;refine zl5 ?_;simp only [seval,b4,hl4,hoff,zbf hg,hw3,zfv hlt4,h4];refine zqT ?_;simp only [seval];refine ⟨rfl,m - 1,by omega,⟨by omega,fun j' hj' => ?_⟩,?_⟩
     ·by_cases e : j' = j
      ·rw [e]; exact h
      ·exact hbef j' (by omega)
     ·have e : 4 ^ c - 1 - (m - 1) = j + 1:=(by omega);show AS.Sub _ (zpd H x so c (4 ^ c - 1 - (m - 1)));rw [e];exact ⟨fun t' a e' => zh2 (by unfold zpd; simp only [seval]; simp [zaf,Wk.refl]; exact Wk.refl _) e',rfl⟩
   ·have htx : t = c:=(by omega);subst htx;have hat : (t : Int) - 1 - (t : Int) = -1:=(by omega);have hge : decide ((-1 : Int) >= 0) = false:=(by decide);rw [hat];refine zl5 ?_;simp only [seval,hge,decide_false];refine zlu ?_;refine zlF ?_;refine zl5 ?_;simp only [seval,hge,decide_false];refine zlu ?_;refine zly ?_;refine zfK ?_;refine zlz ?_;have hje:=hall3 hto;have hcn : x.cuts.toNat = t:=(by omega);have hfi : zoy x.cuts.toNat f = none:=by
     rw [hcn];unfold zoy;rw [zdt fun y hy => by
      obtain ⟨j',hj',rfl⟩:=List.mem_map.1 hy;have:=List.mem_range.1 hj';by_cases e : j' = j
      ·rw [e]; exact h
      ·exact hbef j' (by omega)]
     rfl
    rw [hfi] at hk;have hk : k (.tup [.sl 0 [] .shut,bv false]) H:=hk;exact endA hH (zdC (zaK _ _ _) (Wk.refl _)) (by simp [zap,zaD,za3]) hk
 ·refine zfK ?_;refine zfK ?_;(repeat apply zaa);refine zbQ ?_;simp only [seval];refine ziu ?_ (hb (4 ^ c - 1) ⟨by omega,fun j hj => by omega⟩);have e : 4 ^ c - 1 - (4 ^ c - 1) = 0:=by omega
  show AS.Sub _ (zpd H x so c (4 ^ c - 1 - (4 ^ c - 1)));rw [e];refine ⟨fun t' a e' => zh2 (by unfold zpd; simp only [seval]; simp [zaf,Wk.refl]) e',?_⟩;show _ = H ++ [AObj.cells ((digs c 0).map iv) 108];rw [zkT]; rfl
def cutS (x : Ring) : List Int -> Nat -> Nat × Option Int
 | [],due => (due,none)
 | n :: l,due => if inM n 0 (x.locks.length - 1) then (if due.testBit n.toNat then (due,some 2) else cutS x l (due ||| 2 ^ n.toNat)) else (due,some 1)
theorem zkZ {x : Ring} {l : List Int} {i : Nat} {n : Int} (h : l[i]? = some n) : ∀ due,cutS x (l.drop i) due = cutS x (n :: l.drop (i + 1)) due:=fun due => by
 obtain ⟨hj,rfl⟩:=List.getElem?_eq_some_iff.1 h;rw [List.drop_eq_getElem_cons hj]
theorem f138_c {r d : Nat} {x : Ring} {ds : List Int} {due : Nat} (hx : x.Ok) (hds : ds.length = 4) (hdue : due < 256) (hr : H[r]? = some (.cells [.rp (x.l ++ zlV x)] 100)) (hd : H[d]? = some (.cells [uv due] 110)) (hk : k (bv (zmk x.cuts ds x.locks x.locks.length == due)) H) : FnC lv Tryz.prog 138 H [.agg (ds.map iv),.op r 0,.op d 0] k kp:=by
 refine zlA (rs:=[.tmp 4]) (nt:=10) Tryz.f138 fun hH hA => ?_;simp only [zlW,Nat.reduceAdd];have hdl : (ds.map iv).length = 4:=by simp [hds]
 have htk : List.take 4 (ds.map iv) = ds.map iv:=List.take_of_length_le (by omega);have hc:=hx.cuts;have hl:=hx.locks;refine zfK ?_;refine zma 5 ?_;simp only [seval,zay hr,zay hd,hdl,htk];refine znT (uv (zmk x.cuts ds x.locks x.locks.length)) (zlY (f139_c hds (by omega) hl (fun l hl => by have:=(hx.lock l hl).1; omega) ⟨rfl,rfl⟩)) ?_;(try simp only [seval]);refine zlz ?_;exact endA hH (Wk.refl _) (by simp [zap]) (by rw [show (((zmk x.cuts ds x.locks x.locks.length : Nat) : Int) == (due : Int)) = (zmk x.cuts ds x.locks x.locks.length == due) from by rw [Bool.eq_iff_iff]; simp only [beq_iff_eq]; omega]; exact hk)
def dueF (l : List Int) : Nat:=l.foldl (fun due n => due ||| 2 ^ n.toNat) 0
theorem zkO {l : List Int} {i : Nat} {n : Int} (h : l[i]? = some n) : dueF (l.take (i + 1)) = dueF (l.take i) ||| 2 ^ n.toNat:=by
 obtain ⟨hj,rfl⟩:=List.getElem?_eq_some_iff.1 h;unfold dueF;rw [List.take_succ_eq_append_getElem hj,List.foldl_append]; rfl
theorem f134_c {a b d : Nat} {x : Ring} {l : List Int} (hx : x.Ok) (hll : l.length < 2 ^ 30) (hl : H[a]? = some (.cells [aInts l] 30)) (hr : H[b]? = some (.cells x.l 26)) (hd : H[d]? = some (.cells [uv 0] 110)) (had : a ≠ d) (hbd : b ≠ d) (hk : (cutS x l 0).2 = none -> k (.tup []) (H.set d (.cells [uv (cutS x l 0).1] 110))) (hp : ∀ f,(cutS x l 0).2 = some f -> kp (.ifc 106 (iv f)) (H.set d (.cells [uv (cutS x l 0).1] 110))) : FnC lv Tryz.prog 134 H [.op a 0,.op b 0,.op d 0] k kp:=by
 refine zlA (rs:=[]) (nt:=27) Tryz.f134 fun hH hA => ?_;simp only [zlW,Nat.reduceAdd];have hr2:=hr;rw [Ring.l] at hr2;have hx5:=hx.locks;have hw : IntKind.i64.wrap ((x.locks.length : Int) - 1) = x.locks.length - 1:=zau _ (by omega);have gx : ∀ z,(H.set d z)[b]? = some (.cells [iv x.cuts,zl8 x.keys,zlL x.locks,zl4 x.tries] 26):=fun z => by rw [List.getElem?_set_ne (Ne.symm hbd)]; exact hr2
 have gd : ∀ z,(H.set d z)[d]? = some z:=fun z => List.getElem?_set_self (get_lt hd);have gs : ∀ z z',(H.set d z).set d z' = H.set d z':=fun z z' => List.set_set ..;have hokb : ∀ m,HOk (H.set d (.cells [uv m] 110)):=fun m y hy => by
  rw [List.length_set];rcases List.mem_or_eq_of_mem_set hy with h | h
  ·exact hH y h
  ·rw [h]; intro a ha; simp at ha; subst ha; exact .val _
 refine zl5 ?_;simp only [seval,hl,aInts];refine zlC ?_;refine zaB l.length (fun i : Nat => [(7,iv i)]) (fun i => H.set d (.cells [uv (dueF (l.take i))] 110)) (fun i => cutS x l 0 = cutS x (l.drop i) (dueF (l.take i)) /\ dueF (l.take i) < 256) (fun _ _ => rfl) (by simp only [seval]; simp [zaf,Wk.refl]) (by exact zh7 hd) (fun _ _ _ => by simp) ⟨by simp [dueF],by simp [dueF]⟩ (fun hHs hLt i hin hi R hR => ?_);refine zfK ?_;refine zlu ?_;refine ⟨fun h => ?_,fun h => ?_⟩
 ·have hil : i < l.length:=by omega
  obtain ⟨n,hn⟩:=zaE hil;have hi1 : IntKind.i64.wrap ((i : Int) + 1) = ((i + 1 : Nat) : Int):=by rw [zau _ (by omega)]; rfl
  refine zly ?_;refine zl5 ?_;simp only [seval,za2 hn,zaz hil];refine zl5 ?_;simp only [seval,gx,zlL,hw];obtain ⟨hcut,hdl⟩:=hi;rw [zkZ hn] at hcut;refine zl6 ((f91_c ?_));(try simp only [seval]);refine zl6 ((f90_c (fun h2 => ?_) (fun h2 => ?_)))
  ·have h3 : inM n 0 (x.locks.length - 1) = true:=(by simpa [inM] using h2);obtain ⟨hn0,hn1⟩:=zbU.1 h3;obtain ⟨nn,rfl⟩ : ∃ m : Nat,n = m:=⟨n.toNat,by omega⟩;rw [cutS,if_pos h3,Int.toNat_natCast] at hcut;(try simp only [seval]);refine zl5 ?_;simp only [seval,gd];refine zl6 ((f135_c hdl ?_));(try simp only [seval]);refine zl6 ((f90_c (fun h4 => ?_) (fun h4 => ?_)))
   ·have h5 : (dueF (l.take i)).testBit nn = false:=(by simpa using h4);rw [h5] at hcut;simp only [Bool.false_eq_true,if_false] at hcut;(try simp only [seval]);refine zl5 ?_;simp only [seval,gd];refine zl6 ((f136_c hdl (by omega) ?_));(try simp only [seval,gd,gs]);refine zl5 ?_;simp only [seval,hi1];have hdt:=zkO hn;rw [Int.toNat_natCast] at hdt;refine hR _ ⟨hil,⟨by rw [hdt]; exact hcut,?_⟩,?_⟩
    ·rw [hdt]; exact Nat.or_lt_two_pow (n:=8) hdl (Nat.pow_lt_pow_right (by decide) (by omega))
    ·rw [hdt]; exact zlJ
   ·have h5 : (dueF (l.take i)).testBit nn = true:=(by simpa using h4);rw [h5,if_pos rfl] at hcut;have hp:=hp 2 (by rw [hcut]);rw [hcut] at hp;exact zaJ (H':=H.set d (.cells [uv (dueF (l.take i))] 110)) (G:=[]) (Wk.refl _) (by simp) (by simp) (hokb _) (by simp [zap,zey]) hp
  ·have h3 : ¬ inM n 0 (x.locks.length - 1) = true:=(by simpa [inM] using h2);rw [cutS,if_neg h3] at hcut;have hp:=hp 1 (by rw [hcut]);rw [hcut] at hp;exact zaJ (H':=H.set d (.cells [uv (dueF (l.take i))] 110)) (G:=[]) (Wk.refl _) (by simp) (by simp) (hokb _) (by simp [zap,zey]) hp
 ·have hix : i = l.length:=by omega
  subst hix;obtain ⟨hcut,hdl⟩:=hi;rw [List.drop_length,cutS,List.take_length] at hcut;refine zlF ?_;rw [List.take_length];have hk:=hk (by rw [hcut]);rw [hcut] at hk;exact zaJ (H':=H.set d (.cells [uv (dueF l)] 110)) (G:=[]) (Wk.refl _) (by simp) (by simp) (hokb _) (by simp [zaD]) hk
theorem zk0 {x : Ring} (hl : x.locks.length <= 4) : ∀ (l : List Int) (due : Nat),due < 256 -> (cutS x l due).1 < 256
 | [],due,h => h
 | n :: l,due,h => by
  rw [cutS];split
  ·rename_i h2;have:=zbU.1 h2;split
   ·exact h
   ·exact zk0 hl l _ (Nat.or_lt_two_pow (n:=8) h (Nat.pow_lt_pow_right (by decide) (by omega)))
  ·exact h
def zoR (x : Ring) (l : List Int) : Option (List Int):=zoy x.cuts.toNat fun ds => zmk x.cuts ds x.locks x.locks.length == (cutS x l 0).1
theorem zuO {a b d : Nat} {x : Ring} {l : List Int} (hx : x.Ok) (hll : l.length < 2 ^ 30) (hl : H[a]? = some (.cells [aInts l] 30)) (hr : H[b]? = some (.cells x.l 26)) (hd : H[d]? = some (.cells [uv 0] 110)) (had : a ≠ d) (hbd : b ≠ d) : AskT lv H (H.set d (.cells [uv (cutS x l 0).1] 110)) (.fn (.func 134) [] [.op a 0,.op b 0,.op d 0]) (cutS x l 0).2:=fun L k kp h1 h2 => by
 have e : (H ++ L).set d (.cells [uv (cutS x l 0).1] 110) = H.set d (.cells [uv (cutS x l 0).1] 110) ++ L:=List.set_append_left _ _ (get_lt hd);rw [<- e] at h1 h2;exact zlY (f134_c hx hll (zay hl) (zay hr) (zay hd) had hbd h1 h2)
theorem so_cut {r d : Nat} {x : Ring} {due : Nat} (hx : x.Ok) (hdue : due < 256) (hr : H[r]? = some (.cells [.rp (x.l ++ zlV x)] 100)) (hd : H[d]? = some (.cells [uv due] 110)) : DoC lv H (.fn (.func 138) [] [.op r 0,.op d 0]) (fun ds => zmk x.cuts ds x.locks x.locks.length == due):=fun L ds k kp h1 h2 h =>
 zlY (f138_c hx h1 hdue (zay hr) (zay hd) h)
theorem f62_c {x : Ring} {l : List Int} (hnr : zmA lv) (hmain : H[0]? = some .main) (hs : x.Small) (hll : l.length < 2 ^ 30) (h1 : zmC x (cutS x l 0).2 ≠ 0 -> k (.tup [.sl 0 [] .exact,iv (zmC x (cutS x l 0).2)]) H) (h2 : zmC x (cutS x l 0).2 = 0 -> zoR x l = none -> k (.tup [.sl 0 [] .exact,iv 11]) H) (h3 : zmC x (cutS x l 0).2 = 0 -> ∀ xs,zoR x l = some xs -> k (.tup [aInts xs,iv 0]) H) : FnC lv Tryz.prog 62 H [x.av,aInts l] k kp:=by
 have hmn : ∀ L : List AObj,(H ++ L)[0]? = some .main:=fun L => zay hmain;refine zlA (rs:=[.tmp 4,.tmp 5]) (nt:=29) Tryz.f62 fun hH hA => ?_;simp only [zlW,Nat.reduceAdd,Ring.av];refine zl5 ?_;simp only [seval,Ring.l];refine zfK ?_;refine zl5 ?_;simp only [seval,List.mapM_cons,List.mapM_nil,Option.pure_def,Option.bind_eq_bind];have hask : zm2 x = 0 -> AskT lv (H ++ [.cells x.l 26,.cells [aInts l] 30,.cells [.val (.int .u8 0)] 110]) (H ++ [.cells x.l 26,.cells [aInts l] 30,.cells [uv (cutS x l 0).1] 110]) (.fn (.func 134) [] [.op (H.length + 1) 0,.op H.length 0,.op (H.length + 2) 0]) (cutS x l 0).2:=fun hc => by
  have h:=zuO (lv:=lv) (H:=H ++ [.cells x.l 26,.cells [aInts l] 30,.cells [.val (.int .u8 0)] 110]) (a:=H.length + 1) (b:=H.length) (d:=H.length + 2) (zbH.1 hc) hll (by simp only [seval]) (by simp only [seval]) (by simp only [seval] <;> rfl) (by omega) (by omega);rwa [show (H ++ [AObj.cells x.l 26,.cells [aInts l] 30,.cells [.val (.int .u8 0)] 110]).set (H.length + 2) (.cells [uv (cutS x l 0).1] 110) = H ++ [.cells x.l 26,.cells [aInts l] 30,.cells [uv (cutS x l 0).1] 110] from zbR H _ 2 _] at h
 refine zl6 ((f87_t hnr (H':=H ++ [AObj.cells x.l 26,AObj.cells [aInts l] 30,AObj.cells [uv (cutS x l 0).1] 110]) (hmn _) (by simp) (fun h => zc6 hH ?_) hs hask (fun hc => ?_) (fun hc hz => ?_) (fun hz => ?_)))
 ·intro z hz n;simp only [List.mem_cons,List.not_mem_nil,or_false] at hz;rcases hz with rfl | rfl | rfl
  ·intro a ha;simp only [Ring.l,List.mem_cons,List.not_mem_nil,or_false] at ha;rcases ha with rfl | rfl | rfl | rfl
   ·exact .val _
   ·rw [zc5]; trivial
   ·rw [zci]; trivial
   ·rw [zch]; trivial
  ·intro a ha; simp at ha; subst ha; rw [zbi]; trivial
  ·intro a ha; simp at ha; subst ha; exact .val _
 ·(try simp only [seval]);refine zfK ?_;have hz : zmC x (cutS x l 0).2 ≠ 0:=fun e => hc (zaN.1 e).1;refine zlu ?_;refine ⟨fun h => ?_,fun h => absurd (by simpa using h) hz⟩;refine zfK ?_;refine zlz ?_;exact endA hH (Wk.refl _) (by simp [zap,zaD,zbh]) (h1 hz)
 ·(try simp only [seval]);refine zfK ?_;refine zlu ?_;refine ⟨fun h => ?_,fun h => absurd (by simpa using h) hz⟩;refine zfK ?_;refine zlz ?_;exact endA hH (Wk.refl _) (by simp [zap,zaD,zbh]) (h1 hz)
 ·(try simp only [seval]);refine zfK ?_;have hx:=zbp hz;refine zlu ?_;refine zly ?_;refine zl5 ?_;simp only [seval,List.mapM_cons,List.mapM_nil,Option.pure_def,Option.bind_eq_bind];refine zl6 ((f137_c hx (so_cut (r:=H.length + 3) (d:=H.length + 2) hx (zk0 hx.locks l 0 (by decide)) (by simp only [seval] <;> rfl) (by simp only [seval] <;> rfl)) ?_));(try simp only [seval]);rw [show zoy x.cuts.toNat (fun ds => zmk x.cuts ds x.locks x.locks.length == (cutS x l 0).1) = zoR x l from rfl];refine zfK ?_;refine zlu ?_;cases hm : zoR x l with
  | none =>
   refine ⟨fun h => ?_,fun h => by simp at h⟩;refine zfK ?_;refine zlz ?_;exact endA hH (Wk.refl _) (by simp [zap,zaD,zbh]) (h2 hz hm)
  | some xs =>
   refine ⟨fun h => by simp at h,fun h => ?_⟩;refine zly ?_;refine zfK ?_;refine zlz ?_;exact endA hH (Wk.refl _) (by simp [zap,zaD,zbi]) (h3 hz xs hm)
end
def exR (ts : List Try) : Ring:=⟨2,[⟨[3,1],⟨0,1⟩⟩,⟨[2,2],⟨0,0⟩⟩,⟨[1,3],⟨0,2⟩⟩],[[⟨2,3⟩,⟨0,1⟩],[⟨2,2⟩,⟨1,2⟩],[⟨0,1⟩,⟨2,3⟩]],ts⟩
def exLast : Try:=⟨2,2,true⟩
def exNever : Try:=⟨1,1,false⟩
def exOne : Ring:=⟨2,[⟨[2,2],⟨0,0⟩⟩],[[⟨2,3⟩,⟨0,1⟩],[⟨2,2⟩,⟨1,2⟩],[⟨0,1⟩,⟨2,3⟩]],[]⟩
theorem zbq {ts : List Try} (h : ts.length < 2 ^ 30) : (exR ts).Small:=⟨by show 3 < 2 ^ 30; decide,by show 3 < 2 ^ 30; decide,h,fun x hx => by simp only [exR,List.mem_cons,List.not_mem_nil,or_false] at hx; rcases hx with rfl | rfl | rfl <;> decide,fun x hx => by simp only [exR,List.mem_cons,List.not_mem_nil,or_false] at hx; rcases hx with rfl | rfl | rfl <;> decide⟩
theorem zhI : exOne.Small:=⟨by decide,by decide,by decide,by decide,by decide⟩
section
variable {H : List AObj} {k kp : AV -> List AObj -> Prop}
theorem zuC (hmain : H[0]? = some .main) (hk : k (.tup [aInts [0,1],iv 0]) H) : FnC true Tryz.prog 30 H [(exR []).av,iv 2,iv 2] k kp :=
 f30_c zaQ hmain (zbq (by decide)) (fun h => absurd (by decide +kernel) h) fun _ => by
  rw [show zp2 (exR []) (2 : Int).toNat (2 : Int).toNat = [0,1] by decide +kernel]; exact hk
theorem zsn (hmain : H[0]? = some .main) (hk : k (.tup [iv 3,iv 0]) H) : FnC true Tryz.prog 32 H [(exR []).av,iv 2,iv 2] k kp :=
 f32_c zaQ hmain (zbq (by decide)) (fun h => absurd (by decide +kernel) h) fun _ => by
  rw [show znC (cntM (exR []) (2 : Int).toNat (2 : Int).toNat (zlD (exR []) [])) (zlD (exR []) []).length = 3 by decide +kernel]; exact hk
theorem zsp (hmain : H[0]? = some .main) (hk : k (.tup [iv 4,iv 0]) H) : FnC true Tryz.prog 53 H [(exR [exLast]).av] k kp :=
 f53_c zaQ hmain (zbq (by decide)) (fun h => absurd (by decide +kernel) h) fun _ => by
  rw [show (zlD (exR [exLast]) []).length = 4 by decide +kernel]; exact hk
theorem ex_ask (hmain : H[0]? = some .main) (hk : k (.tup [iv 2,iv 2,iv 4,iv 0]) H) : FnC true Tryz.prog 55 H [(exR []).av] k kp :=
 f55_c zaQ hmain (zbq (by decide)) (fun h => absurd (by decide +kernel) h) (fun _ h => absurd h (by decide +kernel)) fun _ a b c h => by
  rw [show askR (exR []) = some (2,2,4) by decide +kernel] at h; cases h; exact hk
theorem zso (hmain : H[0]? = some .main) (hk : k (.tup [aInts [0,1,2],iv 0]) H) : FnC true Tryz.prog 38 H [(exR [exLast]).av] k kp :=
 f38_c zaQ hmain (zbq (by decide)) (fun h => absurd (by decide +kernel) h) (fun _ h => absurd h (by decide +kernel)) fun _ xs h => by
  rw [show znV (exR [exLast]) = some [0,1,2] by decide +kernel] at h; cases h; exact hk
theorem zsq (hmain : H[0]? = some .main) (hk : k (.tup [aInts [0,1,0],iv 0]) H) : FnC true Tryz.prog 40 H [exOne.av] k kp :=
 f40_c zaQ hmain zhI (fun h => absurd (by decide +kernel) h) fun _ => by
  rw [show zqc exOne = [0,1,0] by decide +kernel]; exact hk
theorem zsm (hmain : H[0]? = some .main) (hk : k (.tup [aInts [1,2],iv 0]) H) : FnC true Tryz.prog 46 H [(exR []).av,zmI [⟨0,false⟩]] k kp :=
 f46_c zaQ hmain (zbq (by decide)) (by decide) (fun h => absurd (by decide +kernel) h) fun _ => by
  rw [show zs9 (exR []) [⟨0,false⟩] = [1,2] by decide +kernel]; exact hk
theorem ex_cut (hmain : H[0]? = some .main) (hk : k (.tup [aInts [2,1],iv 0]) H) : FnC true Tryz.prog 62 H [(exR []).av,aInts [0,1]] k kp :=
 f62_c zaQ hmain (zbq (by decide)) (by decide) (fun h => absurd (by decide +kernel) h) (fun _ h => absurd h (by decide +kernel)) fun _ xs h => by
  rw [show zoR (exR []) [0,1] = some [2,1] by decide +kernel] at h; cases h; exact hk
theorem zsl (hmain : H[0]? = some .main) (hk : k (.tup [aInts [0],iv 0]) H) : FnC true Tryz.prog 51 H [(exR [exNever]).av] k kp :=
 f51_c zaQ hmain (zbq (by decide)) (fun h => absurd (by decide +kernel) h) fun _ => by
  rw [show zs7 (exR [exNever]) = [0] by decide +kernel]; exact hk
theorem zuD (hmain : H[0]? = some .main) (hk : k (.tup [aInts [0,1],iv 0]) H) : FnC true Tryz.prog 42 H [(exR []).av] k kp :=
 f42_c zaQ hmain (zbq (by decide)) (fun h => absurd (by decide +kernel) h) (fun _ h => absurd h (by decide +kernel)) fun _ xs h => by
  rw [show zoM (exR []) = some [0,1] by decide +kernel] at h; cases h; exact hk
end
structure TinS where
 nums : List Int
 g : Int
 s : Int
def tinO (τ : TinS) : AObj:=.cells [aInts τ.nums,.val (.int .i64 τ.g),.val (.int .u64 τ.s)] 98
def xorU (a b : Int) : Int:=IntKind.u64.wrap (BitVec.ofInt IntKind.u64.bits a ^^^ BitVec.ofInt IntKind.u64.bits b).toNat
def word0 (g : Int) : Int:=IntKind.u64.wrap (IntKind.u64.wrap (IntKind.u64.wrap g * 15074714826142052245) + 11400714819323198485)
def ztz (τ : TinS) : Int:=match τ.nums[τ.g.toNat]? with
 | some x => xorU (word0 τ.g) (IntKind.u64.wrap (IntKind.u64.wrap x * 12620523164723586485))
 | none => word0 τ.g
def mix1 (s w : Int) : Int:=IntKind.u64.wrap (IntKind.u64.wrap (s + w) * 13787848793156543929)
def mix2 (s : Int) : Int:=xorU s (s.fdiv (2 ^ min 31 IntKind.u64.bits))
def out1 (s : Int) : Int:=(xorU s (s.fdiv (2 ^ min 27 IntKind.u64.bits))).fdiv (2 ^ min 9 IntKind.u64.bits)
def tick (τ : TinS) : TinS:=⟨τ.nums,τ.g + 1,mix2 (mix1 τ.s (ztz τ))⟩
def outT (τ : TinS) : Int:=out1 (IntKind.u64.wrap ((tick τ).s * 10723151780598845931))
theorem zta (n : Int) (h0 : 0 <= n) (h : n < 2 ^ 64) : IntKind.u64.wrap n = n:=by
 have h1 : IntKind.u64.bits = 64:=rfl;have h2 : IntKind.u64.signed = false:=rfl;unfold IntKind.wrap;rw [h1,h2];simp;omega
theorem zjS (n : Int) : 0 <= IntKind.u64.wrap n /\ IntKind.u64.wrap n < 2 ^ 64:=by
 have h1 : IntKind.u64.bits = 64:=rfl;have h2 : IntKind.u64.signed = false:=rfl;unfold IntKind.wrap;rw [h1,h2];simp;omega
theorem ze9 (s : Int) : 0 <= out1 s /\ out1 s < 2 ^ 55:=by
 unfold out1 xorU;have h:=zjS (BitVec.ofInt IntKind.u64.bits s ^^^ BitVec.ofInt IntKind.u64.bits (s.fdiv (2 ^ min 27 IntKind.u64.bits))).toNat;have e : (2 : Int) ^ min 9 IntKind.u64.bits = 512:=by decide
 rw [e,Int.fdiv_eq_ediv_of_nonneg _ (show (0 : Int) <= 512 by decide)];omega
def zmP (τ : TinS) (n : Int) : Int:=if n < 1 then 0 else (outT τ).tmod (n + 1)
theorem zaX (τ : TinS) (n : Int) : 0 <= zmP τ n /\ (zmP τ n <= n \/ zmP τ n = 0):=by
 unfold zmP;split
 ·omega
 ·have h:=(ze9 (IntKind.u64.wrap ((tick τ).s * 10723151780598845931))).1;have h1:=Int.tmod_nonneg (n + 1) h;have h2:=Int.tmod_lt_of_pos (outT τ) (show 0 < n + 1 by omega);unfold outT at h2 ⊢;omega
def zmO (τ : TinS) (lo hi : Int) : Int:=lo + zmP τ (hi - lo)
theorem za1 (τ : TinS) {lo hi : Int} (h : lo <= hi) : lo <= zmO τ lo hi /\ zmO τ lo hi <= hi:=by
 have:=zaX τ (hi - lo);unfold zmO;omega
def znD (τ : TinS) (n : Int) : Bool:=zmP τ (n - 1) == 0
def znG (τ : TinS) (lo hi : Int) : Band:=⟨zmO τ lo hi,zmO (tick τ) (zmO τ lo hi) hi⟩
theorem zir (τ : TinS) {lo hi : Int} (h : lo <= hi) : lo <= (znG τ lo hi).min /\ (znG τ lo hi).min <= (znG τ lo hi).max /\ (znG τ lo hi).max <= hi:=by
 have h1:=za1 τ h;have h2:=za1 (tick τ) h1.2;exact ⟨h1.1,h2.1,h2.2⟩
structure TinAt (Gf : TinS -> List AObj) (t N : Nat) : Prop where
 len : ∀ τ,(Gf τ).length = N
 get : ∀ τ,(Gf τ)[t]? = some (tinO τ)
 set : ∀ τ τ',(Gf τ).set t (tinO τ') = Gf τ'
 ok : ∀ m τ τ',(∀ z ∈ Gf τ,OLt m z) -> ∀ z ∈ Gf τ',OLt m z
theorem TinAt.more {Gf : TinS -> List AObj} {t N : Nat} (h : TinAt Gf t N) (L : List AObj) : TinAt (fun τ => Gf τ ++ L) t (N + L.length) where
 len:=fun τ => by simp [h.len]
 get:=fun τ => zay (h.get τ)
 set:=fun τ τ' => by show (Gf τ ++ L).set t _ = _; rw [List.set_append_left _ _ (get_lt (h.get τ)),h.set]
 ok:=fun m τ τ' hk z hz => (List.mem_append.1 hz).elim (fun hz => h.ok m τ τ' (fun v hv => hk v (List.mem_append_left _ hv)) z hz) (fun hz => hk z (List.mem_append_right _ hz))
theorem TinAt.hok {Gf : TinS -> List AObj} {t N : Nat} (h : TinAt Gf t N) {τ : TinS} (hH : HOk (Gf τ)) (τ' : TinS) : HOk (Gf τ'):=fun z hz => by
 have:=h.ok N τ τ' (fun w hw => by have:=hH w hw; rwa [h.len] at this) z hz;rwa [h.len]
section
variable {Gf : TinS -> List AObj} {t N : Nat} (h : TinAt Gf t N)
include h
theorem TinAt.g0 (τ : TinS) (L : List AObj) : (Gf τ ++ L)[N]? = L[0]?:=by have:=zco (Gf τ) L 0; rwa [h.len] at this
theorem TinAt.g1 (τ : TinS) (L : List AObj) : (Gf τ ++ L)[N + 1]? = L[1]?:=by have:=zco (Gf τ) L 1; rwa [h.len] at this
theorem TinAt.g2 (τ : TinS) (L : List AObj) : (Gf τ ++ L)[N + 1 + 1]? = L[2]?:=by have:=zco (Gf τ) L 2; rwa [h.len] at this
theorem TinAt.g3 (τ : TinS) (L : List AObj) : (Gf τ ++ L)[N + 1 + 1 + 1]? = L[3]?:=by have:=zco (Gf τ) L 3; rwa [h.len] at this
theorem TinAt.h2 (τ : TinS) (L : List AObj) : (Gf τ ++ L)[N + 2]? = L[2]?:=h.g2 τ L
theorem TinAt.h3 (τ : TinS) (L : List AObj) : (Gf τ ++ L)[N + 3]? = L[3]?:=h.g3 τ L
theorem TinAt.s0 (τ : TinS) (L : List AObj) (x : AObj) : (Gf τ ++ L).set N x = Gf τ ++ L.set 0 x:=by have:=zbR (Gf τ) L 0 x; rwa [h.len] at this
theorem TinAt.s1 (τ : TinS) (L : List AObj) (x : AObj) : (Gf τ ++ L).set (N + 1) x = Gf τ ++ L.set 1 x:=by have:=zbR (Gf τ) L 1 x; rwa [h.len] at this
theorem TinAt.s2 (τ : TinS) (L : List AObj) (x : AObj) : (Gf τ ++ L).set (N + 1 + 1) x = Gf τ ++ L.set 2 x:=by have:=zbR (Gf τ) L 2 x; rwa [h.len] at this
theorem TinAt.s3 (τ : TinS) (L : List AObj) (x : AObj) : (Gf τ ++ L).set (N + 1 + 1 + 1) x = Gf τ ++ L.set 3 x:=by have:=zbR (Gf τ) L 3 x; rwa [h.len] at this
theorem TinAt.t2 (τ : TinS) (L : List AObj) (x : AObj) : (Gf τ ++ L).set (N + 2) x = Gf τ ++ L.set 2 x:=h.s2 τ L x
theorem TinAt.t3 (τ : TinS) (L : List AObj) (x : AObj) : (Gf τ ++ L).set (N + 3) x = Gf τ ++ L.set 3 x:=h.s3 τ L x
end
theorem TinAt.an {Gf : TinS -> List AObj} {t N : Nat} (h : TinAt Gf t N) : (type_of% h.len) /\ (type_of% h.g0) /\ (type_of% h.g1) /\ (type_of% h.g2) /\ (type_of% h.g3) /\ (type_of% h.h2) /\ (type_of% h.h3) /\ (type_of% h.s0) /\ (type_of% h.s1) /\ (type_of% h.s2) /\ (type_of% h.s3) /\ (type_of% h.t2) /\ (type_of% h.t3):=⟨h.len,h.g0,h.g1,h.g2,h.g3,h.h2,h.h3,h.s0,h.s1,h.s2,h.s3,h.t2,h.t3⟩
theorem zt7 (m : Nat) (τ : TinS) : OLt m (tinO τ):=by
 intro a ha;simp only [List.mem_cons,List.not_mem_nil,or_false] at ha;rcases ha with rfl | rfl | rfl
 ·rw [zbi]; trivial
 ·exact .val _
 ·exact .val _
theorem zjT (H : List AObj) : TinAt (fun τ => H ++ [tinO τ]) H.length (H.length + 1) where
 len:=fun τ => by simp
 get:=fun τ => by simp
 set:=fun τ τ' => by simp
 ok:=fun m τ τ' hk z hz => by
  rcases List.mem_append.1 hz with hz | hz
  ·exact hk z (List.mem_append_left _ hz)
  ·rw [List.mem_singleton.1 hz]; exact zt7 _ _
structure TinS.Ok (τ : TinS) (b : Int) : Prop where
 g0 : 0 <= τ.g
 g : τ.g <= b
 len : τ.nums.length <= 2 ^ 50
section
variable {lv : Bool} {H : List AObj} {k kp : AV -> List AObj -> Prop} {Gf : TinS -> List AObj} {t N : Nat} {τ : TinS} {b : Int}
theorem f26_c {nums : List Int} (hk : k (.op H.length 0) (H ++ [tinO ⟨nums,0,7640891576956012809⟩])) : FnC lv Tryz.prog 26 H [aInts nums] k kp:=by
 refine zlA (rs:=[.tmp 2]) (nt:=6) Tryz.f26 fun hH hA => ?_;simp only [zlW,Nat.reduceAdd];refine zfK ?_;refine zfK ?_;refine zlz ?_;exact zao hk
theorem TinS.Ok.tick (h : τ.Ok b) : (tick τ).Ok (b + 1):=⟨by have:=h.g0; show 0 <= τ.g + 1; omega,by have:=h.g; show τ.g + 1 <= b + 1; omega,h.len⟩
theorem TinS.Ok.mono {b' : Int} (h : τ.Ok b) (hb : b <= b') : τ.Ok b':=⟨h.g0,by have:=h.g; omega,h.len⟩
theorem f86_c (hT : TinAt Gf t N) (hτ : τ.Ok b) (hb : b < 2 ^ 60) (hk : k (.val (.int .u64 (outT τ))) (Gf (tick τ))) : FnC lv Tryz.prog 86 (Gf τ) [.op t 0] k kp:=by
 obtain ⟨nums,g,s⟩:=τ;obtain ⟨hg0,hgb,hln⟩:=hτ;simp only at hg0 hgb hln;refine zlA (rs:=[.tmp 2]) (nt:=76) Tryz.f86 fun hH hA => ?_;simp only [zlW,Nat.reduceAdd];have hg : ∀ τ,(Gf τ)[t]? = some (.cells [.sl τ.nums.length (τ.nums.map iv) .shut,.val (.int .i64 τ.g),.val (.int .u64 τ.s)] 98):=hT.get;have hs : ∀ τ (nums' : List Int) g' s',(Gf τ).set t (.cells [.sl nums'.length (nums'.map iv) .shut,.val (.int .i64 g'),.val (.int .u64 s')] 98) = Gf ⟨nums',g',s'⟩:=fun τ nums' g' s' => hT.set τ ⟨nums',g',s'⟩;obtain ⟨n,rfl⟩ : ∃ n : Nat,g = n:=⟨g.toNat,by omega⟩;have hw : IntKind.i64.wrap ((n : Int) + 1) = n + 1:=zau _ (by omega);refine zfK ?_;refine zl5 ?_;simp only [seval,hg];refine zma 9 ?_;simp only [seval,hg];refine zlu ?_;refine ⟨fun h => ?_,fun h => ?_⟩
 ·have hnl : n < nums.length:=by simpa using h
  obtain ⟨x,hx⟩:=zaE hnl;refine zma 13 ?_;simp only [seval,hg,za2 hx,zaz hnl,zdy];refine zl5 ?_;simp only [seval,hg,hw,hs];refine zl5 ?_;simp only [seval,hg,hs];refine zma 11 ?_;simp only [seval,hg,hs,zdz,zdy];refine zl5 ?_;simp only [seval,hg];refine zl5 ?_;simp only [seval,zdz,zdy];refine zlz ?_;refine zao ?_;unfold outT tick ztz at hk;simp only [Int.toNat_natCast,hx] at hk;exact hk
 ·have hnl : ¬ n < nums.length:=by simpa using h
  have hx : nums[n]? = none:=by rw [List.getElem?_eq_none]; omega
  refine zly ?_;refine zl5 ?_;simp only [seval,hg,hw,hs];refine zl5 ?_;simp only [seval,hg,hs];refine zma 11 ?_;simp only [seval,hg,hs,zdz,zdy];refine zl5 ?_;simp only [seval,hg];refine zl5 ?_;simp only [seval,zdz,zdy];refine zlz ?_;refine zao ?_;unfold outT tick ztz at hk;simp only [Int.toNat_natCast,hx] at hk;exact hk
theorem f29_c {n : Int} (hT : TinAt Gf t N) (hτ : τ.Ok b) (hb : b < 2 ^ 60) (hn : n < 2 ^ 60) (hk : k (iv (zmP τ n)) (Gf (tick τ))) : FnC lv Tryz.prog 29 (Gf τ) [.op t 0,iv n] k kp:=by
 refine zlA (rs:=[.tmp 4]) (nt:=16) Tryz.f29 fun hH hA => ?_;simp only [zlW,Nat.reduceAdd];refine zfK ?_;refine zfK ?_;refine zl6 ((f86_c hT hτ hb ?_));(try simp only [seval]);refine zfK ?_;refine zlu ?_;refine ⟨fun h => ?_,fun h => ?_⟩
 ·have h : n < 1:=by simpa using h
  refine zfK ?_;refine zlz ?_;rw [zmP,if_pos h] at hk;exact zao hk
 ·have h : ¬ n < 1:=by simpa using h
  have ho:=ze9 (IntKind.u64.wrap ((tick τ).s * 10723151780598845931));have hw1 : IntKind.u64.wrap n = n:=zta n (by omega) (by omega);have hw2 : IntKind.u64.wrap (n + 1) = n + 1:=zta _ (by omega) (by omega);have hn0 : n + 1 ≠ 0:=by omega
  have hr:=zaX τ n;rw [zmP,if_neg h] at hk hr;have hw3 : IntKind.i64.wrap ((outT τ).tmod (n + 1)) = (outT τ).tmod (n + 1):=zau _ (by omega);refine zly ?_;refine zl5 ?_;simp only [seval,zsS,hw1,hw2,hw3,hn0];refine zlz ?_;exact zao hk
theorem f125_c {lo hi : Int} (hT : TinAt Gf t N) (hτ : τ.Ok b) (hb : b < 2 ^ 60) (hlo : 0 <= lo /\ lo < 2 ^ 20) (hhi : -1 <= hi /\ hi < 2 ^ 20) (hk : k (iv (zmO τ lo hi)) (Gf (tick τ))) : FnC lv Tryz.prog 125 (Gf τ) [.op t 0,iv lo,iv hi] k kp:=by
 refine zlA (rs:=[.tmp 6]) (nt:=14) Tryz.f125 fun hH hA => ?_;simp only [zlW,Nat.reduceAdd];have hw1 : IntKind.i64.wrap (hi - lo) = hi - lo:=zau _ (by omega);have hr:=zaX τ (hi - lo);have hw2 : IntKind.i64.wrap (lo + zmP τ (hi - lo)) = lo + zmP τ (hi - lo):=zau _ (by omega);refine zfK ?_;refine zl5 ?_;simp only [seval,hw1];refine zl6 ((f29_c hT hτ hb (by omega) ?_));(try simp only [seval,hw2]);refine zlz ?_;exact zao hk
theorem f44_c {n : Int} (hT : TinAt Gf t N) (hτ : τ.Ok b) (hb : b < 2 ^ 60) (hn : 0 <= n /\ n < 2 ^ 20) (hk : k (bv (znD τ n)) (Gf (tick τ))) : FnC lv Tryz.prog 44 (Gf τ) [.op t 0,iv n] k kp:=by
 refine zlA (rs:=[.tmp 4]) (nt:=10) Tryz.f44 fun hH hA => ?_;simp only [zlW,Nat.reduceAdd];have hw1 : IntKind.i64.wrap (n - 1) = n - 1:=zau _ (by omega);refine zfK ?_;refine zl5 ?_;simp only [seval,hw1];refine zl6 ((f29_c hT hτ hb (by omega) ?_));(try simp only [seval]);refine zlz ?_;exact zao hk
theorem f126_c {lo hi : Int} (hT : TinAt Gf t N) (hτ : τ.Ok b) (hb : b < 2 ^ 50) (hlo : 0 <= lo /\ lo <= hi) (hhi : hi < 2 ^ 20) (hk : k (znG τ lo hi).av (Gf (tick (tick τ)))) : FnC lv Tryz.prog 126 (Gf τ) [.op t 0,iv lo,iv hi] k kp:=by
 refine zlA (rs:=[.cell 6 63]) (nt:=18) Tryz.f126 fun hH hA => ?_;simp only [zlW,Nat.reduceAdd];have hr:=za1 τ hlo.2;refine zl5 ?_;simp only [seval,hT.an];refine zl5 ?_;simp only [seval,hT.an];refine zl6 ((f125_c (hT.more _) hτ (by omega) (by omega) (by omega) ?_));(try simp only [seval,hT.an]);refine zl5 ?_;simp only [seval,hT.an];refine zl6 ((f125_c (hT.more _) hτ.tick (by omega) (by omega) (by omega) ?_));(try simp only [seval,hT.an]);refine znH ?_;simp only [seval,hT.an];rw [<- hT.len (tick (tick τ))];exact endA (b:=(znG τ lo hi).av) (hT.hok hH _) (Wk.refl _) (by simp [zap,zfa,Band.av,Band.l,iv]) hk
end
theorem zfA {xs : List Int} {i : Nat} {x : Int} (f : Int -> AV) (h : xs[i]? = some x) : (xs.take (i + 1)).map f = (xs.take i).map f ++ [f x]:=by
 obtain ⟨hj,rfl⟩:=List.getElem?_eq_some_iff.1 h;rw [List.take_succ_eq_append_getElem hj,List.map_append]; rfl
theorem zgb {xs ys : List Int} {i : Nat} {x y : Int} (hx : xs[i]? = some x) (hy : ys[i]? = some y) (h : xs.take i = ys.take i) (e : x = y) : xs.take (i + 1) = ys.take (i + 1):=by
 obtain ⟨hj,rfl⟩:=List.getElem?_eq_some_iff.1 hx;obtain ⟨hk,rfl⟩:=List.getElem?_eq_some_iff.1 hy;rw [List.take_succ_eq_append_getElem hj,List.take_succ_eq_append_getElem hk,h,e]
section
variable {lv : Bool} {H : List AObj} {k kp : AV -> List AObj -> Prop}
theorem f34_c {xs ys : List Int} {e e' : End} (hx : xs.length < 2 ^ 60) (hk : k (bv (decide (xs = ys))) H) : FnC lv Tryz.prog 34 H [.sl xs.length (xs.map iv) e,.sl ys.length (ys.map iv) e'] k kp:=by
 refine zlA (rs:=[.tmp 4]) (nt:=26) Tryz.f34 fun hH hA => ?_;simp only [zlW,Nat.reduceAdd];refine zfK ?_;refine zfK ?_;refine zlu ?_;refine ⟨fun h => ?_,fun h => ?_⟩
 ·have h : xs ≠ ys:=fun e => by subst e; simp at h
  refine zfK ?_;refine zlz ?_;rw [decide_eq_false h] at hk;exact zao hk
 ·have h : xs.length = ys.length:=by
   have h : (xs.length : Int) = ys.length:=(by simpa using h);omega
  refine zly ?_;refine zfK ?_;refine zlC ?_;refine zmt xs.length (fun i : Nat => [(5,iv i)]) (fun _ => _) (fun i => xs.take i = ys.take i) (by simp) (fun hHs hLt i hin hi R hR => ?_);refine zfK ?_;refine zlu ?_;refine ⟨fun h2 => ?_,fun h2 => ?_⟩
  ·have hlt : i < xs.length:=(by omega);obtain ⟨x,hx1⟩:=zaE hlt;obtain ⟨y,hy1⟩:=zaE (xs:=ys) (i:=i) (by omega);refine zly ?_;refine zlC ?_;refine zma 8 ?_;simp only [seval,za2 hx1,za2 hy1,zaz hlt,zaz (get_lt hy1)];refine zlu ?_;refine ⟨fun h3 => ?_,fun h3 => ?_⟩
   ·have h3 : xs ≠ ys:=fun e => (by subst e; rw [hx1] at hy1; cases hy1; simp at h3);refine zfK ?_;refine zlz ?_;rw [decide_eq_false h3] at hk;exact zao hk
   ·have h3 : x = y:=(by simpa using h3);refine zly ?_;refine zfK ?_;refine hR _ ⟨hlt,zgb hx1 hy1 hi h3,?_⟩;rw [zau _ (by omega)];exact zlJ
  ·have hix : i = xs.length:=(by omega);refine zlF ?_;refine zfK ?_;refine zlz ?_;have h3 : xs = ys:=by
    rw [hix,List.take_length] at hi;rw [hi,h,List.take_length]
   rw [decide_eq_true h3] at hk;exact zao hk
theorem f78_c {xs : List Int} {n : Int} (hb : ∀ x ∈ xs,0 <= x /\ x <= 3) (hn : 0 <= n /\ n <= 3) (hl : xs.length <= 2 ^ 20) (hk : k (aInts (zme n xs)) H) : FnC lv Tryz.prog 78 H [aInts xs,iv n] k kp:=by
 refine zlA (rs:=[.tmp 4]) (nt:=24) Tryz.f78 fun hH hA => ?_;simp only [zlW,Nat.reduceAdd,aInts];refine zfK ?_;refine zfK ?_
 (repeat apply zaa); refine zbV (t:=5) (sz:=1) (el:=3) (by simp only [seval] <;> rfl) ?_
 refine zfK ?_;refine zlC ?_;refine zaB xs.length (fun i : Nat => [(5,.sl i ((zme n (xs.take i)).map iv) (.opn H.length)),(6,iv i)]) (fun i => H ++ [.tail i 1 3]) (fun i => True) (fun _ _ => rfl) (by simp only [seval]; simp [zaf,Wk.refl]; exact Wk.refl _) rfl (fun _ _ _ => by simp) trivial (fun hHs hLt i hin hi R hR => ?_);refine zfK ?_;refine zlu ?_;refine ⟨fun h => ?_,fun h => ?_⟩
 ·have hlt : i < xs.length:=by omega
  obtain ⟨x,hx⟩:=zaE hlt;have hxb:=hb x (zas hx);have hw : IntKind.i64.wrap (x - n) = x - n:=zau _ (by omega);have hw2 : IntKind.i64.wrap ((i : Int) + 1) = i + 1:=zau _ (by omega);have hmax : (if 0 < x - n then x - n else 0) = max 0 (x - n):=by omega
  have hwl : ((zme n (xs.take i)).map iv).length = i:=by simp [zme]; omega
  have hnext : (zme n (xs.take (i + 1))).map iv = (zme n (xs.take i)).map iv ++ [.val (.int .i64 (max 0 (x - n)))]:=by
   unfold zme;rw [List.map_map,zfA _ hx,List.map_map]; rfl
  refine zly ?_;refine zl5 ?_;simp only [seval,z1,za2 hx,zaz hlt,hw,hmax,hwl]
  first | refine ⟨by omega,by omega,?_⟩ | refine ⟨by omega,?_⟩
  refine zl5 ?_;simp only [seval,hw2];refine hR _ ⟨hlt,trivial,?_⟩;rw [hnext];exact zlJ
 ·have hix : i = xs.length:=by omega
  subst hix;refine zlF ?_;refine zfK ?_;refine zlz ?_;rw [List.take_length];have hwl : (zme n xs).length = xs.length:=by simp [zme]
  rw [aInts,hwl] at hk;exact endA hH (zaK _ _ _) (by simp [za3,zap]) hk
theorem f64_c {ds : List Int} {bs : List Band} (hlen : ds.length <= bs.length) (hsz : ds.length < 2 ^ 60) (hk : k (bv (zni ds bs)) H) : FnC lv Tryz.prog 64 H [aInts ds,aBands bs] k kp:=by
 refine zlA (rs:=[.tmp 4]) (nt:=34) Tryz.f64 fun hH hA => ?_;simp only [zlW,Nat.reduceAdd,aInts,aBands];refine zfK ?_;refine zfK ?_;refine zlC ?_;refine zmt ds.length (fun i : Nat => [(5,iv i)]) (fun _ => _) (fun i => zni ds bs = zni (ds.drop i) (bs.drop i)) rfl (fun hHs hLt i hin hi R hR => ?_);refine zfK ?_;refine zlu ?_;refine ⟨fun h => ?_,fun h => ?_⟩
 ·have hlt : i < ds.length:=by omega
  obtain ⟨d,hd⟩:=zaE hlt;obtain ⟨b,hb⟩:=zaE (xs:=bs) (i:=i) (by omega);refine zly ?_;refine zlC ?_;refine zma 20 ?_;simp only [seval,za2 hd,zdh hb,zaz hlt,zaz (get_lt hb)];refine zpc (fun h2 => ?_) (fun h2 => ?_)
  ·have h2 : b.min <= d:=(by simpa using h2);(try simp only [seval,za2 hd,zdh hb,zaz hlt,zaz (get_lt hb)]);refine zlu ?_;refine ⟨fun h3 => ?_,fun h3 => ?_⟩
   ·have h3 : ¬ d <= b.max:=(by simpa using h3);refine zfK ?_;refine zlz ?_;rw [hi,zcK hd hb,decide_eq_false h3,Bool.and_false,Bool.false_and] at hk;exact zao hk
   ·have h3 : d <= b.max:=(by simpa using h3);refine zly ?_;refine zfK ?_;refine hR _ ⟨hlt,?_,?_⟩
    ·rw [hi,zcK hd hb,decide_eq_true h2,decide_eq_true h3]; rfl
    ·rw [zau _ (by omega)];exact zlJ
  ·have h2 : ¬ b.min <= d:=(by simpa using h2);(try simp only [seval,za2 hd,zdh hb,zaz hlt,zaz (get_lt hb)]);refine zlu ?_;refine zfK ?_;refine zlz ?_;rw [hi,zcK hd hb,decide_eq_false h2,Bool.false_and,Bool.false_and] at hk;exact zao hk
 ·have hix : i = ds.length:=by omega
  subst hix;refine zlF ?_;refine zfK ?_;refine zlz ?_;rw [hi,List.drop_length,zni] at hk;exact zao hk
inductive Wks : List AV -> List AV -> Prop
 | nil : Wks [] []
 | cons {a b : AV} {l m : List AV} (h : Wk a b) (t : Wks l m) : Wks (a :: l) (b :: m)
theorem Wks.len {l m : List AV} (h : Wks l m) : l.length = m.length:=by
 induction h with
 | nil => rfl
 | cons _ _ ih => simp [ih]
theorem Wks.at {l m : List AV} (h : Wks l m) : ∀ (i : Nat) (a b : AV),m[i]? = some a -> l[i]? = some b -> Wk b a:=by
 induction h with
 | nil => intro i a b h; simp at h
 | cons h _ ih =>
  intro i a b h1 h2
  match i with
  | 0 => cases h1; cases h2; exact h
  | i + 1 => exact ih i a b h1 h2
theorem zhX {l l' : List AV} (h : Wks l l') : Wk (.agg l) (.agg l'):=fun E v hd => by
 cases hd with
 | agg hs h1 =>
  refine .agg (by rw [hs,h.len]) fun i x hx => ?_;obtain ⟨y,hy⟩:=zaE (xs:=l) (i:=i) (by rw [h.len]; exact get_lt hx);exact h.at i x y hx hy E _ (h1 i y hy)
theorem wk_sl {n : Nat} {l l' : List AV} {e : End} (h : Wks l l') : Wk (.sl n l e) (.sl n l' .shut):=zhW (zeg h.len h.at) (zaK _ _ _)
theorem zr2 : zmn (Value.int .i64 0) 2 = [iv 0,iv 0]:=rfl
theorem zr3 : zmn (Value.int .i64 0) 3 = [iv 0,iv 0,iv 0]:=rfl
theorem zk3 : zmn (.agg #[.slice none 0 0,.int .i64 0,.int .i64 0]) 3 = [.sl 0 [] .exact,iv 0,iv 0]:=rfl
theorem zk9 : zmn (.agg #[.slice none 0 0,.int .i64 0,.int .i64 0]) 9 = [.sl 0 [] .exact,iv 0,iv 0,.sl 0 [] .exact,iv 0,iv 0,.sl 0 [] .exact,iv 0,iv 0]:=rfl
theorem zb2 : zmn (.agg #[.int .i64 0,.int .i64 0]) 2 = [iv 0,iv 0]:=rfl
theorem zb4 : zmn (.agg #[.int .i64 0,.int .i64 0]) 4 = [iv 0,iv 0,iv 0,iv 0]:=rfl
theorem zs3 : zmn (Value.slice none 0 0) 3 = [.sl 0 [] .exact,.sl 0 [] .exact,.sl 0 [] .exact]:=rfl
theorem zt3 : zmn (.agg #[.int .i64 0,.int .i64 0,.bool false]) 3 = [iv 0,iv 0,bv false]:=rfl
theorem zu2 : zmn (.agg #[.int .i64 0,.bool false]) 2 = [iv 0,bv false]:=rfl
theorem zt5 : (4 <= 2 ^ 24) = True:=by simp
theorem p24_9 : (9 <= 2 ^ 24) = True:=by simp
theorem zhq : (1 <= 2 ^ 24) = True:=by simp
theorem zes : (2 <= 2 ^ 24) = True:=by simp
theorem zd5 : (3 <= 2 ^ 24) = True:=by simp
theorem zkE (x : List Int) : (aInts x).leaf = true:=rfl
theorem zfd (x : List Band) : (aBands x).leaf = true:=rfl
theorem zkC (x : List Key) : (zl8 x).leaf = true:=rfl
theorem zjd (x : List (List Band)) : (zlL x).leaf = true:=rfl
theorem zjc (x : List Try) : (zl4 x).leaf = true:=rfl
attribute [seval] zkE zfd zkC zjd zjc
theorem zfC (n : Nat) (x : Ring) : Lt n x.av = True:=by simp [Ring.av,Ring.l,zfa,zc5,zci,zch,zap,iv]
theorem f81_c {lo hi : Int} (hk : k (Band.mk lo hi).av H) : FnC lv Tryz.prog 81 H [iv lo,iv hi] k kp:=by
 refine zlA (rs:=[.cell 4 63]) (nt:=8) Tryz.f81 fun hH hA => ?_;simp only [zlW,Nat.reduceAdd];refine zfK ?_;refine zfK ?_;refine zlz ?_;exact endA (b:=(Band.mk lo hi).av) hH (Wk.refl _) (by simp [zap,zfa,Band.av,Band.l,iv]) hk
theorem f149_c {lo hi : Int} {xs : List Int} {e : End} (hk : k (Key.mk xs ⟨lo,hi⟩).av H) : FnC lv Tryz.prog 149 H [iv lo,iv hi,.sl xs.length (xs.map iv) e] k kp:=by
 refine zlA (rs:=[.cell 6 65]) (nt:=12) Tryz.f149 fun hH hA => ?_;simp only [zlW,Nat.reduceAdd];refine zfK ?_;refine zfK ?_;refine zl6 ((f81_c ?_));(try simp only [seval,Band.av,Band.l]);refine zlz ?_;exact endA (b:=(Key.mk xs ⟨lo,hi⟩).av) hH (zhX (.cons (zaK _ _ _) (.cons (Wk.refl _) (.cons (Wk.refl _) .nil)))) (by simp [zap,zfa,Key.av,Key.l,iv,zbi]) hk
theorem f80_c {ts : List Try} {e : End} (hts : ts.length < 2 ^ 30) (hk : k (exR ts).av H) : FnC lv Tryz.prog 80 H [.sl ts.length (ts.flatMap Try.l) e] k kp:=by
 refine zlA (rs:=[.cell 2 26]) (nt:=22) Tryz.f80 fun hH hA => ?_;simp only [zlW,Nat.reduceAdd];refine zfK ?_;refine zl5 ?_;simp only [seval,zr2,zes];refine zl6 ((f149_c (xs:=[3,1]) ?_));(try simp only [seval,Key.av,Key.l,zr2,zes]);refine zl6 ((f149_c (xs:=[2,2]) ?_));(try simp only [seval,Key.av,Key.l,zr2,zes]);refine zl6 ((f149_c (xs:=[1,3]) ?_));(try simp only [seval,Key.av,Key.l,zk9,p24_9]);refine zl6 ((f81_c ?_));(try simp only [seval,Band.av,Band.l]);refine zl6 ((f81_c ?_));(try simp only [seval,Band.av,Band.l,zb4,zt5]);refine zl6 ((f81_c ?_));(try simp only [seval,Band.av,Band.l]);refine zl6 ((f81_c ?_));(try simp only [seval,Band.av,Band.l,zb4,zt5]);refine zl6 ((f81_c ?_));(try simp only [seval,Band.av,Band.l]);refine zl6 ((f81_c ?_));(try simp only [seval,Band.av,Band.l,zb4,zs3,zt5,zd5]);refine zlz ?_;exact endA (b:=(exR ts).av) hH (zhX (.cons (Wk.refl _) (.cons (zaK _ _ _) (.cons (wk_sl (.cons (zaK _ _ _) (.cons (zaK _ _ _) (.cons (zaK _ _ _) .nil)))) (.cons (zaK _ _ _) .nil))))) (by rw [zfC]; trivial) hk
theorem f82_c (hk : k exLast.av H) : FnC lv Tryz.prog 82 H [] k kp:=by
 refine zlA (rs:=[.cell 0 28]) (nt:=2) Tryz.f82 fun hH hA => ?_;simp only [zlW,Nat.reduceAdd];refine zfK ?_;refine zfK ?_;refine zlz ?_;exact endA (b:=exLast.av) hH (Wk.refl _) (by simp [zap,zfa,Try.av,Try.l,exLast,iv,bv]) hk
theorem f83_c (hk : k exNever.av H) : FnC lv Tryz.prog 83 H [] k kp:=by
 refine zlA (rs:=[.cell 0 28]) (nt:=2) Tryz.f83 fun hH hA => ?_;simp only [zlW,Nat.reduceAdd];refine zfK ?_;refine zfK ?_;refine zlz ?_;exact endA (b:=exNever.av) hH (Wk.refl _) (by simp [zap,zfa,Try.av,Try.l,exNever,iv,bv]) hk
theorem f34_same {xs : List Int} {e e' : End} (hx : xs.length < 2 ^ 60) (hk : k (bv true) H) : FnC lv Tryz.prog 34 H [.sl xs.length (xs.map iv) e,.sl xs.length (xs.map iv) e'] k kp :=
 f34_c hx (by rw [decide_eq_true rfl]; exact hk)
theorem f84_c (hk : k exOne.av H) : FnC lv Tryz.prog 84 H [] k kp:=by
 refine zlA (rs:=[.cell 0 26]) (nt:=8) Tryz.f84 fun hH hA => ?_;simp only [zlW,Nat.reduceAdd];refine zfK ?_;refine zfK ?_;refine zl6 ((f80_c (ts:=[]) (by decide) ?_));(try simp only [seval,Ring.av,Ring.l,exR]);refine zl5 ?_;simp only [seval,zl8,List.flatMap_cons,List.flatMap_nil,Key.l,Bool.false_and,ite_self];refine zfK ?_;refine zlz ?_;exact endA (b:=exOne.av) hH (Wk.refl _) (by rw [zfC]; trivial) hk
end
def zoG (sm : Bool) (p : List Band × TinS) (d : Int) : List Band × TinS :=
 if sm then (p.1 ++ [⟨zmP (tick (tick p.2)) d,zmO (tick (tick (tick p.2))) d 3⟩],tick (tick (tick (tick p.2)))) else (p.1 ++ [znG p.2 0 3],tick (tick p.2))
def zmX (sm : Bool) (τ : TinS) (ds : List Int) (i : Nat) : List Band × TinS:=(ds.take i).foldl (zoG sm) ([],τ)
def zoC (sm : Bool) (τ : TinS) (ds : List Int) : List Band × TinS:=ds.foldl (zoG sm) ([],τ)
theorem zez {sm : Bool} {τ : TinS} {ds : List Int} {i : Nat} {d : Int} (h : ds[i]? = some d) : zmX sm τ ds (i + 1) = zoG sm (zmX sm τ ds i) d:=by
 obtain ⟨hj,rfl⟩:=List.getElem?_eq_some_iff.1 h;unfold zmX;rw [List.take_succ_eq_append_getElem hj,List.foldl_append]; rfl
theorem zcw {sm : Bool} {τ : TinS} {ds : List Int} {b : Int} (hτ : τ.Ok b) (hds : ∀ d ∈ ds,0 <= d /\ d <= 3) : ∀ i,i <= ds.length -> (zmX sm τ ds i).1.length = i /\ (zmX sm τ ds i).2.Ok (b + 4 * i) /\ ∀ y ∈ (zmX sm τ ds i).1,y.Ok 3
 | 0,_ => ⟨rfl,by have:=hτ.mono (b':=b + 4 * (0 : Nat)) (by omega); exact this,by simp [zmX]⟩
 | i + 1,h => by
  obtain ⟨d,hd⟩:=zaE (xs:=ds) (i:=i) (by omega);obtain ⟨h1,h2,h3⟩:=zcw (sm:=sm) hτ hds i (by omega);obtain ⟨hd0,hd3⟩:=hds d (zas hd);rw [zez hd];unfold zoG;cases sm with
  | true =>
   simp only [if_true];refine ⟨by simp [h1],h2.tick.tick.tick.tick.mono (by omega),fun y hy => ?_⟩;rcases List.mem_append.1 hy with hy | hy
   ·exact h3 y hy
   ·rw [List.mem_singleton.1 hy];have e1:=zaX (tick (tick (zmX true τ ds i).2)) d;have e2:=za1 (tick (tick (tick (zmX true τ ds i).2))) hd3;exact ⟨e1.1,e2.2,by show zmP _ d <= zmO _ d 3; omega⟩
  | false =>
   simp only [Bool.false_eq_true,if_false];refine ⟨by simp [h1],h2.tick.tick.mono (by omega),fun y hy => ?_⟩;rcases List.mem_append.1 hy with hy | hy
   ·exact h3 y hy
   ·rw [List.mem_singleton.1 hy];have e:=zir (zmX false τ ds i).2 (show (0 : Int) <= 3 by decide);exact ⟨e.1,e.2.2,e.2.1⟩
theorem zld (bs : List Band) : (bs.flatMap Band.l).length = bs.length * 2:=by
 induction bs with
 | nil => rfl
 | cons b bs ih => rw [List.flatMap_cons,List.length_append,ih]; simp [Band.l]; omega
theorem zgH (bs : List Band) (b : Band) : (bs ++ [b]).flatMap Band.l = bs.flatMap Band.l ++ [iv b.min,iv b.max]:=by simp [Band.l]
theorem zkv (n m k : Nat) (bs : List Band) : Lt n (.sl m (bs.flatMap Band.l) (.opn k)) = (k < n):=by
 rw [zdq,eq_iff_iff];refine ⟨fun h => h.1,fun h => ⟨h,fun a ha => ?_⟩⟩;have:=zfD n bs;rw [aBands,za3] at this;exact this.mpr trivial a ha
section
variable {lv : Bool} {k kp : AV -> List AObj -> Prop} {Gf : TinS -> List AObj} {t N : Nat} {τ : TinS} {b : Int}
theorem f127_c {ds : List Int} {sm : Bool} (hT : TinAt Gf t N) (hτ : τ.Ok b) (hb : b < 2 ^ 40) (hds : ∀ d ∈ ds,0 <= d /\ d <= 3) (hl : ds.length <= 4) (hk : k (aBands (zoC sm τ ds).1) (Gf (zoC sm τ ds).2)) : FnC lv Tryz.prog 127 (Gf τ) [.op t 0,aInts ds,bv sm] k kp:=by
 refine zlA (rs:=[.tmp 6]) (nt:=37) Tryz.f127 fun hH hA => ?_;simp only [zlW,Nat.reduceAdd,aInts];have hokT : ∀ τ' n,HOk (Gf τ' ++ [.tail n 2 63]):=fun τ' n => zc6 (hT.hok hH τ') fun z hz m => by rw [List.mem_singleton.1 hz]; trivial
 refine zfK ?_;refine zfK ?_
 (repeat apply zaa); refine zbV (t:=7) (sz:=2) (el:=63) (by simp only [seval] <;> rfl) ?_
 refine zl5 ?_;simp only [seval,hT.an];refine zlC ?_;refine zaB ds.length (fun i : Nat => [(7,.sl i ((zmX sm τ ds i).1.flatMap Band.l) (.opn N)),(8,iv i)]) (fun i => Gf (zmX sm τ ds i).2 ++ [.tail i 2 63]) (fun i => True) (fun _ _ => rfl) (by simp only [seval]; simp [zaf,Wk.refl]; exact Wk.refl _) rfl (fun _ _ _ => by simp [hT.len]) trivial (fun hHs hLt i hin hi R hR => ?_);obtain ⟨hpl,hpo,hpb⟩:=zcw (sm:=sm) hτ hds i hin;refine zfK ?_;refine zlu ?_;refine ⟨fun h => ?_,fun h => ?_⟩
 ·have hlt : i < ds.length:=by omega
  obtain ⟨d,hd⟩:=zaE hlt;obtain ⟨hd0,hd3⟩:=hds d (zas hd);have hsucc:=zez (sm:=sm) (τ:=τ) hd;have hw2 : IntKind.i64.wrap ((i : Int) + 1) = i + 1:=zau _ (by omega);generalize zmX sm τ ds i = p at *;obtain ⟨bs,τ'⟩:=p;simp only at hpl hpo hpb;have hbl : (bs.flatMap Band.l).length = i * 2:=by rw [zld,hpl]
  refine zly ?_;refine zl5 ?_;simp only [seval,hT.an];refine zl6 ((f126_c (hT.more _) hpo (by omega) (by omega) (by omega) ?_));(try simp only [seval,Band.av,Band.l,hT.an]);refine zl5 ?_;simp only [seval,hT.an];refine zlu ?_;refine ⟨fun h2 => ?_,fun h2 => ?_⟩
  ·subst h2;refine zmw [5,11,13] [0,1,2,3,4,5,6,7,8,9,10,11,12,13] [⟨0,false,[],[]⟩,⟨1,false,[],[]⟩,⟨2,false,[],[]⟩,⟨3,false,[],[]⟩,⟨4,false,[],[]⟩,⟨5,true,[5],[]⟩,⟨6,false,[5],[([],[])]⟩,⟨7,false,[5],[([],[])]⟩,⟨8,false,[5],[([],[])]⟩,⟨9,false,[5],[([],[])]⟩,⟨10,false,[5],[([],[])]⟩,⟨11,true,[5,11],[]⟩,⟨12,false,[5,11],[]⟩,⟨13,true,[5,11,13],[]⟩] (fun D => bif zl7 13 D then Gf (tick (tick (tick (tick τ')))) ++ [.tail i 2 63,.cells [iv (zmP (tick (tick τ')) d),iv (zmO (tick (tick (tick τ'))) d 3)] 63] else bif zl7 11 D then Gf (tick (tick (tick (tick τ')))) ++ [.tail i 2 63,.cells [iv (znG τ' 0 3).min,iv (znG τ' 0 3).max] 63] else bif zl7 5 D then Gf (tick (tick (tick τ'))) ++ [.tail i 2 63,.cells [iv (znG τ' 0 3).min,iv (znG τ' 0 3).max] 63] else Gf (tick (tick τ')) ++ [.tail i 2 63,.cells [iv (znG τ' 0 3).min,iv (znG τ' 0 3).max] 63]) ?_;simp only [seval,za2 hd,zaz hlt,hT.an];refine znS (iv (zmP (tick (tick τ')) d)) (Gf (tick (tick (tick τ'))) ++ [.tail i 2 63,.cells [iv (znG τ' 0 3).min,iv (znG τ' 0 3).max] 63]) (zlY (f29_c (hT.more _) hpo.tick.tick (by omega) (by omega) ⟨rfl,rfl⟩)) ?_;(try simp only [seval,za2 hd,zaz hlt,hT.an]);refine znS (iv (zmO (tick (tick (tick τ'))) d 3)) (Gf (tick (tick (tick (tick τ')))) ++ [.tail i 2 63,.cells [iv (znG τ' 0 3).min,iv (znG τ' 0 3).max] 63]) (zlY (f125_c (hT.more _) hpo.tick.tick.tick (by omega) (by omega) (by omega) ⟨rfl,rfl⟩)) ?_;(try simp only [seval,za2 hd,zaz hlt,hT.an]);have hlk : zmX true τ ds (i + 1) = (bs ++ [⟨zmP (tick (tick τ')) d,zmO (tick (tick (tick τ'))) d 3⟩],tick (tick (tick (tick τ')))):=(by rw [hsucc]; rfl);refine zl5 ?_;simp only [seval,zb2,zes,hbl,hT.an];refine ⟨by omega,?_⟩;refine zl5 ?_;simp only [seval,hw2];refine hR _ ⟨hlt,trivial,?_⟩;rw [hlk];refine zat (zam rfl rfl) (by rw [zgH]; simp only [seval]; simp [zaf,Wk.refl]) (hokT _ _) (by simp only [List.forall_mem_cons,zap,zkv,iv]; simp [hT.len])
  ·have h2 : sm = false:=(by simpa using h2);subst h2;refine zly ?_;have hlk : zmX false τ ds (i + 1) = (bs ++ [znG τ' 0 3],tick (tick τ')):=(by rw [hsucc]; rfl);refine zl5 ?_;simp only [seval,zb2,zes,hbl,hT.an];refine ⟨by omega,?_⟩;refine zl5 ?_;simp only [seval,hw2];refine hR _ ⟨hlt,trivial,?_⟩;rw [hlk];refine zat (zam rfl rfl) (by rw [zgH]; simp only [seval]; simp [zaf,Wk.refl]) (hokT _ _) (by simp only [List.forall_mem_cons,zap,zkv,iv]; simp [hT.len])
 ·have hix : i = ds.length:=by omega
  subst hix;refine zlF ?_;refine zfK ?_;refine zlz ?_;have e : zmX sm τ ds ds.length = zoC sm τ ds:=by unfold zmX zoC; rw [List.take_length]
  rw [e] at hpl ⊢;rw [aBands,hpl] at hk;rw [<- hT.len (zoC sm τ ds).2];exact endA (hT.hok hH _) (zaK _ _ _) (by rw [<- hpl,<- aBands.eq_1,zfD]; trivial) hk
end
section
variable {Gf : TinS -> List AObj} {t N : Nat} (h : TinAt Gf t N)
include h
theorem TinAt.hi (i : Nat) (τ : TinS) (L : List AObj) : (Gf τ ++ L)[N + i]? = L[i]?:=by have:=zco (Gf τ) L i; rwa [h.len] at this
theorem TinAt.ti (i : Nat) (τ : TinS) (L : List AObj) (x : AObj) : (Gf τ ++ L).set (N + i) x = Gf τ ++ L.set i x:=by have:=zbR (Gf τ) L i x; rwa [h.len] at this
theorem TinAt.h4 : type_of% (h.hi 4):=h.hi 4
theorem TinAt.h5 : type_of% (h.hi 5):=h.hi 5
theorem TinAt.h6 : type_of% (h.hi 6):=h.hi 6
theorem TinAt.h7 : type_of% (h.hi 7):=h.hi 7
theorem TinAt.h8 : type_of% (h.hi 8):=h.hi 8
theorem TinAt.t4 : type_of% (h.ti 4):=h.ti 4
theorem TinAt.t5 : type_of% (h.ti 5):=h.ti 5
theorem TinAt.t6 : type_of% (h.ti 6):=h.ti 6
theorem TinAt.t7 : type_of% (h.ti 7):=h.ti 7
theorem TinAt.t8 : type_of% (h.ti 8):=h.ti 8
end
theorem TinAt.am {Gf : TinS -> List AObj} {t N : Nat} (h : TinAt Gf t N) : (type_of% h.len) /\ (type_of% h.g0) /\ (type_of% h.g1) /\ (type_of% h.h2) /\ (type_of% h.h3) /\ (type_of% h.h4) /\ (type_of% h.h5) /\ (type_of% h.h6) /\ (type_of% h.h7) /\ (type_of% h.h8) /\ (type_of% h.s0) /\ (type_of% h.s1) /\ (type_of% h.t2) /\ (type_of% h.t3) /\ (type_of% h.t4) /\ (type_of% h.t5) /\ (type_of% h.t6) /\ (type_of% h.t7) /\ (type_of% h.t8):=⟨h.len,h.g0,h.g1,h.h2,h.h3,h.h4,h.h5,h.h6,h.h7,h.h8,h.s0,h.s1,h.t2,h.t3,h.t4,h.t5,h.t6,h.t7,h.t8⟩
theorem zho (bs : List Band) : (aBands bs).parts = some [aBands bs]:=rfl
structure KeysP (c : Int) (ks : List Key) (ws : List Int) : Prop where
 len : ws.length = ks.length
 key : ∀ y ∈ ks,(y.cuts.length : Int) = c /\ (∀ n ∈ y.cuts,0 <= n /\ n <= 3) /\ y.wear.Ok 2
 worn : ∀ (i : Nat) y w,ks[i]? = some y -> ws[i]? = some w -> y.wear.min <= w /\ w <= y.wear.max
theorem KeysP.snoc {c : Int} {ks : List Key} {ws : List Int} (h : KeysP c ks ws) {y : Key} {w : Int} (hc : (y.cuts.length : Int) = c) (hn : ∀ n ∈ y.cuts,0 <= n /\ n <= 3) (hb : y.wear.Ok 2) (hw : y.wear.min <= w /\ w <= y.wear.max) : KeysP c (ks ++ [y]) (ws ++ [w]) where
 len:=by simp [h.len]
 key:=fun z hz => by
  rcases List.mem_append.1 hz with hz | hz
  ·exact h.key z hz
  ·rw [List.mem_singleton.1 hz]; exact ⟨hc,hn,hb⟩
 worn:=fun i z v h1 h2 => by
  by_cases hi : i < ks.length
  ·rw [List.getElem?_append_left hi] at h1;rw [List.getElem?_append_left (by rw [h.len]; exact hi)] at h2;exact h.worn i z v h1 h2
  ·have hi2 : i = ks.length:=(by have:=get_lt h1; simp at this; omega);subst hi2;rw [List.getElem?_append_right (Nat.le_refl _)] at h1;rw [<- h.len,List.getElem?_append_right (Nat.le_refl _)] at h2;simp at h1 h2;subst h1 h2;exact hw
def zmB (ks : List Key) (ws : List Int) (ls : List (List Band)) (k l : Int) : Bool:=zni (zme (ws.getD k.toNat 0) ((ks[k.toNat]?).map (·.cuts) |>.getD [])) (ls.getD l.toNat [])
structure RingP (K L T : Nat) (wr : Bool) (x : Ring) (ws : List Int) : Prop where
 cuts : 1 <= x.cuts /\ x.cuts <= 3
 keys : 1 <= x.keys.length /\ x.keys.length <= K
 kp : KeysP x.cuts x.keys ws
 locks : x.locks.length <= L
 lock : ∀ l ∈ x.locks,(l.length : Int) = x.cuts /\ ∀ b ∈ l,b.Ok 3
 tries : x.tries.length <= T
 tried : ∀ t ∈ x.tries,(0 <= t.key /\ t.key < x.keys.length) /\ 0 <= t.lock /\ t.lock < x.locks.length
 told : wr = false -> ∀ t ∈ x.tries,t.opens = zmB x.keys ws x.locks t.key t.lock
theorem zpt (ks : List Key) : (ks.flatMap Key.l).length = ks.length * 3:=by
 induction ks with
 | nil => rfl
 | cons b bs ih => rw [List.flatMap_cons,List.length_append,ih]; simp [Key.l]; omega
theorem zf5 (ks : List Try) : (ks.flatMap Try.l).length = ks.length * 3:=by
 induction ks with
 | nil => rfl
 | cons b bs ih => rw [List.flatMap_cons,List.length_append,ih]; simp [Try.l]; omega
theorem zuh (n m k : Nat) (bs : List Key) : Lt n (.sl m (bs.flatMap Key.l) (.opn k)) = (k < n):=by
 rw [zdq,eq_iff_iff];refine ⟨fun h => h.1,fun h => ⟨h,fun a ha => ?_⟩⟩;have:=zc5 n bs;rw [zl8,za3] at this;exact this.mpr trivial a ha
theorem zuf (n m k : Nat) (bs : List Try) : Lt n (.sl m (bs.flatMap Try.l) (.opn k)) = (k < n):=by
 rw [zdq,eq_iff_iff];refine ⟨fun h => h.1,fun h => ⟨h,fun a ha => ?_⟩⟩;have:=zch n bs;rw [zl4,za3] at this;exact this.mpr trivial a ha
theorem zug (n m k : Nat) (bs : List (List Band)) : Lt n (.sl m (bs.map aBands) (.opn k)) = (k < n):=by
 rw [zdq,eq_iff_iff];refine ⟨fun h => h.1,fun h => ⟨h,fun a ha => ?_⟩⟩;have:=zci n bs;rw [zlL,za3] at this;exact this.mpr trivial a ha
theorem zui (n m k : Nat) (bs : List Int) : Lt n (.sl m (bs.map iv) (.opn k)) = (k < n):=by
 rw [zdq,eq_iff_iff];refine ⟨fun h => h.1,fun h => ⟨h,fun a ha => ?_⟩⟩;have:=zbi n bs;rw [aInts,za3] at this;exact this.mpr trivial a ha
def roL (N : Nat) (c : Int) (ks : List Key) (ls : List (List Band)) (ts : List Try) : List AObj :=
 [.cells [iv 0,.sl 0 [] .exact,.sl 0 [] .exact,.sl 0 [] .exact] 26,.cells [iv c,.sl ks.length (ks.flatMap Key.l) (.opn (N + 2)),.sl ls.length (ls.map aBands) (.opn (N + 3)),.sl ts.length (ts.flatMap Try.l) (.opn (N + 4))] 26,.tail ks.length 3 65,.tail ls.length 1 29,.tail ts.length 3 28,.tail ks.length 1 3]
def roE (N : Nat) (c : Int) (ks : List Key) (ls : List (List Band)) (ts : List Try) : List AObj:=.cells [iv c,.sl ks.length (ks.flatMap Key.l) (.opn (N + 2)),.sl ls.length (ls.map aBands) (.opn (N + 3)),.sl ts.length (ts.flatMap Try.l) (.opn (N + 4))] 26 :: (roL N c ks ls ts).tail
def roK (N : Nat) (c : Int) (ks : List Key) (cs : List Int) : List AObj:=roL N c ks [] [] ++ [.cells [.sl cs.length (cs.map iv) (.opn (N + 7)),iv 0,iv 0] 65,.tail cs.length 1 3]
theorem zrx (N : Nat) (c : Int) (ks : List Key) (cs : List Int) (v : Int) : roK N c ks (cs ++ [v]) = roL N c ks [] [] ++ [.cells [.sl (cs.length + 1) (cs.map iv ++ [iv v]) (.opn (N + 7)),iv 0,iv 0] 65,.tail (cs.length + 1) 1 3]:=by simp [roK]
def roM (N : Nat) (c : Int) (nk : Nat) (kl : List AV) (n1 n2 : Nat) (cs : List Int) (bd : Band) : List AObj:=[.cells [iv 0,.sl 0 [] .exact,.sl 0 [] .exact,.sl 0 [] .exact] 26,.cells [iv c,.sl nk kl (.opn (N + 2)),.sl 0 [] (.opn (N + 3)),.sl 0 [] (.opn (N + 4))] 26,.tail n1 3 65,.tail 0 1 29,.tail 0 3 28,.tail n2 1 3,.cells [.sl cs.length (cs.map iv) .shut,iv bd.min,iv bd.max] 65,.tail cs.length 1 3]
def roP (N : Nat) (c : Int) (ks : List Key) (nl : Nat) (ll : List AV) (n1 : Nat) : List AObj:=[.cells [iv 0,.sl 0 [] .exact,.sl 0 [] .exact,.sl 0 [] .exact] 26,.cells [iv c,.sl ks.length (ks.flatMap Key.l) (.opn (N + 2)),.sl nl ll (.opn (N + 3)),.sl 0 [] (.opn (N + 4))] 26,.tail ks.length 3 65,.tail n1 1 29,.tail 0 3 28,.tail ks.length 1 3]
theorem zce {base Vi Vn T : List (Nat × AV)} {H H' : List AObj} (G : List AObj) (hk : Keeps T (Vi ++ base) Vn) (hv : ∀ p ∈ Vn,∃ b,look T p.1 = some b /\ Wk b p.2) (hok : HOk H) (hlt : ∀ p ∈ Vn,Lt H.length p.2) (hG : H' = H ++ G) : zmZ base Vi Vn H ⟨T,H'⟩:=⟨hk,hv,G,hG,.inr ⟨hok,hlt⟩⟩
theorem zh9 {Gf : TinS -> List AObj} {t N : Nat} (h : TinAt Gf t N) {τ : TinS} (hH : HOk (Gf τ)) (τ' : TinS) (c : Int) (ks : List Key) (ls : List (List Band)) (ts : List Try) : HOk (Gf τ' ++ roL N c ks ls ts):=fun z hz => by
 rcases List.mem_append.1 hz with hz | hz
 ·exact (h.hok hH τ' z hz).mono (by simp)
 ·simp only [roL,List.mem_cons,List.not_mem_nil,or_false] at hz;have hl : (Gf τ' ++ roL N c ks ls ts).length = N + 6:=by simp [h.len,roL]
  rw [hl];rcases hz with rfl | rfl | rfl | rfl | rfl | rfl
  ·intro a ha; simp [iv] at ha; rcases ha with rfl | rfl <;> simp [zap,zbh]
  ·intro a ha;simp only [List.mem_cons,List.not_mem_nil,or_false] at ha;rcases ha with rfl | rfl | rfl | rfl
   ·exact .val _
   ·rw [zuh]; omega
   ·rw [zug]; omega
   ·rw [zuf]; omega
  all_goals trivial
section
variable {lv : Bool} {k kp : AV -> List AObj -> Prop} {Gf : TinS -> List AObj} {t N : Nat} {τ : TinS} {b : Int}
set_option maxHeartbeats 2000000 in
theorem f49_g {K L T : Nat} {wr : Bool} (hT : TinAt Gf t N) (hτ : τ.Ok b) (hb : b < 2 ^ 30) (hK : 1 <= K /\ K <= 4) (hL : L <= 4) (hTn : T <= 6)
  (hk : ∀ x ws τ',RingP K L T wr x ws -> τ'.Ok (b + 1000) -> HOk (Gf τ') -> ws.length = x.keys.length -> zmS N (Gf τ' ++ roE N x.cuts x.keys x.locks x.tries) (.tup [.agg [iv x.cuts,.sl x.keys.length (x.keys.flatMap Key.l) (.opn (N + 2)),.sl x.locks.length (x.locks.map aBands) (.opn (N + 3)),.sl x.tries.length (x.tries.flatMap Try.l) (.opn (N + 4))],.sl x.keys.length (ws.map iv) (.opn (N + 5))]) k) : FnC lv Tryz.prog 49 (Gf τ) [.op t 0,iv K,iv L,iv T,bv wr] k kp:=by
 refine zlA (rs:=[.cell 10 26,.tmp 11]) (nt:=162) Tryz.f49 fun hH hA => ?_;simp only [zlW,Nat.reduceAdd];refine zfK ?_;refine zl5 ?_;simp only [seval,hT.am];refine zl6 ((f125_c (hT.more _) hτ (by omega) (by omega) (by omega) ?_));try simp only [seval,hT.am]
 (repeat apply zaa); refine zdw (id:=N + 1) (j:=1) (sz:=3) (el':=65) (by simp only [seval,hT.am] <;> rfl) rfl ?_
 try simp only [seval,hT.am]
 (repeat apply zaa); refine zdw (id:=N + 1) (j:=2) (sz:=1) (el':=29) (by simp only [seval,hT.am] <;> rfl) rfl ?_
 try simp only [seval,hT.am]
 (repeat apply zaa); refine zdw (id:=N + 1) (j:=3) (sz:=3) (el':=28) (by simp only [seval,hT.am] <;> rfl) rfl ?_
 (try simp only [seval,hT.am]);refine zfK ?_
 (repeat apply zaa); refine zbV (t:=13) (sz:=1) (el:=3) (by simp only [seval] <;> rfl) ?_
 (try simp only [seval,hT.am]);have hc:=za1 τ (show (1 : Int) <= 3 by decide);generalize hcd : zmO τ 1 3 = c at hc ⊢;refine zl5 ?_;simp only [seval,hT.am];refine zl6 ((f125_c (hT.more _) hτ.tick (by omega) (by omega) (by omega) ?_));(try simp only [seval,hT.am]);have ht:=za1 (tick τ) (show (1 : Int) <= K by omega);generalize zmO (tick τ) 1 K = tot at ht;obtain ⟨tot,rfl⟩ : ∃ n : Nat,tot = n:=⟨tot.toNat,by omega⟩;refine zlC ?_;refine za9 (measure fun m : List Key × List Int × TinS => tot - m.1.length).wf (fun m => [(14,iv ((tot : Int) - m.1.length)),(13,.sl m.1.length (m.2.1.map iv) (.opn (N + 5)))]) (fun m => Gf m.2.2 ++ roL N c m.1 [] []) (fun m => KeysP c m.1 m.2.1 /\ m.1.length <= tot /\ m.2.2.Ok (b + 2 + 10 * m.1.length)) ([],[],tick (tick τ)) (fun _ _ => rfl) (by simp only [seval]; simp [zaf,Wk.refl]) rfl (fun _ _ => by simp [hT.len,roL]) ⟨⟨rfl,by simp,by simp⟩,by simp,hτ.tick.tick.mono (by simp only [List.length_nil]; omega)⟩ (fun hHs hLt m hok R hR => ?_);clear hHs hLt;obtain ⟨ks,ws,τ'⟩:=m;obtain ⟨hkp,hkt,hto⟩:=hok;simp only at hkp hkt hto;refine zl5 ?_;simp only [seval,roL,List.flatMap_nil,hT.am];refine zlu ?_;refine ⟨fun h => ?_,fun h => ?_⟩
 ·have hlt : ks.length < tot:=by omega
  refine zly ?_;refine zl5 ?_;simp only [seval,hT.am]
  (repeat apply zaa); refine zdw (id:=N + 6) (j:=0) (sz:=1) (el':=3) (by simp only [seval,hT.am] <;> rfl) rfl ?_
  (try simp only [seval,hT.am]);refine zl5 ?_;simp only [seval,hT.am];refine zlC ?_;refine za9 (measure fun m : List Int × TinS => c.toNat - m.1.length).wf (fun m => [(16,iv m.1.length)]) (fun m => Gf m.2 ++ roK N c ks m.1) (fun m => m.1.length <= c.toNat /\ (∀ n ∈ m.1,0 <= n /\ n <= 3) /\ m.2.Ok (b + 2 + 10 * ks.length + m.1.length)) ([],τ') (fun _ _ => rfl) (by simp only [seval]; simp [zaf,Wk.refl]) rfl (fun _ _ => by simp [hT.len,roK,roL]) ⟨by simp,by simp,hto.mono (by simp)⟩ (fun hHs2 hLt2 m2 hok2 R2 hR2 => ?_);clear hHs2 hLt2;obtain ⟨cs,τ''⟩:=m2;obtain ⟨hcl,hcb,hto2⟩:=hok2;simp only at hcl hcb hto2;refine zl5 ?_;simp only [seval,roK,roL,List.flatMap_nil,hT.am];refine zlu ?_;refine ⟨fun h2 => ?_,fun h2 => ?_⟩
  ·have hw2 : IntKind.i64.wrap ((cs.length : Int) + 1) = cs.length + 1:=zau _ (by omega);have hv:=zaX τ'' 3;refine zly ?_;refine zlC ?_;refine zmw [3,5,7] [0,1,2,3,4,5,6,7] [⟨0,false,[],[([3],[3])]⟩,⟨1,false,[],[([3],[3])]⟩,⟨2,false,[],[]⟩,⟨3,true,[3],[]⟩,⟨4,false,[3],[]⟩,⟨5,true,[3,5],[]⟩,⟨6,false,[3,5],[]⟩,⟨7,true,[3,5,7],[]⟩] (fun D => bif zl7 7 D then Gf (tick τ'') ++ (roL N c ks [] [] ++ [.cells [.sl (cs.length + 1) (cs.map iv ++ [iv (zmP τ'' 3)]) (.opn (N + 7)),iv 0,iv 0] 65,.tail (cs.length + 1) 1 3]) else bif zl7 5 D then Gf (tick τ'') ++ (roL N c ks [] [] ++ [.cells [.sl cs.length (cs.map iv) (.opn (N + 7)),iv 0,iv 0] 65,.tail (cs.length + 1) 1 3]) else bif zl7 3 D then Gf (tick τ'') ++ (roL N c ks [] [] ++ [.cells [.sl cs.length (cs.map iv) (.opn (N + 7)),iv 0,iv 0] 65,.tail cs.length 1 3]) else Gf τ'' ++ (roL N c ks [] [] ++ [.cells [.sl cs.length (cs.map iv) (.opn (N + 7)),iv 0,iv 0] 65,.tail cs.length 1 3])) ?_;simp only [seval,z1,zhq,roL,List.flatMap_nil,hT.am];refine znS _ _ (zlY (f29_c (hT.more _) hto2 (by omega) (by omega) ⟨rfl,rfl⟩)) ?_;(try simp only [seval,z1,zhq,roL,List.flatMap_nil,hT.am]);refine ⟨by omega,?_⟩;refine zl5 ?_;simp only [seval,hw2];refine hR2 _ ⟨(cs ++ [zmP τ'' 3],tick τ''),by show c.toNat - (cs ++ [_]).length < c.toNat - cs.length; simp; omega,⟨by simp; omega,fun n hn => ?_,hto2.tick.mono (by simp; omega)⟩,?_⟩
   ·rcases List.mem_append.1 hn with hn | hn
    ·exact hcb n hn
    ·rw [List.mem_singleton.1 hn]; exact ⟨hv.1,hv.2.elim id fun h => by rw [h]; decide⟩
   ·simp only [zrx,List.length_append];exact zlJ
  ·have hcc : (cs.length : Int) = c:=(by omega);refine zlF ?_
   (repeat apply zaa); refine zuN (id:=N + 6) (j:=0) (by simp only [seval,hT.am] <;> rfl) rfl (zaK _ _ _) ?_
   (try simp only [seval,hT.am]);refine zl5 ?_;simp only [seval,hT.am];refine zl6 ((f126_c (hT.more _) hto2 (by omega) (by omega) (by omega) ?_));(try simp only [seval,Band.av,Band.l,hT.am]);have hbd:=zir τ'' (show (0 : Int) <= 2 by decide);have hto3:=hto2.tick.tick;generalize znG τ'' 0 2 = bd at hbd ⊢;generalize tick (tick τ'') = τ3 at hto3 ⊢;obtain ⟨hbd0,hbd1,hbd2⟩:=hbd;have hww:=za1 τ3 hbd1;have hkl:=zpt ks;have hwl:=hkp.len;refine zmw [4,13,15,17] [0,1,2,3,4,5,6,7,8,9,10,11,12,13,14,15,16,17,18] [⟨0,false,[],[]⟩,⟨1,false,[],[]⟩,⟨2,false,[],[]⟩,⟨3,false,[],[]⟩,⟨4,true,[4],[]⟩,⟨5,false,[4],[([],[]),([4,13],[4,13])]⟩,⟨6,false,[4],[([],[])]⟩,⟨7,false,[4],[([],[])]⟩,⟨8,false,[4],[([],[])]⟩,⟨9,false,[4],[([],[])]⟩,⟨10,false,[4],[([],[])]⟩,⟨11,false,[4],[([],[])]⟩,⟨12,false,[4],[([],[])]⟩,⟨13,true,[4,13],[]⟩,⟨14,false,[4,13],[]⟩,⟨15,true,[4,13,15],[]⟩,⟨16,false,[4,13,15],[([4],[4]),([4,13],[4,13])]⟩,⟨17,true,[4,13,15,17],[]⟩,⟨18,false,[4,13,15,17],[]⟩] (fun D => bif zl7 17 D then Gf (tick τ3) ++ roM N c (ks.length + 1) (ks.flatMap Key.l ++ [.sl cs.length (cs.map iv) .shut,iv bd.min,iv bd.max]) (ks.length + 1) (ks.length + 1) cs bd else bif zl7 15 D then Gf (tick τ3) ++ roM N c ks.length (ks.flatMap Key.l) (ks.length + 1) (ks.length + 1) cs bd else bif zl7 13 D then Gf (tick τ3) ++ roM N c ks.length (ks.flatMap Key.l) (ks.length + 1) ks.length cs bd else bif zl7 4 D then Gf τ3 ++ roM N c ks.length (ks.flatMap Key.l) (ks.length + 1) ks.length cs bd else Gf τ3 ++ roM N c ks.length (ks.flatMap Key.l) ks.length ks.length cs bd) ?_;simp only [seval,z1,zk3,zhq,zd5,hkl,hwl,roM,hT.am];refine ⟨by omega,?_⟩;refine znS _ _ (zlY (f125_c (hT.more _) hto3 (by omega) (by omega) (by omega) ⟨rfl,rfl⟩)) ?_;(try simp only [seval,z1,zk3,zhq,zd5,hkl,hwl,roM,hT.am]);have hw3 : IntKind.i64.wrap ((tot : Int) - ks.length - 1) = tot - (ks.length + 1):=(by rw [zau _ (by omega)]; omega);refine ⟨by omega,?_⟩;refine zl5 ?_;simp only [seval,hw3];refine hR _ ⟨(ks ++ [⟨cs,bd⟩],ws ++ [zmO τ3 bd.min bd.max],tick τ3),by show tot - (ks ++ [_]).length < tot - ks.length; simp; omega,⟨hkp.snoc hcc hcb ⟨hbd0,hbd2,hbd1⟩ hww,by simp; omega,hto3.tick.mono (by simp; omega)⟩,?_⟩;refine zce [.cells [.sl cs.length (cs.map iv) .shut,iv bd.min,iv bd.max] 65,.tail cs.length 1 3] (zam rfl rfl) (by simp only [seval,List.length_append,List.map_append]; simp [zaf,Wk.refl]) (zh9 hT hH _ _ _ _ _) (by simp only [List.forall_mem_cons,zap,zui,iv]; simp [hT.len,roL]) (by simp [roL,Key.l,aInts])
 ·have hkn : 1 <= ks.length /\ ks.length <= K:=by omega
  have hwl:=hkp.len;refine zlF ?_;refine zl5 ?_;simp only [seval,hT.am];refine zl6 ((f29_c (hT.more _) hto (by omega) (by omega) ?_));(try simp only [seval,hT.am]);have htl:=zaX τ' L;generalize zmP τ' L = totl at htl ⊢;obtain ⟨totl,rfl⟩ : ∃ n : Nat,totl = n:=⟨totl.toNat,by omega⟩;have htl2 : totl <= L:=by omega
  clear htl;have hto1:=hto.tick.mono (b':=b + 100) (by omega);generalize tick τ' = τ4 at hto1 ⊢;refine zlC ?_;refine za9 (measure fun m : List (List Band) × TinS => totl - m.1.length).wf (fun m => [(17,iv ((totl : Int) - m.1.length))]) (fun m => Gf m.2 ++ roL N c ks m.1 []) (fun m => (∀ l ∈ m.1,(l.length : Int) = c /\ ∀ b ∈ l,b.Ok 3) /\ m.1.length <= totl /\ m.2.Ok (b + 100 + 20 * m.1.length)) ([],τ4) (fun _ _ => rfl) (by simp only [seval]; simp [zaf,Wk.refl]) (by simp [roL]) (fun _ _ => by simp [hT.len,roL]) ⟨by simp,by simp,hto1.mono (by simp)⟩ (fun hHs hLt m hok R2 hR2 => ?_);clear hHs hLt hR hto1 hto;obtain ⟨ls,τ5⟩:=m;obtain ⟨hlk,hlt,hto⟩:=hok;simp only at hlk hlt hto;refine zl5 ?_;simp only [seval,roL,List.flatMap_nil,hT.am];refine zlu ?_;refine ⟨fun h2 => ?_,fun h2 => ?_⟩
  ·have hllt : ls.length < totl:=(by omega);refine zly ?_;refine zlC ?_;have hw4 : IntKind.i64.wrap ((ks.length : Int) - 1) = ks.length - 1:=zau _ (by omega);refine zl5 ?_;simp only [seval,hw4,hT.am];refine zl6 ((f29_c (hT.more _) hto (by omega) (by omega) ?_));(try simp only [seval,hT.am]);have hkr:=zaX τ5 ((ks.length : Int) - 1);generalize zmP τ5 ((ks.length : Int) - 1) = kx at hkr ⊢;obtain ⟨kn,rfl⟩ : ∃ n : Nat,kx = n:=⟨kx.toNat,by omega⟩;have hknl : kn < ks.length:=(by omega);obtain ⟨y,hy⟩:=zaE hknl;obtain ⟨w,hw⟩:=zaE (xs:=ws) (i:=kn) (by omega);obtain ⟨hyc,hyb,hyw⟩:=hkp.key y (zas hy);have hwb:=hkp.worn kn y w hy hw;have hw0:=hyw.min;have hw2':=hyw.max;have hto6:=hto.tick;generalize tick τ5 = τ6 at hto6 ⊢;have hds : ∀ d ∈ zme w y.cuts,0 <= d /\ d <= 3:=fun d hd => by
    unfold zme at hd;obtain ⟨x,hx,rfl⟩:=List.mem_map.1 hd;have:=hyb x hx;omega
   have hdl : (zme w y.cuts).length = y.cuts.length:=(by simp [zme]);obtain ⟨hf1,hf2,hf3⟩:=zcw (sm:=!znD τ6 3) hto6.tick hds _ (Nat.le_refl _);have hfe : zmX (!znD τ6 3) (tick τ6) (zme w y.cuts) (zme w y.cuts).length = zoC (!znD τ6 3) (tick τ6) (zme w y.cuts):=(by unfold zmX zoC; rw [List.take_length]);rw [hfe] at hf1 hf2 hf3;have hml : (ls.map aBands).length = ls.length:=List.length_map ..;have hzs1 : zmn (Value.slice none 0 0) 1 = [.sl 0 [] .exact]:=rfl;refine zmw [15,17,19,21] [0,1,2,3,4,5,6,7,8,9,10,11,12,13,14,15,16,17,18,19,20,21] [⟨0,false,[],[([15],[15]),([15,17],[15,17])]⟩,⟨1,false,[],[([15],[15]),([15,17],[15,17])]⟩,⟨2,false,[],[([15],[15])]⟩,⟨3,false,[],[]⟩,⟨4,false,[],[]⟩,⟨5,false,[],[]⟩,⟨6,false,[],[]⟩,⟨7,false,[],[]⟩,⟨8,false,[],[]⟩,⟨9,false,[],[]⟩,⟨10,false,[],[]⟩,⟨11,false,[],[]⟩,⟨12,false,[],[]⟩,⟨13,false,[],[]⟩,⟨14,false,[],[]⟩,⟨15,true,[15],[]⟩,⟨16,false,[15],[]⟩,⟨17,true,[15,17],[]⟩,⟨18,false,[15,17],[]⟩,⟨19,true,[15,17,19],[]⟩,⟨20,false,[15,17,19],[]⟩,⟨21,true,[15,17,19,21],[]⟩] (fun D => bif zl7 21 D then Gf (zoC (!znD τ6 3) (tick τ6) (zme w y.cuts)).2 ++ roP N c ks (ls.length + 1) (ls.map aBands ++ [aBands (zoC (!znD τ6 3) (tick τ6) (zme w y.cuts)).1]) (ls.length + 1) else bif zl7 19 D then Gf (zoC (!znD τ6 3) (tick τ6) (zme w y.cuts)).2 ++ roP N c ks ls.length (ls.map aBands) (ls.length + 1) else bif zl7 17 D then Gf (zoC (!znD τ6 3) (tick τ6) (zme w y.cuts)).2 ++ roP N c ks ls.length (ls.map aBands) ls.length else bif zl7 15 D then Gf (tick τ6) ++ roP N c ks ls.length (ls.map aBands) ls.length else Gf τ6 ++ roP N c ks ls.length (ls.map aBands) ls.length) ?_;simp only [seval,zc2 hy,zaz hknl,za2 hw,zaz (get_lt hw),hwl,hml,hzs1,zhq,roP,hT.am];refine znT _ (zlY (f78_c hyb ⟨by omega,by omega⟩ (by omega) ⟨rfl,rfl⟩)) ?_;refine znS _ _ (zlY (f44_c (hT.more _) hto6 (by omega) (by omega) ⟨rfl,rfl⟩)) ?_;(try simp only [seval,hT.am]);refine znS _ _ (zlY (f127_c (hT.more _) hto6.tick (by omega) hds (by omega) ⟨rfl,rfl⟩)) ?_;(try simp only [seval,hwl,hml,hzs1,zhq,roP,hT.am,zho]);generalize zoC (!znD τ6 3) (tick τ6) (zme w y.cuts) = q at hf1 hf2 hf3 ⊢;obtain ⟨lk,τ7⟩:=q;simp only at hf1 hf2 hf3;have hw5 : IntKind.i64.wrap ((totl : Int) - ls.length - 1) = totl - (ls.length + 1):=(by rw [zau _ (by omega)]; omega);refine ⟨by omega,?_⟩;refine zl5 ?_;simp only [seval,hw5];refine hR2 _ ⟨(ls ++ [lk],τ7),by show totl - (ls ++ [_]).length < totl - ls.length; simp; omega,⟨fun l hl => ?_,by simp; omega,hf2.mono (by simp; omega)⟩,?_⟩
   ·rcases List.mem_append.1 hl with hl | hl
    ·exact hlk l hl
    ·rw [List.mem_singleton.1 hl]; exact ⟨by omega,hf3⟩
   ·have e : roL N c ks (ls ++ [lk]) [] = roP N c ks (ls.length + 1) (ls.map aBands ++ [aBands lk]) (ls.length + 1):=(by simp [roL,roP]);rw [e];simp only [roP];refine zax (zam rfl rfl) (by simp only [seval,List.length_append]; simp [zaf,Wk.refl])
  ·have hll : ls.length <= 4:=(by omega);refine zlF ?_;refine zl5 ?_;simp only [seval,hT.am];refine zl6 ((f29_c (hT.more _) hto (by omega) (by omega) ?_));(try simp only [seval,hT.am]);have htl:=zaX τ5 T;generalize zmP τ5 T = tott at htl ⊢;obtain ⟨tott,rfl⟩ : ∃ n : Nat,tott = n:=⟨tott.toNat,by omega⟩;have htl2 : tott <= T:=(by omega);clear htl;have hto1:=hto.tick.mono (b':=b + 200) (by omega);generalize tick τ5 = τ8 at hto1 ⊢;refine zlC ?_;refine za9 (measure fun m : List Try × TinS => tott - m.1.length).wf (fun m => [(19,iv ((tott : Int) - m.1.length))]) (fun m => Gf m.2 ++ roL N c ks ls m.1) (fun m => ((∀ t ∈ m.1,(0 <= t.key /\ t.key < ks.length) /\ 0 <= t.lock /\ t.lock < ls.length) /\ (wr = false -> ∀ t ∈ m.1,t.opens = zmB ks ws ls t.key t.lock)) /\ m.1.length <= tott /\ m.2.Ok (b + 200 + 20 * m.1.length)) ([],τ8) (fun _ _ => rfl) (by simp only [seval]; simp [zaf,Wk.refl]) (by simp [roL]) (fun _ _ => by simp [hT.len,roL]) ⟨by simp,by simp,hto1.mono (by simp)⟩ (fun hHs hLt m hok R hR => ?_);clear hHs hLt hR2 hto1 hto;obtain ⟨ts,τ9⟩:=m;obtain ⟨⟨htr,htd⟩,htl3,hto⟩:=hok;simp only at htr htd htl3 hto;have hend : zmS N (Gf τ9 ++ roE N c ks ls ts) (.tup [.agg [iv c,.sl ks.length (ks.flatMap Key.l) (.opn (N + 2)),.sl ls.length (ls.map aBands) (.opn (N + 3)),.sl ts.length (ts.flatMap Try.l) (.opn (N + 4))],.sl ks.length (ws.map iv) (.opn (N + 5))]) k:=hk ⟨c,ks,ls,ts⟩ ws τ9 ⟨hc,hkn,hkp,by show ls.length <= L; omega,hlk,by show ts.length <= T; omega,htr,htd⟩ (hto.mono (by omega)) (hT.hok hH _) hwl;refine zl5 ?_;simp only [seval,roL,hT.am];refine zpc (fun h3 => ?_) (fun h3 => ?_)
   ·have htlt : ts.length < tott:=by
     have : (0 : Int) < tott - ts.length:=(by simpa using h3);omega
    (try simp only [seval,roL,hT.am]);refine zlu ?_;refine ⟨fun h4 => ?_,fun h4 => ?_⟩
    ·have hll1 : 1 <= ls.length:=(by omega);refine zly ?_;refine zlC ?_;have hw4 : IntKind.i64.wrap ((ks.length : Int) - 1) = ks.length - 1:=zau _ (by omega);have hw6 : IntKind.i64.wrap ((ls.length : Int) - 1) = ls.length - 1:=zau _ (by omega);have hkr:=zaX τ9 ((ks.length : Int) - 1);have hlr:=zaX (tick τ9) ((ls.length : Int) - 1);refine zmw [5,11,13,14] [0,1,2,3,4,5,6,7,8,9,10,11,12,13,14] [⟨0,false,[],[([13],[13])]⟩,⟨1,false,[],[([13],[13])]⟩,⟨2,false,[],[([13],[13])]⟩,⟨3,false,[],[([13],[13])]⟩,⟨4,false,[],[([13],[13])]⟩,⟨5,true,[5],[([13],[5,13])]⟩,⟨6,false,[5],[([],[]),([13],[13]),([5,13],[5,13])]⟩,⟨7,false,[5],[([],[]),([13],[13]),([5,13],[5,13])]⟩,⟨8,false,[5],[([],[]),([13],[13]),([5,13],[5,13])]⟩,⟨9,false,[5],[([],[]),([13],[13]),([5,13],[5,13])]⟩,⟨10,false,[5],[([],[]),([13],[13]),([5,13],[5,13])]⟩,⟨11,true,[5,11],[([5,13],[5,11,13])]⟩,⟨12,false,[5,11],[([5,11,13],[5,11,13])]⟩,⟨13,true,[5,11,13],[([],[13]),([5],[5,13])]⟩,⟨14,true,[5,11,13,14],[]⟩] (fun D => Gf (bif zl7 11 D then tick (tick τ9) else bif zl7 5 D then tick τ9 else τ9) ++ (roL N c ks ls ts ++ (bif zl7 14 D then [.cells [iv (zmP τ9 ((ks.length : Int) - 1)),iv (zmP (tick τ9) ((ls.length : Int) - 1)),bv false] 28] else bif zl7 13 D then [.cells [iv 0,iv 0,bv false] 28] else []))) ?_;simp only [seval,hw4,hw6,roL,hT.am];refine znS _ _ (zlY (f29_c (hT.more _) hto (by omega) (by omega) ⟨rfl,rfl⟩)) ?_;(try simp only [seval,hw4,hw6,roL,hT.am]);refine ⟨znS _ _ (zlY (f29_c (hT.more _) hto (by omega) (by omega) ⟨rfl,rfl⟩)) ⟨rfl,rfl⟩,?_⟩;refine znS _ _ (zlY (f29_c (hT.more _) hto.tick (by omega) (by omega) ⟨rfl,rfl⟩)) ?_;(try simp only [seval,hw4,hw6,roL,hT.am]);refine ⟨znS _ _ (zlY (f29_c (hT.more _) hto.tick (by omega) (by omega) ⟨rfl,rfl⟩)) ⟨rfl,rfl⟩,?_⟩;have hto3:=hto.tick.tick;generalize zmP τ9 ((ks.length : Int) - 1) = kx at hkr ⊢;generalize zmP (tick τ9) ((ls.length : Int) - 1) = lx at hlr ⊢;generalize tick (tick τ9) = τa at hto3 ⊢;obtain ⟨kn,rfl⟩ : ∃ n : Nat,kx = n:=⟨kx.toNat,by omega⟩;obtain ⟨ln,rfl⟩ : ∃ n : Nat,lx = n:=⟨lx.toNat,by omega⟩;have hknl : kn < ks.length:=(by omega);have hlnl : ln < ls.length:=(by omega);obtain ⟨y,hy⟩:=zaE hknl;obtain ⟨w,hw⟩:=zaE (xs:=ws) (i:=kn) (by omega);obtain ⟨l,hl⟩:=zaE hlnl;obtain ⟨hyc,hyb,hyw⟩:=hkp.key y (zas hy);obtain ⟨hlc,hlb⟩:=hlk l (zas hl);have hwb:=hkp.worn kn y w hy hw;have hw0:=hyw.min;have hw2':=hyw.max;have hdl : (zme w y.cuts).length = y.cuts.length:=(by simp [zme]);have how : zmB ks ws ls kn ln = zni (zme w y.cuts) l:=by
      unfold zmB;simp only [Int.toNat_natCast,List.getD_eq_getElem?_getD,hy,hw,hl,Option.map_some,Option.getD_some]
     refine zma 19 ?_;simp only [seval,zc2 hy,zaz hknl,za2 hw,zaz (get_lt hw),zfu hl,zaz hlnl,hwl,hT.am];refine znT _ (zlY (f78_c hyb ⟨by omega,by omega⟩ (by omega) ⟨rfl,rfl⟩)) ?_;refine zl6 ((f64_c (by omega) (by omega) ?_));(try simp only [seval,hT.am]);have htln:=zf5 ts;have hw7 : IntKind.i64.wrap ((tott : Int) - ts.length - 1) = tott - (ts.length + 1):=(by rw [zau _ (by omega)]; omega);have hnew : ∀ (o : Bool) (τb : TinS),τb.Ok (b + 200 + 20 * ts.length + 3) -> (wr = false -> o = zni (zme w y.cuts) l) -> ((∀ t : Try,t ∈ ts ++ [⟨kn,ln,o⟩] -> (0 <= t.key /\ t.key < (ks.length : Int)) /\ 0 <= t.lock /\ t.lock < (ls.length : Int)) /\ (wr = false -> ∀ t : Try,t ∈ ts ++ [⟨kn,ln,o⟩] -> t.opens = zmB ks ws ls t.key t.lock)) /\ (ts ++ [(⟨kn,ln,o⟩ : Try)]).length <= tott /\ τb.Ok (b + 200 + 20 * ((ts ++ [(⟨kn,ln,o⟩ : Try)]).length : Nat)):=fun o τb hok ho => by
      refine ⟨⟨fun t ht => ?_,fun hwr t ht => ?_⟩,by simp; omega,hok.mono (by simp; omega)⟩
      ·rcases List.mem_append.1 ht with ht | ht
       ·exact htr t ht
       ·rw [List.mem_singleton.1 ht]; exact ⟨⟨by show (0 : Int) <= kn; omega,by show (kn : Int) < _; omega⟩,by show (0 : Int) <= ln; omega,by show (ln : Int) < _; omega⟩
      ·rcases List.mem_append.1 ht with ht | ht
       ·exact htd hwr t ht
       ·rw [List.mem_singleton.1 ht]; exact (ho hwr).trans how.symm
     refine zl5 ?_;simp only [seval,hT.am];refine zpc (fun h5 => ?_) (fun h5 => ?_)
     ·(try simp only [seval,hT.am]);refine zl6 ((f44_c (hT.more _) hto3 (by omega) (by omega) ?_));(try simp only [seval,hT.am]);refine zlu ?_;refine ⟨fun h6 => ?_,fun h6 => ?_⟩
      ·refine zl5 ?_;simp only [seval,hT.am];refine zl5 ?_;simp only [seval,zt3,zd5,htln,hT.am];refine ⟨by omega,?_⟩;refine zl5 ?_;simp only [seval,hw7];refine hR _ ⟨(ts ++ [⟨kn,ln,!(zni (zme w y.cuts) l)⟩],tick τa),by show tott - (ts ++ [_]).length < tott - ts.length; simp; omega,hnew _ _ (hto3.tick.mono (by omega)) (fun e => absurd (h5.symm.trans e) (by decide)),?_⟩;refine zce [.cells [iv kn,iv ln,bv (!(zni (zme w y.cuts) l))] 28] (zam rfl rfl) (by simp only [seval,List.length_append]; simp [zaf,Wk.refl]) (zh9 hT hH _ _ _ _ _) (by simp only [List.forall_mem_cons,zap,iv]; simp) (by simp [roL,Try.l])
      ·refine zly ?_;refine zl5 ?_;simp only [seval,zt3,zd5,htln,hT.am];refine ⟨by omega,?_⟩;refine zl5 ?_;simp only [seval,hw7];refine hR _ ⟨(ts ++ [⟨kn,ln,zni (zme w y.cuts) l⟩],tick τa),by show tott - (ts ++ [_]).length < tott - ts.length; simp; omega,hnew _ _ (hto3.tick.mono (by omega)) (fun _ => rfl),?_⟩;refine zce [.cells [iv kn,iv ln,bv (zni (zme w y.cuts) l)] 28] (zam rfl rfl) (by simp only [seval,List.length_append]; simp [zaf,Wk.refl]) (zh9 hT hH _ _ _ _ _) (by simp only [List.forall_mem_cons,zap,iv]; simp) (by simp [roL,Try.l])
     ·(try simp only [seval,hT.am]);refine zlu ?_;refine zly ?_;refine zl5 ?_;simp only [seval,zt3,zd5,htln,hT.am];refine ⟨by omega,?_⟩;refine zl5 ?_;simp only [seval,hw7];refine hR _ ⟨(ts ++ [⟨kn,ln,zni (zme w y.cuts) l⟩],τa),by show tott - (ts ++ [_]).length < tott - ts.length; simp; omega,hnew _ _ (hto3.mono (by omega)) (fun _ => rfl),?_⟩;refine zce [.cells [iv kn,iv ln,bv (zni (zme w y.cuts) l)] 28] (zam rfl rfl) (by simp only [seval,List.length_append]; simp [zaf,Wk.refl]) (zh9 hT hH _ _ _ _ _) (by simp only [List.forall_mem_cons,zap,iv]; simp) (by simp [roL,Try.l])
    ·refine zlF ?_;refine zl5 ?_;simp only [seval,hT.am];refine znH ?_;simp only [seval,hT.am];exact hend
   ·have h3 : ¬ (0 : Int) < tott - ts.length:=(by simpa using h3);(try simp only [seval,roL,hT.am]);refine zlu ?_;refine zlF ?_;refine zl5 ?_;simp only [seval,hT.am];refine znH ?_;simp only [seval,hT.am];exact hend
theorem f49_c {K L T : Nat} {wr : Bool} (hT : TinAt Gf t N) (hτ : τ.Ok b) (hb : b < 2 ^ 30) (hK : 1 <= K /\ K <= 4) (hL : L <= 4) (hTn : T <= 6)
  (hk : ∀ x ws τ',RingP K L T wr x ws -> τ'.Ok (b + 1000) -> k (.tup [x.av,aInts ws]) (Gf τ')) : FnC lv Tryz.prog 49 (Gf τ) [.op t 0,iv K,iv L,iv T,bv wr] k kp :=
 f49_g hT hτ hb hK hL hTn fun x ws τ' hP hto hok hwl => by
  rw [<- hT.len τ'];exact endA (b:=.tup [x.av,aInts ws]) hok (zdC (zhX (.cons (Wk.refl _) (.cons (zaK _ _ _) (.cons (zaK _ _ _) (.cons (zaK _ _ _) .nil))))) (by rw [<- hwl]; exact zaK _ _ _)) (by simp only [zaD,List.forall_mem_cons,zfC,zbi]; simp) (hk x ws τ' hP hto)
end
section
variable {lv : Bool} {H : List AObj} {k kp : AV -> List AObj -> Prop}
theorem f53_k {x : Ring} (hmain : H[0]? = some .main) (hs : x.Small) (hx : x.Ok) (h : k (.tup [iv (zlD x []).length,iv 0]) H) : FnC true Tryz.prog 53 H [x.av] k kp :=
 f53_c zaQ hmain hs (fun e => absurd (zaN.2 ⟨zbH.2 hx,rfl⟩) e) fun _ => h
theorem tinOk0 {nums : List Int} (h : nums.length <= 2 ^ 50) (s : Int) : (⟨nums,0,s⟩ : TinS).Ok 0:=⟨Int.le_refl _,Int.le_refl _,h⟩
theorem RingP.ok {K L T : Nat} {wr : Bool} {x : Ring} {ws : List Int} (h : RingP K L T wr x ws) (hK : K <= 4) (hL : L <= 4) (hT : T <= 6) : x.Ok where
 cuts:=⟨h.cuts.1,by have:=h.cuts.2; omega⟩
 keys:=by have:=h.keys.2; omega
 key:=h.kp.key
 locks:=by have:=h.locks; omega
 lock:=h.lock
 tries:=by have:=h.tries; omega
 tried:=h.tried
theorem Ring.Ok.small {x : Ring} (h : x.Ok) : x.Small where
 keys:=by have:=h.keys; omega
 locks:=by have:=h.locks; omega
 tries:=by have:=h.tries; omega
 cuts:=fun y hy => by have:=(h.key y hy).1; have:=h.cuts; omega
 bands:=fun l hl => by have:=(h.lock l hl).1; have:=h.cuts; omega
theorem ztn {P : Program} {f : FuncId} {l l' : List AV} (h : Wks l l') (hf : FnC lv P f H l' k kp) : FnC lv P f H l k kp:=fun E V vs hc hd => by
 refine hf E V vs hc ⟨by rw [hd.1,h.len],fun i a ha => ?_⟩;obtain ⟨b,hb⟩:=zaE (xs:=l) (i:=i) (by rw [h.len]; exact get_lt ha);exact h.at i a b ha hb E _ (hd.2 i b hb)
theorem f25_c (hmain : H[0]? = some .main) (hk : k (bv true) H) : FnC true Tryz.prog 25 H [] k kp:=by
 refine zlA (rs:=[.tmp 0]) (nt:=177) Tryz.f25 fun hH hA => ?_;simp only [zlW,Nat.reduceAdd];refine zfK ?_;refine zfK ?_;refine zl6 ((f80_c (ts:=[]) (by decide) ?_));(try simp only [seval]);refine zl6 ((zuC hmain ?_));(try simp only [seval]);refine zfK ?_;refine zl6 ((f80_c (ts:=[]) (by decide) ?_));(try simp only [seval]);refine zl6 ((zsn hmain ?_));(try simp only [seval]);refine zfK ?_;refine zl6 ((f82_c ?_));(try simp only [seval,Try.av,Try.l,exLast,zt3,zd5]);refine zl6 ((f80_c (ts:=[exLast]) (by decide) ?_));(try simp only [seval]);refine zl6 ((zsp hmain ?_));(try simp only [seval]);refine zfK ?_;refine zl6 ((f80_c (ts:=[]) (by decide) ?_));(try simp only [seval]);refine zl6 ((ex_ask hmain ?_));(try simp only [seval]);refine zfK ?_;refine zl6 ((f82_c ?_));(try simp only [seval,Try.av,Try.l,exLast,zt3,zd5]);refine zl6 ((f80_c (ts:=[exLast]) (by decide) ?_));(try simp only [seval]);refine zl6 ((zso hmain ?_));(try simp only [seval]);refine zfK ?_;refine zl6 ((f84_c ?_));(try simp only [seval]);refine zl6 ((zsq hmain ?_));(try simp only [seval]);refine zfK ?_;refine zl6 ((f80_c (ts:=[]) (by decide) ?_));(try simp only [seval,zu2,zes]);refine zl6 ((ztn (.cons (Wk.refl _) (.cons (zaK _ _ _) .nil)) (zsm hmain ?_)));(try simp only [seval]);refine zfK ?_;refine zl6 ((f80_c (ts:=[]) (by decide) ?_));(try simp only [seval,zr2,zes]);refine zl6 ((ztn (.cons (Wk.refl _) (.cons (zaK _ _ _) .nil)) (ex_cut hmain ?_)));(try simp only [seval]);refine zfK ?_;refine zl6 ((f83_c ?_));(try simp only [seval,Try.av,Try.l,exNever,zt3,zd5]);refine zl6 ((f80_c (ts:=[exNever]) (by decide) ?_));(try simp only [seval]);refine zl6 ((zsl hmain ?_));(try simp only [seval]);refine zfK ?_;refine zl6 ((f80_c (ts:=[]) (by decide) ?_));(try simp only [seval]);refine zl6 ((zuD hmain ?_));(try simp only [seval]);refine zl5 ?_;simp only [seval,List.append_eq,beq_self_eq_true,zr2,zes];refine zl6 ((f34_same (xs:=[0,1]) (by decide) ?_));(try simp only [seval,List.append_eq,beq_self_eq_true,zr3,zd5]);refine zl6 ((f34_same (xs:=[0,1,2]) (by decide) ?_));(try simp only [seval,List.append_eq,beq_self_eq_true,zr3,zd5]);refine zl6 ((f34_same (xs:=[0,1,0]) (by decide) ?_));(try simp only [seval,List.append_eq,beq_self_eq_true,zr2,zes]);refine zl6 ((f34_same (xs:=[1,2]) (by decide) ?_));(try simp only [seval,List.append_eq,beq_self_eq_true,zr2,zes]);refine zl6 ((f34_same (xs:=[2,1]) (by decide) ?_));(try simp only [seval,List.append_eq,beq_self_eq_true,z1,zhq]);refine zl6 ((f34_same (xs:=[0]) (by decide) ?_));(try simp only [seval,List.append_eq,beq_self_eq_true,zr2,zes]);refine zl6 ((f34_same (xs:=[0,1]) (by decide) ?_));(try simp only [seval]);refine zlz ?_;exact zao hk
def zp4 (n : Nat) : Nat -> Nat -> List (List Int)
 | 0,_ => [[]]
 | k + 1,first => (List.range' first (n - k - first)).flatMap fun i => (zp4 n k (i + 1)).map ((i : Int) :: ·)
def zmq (n : Nat) : List (List Int):=(List.range (n + 1)).flatMap fun k => zp4 n k 0
theorem zlE : ∀ n,n <= 6 -> zmq n = (List.range (n + 1)).flatMap (zmD n):=by decide +kernel
end
section
variable {lv : Bool}
end
theorem zlI : ∀ n,n <= 6 -> ∀ r ∈ zmq n,r.length <= 6 /\ ∀ i ∈ r,0 <= i /\ i < n:=by decide +kernel
section
variable {lv : Bool} {H : List AObj} {k kp : AV -> List AObj -> Prop}
end
def znz (n : Nat) : Nat -> List (List Int)
 | 0 => [[]]
 | k + 1 => (List.range n).flatMap fun i : Nat => (znz n k).map ((i : Int) :: ·)
theorem zeh : ∀ n,n <= 4 -> ∀ k,k <= 4 -> (znz n k).length <= 256 /\ ∀ r ∈ znz n k,r.length = k /\ ∀ i ∈ r,0 <= i /\ i < n:=by decide +kernel
section
variable {lv : Bool}
end
section
variable {lv : Bool} {H : List AObj} {k kp : AV -> List AObj -> Prop}
def zn5 (x : Ring) (t : List Int) : Nat -> Bool
 | 0 => true
 | k + 1 => zn5 x t k && (match x.keys[k]?,t[k]? with | some y,some w => decide (y.wear.min <= w) && decide (w <= y.wear.max) | _,_ => true)
def zng (x : Ring) (t : List Int) : Nat -> Bool
 | 0 => true
 | i + 1 => zng x t i && (match x.tries[i]? with | some r => zmB x.keys t x.locks r.key r.lock == r.opens | none => true)
def zqq (x : Ring) (t : List Int) : Bool:=zn5 x t x.keys.length && zng x t x.tries.length
def zmh (x : Ring) : List (List Int):=(znz 3 x.keys.length).filter (zqq x)
theorem zgv {x : Ring} {t : List Int} {k : Nat} {y : Key} {w : Int} (hy : x.keys[k]? = some y) (hw : t[k]? = some w) : zn5 x t (k + 1) = (zn5 x t k && (decide (y.wear.min <= w) && decide (w <= y.wear.max))):=by rw [zn5,hy,hw]
theorem zf9 {x : Ring} {t : List Int} {i : Nat} {r : Try} (hr : x.tries[i]? = some r) : zng x t (i + 1) = (zng x t i && (zmB x.keys t x.locks r.key r.lock == r.opens)):=by rw [zng,hr]
def zoQ (ks : List Key) (r : List Int) : Bool:=(ks.zip r).all fun p => decide (p.1.wear.min <= p.2) && decide (p.2 <= p.1.wear.max)
theorem zlx (y : Key) (ks : List Key) (w : Int) (r : List Int) : zoQ (y :: ks) (w :: r) = (decide (y.wear.min <= w) && decide (w <= y.wear.max) && zoQ ks r):=by simp [zoQ]
theorem zlU {lo hi : Int} (h0 : 0 <= lo) (h1 : lo <= hi) (h2 : hi <= 2) {β : Type} (f : Int -> List β) : (zmH lo hi).flatMap f = (List.range 3).flatMap fun i : Nat => if decide (lo <= (i : Int)) && decide ((i : Int) <= hi) then f i else []:=by
 have hr : List.range 3 = [0,1,2]:=rfl;have hl : lo = 0 \/ lo = 1 \/ lo = 2:=by omega
 have hh : hi = 0 \/ hi = 1 \/ hi = 2:=by omega
 rw [hr];rcases hl with rfl | rfl | rfl <;> rcases hh with rfl | rfl | rfl <;> first | omega | (simp [zmH,List.range_succ])
theorem zli : ∀ (ys : List Key) (pre : List Int) (m : Nat),(∀ y ∈ ys,y.wear.Ok 2) -> zmz ys pre.length (pre ++ List.replicate (m + ys.length) 0) = ((znz 3 ys.length).filter (zoQ ys)).map fun r => pre ++ r ++ List.replicate m 0
 | [],pre,m,_ => by simp [zmz,znz,zoQ]
 | y :: ys,pre,m,h => by
  have hy:=h y List.mem_cons_self;rw [zmz,zlU hy.min hy.le hy.max];show _ = (((List.range 3).flatMap fun i : Nat => (znz 3 ys.length).map ((i : Int) :: ·)).filter (zoQ (y :: ys))).map _;rw [List.filter_flatMap,List.map_flatMap];congr 1;funext i;have hset : (pre ++ List.replicate (m + (y :: ys).length) 0).set pre.length (i : Int) = (pre ++ [(i : Int)]) ++ List.replicate (m + ys.length) 0:=by
   rw [List.set_append_right _ _ (Nat.le_refl _),Nat.sub_self,List.length_cons,<- Nat.add_assoc,List.replicate_succ,List.set_cons_zero,List.append_assoc]; rfl
  have ih:=zli ys (pre ++ [(i : Int)]) m fun z hz => h z (List.mem_cons_of_mem _ hz);rw [List.length_append,List.length_singleton] at ih;rw [hset,ih];cases hc : (decide (y.wear.min <= (i : Int)) && decide ((i : Int) <= y.wear.max)) with
  | true =>
   rw [if_pos rfl,List.filter_map,List.map_map];have : (zoQ (y :: ys) ∘ fun x => (i : Int) :: x) = zoQ ys:=(by funext r; simp only [Function.comp]; rw [zlx,hc,Bool.true_and]);rw [this];congr 1;funext r;simp
  | false =>
   rw [if_neg (by simp),List.filter_map,List.map_map];have : (zoQ (y :: ys) ∘ fun x => (i : Int) :: x) = fun _ => false:=(by funext r; simp only [Function.comp]; rw [zlx,hc,Bool.false_and]);rw [this];simp
def padR (n : Nat) (r : List Int) : List Int:=r ++ List.replicate (4 - n) 0
theorem zlG {x : Ring} (hx : x.Ok) : zlK x = ((znz 3 x.keys.length).filter (zoQ x.keys)).map (padR x.keys.length):=by
 have h4:=hx.keys;have h:=zli x.keys [] (4 - x.keys.length) fun y hy => (hx.key y hy).2.2;rw [show 4 - x.keys.length + x.keys.length = 4 by omega] at h;exact h
theorem zlw (x : Ring) (t : List Int) : ∀ k,k <= x.keys.length -> k <= t.length -> zn5 x t k = ((x.keys.zip t).take k).all fun p => decide (p.1.wear.min <= p.2) && decide (p.2 <= p.1.wear.max)
 | 0,_,_ => rfl
 | k + 1,h,h' => by
  obtain ⟨y,hy⟩:=zaE (xs:=x.keys) (i:=k) (by omega);obtain ⟨w,hw⟩:=zaE (xs:=t) (i:=k) (by omega);have hz : (x.keys.zip t)[k]? = some (y,w):=by rw [List.getElem?_zip_eq_some]; exact ⟨hy,hw⟩
  rw [zgv hy hw,zlw x t k (by omega) (by omega)];obtain ⟨hj,hle⟩:=List.getElem?_eq_some_iff.1 hz;rw [List.take_succ_eq_append_getElem hj,hle,List.all_append];simp
theorem zlP {x : Ring} {t : List Int} (h : t.length = x.keys.length) : zn5 x t x.keys.length = zoQ x.keys t:=by
 rw [zlw x t _ (Nat.le_refl _) (by omega),List.take_of_length_le (by simp [h])]; rfl
theorem ziC (cuts : Int) (ds : List Int) (ls : List (List Band)) (j : Nat) : ∀ i,(zmk cuts ds ls i).testBit j = (decide (j < i) && (match ls[j]? with | some l => zni (ds.take cuts.toNat) l | none => false))
 | 0 => by simp [zmk]
 | i + 1 => by
  have ih:=ziC cuts ds ls j i;have hlt:=zb5 cuts ds ls i;have hhi : (zmk cuts ds ls i).testBit i = false:=Nat.testBit_lt_two_pow hlt;unfold zmk;by_cases hji : j = i
  ·subst hji;cases hl : ls[j]? with
   | none => simp [hhi]
   | some l =>
    simp only;split
    ·rename_i hf; simp [Nat.testBit_or,Nat.testBit_two_pow_self,hf]
    ·rename_i hf; simp [hhi,hf]
  ·have hd : decide (j < i + 1) = decide (j < i):=(by congr 1; simp; omega);rw [hd];cases hl : ls[i]? with
   | none => exact ih
   | some l =>
    simp only;split
    ·rw [Nat.testBit_or,ih,Nat.testBit_two_pow_of_ne (Ne.symm hji),Bool.or_false]
    ·exact ih
theorem zf8 {x : Ring} (hx : x.Ok) {t : List Int} (ht : t.length = x.keys.length) (hb : ∀ w ∈ t,0 <= w /\ w <= 2) {k l : Nat} (hk : k < x.keys.length) (hl : l < x.locks.length) : (zmy x (padR x.keys.length t) k).testBit l = zmB x.keys t x.locks k l:=by
 obtain ⟨y,hy⟩:=zaE hk;obtain ⟨lk,hlk⟩:=zaE hl;obtain ⟨w,hw⟩:=zaE (xs:=t) (i:=k) (by omega);obtain ⟨hyc,hyb,hyw⟩:=hx.key y (zas hy);have hw0:=(hb w (zas hw)).1;have hc:=hx.cuts;have hp : (padR x.keys.length t).getD k 0 = w:=by
  unfold padR;rw [List.getD_eq_getElem?_getD,List.getElem?_append_left (by omega),hw]; rfl
 have how : zmB x.keys t x.locks k l = zni (zme w y.cuts) lk:=by
  unfold zmB;simp only [Int.toNat_natCast,List.getD_eq_getElem?_getD,hy,hw,hlk,Option.map_some,Option.getD_some]
 rw [how];unfold zmy zmf;rw [hp,hy];simp only;rw [ziC,hlk];have hwn : ((w.toNat : Nat) : Int) = w:=by omega
 have htk : (zme (w.toNat : Nat) (zlX y.cuts)).take x.cuts.toNat = zme w y.cuts:=by
  rw [hwn];unfold zme zlX;rw [List.take_of_length_le (show y.cuts.length <= 4 by omega),List.map_append,List.take_append_of_le_length (by simp; omega),List.take_of_length_le (by simp; omega)]
 rw [htk];simp [hl]
def znq (x : Ring) (t keys : List Int) (p q : Nat) : Bool:=keys.any fun k => zmB x.keys t x.locks k p != zmB x.keys t x.locks k q
theorem zlN {x : Ring} (hx : x.Ok) {t : List Int} (ht : t.length = x.keys.length) (hb : ∀ w ∈ t,0 <= w /\ w <= 2) : ∀ i,i <= x.tries.length -> okTo x [] (padR x.keys.length t) i = zng x t i
 | 0,_ => rfl
 | i + 1,h => by
  obtain ⟨r,hr⟩:=zaE (xs:=x.tries) (i:=i) (by omega);obtain ⟨⟨hk0,hk⟩,hl0,hl⟩:=hx.tried r (zas hr);rw [okTo,zlN hx ht hb i (by omega),zf9 hr,hr];have h1:=zf8 hx ht hb (k:=r.key.toNat) (l:=r.lock.toNat) (by omega) (by omega);have e1 : ((r.key.toNat : Nat) : Int) = r.key:=by omega
  have e2 : ((r.lock.toNat : Nat) : Int) = r.lock:=by omega
  rw [e1,e2] at h1;simp only [List.contains_nil,Bool.false_or];unfold zpa;rw [<- h1]; rfl
theorem zlO {α : Type} (l : List α) (p : α -> Bool) : ((l.zipIdx.filter fun y => p y.1).map (·.1)) = l.filter p:=by
 have h:=List.filter_map (f:=fun y : α × Nat => y.1) (p:=p) (l:=l.zipIdx);rw [List.zipIdx_map_fst] at h;exact h.symm
theorem zgX {x : Ring} (hx : x.Ok) : (zlD x []).map (·.1) = (zmh x).map (padR x.keys.length):=by
 unfold zlD zmu;rw [zlO (zlK x) fun r => okTo x [] r x.tries.length,zlG hx,List.filter_map,List.filter_filter];congr 1;unfold zmh;refine List.filter_congr fun t ht => ?_;obtain ⟨h1,h2⟩:=(zeh 3 (by omega) x.keys.length hx.keys).2 t ht;have hb : ∀ w ∈ t,0 <= w /\ w <= 2:=fun w hw => by have:=h2 w hw; omega
 simp only [Function.comp];rw [zlN hx h1 hb _ (Nat.le_refl _),zqq,zlP h1,Bool.and_comm]
theorem zlQ {x : Ring} (hx : x.Ok) : (zlD x []).length = (zmh x).length:=by
 have:=congrArg List.length (zgX hx);rwa [List.length_map,List.length_map] at this
theorem zlR {x : Ring} (hx : x.Ok) (f : List Int -> Bool) : ((zlD x []).all fun y => f y.1) = (zmh x).all fun t => f (padR x.keys.length t):=by
 have h:=congrArg (fun l => List.all l f) (zgX hx);simp only [List.all_map] at h;exact h
theorem zhQ {x : Ring} (hx : x.Ok) : ∀ t ∈ zmh x,t.length = x.keys.length /\ ∀ w ∈ t,0 <= w /\ w <= 2:=fun t ht => by
 obtain ⟨h1,h2⟩:=(zeh 3 (by omega) x.keys.length hx.keys).2 t (List.mem_filter.1 ht).1;exact ⟨h1,fun w hw => by have:=h2 w hw; omega⟩
end
def zpE (x : Ring) (t keys : List Int) (n : Nat) : Bool:=(List.range n).all fun b => (List.range b).all fun a => znq x t keys b a
def zo5 (x : Ring) (keys : List Int) : Bool:=(zmh x).all fun t => zpE x t keys x.locks.length
theorem zp3 {x : Ring} (hx : x.Ok) {keys : List Int} (hk : ∀ k ∈ keys,0 <= k /\ k < x.keys.length) : zpq x (zlD x []) keys = zo5 x keys:=by
 unfold zpq zo5;rw [zlR hx fun r => zpF x r keys,Bool.eq_iff_iff];simp only [List.all_eq_true];refine forall_congr' fun t => forall_congr' fun ht => ?_;obtain ⟨h1,h2⟩:=zhQ hx t ht;rw [<- Bool.eq_iff_iff];unfold zpF zpE;rw [Bool.eq_iff_iff];simp only [List.all_eq_true,List.mem_range];refine forall_congr' fun b => forall_congr' fun hb => forall_congr' fun a => forall_congr' fun ha => ?_;rw [<- Bool.eq_iff_iff];unfold zn9 znq;rw [Bool.eq_iff_iff];simp only [List.any_eq_true];refine exists_congr fun k => and_congr_right fun hkm => ?_;obtain ⟨hk0,hk1⟩:=hk k hkm;have e : ((k.toNat : Nat) : Int) = k:=by omega
 have e1:=zf8 hx h1 h2 (k:=k.toNat) (l:=a) (by omega) (by omega);have e2:=zf8 hx h1 h2 (k:=k.toNat) (l:=b) (by omega) (by omega);rw [e] at e1 e2;rw [e1,e2];simp only [bne_iff_ne];exact ne_comm
def zqY (x : Ring) (g : List Int) (e : Int) : Prop:=(zlD x [] ≠ [] /\ zoM x = some g /\ e = 0) \/ ((zlD x [] = [] \/ zoM x = none) /\ g = [] /\ e = 11)
theorem zlT {x : Ring} (hx : x.Ok) : zoM x = (zmq x.keys.length).find? (zpq x (zlD x [])):=by
 unfold zoM zm5;rw [zlE _ (by have:=hx.keys; omega)]
section
variable {H : List AObj} {k kp : AV -> List AObj -> Prop}
theorem f42_k {x : Ring} (hmain : H[0]? = some .main) (hs : x.Small) (hx : x.Ok) (h : ∀ g en e,zqY x g e -> k (.tup [.sl g.length (g.map iv) en,iv e]) H) : FnC true Tryz.prog 42 H [x.av] k kp:=by
 have h0 : zmC x none = 0:=zaN.2 ⟨zbH.2 hx,rfl⟩;refine f42_c zaQ hmain hs (fun e => ?_) (fun e hn => h [] .exact 11 (.inr ⟨.inr hn,rfl,rfl⟩)) fun e xs hn => h xs .shut 0 (.inl ⟨(zaP.1 e).2,hn,rfl⟩);have ht : zlD x [] = []:=Classical.byContradiction fun hn => e (zaP.2 ⟨h0,hn⟩);have ho : zlS x none = 11:=by unfold zlS; rw [h0,if_neg (by simp),if_pos ht]
 rw [ho];exact h [] .exact 11 (.inr ⟨.inl ht,rfl,rfl⟩)
end
section
variable {lv : Bool} {H : List AObj} {k kp : AV -> List AObj -> Prop}
end
def zqh (x : Ring) (D : List (List Int)) (k l : Nat) : Nat:=(D.filter fun t => zmB x.keys t x.locks k l).length
theorem zrl {x : Ring} (hx : x.Ok) {k l : Nat} (hk : k < x.keys.length) (hl : l < x.locks.length) : cntM x k l (zlD x []) = zqh x (zmh x) k l:=by
 unfold cntM zqh;have h1 : ((zlD x []).filter fun t => (zmf x k (t.1.getD k 0).toNat).testBit l).length = (((zlD x []).map (·.1)).filter fun r => (zmy x r k).testBit l).length:=by
  rw [List.filter_map,List.length_map]; rfl
 rw [h1,zgX hx,List.filter_map,List.length_map];congr 1;refine List.filter_congr fun t ht => ?_;obtain ⟨h1,h2⟩:=zhQ hx t ht;exact zf8 hx h1 h2 hk hl
def endE (x : Ring) : Int:=if zmh x = [] then 11 else 0
theorem zoE {x : Ring} (hx : x.Ok) : zlD x [] = [] <-> zmh x = []:=by rw [<- List.length_eq_zero_iff,zlQ hx,List.length_eq_zero_iff]
theorem zqn {x : Ring} (hx : x.Ok) {fl : Option Int} (hf : fl = none) : zlS x fl = endE x:=by
 subst hf;have h0 : zmC x none = 0:=zaN.2 ⟨zbH.2 hx,rfl⟩;unfold zlS endE;rw [h0,if_neg (by simp)];by_cases h : zmh x = []
 ·rw [if_pos h,if_pos ((zoE hx).2 h)]
 ·rw [if_neg h,if_neg (fun e => h ((zoE hx).1 e))]
section
variable {H : List AObj} {k kp : AV -> List AObj -> Prop}
theorem f32_k {x : Ring} {n l : Nat} (hmain : H[0]? = some .main) (hx : x.Ok) (hn : n < x.keys.length) (hl : l < x.locks.length) (h : k (.tup [iv (if zmh x = [] then 0 else znC (zqh x (zmh x) n l) (zmh x).length),iv (endE x)]) H) : FnC true Tryz.prog 32 H [x.av,iv n,iv l] k kp:=by
 have hf : zm4 x n l = none:=zgu.2 ⟨⟨by omega,by omega⟩,by omega,by omega⟩;have ho:=zqn hx hf;refine f32_c zaQ hmain hx.small (fun e => ?_) (fun e => ?_)
 ·rw [ho] at e ⊢;have hD : zmh x = []:=Classical.byContradiction fun hn => e (by unfold endE; rw [if_neg hn]);rw [if_pos hD] at h;exact h
 ·rw [ho] at e;rw [Int.toNat_natCast,Int.toNat_natCast,zrl hx hn hl,zlQ hx];have hD : zmh x ≠ []:=fun hD => by unfold endE at e; rw [if_pos hD] at e; cases e
  rw [if_neg hD,e] at h;exact h
theorem zny {n : Nat} {k : Int} : k ∈ zmE n <-> 0 <= k /\ k < n:=by
 unfold zmE;rw [List.mem_map];refine ⟨fun ⟨i,h,e⟩ => by have:=List.mem_range.1 h; omega,fun h => ⟨k.toNat,List.mem_range.2 (by omega),by omega⟩⟩
def zrm (x : Ring) (t keys : List Int) (l : Nat) : Bool:=keys.any fun k => zmB x.keys t x.locks k l
def zp9 (x : Ring) (t keys : List Int) (n : Nat) : Bool:=(List.range n).all fun l => zrm x t keys l
def znr (x : Ring) (keys : List Int) : Bool:=(zmh x).all fun t => zp9 x t keys x.locks.length
theorem zl1 (x : Ring) (t : List Int) (l : Nat) : ∀ (keys : List Int) (a : Nat),(keys.foldl (fun a q => a ||| zmy x t q.toNat) a).testBit l = (a.testBit l || keys.any fun q => (zmy x t q.toNat).testBit l)
 | [],a => by simp
 | q :: keys,a => by
  rw [List.foldl_cons,zl1 x t l keys,Nat.testBit_or,List.any_cons,Bool.or_assoc]
theorem zqm {x : Ring} (k w : Nat) : zmf x k w < 2 ^ x.locks.length:=by
 unfold zmf;split
 ·exact zb5 _ _ _ _
 ·exact Nat.two_pow_pos _
theorem zt6 {x : Ring} (t keys : List Int) : orM x t keys < 2 ^ x.locks.length:=by
 unfold orM;have : ∀ (l : List Int) (a : Nat),a < 2 ^ x.locks.length -> l.foldl (fun a q => a ||| zmy x t q.toNat) a < 2 ^ x.locks.length:=by
  intro l;induction l with
  | nil => exact fun a h => h
  | cons y l ih => exact fun a h => ih _ (Nat.or_lt_two_pow h (zqm _ _))
 exact this keys 0 (Nat.two_pow_pos _)
theorem zl2 {a n : Nat} (h : a < 2 ^ n) : a = 2 ^ n - 1 <-> ∀ l,l < n -> a.testBit l = true:=by
 constructor
 ·rintro rfl l hl
  rw [Nat.testBit_two_pow_sub_one]; simpa using hl
 ·intro hb;refine Nat.eq_of_testBit_eq fun l => ?_;rw [Nat.testBit_two_pow_sub_one];by_cases hl : l < n
  ·rw [hb l hl]; simp [hl]
  ·rw [Nat.testBit_lt_two_pow (Nat.lt_of_lt_of_le h (Nat.pow_le_pow_right (by decide) (Nat.le_of_not_lt hl)))]; simp [hl]
theorem zl3 {x : Ring} (hx : x.Ok) {keys : List Int} (hk : ∀ k ∈ keys,0 <= k /\ k < x.keys.length) : zoo x (zlD x []) keys = znr x keys:=by
 unfold zoo znr;rw [zlR hx fun r => orM x r keys == 2 ^ x.locks.length - 1,Bool.eq_iff_iff];simp only [List.all_eq_true];refine forall_congr' fun t => forall_congr' fun ht => ?_;obtain ⟨h1,h2⟩:=zhQ hx t ht;rw [beq_iff_eq,zl2 (zt6 _ _)];unfold zp9;simp only [List.all_eq_true,List.mem_range];refine forall_congr' fun l => forall_congr' fun hl => ?_;unfold orM zrm;rw [zl1,Nat.zero_testBit,Bool.false_or,<- Bool.eq_iff_iff,Bool.eq_iff_iff];simp only [List.any_eq_true];refine exists_congr fun k => and_congr_right fun hkm => ?_;obtain ⟨hk0,hk1⟩:=hk k hkm;have e : ((k.toNat : Nat) : Int) = k:=by omega
 have e1:=zf8 hx h1 h2 (k:=k.toNat) (l:=l) (by omega) hl;rw [e] at e1;rw [e1]
def zp1 (x : Ring) (g : List Int) (e : Int) : Prop:=(zlD x [] ≠ [] /\ znV x = some g /\ e = 0) \/ ((zlD x [] = [] \/ znV x = none) /\ g = [] /\ e = 11)
theorem zl0 {x : Ring} (hx : x.Ok) : znV x = (zmq x.keys.length).find? (zoo x (zlD x [])):=by
 unfold znV zm5;rw [zlE _ (by have:=hx.keys; omega)]
theorem f38_k {x : Ring} (hmain : H[0]? = some .main) (hs : x.Small) (hx : x.Ok) (h : ∀ g en e,zp1 x g e -> k (.tup [.sl g.length (g.map iv) en,iv e]) H) : FnC true Tryz.prog 38 H [x.av] k kp:=by
 have h0 : zmC x none = 0:=zaN.2 ⟨zbH.2 hx,rfl⟩;refine f38_c zaQ hmain hs (fun e => ?_) (fun e hn => h [] .exact 11 (.inr ⟨.inr hn,rfl,rfl⟩)) fun e xs hn => h xs .shut 0 (.inl ⟨(zaP.1 e).2,hn,rfl⟩);have ht : zlD x [] = []:=Classical.byContradiction fun hn => e (zaP.2 ⟨h0,hn⟩);have ho : zlS x none = 11:=by unfold zlS; rw [h0,if_neg (by simp),if_pos ht]
 rw [ho];exact h [] .exact 11 (.inr ⟨.inl ht,rfl,rfl⟩)
end
def Key.rev (y : Key) : Key:=⟨y.cuts.reverse,y.wear⟩
def Ring.rev (x : Ring) : Ring:=⟨x.cuts,x.keys.map Key.rev,x.locks.map List.reverse,x.tries⟩
theorem zn1 {n : Nat} : ∀ {k : Nat} {t : List Int},t.length = k -> (∀ w ∈ t,0 <= w /\ w < n) -> t ∈ znz n k
 | 0,t,h,_ => by rw [List.length_eq_zero_iff.1 h]; simp [znz]
 | k + 1,[],h,_ => by simp at h
 | k + 1,w :: t,h,hw => by
  have h1:=zn1 (n:=n) (k:=k) (t:=t) (by simpa using h) fun v hv => hw v (List.mem_cons_of_mem _ hv);obtain ⟨h2,h3⟩:=hw w (List.mem_cons_self ..);unfold znz;refine List.mem_flatMap.2 ⟨w.toNat,List.mem_range.2 (by omega),List.mem_map.2 ⟨t,h1,?_⟩⟩;have : ((w.toNat : Nat) : Int) = w:=by omega
  rw [this]
theorem zoK {x : Ring} {t : List Int} (h : ∀ r ∈ x.tries,zmB x.keys t x.locks r.key r.lock = r.opens) : ∀ i,zng x t i = true
 | 0 => rfl
 | i + 1 => by
  unfold zng;rw [zoK h i,Bool.true_and];cases hr : x.tries[i]? with
  | none => rfl
  | some r => simp only; rw [h r (zas hr)]; simp
structure IsPerm (p : List Int) (n : Nat) : Prop where
 len : p.length = n
 nodup : p.Nodup
 rng : ∀ v ∈ p,0 <= v /\ v < (n : Int)
def atI (p : List Int) (i : Int) : Int:=p.getD i.toNat 0
theorem zrK : ∀ n,n <= 4 -> ∀ p ∈ znz n n,p.Nodup -> ∀ j,j < n -> (j : Int) ∈ p:=by decide +kernel
theorem IsPerm.mem {p : List Int} {n : Nat} (h : IsPerm p n) (hn : n <= 4) {v : Int} (h0 : 0 <= v) (h1 : v < n) : v ∈ p:=by
 have:=zrK n hn p (zn1 h.len h.rng) h.nodup v.toNat (by omega);rwa [show ((v.toNat : Nat) : Int) = v by omega] at this
theorem IsPerm.at {p : List Int} {n : Nat} (h : IsPerm p n) {i : Nat} (hi : i < n) : p[i]? = some (atI p i):=by
 obtain ⟨v,hv⟩:=zaE (xs:=p) (i:=i) (by rw [h.len]; exact hi);unfold atI;rw [Int.toNat_natCast,List.getD_eq_getElem?_getD,hv]; rfl
theorem IsPerm.at_rng {p : List Int} {n : Nat} (h : IsPerm p n) {i : Int} (h0 : 0 <= i) (h1 : i < n) : 0 <= atI p i /\ atI p i < (n : Int):=by
 have:=h.at (i:=i.toNat) (by omega);rw [show ((i.toNat : Nat) : Int) = i by omega] at this;exact h.rng _ (zas this)
theorem zp5 {α : Type} {l : List α} (h : l.Nodup) {i j : Nat} {a : α} (hi : l[i]? = some a) (hj : l[j]? = some a) : i = j:=by
 have hil:=get_lt hi;exact (List.getElem?_inj hil h).1 (hi.trans hj.symm)
theorem IsPerm.inj {p : List Int} {n : Nat} (h : IsPerm p n) {i j : Int} (hi0 : 0 <= i) (hi : i < n) (hj0 : 0 <= j) (hj : j < n) (e : atI p i = atI p j) : i = j:=by
 have h1:=h.at (i:=i.toNat) (by omega);have h2:=h.at (i:=j.toNat) (by omega);rw [show ((i.toNat : Nat) : Int) = i by omega] at h1;rw [show ((j.toNat : Nat) : Int) = j by omega,<- e] at h2;have:=zp5 h.nodup h1 h2;omega
theorem IsPerm.pre {p : List Int} {n : Nat} (h : IsPerm p n) (hn : n <= 4) {v : Int} (h0 : 0 <= v) (h1 : v < n) : ∃ i : Nat,i < n /\ atI p i = v:=by
 obtain ⟨i,hi⟩:=List.mem_iff_getElem?.1 (h.mem hn h0 h1);have hil:=get_lt hi;rw [h.len] at hil;refine ⟨i,hil,?_⟩;have:=h.at hil;rw [hi] at this; exact (Option.some.inj this).symm
def zob (p t : List Int) : List Int:=p.map fun v => t.getD v.toNat 0
def zql (p t : List Int) (n : Nat) : List Int:=(List.range n).map fun j : Nat => t.getD (p.idxOf (j : Int)) 0
theorem zoj {p t : List Int} {n : Nat} (h : IsPerm p n) {i : Nat} (hi : i < n) : (zob p t).getD i 0 = t.getD (atI p i).toNat 0:=by
 unfold zob;rw [List.getD_eq_getElem?_getD,List.getElem?_map,h.at hi]; rfl
theorem zoJ {p t : List Int} {n : Nat} (h : IsPerm p n) (ht : t.length = n) : zob p (zql p t n) = t:=by
 refine List.ext_getElem? fun i => ?_;unfold zob;rw [List.getElem?_map];by_cases hi : i < n
 ·have hv:=h.at hi;have hr:=h.rng _ (zas hv);rw [hv];have hx : p.idxOf (atI p i) = i:=by
   have hm : atI p i ∈ p:=zas hv;have hl : p.idxOf (atI p i) < p.length:=List.idxOf_lt_length_of_mem hm;have:=List.getElem_idxOf hl;exact zp5 h.nodup (by rw [List.getElem?_eq_getElem hl,this]) hv
  obtain ⟨a,ha⟩:=zaE (xs:=t) (i:=i) (by omega);simp only [Option.map_some];unfold zql;rw [List.getD_eq_getElem?_getD,List.getElem?_map,List.getElem?_range (by omega),Option.map_some,show (((atI p i).toNat : Nat) : Int) = atI p i by omega,hx,List.getD_eq_getElem?_getD,ha]; rfl
 ·rw [List.getElem?_eq_none (by rw [h.len]; omega),List.getElem?_eq_none (by omega)]; rfl
theorem zqw {p t u : List Int} {n : Nat} (h : IsPerm p n) (hn : n <= 4) (ht : t.length = n) (hu : u.length = n) (e : zob p t = zob p u) : t = u:=by
 refine List.ext_getElem? fun j => ?_;by_cases hj : j < n
 ·obtain ⟨i,hi,hv⟩:=h.pre hn (v:=(j : Int)) (by omega) (by omega);have h1:=zoj (t:=t) h hi;have h2:=zoj (t:=u) h hi;rw [e,h2,hv,Int.toNat_natCast] at h1;obtain ⟨a,ha⟩:=zaE (xs:=t) (i:=j) (by omega);obtain ⟨b,hb⟩:=zaE (xs:=u) (i:=j) (by omega);rw [List.getD_eq_getElem?_getD,List.getD_eq_getElem?_getD,ha,hb] at h1;rw [ha,hb]; exact congrArg some h1.symm
 ·rw [List.getElem?_eq_none (by omega),List.getElem?_eq_none (by omega)]
theorem zpy {p t : List Int} {n : Nat} (h : IsPerm p n) : (zob p t).length = n:=by unfold zob; rw [List.length_map,h.len]
structure MixedR (x y : Ring) (ks ls : List Int) : Prop where
 pk : IsPerm ks x.keys.length
 pl : IsPerm ls x.locks.length
 cuts : y.cuts = x.cuts
 kl : y.keys.length = x.keys.length
 ll : y.locks.length = x.locks.length
 key : ∀ i : Nat,i < x.keys.length -> y.keys[(atI ks i).toNat]? = x.keys[i]?
 lock : ∀ i : Nat,i < x.locks.length -> y.locks[(atI ls i).toNat]? = x.locks[i]?
 tries : y.tries = x.tries.map fun r => ⟨atI ks r.key,atI ls r.lock,r.opens⟩
theorem MixedR.opens {x y : Ring} {ks ls t : List Int} (h : MixedR x y ks ls) {k l : Int} (hk : 0 <= k /\ k < x.keys.length) (hl : 0 <= l /\ l < x.locks.length) : zmB y.keys t y.locks (atI ks k) (atI ls l) = zmB x.keys (zob ks t) x.locks k l:=by
 have h1:=h.key k.toNat (by omega);have h2:=h.lock l.toNat (by omega);rw [show ((k.toNat : Nat) : Int) = k by omega] at h1;rw [show ((l.toNat : Nat) : Int) = l by omega] at h2;have h3:=zoj (t:=t) h.pk (i:=k.toNat) (by omega);rw [show ((k.toNat : Nat) : Int) = k by omega] at h3;unfold zmB;rw [h1,h3,List.getD_eq_getElem?_getD (l:=y.locks),h2,<- List.getD_eq_getElem?_getD]
theorem zo9 {x : Ring} {t : List Int} : ∀ n,zn5 x t n = true <-> ∀ k : Nat,k < n -> ∀ y w,x.keys[k]? = some y -> t[k]? = some w -> y.wear.min <= w /\ w <= y.wear.max
 | 0 => by simp [zn5]
 | n + 1 => by
  unfold zn5;rw [Bool.and_eq_true,zo9 n];refine ⟨fun ⟨h1,h2⟩ k hk y w hy hw => ?_,fun h => ⟨fun k hk => h k (by omega),?_⟩⟩
  ·by_cases e : k = n
   ·subst e; rw [hy,hw] at h2; simpa using h2
   ·exact h1 k (by omega) y w hy hw
  ·cases hy : x.keys[n]? with
   | none => rfl
   | some y =>
    cases hw : t[n]? with
    | none => rfl
    | some w => have:=h n (by omega) y w hy hw; simpa using this
theorem zpQ {x : Ring} {t : List Int} : zng x t x.tries.length = true <-> ∀ r ∈ x.tries,zmB x.keys t x.locks r.key r.lock = r.opens:=by
 refine ⟨fun h r hr => ?_,fun h => zoK h _⟩;have : ∀ n,zng x t n = true -> ∀ i,i < n -> ∀ r,x.tries[i]? = some r -> zmB x.keys t x.locks r.key r.lock = r.opens:=fun n => by
  induction n with
  | zero => intro _ i hi; omega
  | succ n ih =>
   intro h i hi r hr;unfold zng at h;rw [Bool.and_eq_true] at h;by_cases e : i = n
   ·subst e; have h2:=h.2; rw [hr] at h2; simpa using h2
   ·exact ih h.1 i (by omega) r hr
 obtain ⟨i,hi⟩:=List.mem_iff_getElem?.1 hr;exact this _ h i (get_lt hi) r hi
theorem zpK {x : Ring} {t : List Int} : zqq x t = true <-> (∀ (k : Nat) (y : Key) (w : Int),x.keys[k]? = some y -> t[k]? = some w -> y.wear.min <= w /\ w <= y.wear.max) /\ ∀ r ∈ x.tries,zmB x.keys t x.locks r.key r.lock = r.opens:=by
 unfold zqq;rw [Bool.and_eq_true,zo9,zpQ];exact and_congr_left fun _ => ⟨fun h k y w hy hw => h k (get_lt hy) y w hy hw,fun h k _ => h k⟩
theorem zoS : ∀ n,n <= 4 -> (znz 3 n).Nodup:=by decide +kernel
theorem MixedR.fine {x y : Ring} {ks ls t : List Int} (h : MixedR x y ks ls) (hx : x.Ok) (ht : t.length = x.keys.length) : zqq y t = true <-> zqq x (zob ks t) = true:=by
 rw [zpK,zpK];refine and_congr ⟨fun hh k z w hz hw => ?_,fun hh v z w hz hw => ?_⟩ ⟨fun hh r hr => ?_,fun hh r hr => ?_⟩
 ·have hkl:=get_lt hz;have hr:=h.pk.at_rng (i:=(k : Int)) (by omega) (by omega);obtain ⟨a,ha⟩:=zaE (xs:=t) (i:=(atI ks k).toNat) (by omega);have h3:=zoj (t:=t) h.pk hkl;rw [List.getD_eq_getElem?_getD,hw,List.getD_eq_getElem?_getD,ha] at h3;have h3 : w = a:=h3;exact h3 ▸ hh (atI ks k).toNat z a (by rw [h.key k hkl]; exact hz) ha
 ·have hvl:=get_lt hz;rw [h.kl] at hvl;obtain ⟨i,hi,hv⟩:=h.pk.pre hx.keys (v:=(v : Int)) (by omega) (by omega);have h1:=h.key i hi;rw [hv,Int.toNat_natCast,hz] at h1;have h3:=zoj (t:=t) h.pk hi;rw [hv,Int.toNat_natCast,List.getD_eq_getElem?_getD (l:=t),hw] at h3;obtain ⟨a,ha⟩:=zaE (xs:=zob ks t) (i:=i) (by rw [zpy h.pk]; exact hi);rw [List.getD_eq_getElem?_getD,ha] at h3;have h3 : a = w:=h3;exact hh i z w h1.symm (by rw [ha,h3])
 ·have hr2:=hx.tried r hr;have:=hh ⟨atI ks r.key,atI ls r.lock,r.opens⟩ (by rw [h.tries]; exact List.mem_map.2 ⟨r,hr,rfl⟩);rwa [h.opens hr2.1 hr2.2] at this
 ·rw [h.tries] at hr;obtain ⟨q,hq,rfl⟩:=List.mem_map.1 hr;have hq2:=hx.tried q hq;rw [h.opens hq2.1 hq2.2];exact hh q hq
theorem MixedR.perm {x y : Ring} {ks ls : List Int} (h : MixedR x y ks ls) (hx : x.Ok) : ((zmh y).map (zob ks)).Perm (zmh x):=by
 have hk4:=hx.keys;have hlen : ∀ t ∈ zmh y,t.length = x.keys.length /\ ∀ w ∈ t,0 <= w /\ w < 3:=fun t ht => by
  have:=(zeh 3 (by decide) y.keys.length (by rw [h.kl]; exact hk4)).2 t (List.mem_filter.1 ht).1;exact ⟨this.1.trans h.kl,this.2⟩
 refine (List.perm_ext_iff_of_nodup ?_ ((zoS _ hk4).filter _)).2 fun t => ⟨fun ht => ?_,fun ht => ?_⟩
 ·have hn : (zmh y).Nodup:=(zoS _ (by rw [h.kl]; exact hk4)).filter _;unfold List.Nodup;rw [List.pairwise_map];refine List.Pairwise.imp_of_mem (fun {a b} ha hb hne e => hne (zqw h.pk hk4 (hlen a ha).1 (hlen b hb).1 e)) hn
 ·obtain ⟨u,hu,rfl⟩:=List.mem_map.1 ht;obtain ⟨h1,h2⟩:=hlen u hu;refine List.mem_filter.2 ⟨zn1 (zpy h.pk) fun w hw => ?_,(h.fine hx h1).1 (List.mem_filter.1 hu).2⟩;obtain ⟨v,hv,rfl⟩:=List.mem_map.1 hw;have hvr:=h.pk.rng v hv;obtain ⟨a,ha⟩:=zaE (xs:=u) (i:=v.toNat) (by omega);rw [List.getD_eq_getElem?_getD,ha];exact h2 a (zas ha)
 ·have hf:=List.mem_filter.1 ht;have h1:=(zeh 3 (by decide) x.keys.length hk4).2 t hf.1;refine List.mem_map.2 ⟨zql ks t x.keys.length,List.mem_filter.2 ⟨?_,?_⟩,zoJ h.pk h1.1⟩
  ·refine zn1 (by unfold zql; rw [List.length_map,List.length_range,h.kl]) fun w hw => ?_;unfold zql at hw;obtain ⟨j,hj,rfl⟩:=List.mem_map.1 hw;rw [List.getD_eq_getElem?_getD];cases e : t[ks.idxOf (j : Int)]? with
   | none => exact ⟨by decide,by decide⟩
   | some a => exact h1.2 a (zas e)
  ·rw [h.fine hx (by unfold zql; rw [List.length_map,List.length_range]),zoJ h.pk h1.1]; exact hf.2
theorem MixedR.count {x y : Ring} {ks ls : List Int} (h : MixedR x y ks ls) (hx : x.Ok) : (zmh y).length = (zmh x).length:=by
 have:=(h.perm hx).length_eq;rwa [List.length_map] at this
theorem MixedR.some {x y : Ring} {ks ls : List Int} (h : MixedR x y ks ls) (hx : x.Ok) {k l : Int} (hk : 0 <= k /\ k < x.keys.length) (hl : 0 <= l /\ l < x.locks.length) : zqh y (zmh y) (atI ks k).toNat (atI ls l).toNat = zqh x (zmh x) k.toNat l.toNat:=by
 have hkr:=h.pk.at_rng hk.1 hk.2;have hlr:=h.pl.at_rng hl.1 hl.2;unfold zqh;rw [<- ((h.perm hx).filter _).length_eq,List.filter_map,List.length_map,show (((atI ks k).toNat : Nat) : Int) = atI ks k by omega,show (((atI ls l).toNat : Nat) : Int) = atI ls l by omega,show ((k.toNat : Nat) : Int) = k by omega,show ((l.toNat : Nat) : Int) = l by omega];congr 2;funext t;exact h.opens hk hl
theorem MixedR.all {x y : Ring} {ks ls : List Int} (h : MixedR x y ks ls) (hx : x.Ok) {f g : List Int -> Bool} (hfg : ∀ t,f t = g (zob ks t)) : (zmh y).all f = (zmh x).all g:=by
 rw [<- (h.perm hx).all_eq,List.all_map];congr 1;funext t;exact hfg t
theorem zn7 : ∀ n,n <= 4 -> (zmq n).Pairwise fun a b => a.length <= b.length:=by decide +kernel
theorem zpe {α : Type} {L : List (List α)} (h : L.Pairwise fun a b => a.length <= b.length) {f : List α -> Bool} {a c : List α} (ha : L.find? f = some a) (hc : c ∈ L) (hf : f c = true) : a.length <= c.length:=by
 induction L with
 | nil => cases hc
 | cons b L ih =>
  rw [List.pairwise_cons] at h;rw [List.find?_cons] at ha;cases hb : f b with
  | true =>
   rw [hb] at ha;cases ha;rcases List.mem_cons.1 hc with rfl | hc
   ·exact Nat.le_refl _
   ·exact h.1 c hc
  | false =>
   rw [hb] at ha;rcases List.mem_cons.1 hc with rfl | hc
   ·rw [hf] at hb; cases hb
   ·exact ih h.2 ha hc
theorem zn8 (n : Nat) (hn : n <= 4) (q : Int -> Bool) : (zmE n).filter q ∈ zmq n:=by
 have : n = 0 \/ n = 1 \/ n = 2 \/ n = 3 \/ n = 4:=by omega
 rcases this with rfl | rfl | rfl | rfl | rfl <;> simp only [zmE,List.range_succ,List.range_zero,List.nil_append,List.cons_append,List.map_cons,List.map_nil,List.filter_cons,List.filter_nil] <;> (try cases q ((0 : Nat) : Int)) <;> (try cases q ((1 : Nat) : Int)) <;> (try cases q ((2 : Nat) : Int)) <;> (try cases q ((3 : Nat) : Int)) <;> decide +kernel
theorem zop : ∀ n,n <= 4 -> ∀ c ∈ zmq n,c.Nodup:=by decide +kernel
theorem zoY (n : Nat) : (zmE n).Nodup:=by
 unfold zmE List.Nodup;rw [List.pairwise_map];exact List.Pairwise.imp (fun h e => h (by omega)) List.nodup_range
theorem znB (n : Nat) (hn : n <= 4) (c : List Int) (hc : c ∈ zmq n) : ∀ v ∈ c,0 <= v /\ v < (n : Int):=(zlI n (by omega) c hc).2
theorem zpf {p : List Int} {n : Nat} (hp : IsPerm p n) (hn : n <= 4) {f g : List Int -> Bool} (hf : ∀ S S' : List Int,(∀ v,v ∈ S <-> v ∈ S') -> f S = f S') (hg : ∀ S S' : List Int,(∀ v,v ∈ S <-> v ∈ S') -> g S = g S') (h : ∀ S : List Int,(∀ v ∈ S,0 <= v /\ v < (n : Int)) -> g (S.map (atI p)) = f S) :
  ((zmq n).find? f).map List.length = ((zmq n).find? g).map List.length:=by
 have img : ∀ c ∈ zmq n,f c = true -> ∃ d ∈ zmq n,d.length = c.length /\ g d = true:=fun c hc hfc => by
  have hcr:=(znB n hn) c hc;refine ⟨(zmE n).filter fun v => decide (v ∈ c.map (atI p)),zn8 n hn _,?_,?_⟩
  ·have hP : ((zmE n).filter fun v => decide (v ∈ c.map (atI p))).Perm (c.map (atI p)):=by
    refine (List.perm_ext_iff_of_nodup ((zoY n).filter _) ?_).2 fun v => ?_
    ·unfold List.Nodup;rw [List.pairwise_map];exact List.Pairwise.imp_of_mem (fun {a b} ha hb hne e => hne (hp.inj (hcr a ha).1 (hcr a ha).2 (hcr b hb).1 (hcr b hb).2 e)) (zop n hn c hc)
    ·rw [List.mem_filter,decide_eq_true_iff];refine ⟨fun h => h.2,fun h => ⟨?_,h⟩⟩;obtain ⟨i,hi,rfl⟩:=List.mem_map.1 h;exact zny.2 (hp.at_rng (hcr i hi).1 (hcr i hi).2)
   rw [hP.length_eq,List.length_map]
  ·rw [hg _ (c.map (atI p)) fun v => ?_,h c hcr,hfc];rw [List.mem_filter,decide_eq_true_iff];refine ⟨fun h => h.2,fun h => ⟨?_,h⟩⟩;obtain ⟨i,hi,rfl⟩:=List.mem_map.1 h;exact zny.2 (hp.at_rng (hcr i hi).1 (hcr i hi).2)
 have pre : ∀ d ∈ zmq n,g d = true -> ∃ c ∈ zmq n,c.length = d.length /\ f c = true:=fun d hd hgd => by
  have hdr:=(znB n hn) d hd;have hP : (((zmE n).filter fun i => decide (atI p i ∈ d)).map (atI p)).Perm d:=by
   refine (List.perm_ext_iff_of_nodup ?_ (zop n hn d hd)).2 fun v => ?_
   ·unfold List.Nodup;rw [List.pairwise_map];refine List.Pairwise.imp_of_mem (fun {a b} ha hb hne e => hne ?_) ((zoY n).filter _);have h1:=zny.1 (List.mem_filter.1 ha).1;have h2:=zny.1 (List.mem_filter.1 hb).1;exact hp.inj h1.1 h1.2 h2.1 h2.2 e
   ·rw [List.mem_map];refine ⟨fun ⟨i,hi,e⟩ => ?_,fun hv => ?_⟩
    ·subst e; simpa using (List.mem_filter.1 hi).2
    ·obtain ⟨i,hi,e⟩:=hp.pre hn (hdr v hv).1 (hdr v hv).2;exact ⟨i,List.mem_filter.2 ⟨zny.2 ⟨by omega,by omega⟩,by rw [e]; simpa using hv⟩,e⟩
  refine ⟨(zmE n).filter fun i => decide (atI p i ∈ d),zn8 n hn _,?_,?_⟩
  ·rw [<- hP.length_eq,List.length_map]
  ·rw [<- h _ fun v hv => zny.1 (List.mem_filter.1 hv).1,hg _ d fun v => hP.mem_iff,hgd]
 cases hF : (zmq n).find? f with
 | none =>
  cases hG : (zmq n).find? g with
  | none => rfl
  | some b =>
   obtain ⟨c,hc,_,hfc⟩:=pre b (List.mem_of_find?_eq_some hG) (List.find?_some hG);have:=List.find?_eq_none.1 hF c hc;exact absurd hfc this
 | some a =>
  obtain ⟨d,hd,hdl,hgd⟩:=img a (List.mem_of_find?_eq_some hF) (List.find?_some hF);cases hG : (zmq n).find? g with
  | none => exact absurd hgd (List.find?_eq_none.1 hG d hd)
  | some b =>
   obtain ⟨c,hc,hcl,hfc⟩:=pre b (List.mem_of_find?_eq_some hG) (List.find?_some hG);have h1:=zpe (zn7 n hn) hF hc hfc;have h2:=zpe (zn7 n hn) hG hd hgd;simp only [Option.map_some];congr 1;omega
theorem MixedR.covers {x y : Ring} {ks ls : List Int} (h : MixedR x y ks ls) (hx : x.Ok) {S : List Int} (hS : ∀ v ∈ S,0 <= v /\ v < (x.keys.length : Int)) : znr y (S.map (atI ks)) = znr x S:=by
 unfold znr;refine h.all hx fun t => ?_;have hs : ∀ l : Int,0 <= l /\ l < x.locks.length -> ((S.map (atI ks)).any fun k => zmB y.keys t y.locks k (atI ls l)) = S.any fun k => zmB x.keys (zob ks t) x.locks k l:=fun l hl => by
  rw [List.any_map,Bool.eq_iff_iff,List.any_eq_true,List.any_eq_true];refine exists_congr fun k => and_congr_right fun hk => ?_;rw [Function.comp_apply,h.opens (hS k hk) hl]
 unfold zp9 zrm;rw [Bool.eq_iff_iff,List.all_eq_true,List.all_eq_true];refine ⟨fun hh l hl => ?_,fun hh l hl => ?_⟩
 ·have hl:=List.mem_range.1 hl;have hr:=h.pl.at_rng (i:=(l : Int)) (by omega) (by omega);have:=hh (atI ls l).toNat (List.mem_range.2 (by rw [h.ll]; omega));rwa [show (((atI ls l).toNat : Nat) : Int) = atI ls l by omega,hs _ ⟨by omega,by omega⟩] at this
 ·have hl:=List.mem_range.1 hl;rw [h.ll] at hl;obtain ⟨i,hi,e⟩:=h.pl.pre hx.locks (v:=(l : Int)) (by omega) (by omega);have:=hh i (List.mem_range.2 hi);rw [<- e,hs _ ⟨by omega,by omega⟩]; exact this
theorem zqs (x : Ring) (t keys : List Int) (a b : Nat) : znq x t keys a b = znq x t keys b a:=by
 unfold znq;congr 1;funext k;generalize zmB x.keys t x.locks k a = p;generalize zmB x.keys t x.locks k b = q;cases p <;> cases q <;> rfl
theorem zpD {x : Ring} {t keys : List Int} {n : Nat} : zpE x t keys n = true <-> ∀ a b : Nat,a < n -> b < n -> a ≠ b -> znq x t keys a b = true:=by
 unfold zpE;rw [List.all_eq_true];refine ⟨fun h a b ha hb hne => ?_,fun h b hb => List.all_eq_true.2 fun a ha => ?_⟩
 ·by_cases hlt : a < b
  ·rw [zqs];exact List.all_eq_true.1 (h b (List.mem_range.2 hb)) a (List.mem_range.2 hlt)
  ·exact List.all_eq_true.1 (h a (List.mem_range.2 ha)) b (List.mem_range.2 (by omega))
 ·have hb:=List.mem_range.1 hb;have ha:=List.mem_range.1 ha;exact h b a hb (by omega) (by omega)
theorem MixedR.tells {x y : Ring} {ks ls : List Int} (h : MixedR x y ks ls) (hx : x.Ok) {S : List Int} (hS : ∀ v ∈ S,0 <= v /\ v < (x.keys.length : Int)) : zo5 y (S.map (atI ks)) = zo5 x S:=by
 unfold zo5;refine h.all hx fun t => ?_;have hs : ∀ a b : Nat,a < x.locks.length -> b < x.locks.length -> znq y t (S.map (atI ks)) (atI ls a).toNat (atI ls b).toNat = znq x (zob ks t) S a b:=fun a b ha hb => by
  have har:=h.pl.at_rng (i:=(a : Int)) (by omega) (by omega);have hbr:=h.pl.at_rng (i:=(b : Int)) (by omega) (by omega);unfold znq;rw [List.any_map,show (((atI ls a).toNat : Nat) : Int) = atI ls a by omega,show (((atI ls b).toNat : Nat) : Int) = atI ls b by omega,Bool.eq_iff_iff,List.any_eq_true,List.any_eq_true];refine exists_congr fun k => and_congr_right fun hk => ?_;rw [Function.comp_apply,h.opens (hS k hk) ⟨by omega,by omega⟩,h.opens (hS k hk) ⟨by omega,by omega⟩]
 rw [Bool.eq_iff_iff,zpD,zpD,h.ll];refine ⟨fun hh a b ha hb hne => ?_,fun hh a b ha hb hne => ?_⟩
 ·have har:=h.pl.at_rng (i:=(a : Int)) (by omega) (by omega);have hbr:=h.pl.at_rng (i:=(b : Int)) (by omega) (by omega);rw [<- hs a b ha hb];refine hh _ _ (by omega) (by omega) fun e => hne ?_;have:=h.pl.inj (i:=(a : Int)) (j:=(b : Int)) (by omega) (by omega) (by omega) (by omega) (by omega);omega
 ·obtain ⟨i,hi,e1⟩:=h.pl.pre hx.locks (v:=(a : Int)) (by omega) (by omega);obtain ⟨j,hj,e2⟩:=h.pl.pre hx.locks (v:=(b : Int)) (by omega) (by omega);have:=hs i j hi hj;rw [e1,e2,Int.toNat_natCast,Int.toNat_natCast] at this;rw [this];exact hh i j hi hj fun e => hne (by subst e; omega)
theorem zpj (x : Ring) (S S' : List Int) (h : ∀ v,v ∈ S <-> v ∈ S') : znr x S = znr x S':=by
 unfold znr zp9 zrm;congr 1; funext t; congr 1; funext l;rw [Bool.eq_iff_iff,List.any_eq_true,List.any_eq_true];exact exists_congr fun k => and_congr_left fun _ => h k
theorem zpA (x : Ring) (S S' : List Int) (h : ∀ v,v ∈ S <-> v ∈ S') : zo5 x S = zo5 x S':=by
 unfold zo5 zpE znq;congr 1; funext t; congr 1; funext l; congr 1; funext l';rw [Bool.eq_iff_iff,List.any_eq_true,List.any_eq_true];exact exists_congr fun k => and_congr_left fun _ => h k
theorem znj {α : Type} {f g : α -> Bool} : ∀ {L : List α},(∀ a ∈ L,f a = g a) -> L.find? f = L.find? g
 | [],_ => rfl
 | a :: L,h => by rw [List.find?_cons,List.find?_cons,h a List.mem_cons_self,znj fun b hb => h b (List.mem_cons_of_mem _ hb)]
theorem MixedR.ok {x y : Ring} {ks ls : List Int} (h : MixedR x y ks ls) (hx : x.Ok) : y.Ok where
 cuts:=by rw [h.cuts]; exact hx.cuts
 keys:=by rw [h.kl]; exact hx.keys
 key:=fun z hz => by
  obtain ⟨j,hj⟩:=List.mem_iff_getElem?.1 hz;have hjl:=get_lt hj;rw [h.kl] at hjl;obtain ⟨i,hi,e⟩:=h.pk.pre hx.keys (v:=(j : Int)) (by omega) (by omega);have h1:=h.key i hi;rw [e,Int.toNat_natCast,hj] at h1;rw [h.cuts];exact hx.key z (zas h1.symm)
 locks:=by rw [h.ll]; exact hx.locks
 lock:=fun z hz => by
  obtain ⟨j,hj⟩:=List.mem_iff_getElem?.1 hz;have hjl:=get_lt hj;rw [h.ll] at hjl;obtain ⟨i,hi,e⟩:=h.pl.pre hx.locks (v:=(j : Int)) (by omega) (by omega);have h1:=h.lock i hi;rw [e,Int.toNat_natCast,hj] at h1;rw [h.cuts];exact hx.lock z (zas h1.symm)
 tries:=by rw [h.tries,List.length_map]; exact hx.tries
 tried:=fun t ht => by
  rw [h.tries] at ht;obtain ⟨r,hr,rfl⟩:=List.mem_map.1 ht;have:=hx.tried r hr;rw [h.kl,h.ll];exact ⟨h.pk.at_rng this.1.1 this.1.2,h.pl.at_rng this.2.1 this.2.2⟩
theorem MixedR.cover {x y : Ring} {ks ls : List Int} (h : MixedR x y ks ls) (hx : x.Ok) : (znV y).map List.length = (znV x).map List.length:=by
 have hn:=hx.keys;rw [zl0 hx,zl0 (h.ok hx),h.kl,znj (g:=znr x) fun c hc => zl3 hx fun v hv => znB _ hn c hc v hv,znj (L:=zmq x.keys.length) (g:=znr y) fun c hc => zl3 (h.ok hx) fun v hv => by rw [h.kl]; exact znB _ hn c hc v hv];exact (zpf h.pk hn (zpj x) (zpj y) fun S hS => h.covers hx hS).symm
theorem MixedR.tell {x y : Ring} {ks ls : List Int} (h : MixedR x y ks ls) (hx : x.Ok) : (zoM y).map List.length = (zoM x).map List.length:=by
 have hn:=hx.keys;rw [zlT hx,zlT (h.ok hx),h.kl,znj (g:=zo5 x) fun c hc => zp3 hx fun v hv => znB _ hn c hc v hv,znj (L:=zmq x.keys.length) (g:=zo5 y) fun c hc => zp3 (h.ok hx) fun v hv => by rw [h.kl]; exact znB _ hn c hc v hv];exact (zpf h.pk hn (zpA x) (zpA y) fun S hS => h.tells hx hS).symm
structure Kept3 (X Y Z : Prop) : Type where
 n : Nat
def UG (a : AV) (want : Bool) (X Y Z : Prop) (_t : Kept3 X Y Z) : Prop:=(∃ b,a = .val (.bool b) /\ (b = want -> X) /\ (b = !want -> Y)) \/ (a = .val undef /\ Z)
theorem ug_b {b want : Bool} {X Y Z : Prop} {t : Kept3 X Y Z} : UG (.val (.bool b)) want X Y Z t = ((b = want -> X) /\ (b = !want -> Y)):=by
 unfold UG;refine propext ⟨fun h => ?_,fun h => .inl ⟨b,rfl,h⟩⟩;rcases h with ⟨b',e,h⟩ | ⟨e,_⟩
 ·cases e; exact h
 ·cases e
theorem ug_tt (X Y Z : Prop) (t : Kept3 X Y Z) : UG (.val (.bool true)) true X Y Z t = X:=by rw [ug_b]; simp
theorem ug_tf (X Y Z : Prop) (t : Kept3 X Y Z) : UG (.val (.bool true)) false X Y Z t = Y:=by rw [ug_b]; simp
theorem ug_ft (X Y Z : Prop) (t : Kept3 X Y Z) : UG (.val (.bool false)) true X Y Z t = Y:=by rw [ug_b]; simp
theorem ug_ff (X Y Z : Prop) (t : Kept3 X Y Z) : UG (.val (.bool false)) false X Y Z t = X:=by rw [ug_b]; simp
theorem ug_u (want : Bool) (X Y Z : Prop) (t : Kept3 X Y Z) : UG (.val undef) want X Y Z t = Z:=by
 unfold UG;refine propext ⟨fun h => ?_,fun h => .inr ⟨rfl,h⟩⟩;rcases h with ⟨b',e,_⟩ | ⟨_,h⟩
 ·cases e
 ·exact h
section
variable (lv : Bool) (P : Program)
def UOps (all : Array Oper) : List Oper -> AS -> (AS -> Prop) -> (AV -> AS -> Prop) -> Prop
 | [],s,next,_ => next s
 | o :: rest,s,next,bad => match o.guard with
  | none => AStep lv P s o (fun s' => UOps all rest s' next bad) bad
  | some (j,want) => one1 ((all[j]?).bind (·.dst)) fun d => one1 (look s.T d) fun a => UG a want (AStep lv P ⟨(d,.val (.bool want)) :: s.T,s.H⟩ o (fun s' => UOps all rest s' next bad) bad) (UOps all rest ((⟨(d,.val (.bool !want)) :: s.T,s.H⟩ : AS).put o.dst (.val undef)) next bad) (UOps all rest (s.put o.dst (.val undef)) next bad) ⟨0⟩
end
theorem uOps_n : type_of% @UOps.eq_1:=by intros; rw [UOps.eq_1]
theorem uOps_c : type_of% @UOps.eq_2:=by intros; rw [UOps.eq_2]
@[congr] theorem uOps_congr {lv : Bool} {P : Program} {s s' : AS} {all : Array Oper} {l : List Oper} {next : AS -> Prop} {bad : AV -> AS -> Prop} (h : s = s') : UOps lv P all l s next bad = UOps lv P all l s' next bad:=by rw [h]
attribute [seval] uOps_n uOps_c ug_tt ug_tf ug_ft ug_ff ug_u
section
variable {lv : Bool} {P : Program} {r : Option Nat} {s : AS}
end
section
variable {lv : Bool} {P : Program} {r : Option Nat} {o : Oper} {s : AS} {next : AS -> Prop} {bad : AV -> AS -> Prop}
end
section
variable (lv : Bool) (P : Program) (r : Option Nat)
end
section
variable {lv : Bool} {P : Program} {r : Option Nat} {s : AS}
end
section
variable {lv : Bool} {P : Program} {r : Option Nat} {o : Oper} {s : AS} {next : AS -> Prop} {bad : AV -> AS -> Prop}
theorem zpY {nt id : Nat} {c : Code} {l : List AV} {el : TypeId} {Φ : AEx -> AS -> Prop} (hid : s.H[id]? = some (.cells l el)) (h : AWP lv P r nt c ⟨s.T,s.H.set id (.part l.length l el)⟩ Φ) : AWP lv P r nt c s Φ:=fun E V a Q hat hQ => by
 have hc:=hat.conc;obtain ⟨⟨cs,hown,hd⟩,himm⟩:=hc.obj id _ hid;have g : Ghost V (V.pubp (E.blk id) cs (fun o => decide (o < l.length))):=zb9 hown (fun o _ => himm o);refine WP.ghost g ?_;have hI : ∀ b o v,E.I b o = some v -> (V.pubp (E.blk id) cs (fun o => decide (o < l.length))).imm b o = some v:=fun b o v e => by
  rw [hc.I] at e;have hb : b ≠ E.blk id:=fun hb => by rw [hb,himm] at e; cases e
  simp only [View.pubp];rw [if_neg (fun x => hb x.1)]; exact e
 have hle : E.Le { E with I:=(V.pubp (E.blk id) cs (fun o => decide (o < l.length))).imm }:=⟨hI,Nat.le_refl _,fun _ _ => rfl,fun _ _ => Nat.le_refl _,fun _ _ _ _ => rfl,rfl,rfl⟩;have hc2 : Conc { E with I:=(V.pubp (E.blk id) cs (fun o => decide (o < l.length))).imm } (V.pubp (E.blk id) cs (fun o => decide (o < l.length))) (s.H.set id (.part l.length l el)):=by
  refine hc.turn id _ hle rfl (by rw [List.length_set]; exact hc.n) zaF rfl (fun _ _ _ => rfl) (fun b y hno hy => ⟨hy,fun o => ?_⟩) ⟨⟨cs,hown,(hd.mono hle).p,fun o ho => ?_⟩,fun o ho => ?_⟩ (fun b hb => .inl ⟨_,hid,hb⟩)
  ·have hb : b ≠ E.blk id:=fun hb => hno _ hid (by rw [hb]; rfl);simp only [View.pubp];rw [if_neg (fun x => hb x.1)]
  ·simp only [View.pubp];rw [if_pos ⟨trivial,by simpa using ho⟩]
  ·simp only [View.pubp];rw [if_neg (fun x => by have:=x.2; simp at this; omega)];exact himm o
 exact h _ _ a Q ⟨hc2,hat.tok.mono hle,hat.size⟩ fun ae e E' V'' a' s' hk => hQ ae e E' V'' a' s' ((⟨hle,rfl,rfl,rfl,rfl⟩ : Kept E _ V (V.pubp (E.blk id) cs (fun o => decide (o < l.length))) a a).trans hk)
def WkH (H : List AObj) (b a : AV) : Prop:=∀ E V v,Conc E V H -> Den E b v -> Den E a v
theorem WkH.of {H : List AObj} {b a : AV} (h : Wk b a) : WkH H b a:=fun E _ v _ d => h E v d
theorem zpp {H : List AObj} {id n cap m p : Nat} {l : List AV} {el : TypeId} (hid : H[id]? = some (.part p l el)) (hm : m <= p) (hp : p <= l.length) : WkH H (.osl id 0 n cap) (.sl n (l.take m) .shut):=fun E V v hc hd => by
 cases hd with
 | osl hi hcap =>
  rename_i cap';obtain ⟨⟨cs,ho,hdl,hi2⟩,_⟩:=hc.obj id _ hid;refine .sl (E.blk id) 0 cap' (fun i => cs.getD i undef) hcap.1 trivial (fun i hi' => ?_) (fun i x hx => ?_)
  ·rw [List.length_take] at hi';have hlt : i < cs.size:=(by have:=hdl.1; omega);rw [hc.I,Nat.zero_add,hi2 i (by omega),Array.getD_eq_getD_getElem?,Array.getElem?_eq_getElem hlt]; rfl
  ·rw [List.getElem?_take] at hx;split at hx
   ·exact hdl.2 i x hx
   ·cases hx
theorem zoH {nt id j : Nat} {c : Code} {l : List AV} {x y : AV} {el : TypeId} {Φ : AEx -> AS -> Prop} (hid : s.H[id]? = some (.cells l el)) (hj : l[j]? = some x) (hw : WkH s.H x y) (h : AWP lv P r nt c ⟨s.T,s.H.set id (.cells (l.set j y) el)⟩ Φ) : AWP lv P r nt c s Φ:=fun E V a Q hat hQ => by
 have hc:=hat.conc;obtain ⟨⟨cs,hown,hd⟩,himm⟩:=hc.obj id _ hid;have hc2 : Conc E V (s.H.set id (.cells (l.set j y) el)) :=
  hc.turn id _ (Env.Le.refl _) hc.I (by rw [hc.n,List.length_set]) zaF rfl (fun _ _ _ => rfl) (fun b y _ hy => ⟨hy,fun _ => rfl⟩) ⟨⟨cs,hown,zpv hd hj (fun v d => hw E V v hc d)⟩,himm⟩ (fun b hb' => .inl ⟨_,hid,hb'⟩)
 exact h E V a Q ⟨hc2,hat.tok,hat.size⟩ hQ
theorem zsD {nt t : Nat} {c : Code} {x y : AV} {Φ : AEx -> AS -> Prop} (ht : look s.T t = some x) (hw : WkH s.H x y) (h : AWP lv P r nt c ⟨(t,y) :: s.T,s.H⟩ Φ) : AWP lv P r nt c s Φ:=fun E V a Q hat hQ => by
 refine h E V a Q ⟨hat.conc,fun t' b e => ?_,hat.size⟩ hQ;simp only [look] at e;split at e
 ·rename_i e'; subst e'; cases e;exact ⟨(hat.tok t x ht).1,hw E V _ hat.conc (hat.tok t x ht).2⟩
 ·exact hat.tok t' b e
end
def mixT (τ : TinS) (n : Nat) : Nat -> List Int × TinS
 | 0 => (List.replicate n 0,τ)
 | i + 1 => (((mixT τ n i).1.set i ((mixT τ n i).1.getD (zmP (mixT τ n i).2 i).toNat 0)).set (zmP (mixT τ n i).2 i).toNat i,tick (mixT τ n i).2)
theorem zn0 (τ : TinS) (n : Nat) : ∀ i,(mixT τ n i).1.length = n
 | 0 => List.length_replicate
 | i + 1 => by rw [mixT,List.length_set,List.length_set,zn0 τ n i]
theorem zpW {τ : TinS} {b : Int} (h : τ.Ok b) (n : Nat) : ∀ i : Nat,(mixT τ n i).2.Ok (b + i)
 | 0 => h.mono (by simp)
 | i + 1 => (zpW h n i).tick.mono (by simp; omega)
theorem zqg (n : Nat) : zmn (Value.int .i64 0) n = (List.replicate n (0 : Int)).map iv:=by
 have h : ∀ i ∈ List.range n,AV.of1 ((Value.int IntKind.i64 0).cells[i % (Value.int IntKind.i64 0).cells.size]!) = iv 0:=fun i _ => by
  rw [show (Value.int IntKind.i64 0).cells.size = 1 from rfl,Nat.mod_one]; rfl
 rw [List.map_replicate];unfold zmn;rw [List.map_congr_left h,List.map_const',List.length_range]
section
variable {lv : Bool} {k kp : AV -> List AObj -> Prop} {Gf : TinS -> List AObj} {t N : Nat} {τ : TinS} {b : Int}
theorem f66_c {n : Nat} (hT : TinAt Gf t N) (hτ : τ.Ok b) (hb : b < 2 ^ 30) (hn : n <= 2 ^ 20) (hk : k (aInts (mixT τ n n).1) (Gf (mixT τ n n).2)) : FnC lv Tryz.prog 66 (Gf τ) [.op t 0,iv n] k kp:=by
 refine zlA (rs:=[.tmp 4]) (nt:=30) Tryz.f66 fun hH hA => ?_;simp only [zlW,Nat.reduceAdd];have hT1 : ∀ o : AObj,TinAt (fun τ => Gf τ ++ [o]) t (N + 1):=fun o => hT.more [o];refine zfK ?_;refine zl5 ?_;simp only [seval,zqg,hT.len];refine ⟨by omega,by omega,?_⟩;refine zfK ?_;refine zlC ?_;refine zaB n (fun i : Nat => [(6,iv i)]) (fun i => Gf (mixT τ n i).2 ++ [.cells ((mixT τ n i).1.map iv) 3]) (fun _ => True) (fun _ _ => rfl) (by simp only [seval]; simp [zaf,Wk.refl]) rfl (fun _ _ _ => by simp [hT.len]) trivial (fun hHs hLt i hin hi R hR => ?_);clear hHs hLt;refine zfK ?_;refine zlu ?_;refine ⟨fun h => ?_,fun h => ?_⟩
 ·have hil : i < n:=by omega
  have hok:=zpW hτ n i;have hlen:=zn0 τ n i;have hwi : IntKind.i64.wrap ((i : Int) + 1) = i + 1:=zau _ (by omega);have hsu : mixT τ n (i + 1) = (((mixT τ n i).1.set i ((mixT τ n i).1.getD (zmP (mixT τ n i).2 i).toNat 0)).set (zmP (mixT τ n i).2 i).toNat i,tick (mixT τ n i).2):=rfl;generalize mixT τ n i = m at hok hlen hsu ⊢;obtain ⟨l,σ⟩:=m;simp only at hok hlen hsu;have hr:=zaX σ i;refine zly ?_;refine zfK ?_;refine zl6 ((f29_c (hT1 _) hok (by omega) (by omega) ?_));(try simp only [seval]);generalize zmP σ i = u at hr hsu ⊢;obtain ⟨u,rfl⟩ : ∃ w : Nat,u = w:=⟨u.toNat,by omega⟩;rw [Int.toNat_natCast] at hsu;have hul : u < n:=by omega
  obtain ⟨a,ha⟩:=zaE (xs:=l) (i:=u) (by omega);have hga : l.getD u 0 = a:=by rw [List.getD_eq_getElem?_getD,ha]; rfl
  rw [hga] at hsu;obtain ⟨a2,ha2⟩:=zaE (xs:=l) (i:=i) (by omega);have hoi : (i + 1 <= l.length) = True:=by simp; omega
  have hou : (u + 1 <= (l.set i a).length) = True:=by simp; omega
  refine zl5 ?_;simp only [seval,zaz hil,zaz hul,hT.an,zbf ha,List.length_map,hoi,zfv (y:=a) (show i < l.length by omega)];refine zl5 ?_;simp only [seval,zaz hul,hT.an,List.length_map,hou,zfv (xs:=l.set i a) (y:=i) (show u < (l.set i a).length by simp; omega)];refine zl5 ?_;simp only [seval,hwi];refine hR _ ⟨hil,trivial,?_⟩;rw [hsu];exact zlJ
 ·have hix : i = n:=by omega
  subst hix;clear hR;refine zlF ?_;have hlen:=zn0 τ i i;generalize mixT τ i i = m at hlen hk ⊢;obtain ⟨l,σ⟩:=m;simp only at hlen hk
  (repeat apply zaa); refine zpY (id:=N) (by simp only [seval,hT.an] <;> rfl) ?_
  try simp only [seval,hT.an]
  (repeat apply zaa); refine zsD (t:=5) (y:=aInts l) (by simp only [seval] <;> rfl) ?_ ?_
  ·have e : aInts l = .sl i ((l.map iv).take i) .shut:=by
    rw [List.take_of_length_le (by simp; omega),aInts,hlen]
   rw [e];exact zpp (p:=l.length) (by simp only [seval,hT.an] <;> rfl) (by omega) (by simp)
  refine zfK ?_;refine zlz ?_;exact zaJ (b:=aInts l) (H':=Gf σ) (G:=[.part l.length (l.map iv) 3]) (Wk.refl _) rfl (by simp [hT.len]) (hT.hok hH σ) (by rw [zbi]; trivial) hk
end
section
variable {lv : Bool} {H : List AObj} {k kp : AV -> List AObj -> Prop}
theorem f59_c {xs : List Band} {e : End} (hl : xs.length <= 2 ^ 30) (hk : k (aBands xs) H) : FnC lv Tryz.prog 59 H [.sl xs.length (xs.flatMap Band.l) e] k kp:=by
 refine zlA (rs:=[.tmp 2]) (nt:=6) Tryz.f59 fun hH hA => ?_;simp only [zlW,Nat.reduceAdd];have hlen : (xs.flatMap Band.l).length = xs.length * 2:=zld xs;have htake : (xs.flatMap Band.l).take (xs.length * 2) = xs.flatMap Band.l:=List.take_of_length_le (by omega);refine zfK ?_;refine zl5 ?_;simp only [seval,htake,hlen];refine ⟨hl,?_⟩;refine zlz ?_;exact endA (b:=aBands xs) hH (zaK _ _ _) (by rw [zfD]; trivial) hk
theorem f50_c {xs : List Int} {e : End} (hl : xs.length <= 2 ^ 30) (hk : k (aInts xs) H) : FnC lv Tryz.prog 50 H [.sl xs.length (xs.map iv) e] k kp:=by
 refine zlA (rs:=[.tmp 2]) (nt:=6) Tryz.f50 fun hH hA => ?_;simp only [zlW,Nat.reduceAdd];have hlen : (xs.map iv).length = xs.length:=by simp
 have htake : (xs.map iv).take xs.length = xs.map iv:=List.take_of_length_le (by omega);refine zfK ?_;refine zl5 ?_;simp only [seval,htake,hlen];refine ⟨hl,?_⟩;refine zlz ?_;exact endA (b:=aInts xs) hH (zaK _ _ _) (by rw [zbi]; trivial) hk
end
section
variable {lv : Bool} {P : Program} {r : Option Nat} {o : Oper} {s : AS} {next : AS -> Prop} {bad : AV -> AS -> Prop}
theorem znX {nt id sz : Nat} {c : Code} {l : List AV} {el : TypeId} {Φ : AEx -> AS -> Prop} (hid : s.H[id]? = some (.own sz l el)) (h : AWP lv P r nt c ⟨s.T,s.H.set id (.part l.length l el)⟩ Φ) : AWP lv P r nt c s Φ:=fun E V a Q hat hQ => by
 have hc:=hat.conc;obtain ⟨⟨cs,hown,hd,_⟩,himm⟩:=hc.obj id _ hid;have g : Ghost V (V.pubp (E.blk id) cs (fun o => decide (o < l.length))):=zb9 hown (fun o _ => himm o);refine WP.ghost g ?_;have hI : ∀ b o v,E.I b o = some v -> (V.pubp (E.blk id) cs (fun o => decide (o < l.length))).imm b o = some v:=fun b o v e => by
  rw [hc.I] at e;have hb : b ≠ E.blk id:=fun hb => by rw [hb,himm] at e; cases e
  simp only [View.pubp];rw [if_neg (fun x => hb x.1)]; exact e
 have hle : E.Le { E with I:=(V.pubp (E.blk id) cs (fun o => decide (o < l.length))).imm }:=⟨hI,Nat.le_refl _,fun _ _ => rfl,fun _ _ => Nat.le_refl _,fun _ _ _ _ => rfl,rfl,rfl⟩;have hc2 : Conc { E with I:=(V.pubp (E.blk id) cs (fun o => decide (o < l.length))).imm } (V.pubp (E.blk id) cs (fun o => decide (o < l.length))) (s.H.set id (.part l.length l el)):=by
  refine hc.turn id _ hle rfl (by rw [List.length_set]; exact hc.n) zaF rfl (fun _ _ _ => rfl) (fun b y hno hy => ⟨hy,fun o => ?_⟩) ⟨⟨cs,hown,hd.mono hle,fun o ho => ?_⟩,fun o ho => ?_⟩ (fun b hb => .inl ⟨_,hid,hb⟩)
  ·have hb : b ≠ E.blk id:=fun hb => hno _ hid (by rw [hb]; rfl);simp only [View.pubp];rw [if_neg (fun x => hb x.1)]
  ·simp only [View.pubp];rw [if_pos ⟨trivial,by simpa using ho⟩]
  ·simp only [View.pubp];rw [if_neg (fun x => by have:=x.2; simp at this; omega)];exact himm o
 exact h _ _ a Q ⟨hc2,hat.tok.mono hle,hat.size⟩ fun ae e E' V'' a' s' hk => hQ ae e E' V'' a' s' ((⟨hle,rfl,rfl,rfl,rfl⟩ : Kept E _ V (V.pubp (E.blk id) cs (fun o => decide (o < l.length))) a a).trans hk)
end
section
variable {lv : Bool} {P : Program} {r : Option Nat} {s : AS}
theorem zqS {nt : Nat} {α : Type} {lt : α -> α -> Prop} (wf : WellFounded lt) {c : Code} {Φ : AEx -> AS -> Prop} (V : α -> List (Nat × AV)) (Hf : α -> List AObj) (ok : α -> Prop) (m0 : α)
  (hkeys : ∀ m m',(V m).map (·.1) = (V m').map (·.1)) (hV0 : ∀ p ∈ V m0,∃ b,look s.T p.1 = some b /\ Wk b p.2) (hH0 : Hf m0 = s.H) (hl : ∀ m,ok m -> s.H.length <= (Hf m).length) (hm : ok m0)
  (h : HOk s.H -> (∀ t a,look s.T t = some a -> Lt s.H.length a) -> ∀ m,ok m -> ∀ R : AS -> Prop,(∀ s',(∃ m',lt m' m /\ ok m' /\ zmZ s.T (V m) (V m') (Hf m') s') -> R s') -> AWP lv P r nt c ⟨V m ++ s.T,Hf m⟩ (AEx.then R Φ)) : AWP lv P r nt (.loop c) s Φ:=by
 have same : ∀ m m' t,look (V m) t = none -> look (V m') t = none:=fun m m' t h => zgw fun p hp e => by
  have h1 : p.1 ∈ (V m').map (·.1):=List.mem_map.2 ⟨p,hp,rfl⟩;rw [hkeys m' m] at h1;obtain ⟨q,hq,e'⟩:=List.mem_map.1 h1;have h2 : ((V m).any fun x => x.1 == t) = true:=List.any_eq_true.2 ⟨q,hq,by simp [e',e]⟩;obtain ⟨a,ha⟩:=zky h2;rw [h] at ha; cases ha
 intro E V0 a Q hat hQ;have hlt : ∀ t a,look s.T t = some a -> Lt s.H.length a:=fun t x e => by rw [<- hat.conc.n]; exact (hat.tok t x e).2.lt
 have h0 : s.Sub ⟨V m0 ++ s.T,Hf m0⟩:=⟨fun t x e => by
  rw [zby] at e;cases hl : look (V m0) t with
  | none => rw [hl] at e; exact ⟨x,e,Wk.refl x⟩
  | some y => rw [hl] at e; cases e; exact hV0 (t,x) (zbB hl),hH0.symm⟩
 refine zqa wf (s:=s) (fun m => ⟨V m ++ s.T,Hf m⟩) ok m0 h0 hm hl (fun m hok => ?_) E V0 a Q hat hQ;refine (h hat.conc.hok hlt m hok _ fun _ h => h).mono fun e s' hΦ => ?_;cases e with
 | normal =>
  obtain ⟨m',q1,q2,hk,hv,G,hG,hend⟩:=hΦ;have tok : ∀ t x,look (V m' ++ s.T) t = some x -> ∃ b,look s'.T t = some b /\ Wk b x /\ (look (V m') t = some x \/ look s.T t = some x):=fun t x e => by
   rw [zby] at e;cases hl : look (V m') t with
   | none =>
    rw [hl] at e;have hb : look (V m ++ s.T) t = some x:=(by rw [zby,same m' m t hl]; exact e);exact ⟨x,hk.look hb hl,Wk.refl x,.inr e⟩
   | some y =>
    rw [hl] at e; cases e;obtain ⟨b,h1,h2⟩:=hv (t,x) (zbB hl);exact ⟨b,h1,h2,.inl rfl⟩
  refine ⟨m',q1,q2,?_⟩;rcases hend with rfl | ⟨hok',hltv⟩
  ·exact .inl ⟨fun t x e => by obtain ⟨b,h1,h2,_⟩:=tok t x e; exact ⟨b,h1,h2⟩,by rw [hG,List.append_nil]⟩
  ·refine .inr ⟨fun t x e => ?_,⟨G,hG⟩,hok'⟩;obtain ⟨b,h1,h2,h3⟩:=tok t x e;refine ⟨b,h1,h2,?_⟩;rcases h3 with h3 | h3
   ·exact hltv (t,x) (zbB h3)
   ·show Lt (Hf m').length x;exact (hlt t x h3).mono (hl m' q2)
 | _ => exact hΦ
theorem zqb {nt : Nat} {c : Code} {Φ : AEx -> AS -> Prop} (n : Nat) (V : Nat -> List (Nat × AV)) (Hf : Nat -> List AObj) (ok : Nat -> Prop)
  (hkeys : ∀ m m',(V m).map (·.1) = (V m').map (·.1)) (hV0 : ∀ p ∈ V 0,∃ b,look s.T p.1 = some b /\ Wk b p.2) (hH0 : Hf 0 = s.H) (hl : ∀ m,m <= n -> ok m -> s.H.length <= (Hf m).length) (hm : ok 0)
  (h : HOk s.H -> (∀ t a,look s.T t = some a -> Lt s.H.length a) -> ∀ m,m <= n -> ok m -> ∀ R : AS -> Prop,(∀ s',(m < n /\ ok (m + 1) /\ zmZ s.T (V m) (V (m + 1)) (Hf (m + 1)) s') -> R s') -> AWP lv P r nt c ⟨V m ++ s.T,Hf m⟩ (AEx.then R Φ)) : AWP lv P r nt (.loop c) s Φ:=by
 refine zqS (measure fun i => n - i).wf V Hf (fun i => i <= n /\ ok i) 0 hkeys hV0 hH0 (fun m h => hl m h.1 h.2) ⟨Nat.zero_le _,hm⟩ (fun h1 h2 m hok R hR => ?_);exact h h1 h2 m hok.1 hok.2 R fun s' ⟨q1,q2,q3⟩ => hR s' ⟨m + 1,(by show n - (m + 1) < n - m; omega),⟨q1,q2⟩,q3⟩
end
section
variable {lv : Bool} {H : List AObj} {k kp : AV -> List AObj -> Prop}
end
def zot {α : Type} (f : α -> α) (l : List α) (i : Nat) : List α:=(l.take i).map f ++ l.drop i
section
variable {α : Type} {f : α -> α} {l : List α} {i : Nat} {y : α}
theorem zqp : zot f l 0 = l:=by simp [zot]
theorem zqF : zot f l l.length = l.map f:=by simp [zot]
theorem zqE (f : α -> α) (l : List α) (i : Nat) : (zot f l i).length = l.length:=by simp [zot]; omega
theorem zrZ (h : l[i]? = some y) : (zot f l i)[i]? = some y:=by
 have hi:=get_lt h;unfold zot;rw [List.getElem?_append_right (by simp; omega),List.getElem?_drop];have e : i + (i - ((l.take i).map f).length) = i:=by simp; omega
 rw [e]; exact h
theorem zqD (h : l[i]? = some y) : (zot f l i).set i (f y) = zot f l (i + 1):=by
 obtain ⟨hi,rfl⟩:=List.getElem?_eq_some_iff.1 h;unfold zot;rw [List.set_append_right _ _ (by simp; omega),List.drop_eq_getElem_cons hi,List.take_succ_eq_append_getElem hi];have e : i - ((l.take i).map f).length = 0:=by simp; omega
 rw [e,List.set_cons_zero,List.map_append,List.append_assoc]; rfl
end
inductive WkHs (H : List AObj) : List AV -> List AV -> Prop
 | nil : WkHs H [] []
 | cons {a b : AV} {l m : List AV} (h : WkH H a b) (t : WkHs H l m) : WkHs H (a :: l) (b :: m)
theorem WkHs.len {H : List AObj} {l m : List AV} (h : WkHs H l m) : l.length = m.length:=by
 induction h with
 | nil => rfl
 | cons _ _ ih => simp [ih]
theorem WkHs.at {H : List AObj} {l m : List AV} (h : WkHs H l m) : ∀ (i : Nat) (b a : AV),l[i]? = some b -> m[i]? = some a -> WkH H b a:=by
 induction h with
 | nil => intro i b a h; simp at h
 | cons h _ ih =>
  intro i b a h1 h2
  match i with
  | 0 => cases h1; cases h2; exact h
  | i + 1 => exact ih i b a h1 h2
section
variable {lv : Bool} {H : List AObj} {k kp : AV -> List AObj -> Prop}
end
theorem zrs {t : List Int} {k : Nat} {a b : Int} (h : t[k]? = some a) : (t.set k b ++ [a]).Perm (t ++ [b]):=by
 obtain ⟨hk,rfl⟩:=List.getElem?_eq_some_iff.1 h;have e : t = t.take k ++ t[k] :: t.drop (k + 1):=by rw [<- List.drop_eq_getElem_cons hk,List.take_append_drop]
 rw [List.set_eq_take_append_cons_drop,if_pos hk]
 conv => rhs; rw [e]
 rw [List.perm_iff_count];intro v;simp only [List.count_append,List.count_cons,List.count_nil];omega
theorem zpG (τ : TinS) (n : Nat) : ∀ i : Nat,i <= n -> ((mixT τ n i).1.take i).Nodup /\ ∀ v ∈ (mixT τ n i).1.take i,0 <= v /\ v < (i : Int)
 | 0,_ => by simp
 | i + 1,hi => by
  obtain ⟨h1,h2⟩:=zpG τ n i (by omega);have hlen:=zn0 τ n i;rw [mixT];generalize mixT τ n i = m at h1 h2 hlen ⊢;obtain ⟨l,σ⟩:=m;simp only at h1 h2 hlen ⊢;have hr:=zaX σ i;generalize zmP σ i = u at hr ⊢;obtain ⟨k,rfl⟩ : ∃ w : Nat,u = w:=⟨u.toNat,by omega⟩;rw [Int.toNat_natCast];obtain ⟨a,ha⟩:=zaE (xs:=l) (i:=k) (by omega);obtain ⟨c,hc⟩:=zaE (xs:=l) (i:=i) (by omega);have hga : l.getD k 0 = a:=by rw [List.getD_eq_getElem?_getD,ha]; rfl
  have hti : (l.take i).length = i:=by rw [List.length_take]; omega
  have hp : (((l.set i a).set k (i : Int)).take (i + 1)).Perm (l.take i ++ [(i : Int)]):=by
   rw [List.take_set,List.take_set,List.take_add_one,hc];show ((((l.take i) ++ [c]).set i a).set k (i : Int)).Perm _;rw [List.set_append_right _ _ (by omega),hti,Nat.sub_self];show (((l.take i) ++ [a]).set k (i : Int)).Perm _;by_cases e : k = i
   ·subst e;rw [List.set_append_right _ _ (by omega),hti,Nat.sub_self]; exact List.Perm.refl _
   ·rw [List.set_append_left _ _ (by omega)];exact zrs (by rw [List.getElem?_take,if_pos (by omega)]; exact ha)
  rw [hga];refine ⟨(List.Perm.nodup_iff hp).2 ?_,fun v hv => ?_⟩
  ·exact List.nodup_append.2 ⟨h1,by simp,fun x hx y hy e => by
    have:=h2 x hx;simp at hy;omega⟩
  ·rcases List.mem_append.1 (hp.mem_iff.1 hv) with hv | hv
   ·have:=h2 v hv;omega
   ·simp at hv;omega
theorem zp6 (τ : TinS) (n : Nat) : IsPerm (mixT τ n n).1 n:=by
 obtain ⟨h1,h2⟩:=zpG τ n n (Nat.le_refl _);rw [List.take_of_length_le (by rw [zn0]; exact Nat.le_refl _)] at h1 h2;exact ⟨zn0 τ n n,h1,h2⟩
def zn2 {α : Type} (l : List α) (p : List Int) : Nat -> List α
 | 0 => l
 | i + 1 => match l[i]? with
  | some a => (zn2 l p i).set (atI p i).toNat a
  | none => zn2 l p i
theorem zmW {α : Type} (l : List α) (p : List Int) : ∀ i,(zn2 l p i).length = l.length
 | 0 => rfl
 | i + 1 => by
  unfold zn2;split
  ·rw [List.length_set,zmW l p i]
  ·exact zmW l p i
theorem zoP {α : Type} {l : List α} {p : List Int} {i : Nat} {a : α} (h : l[i]? = some a) : zn2 l p (i + 1) = (zn2 l p i).set (atI p i).toNat a:=by
 rw [zn2,h]
theorem zps {α : Type} {l : List α} {p : List Int} (hp : IsPerm p l.length) : ∀ i,i <= l.length -> ∀ j,j < i -> (zn2 l p i)[(atI p j).toNat]? = l[j]?
 | 0,_,j,hj => absurd hj (Nat.not_lt_zero _)
 | i + 1,hi,j,hj => by
  obtain ⟨a,ha⟩:=zaE (xs:=l) (i:=i) (by omega);rw [zoP ha];have h1:=hp.at_rng (i:=(i : Int)) (by omega) (by omega);have h2:=hp.at_rng (i:=(j : Int)) (by omega) (by omega);by_cases e : j = i
  ·subst e;rw [List.getElem?_set_self (by rw [zmW]; omega),ha]
  ·have hne : (atI p i).toNat ≠ (atI p j).toNat:=fun q => e (by
    have:=hp.inj (i:=(j : Int)) (j:=(i : Int)) (by omega) (by omega) (by omega) (by omega) (by omega);omega)
   rw [List.getElem?_set_ne hne];exact zps hp i (by omega) j (by omega)
def znU (ks ls : List Int) (r : Try) : Try:=⟨atI ks r.key,atI ls r.lock,r.opens⟩
def mixR (x : Ring) (ks ls : List Int) : Ring:=⟨x.cuts,zn2 x.keys ks x.keys.length,zn2 x.locks ls x.locks.length,x.tries.map (znU ks ls)⟩
theorem zqo {x : Ring} {ks ls : List Int} (h1 : IsPerm ks x.keys.length) (h2 : IsPerm ls x.locks.length) : MixedR x (mixR x ks ls) ks ls where
 pk:=h1
 pl:=h2
 cuts:=rfl
 kl:=zmW _ _ _
 ll:=zmW _ _ _
 key:=fun i hi => zps h1 _ (Nat.le_refl _) i hi
 lock:=fun i hi => zps h2 _ (Nat.le_refl _) i hi
 tries:=rfl
def behind (j : Nat) (o : Oper) : Oper:={ o with after:=o.after.push { on:=j,ground:=.data } }
def addE (ops : Array Oper) (i j : Nat) : Array Oper:=ops.modify i (behind j)
theorem zqW (ops : Array Oper) (i j : Nat) : (addE ops i j).size = ops.size:=by simp [addE]
theorem zm6 (ops : Array Oper) (i j k : Nat) : (addE ops i j)[k]? = if i = k then (ops[k]?).map (behind j) else ops[k]?:=by
 unfold addE;rw [Array.getElem?_modify]
theorem zpM (j : Nat) (o : Oper) : zlM (behind j o) = zlM o ++ [j]:=by
 unfold zlM behind;simp only [Array.toList_push,List.filterMap_append];rfl
theorem zpC {ops : Array Oper} {i j : Nat} {X l : List Nat} (h : Sched ops X l) : j ∈ X -> Sched (addE ops i j) X l:=by
 induction h with
 | nil X h => exact fun _ => .nil X fun k hk => h k (by rwa [zqW] at hk)
 | cons o ho hn hd hrest ih =>
  rename_i X k l;intro hj;by_cases e : i = k
  ·exact .cons (behind j o) (by rw [zm6,if_pos e,ho]; rfl) hn (fun q hq => by
    rw [zpM] at hq;rcases List.mem_append.1 hq with hq | hq
    ·exact hd q hq
    ·rw [List.mem_singleton.1 hq]; exact hj) (ih (List.mem_cons_of_mem _ hj))
  ·exact .cons o (by rw [zm6,if_neg e]; exact ho) hn hd (ih (List.mem_cons_of_mem _ hj))
theorem zpV {ops : Array Oper} {i j : Nat} (hij : i ≠ j) (hi : i < ops.size) {X l : List Nat} (h : Sched ops X l) : i ∉ X -> j ∉ X -> Sched (addE ops i j) X l \/ Sched (addE ops j i) X l:=by
 induction h with
 | nil X h => exact fun h1 _ => absurd (h i hi) h1
 | cons o ho hn hd hrest ih =>
  rename_i X k l;intro h1 h2;by_cases e : k = i
  ·subst e;exact .inr (.cons o (by rw [zm6,if_neg (Ne.symm hij)]; exact ho) hn hd (zpC hrest List.mem_cons_self))
  ·by_cases e2 : k = j
   ·subst e2;exact .inl (.cons o (by rw [zm6,if_neg hij]; exact ho) hn hd (zpC hrest List.mem_cons_self))
   ·rcases ih (fun hm => (List.mem_cons.1 hm).elim (fun x => e x.symm) h1) (fun hm => (List.mem_cons.1 hm).elim (fun x => e2 x.symm) h2) with q | q
    ·exact .inl (.cons o (by rw [zm6,if_neg (Ne.symm e)]; exact ho) hn hd q)
    ·exact .inr (.cons o (by rw [zm6,if_neg (Ne.symm e2)]; exact ho) hn hd q)
section
variable {lv : Bool} {P : Program} {r : Option Nat} {ops : Array Oper} {nt : Nat}
theorem zqt (i j : Nat) (tmps : Array Value) : yielded (addE ops i j) tmps = yielded ops tmps:=by
 funext k;unfold yielded;rw [zm6];by_cases e : i = k
 ·rw [if_pos e]; cases ops[k]? <;> rfl
 ·rw [if_neg e]
theorem zp0 (i j : Nat) (Q : Ex -> Act -> View -> Prop) : ∀ l : List Nat,zmx lv P r (addE ops i j) Q l = zmx lv P r ops Q l
 | [] => rfl
 | k :: l => by
  funext a V;have ih:=zp0 i j Q l;simp only [zmx];rw [zm6,zqt,ih];by_cases e : i = k
  ·rw [if_pos e];cases ho : ops[k]? with
   | none => rfl
   | some o => rfl
  ·rw [if_neg e]
theorem zos (i j : Nat) (Hf : List Nat -> List AObj) (K : AS -> Prop) (t : KeptB K) : ∀ (pl : List PEntry) (s : AS),BOps lv P Hf (addE ops i j) pl s K t = BOps lv P Hf ops pl s K t
 | [],_ => rfl
 | ⟨k,false,_,l⟩ :: rest,s => by
  have ih:=zos i j Hf K t rest;simp only [BOps,zm6];have e : ∀ o,one1 (some o) (fun o => AQ lv P s o fun av => BQ lv P Hf s.T o av l /\ BOps lv P Hf (addE ops i j) rest (s.put o.dst av) K t) = one1 (some o) (fun o => AQ lv P s o fun av => BQ lv P Hf s.T o av l /\ BOps lv P Hf ops rest (s.put o.dst av) K t):=fun o => by
   simp only [one1,ih]
  have bq : ∀ (o : Oper) av,BQ lv P Hf s.T (behind j o) av l = BQ lv P Hf s.T o av l:=fun o av => by
   induction l with
   | nil => rfl
   | cons p l ih2 => exact congrArg (fun x => _ /\ x) (ih2 fun o => by simp only [one1,ih])
  split
  ·cases ops[k]? with
   | none => rfl
   | some o =>
    simp only [Option.map_some,one1,ih,bq];rfl
  ·cases ops[k]? with
   | none => rfl
   | some o => exact e o
 | ⟨k,true,D,l⟩ :: rest,s => by
  have ih:=zos i j Hf K t rest;simp only [BOps,zm6];have be : ∀ (o : Oper) av,BE lv P Hf s.T (behind j o) av l = BE lv P Hf s.T o av l:=fun o av => by
   induction l with
   | nil => rfl
   | cons p l ih2 => exact congrArg (fun x => _ /\ x) ih2
  split
  ·cases ops[k]? with
   | none => rfl
   | some o =>
    simp only [Option.map_some,one1,ih,be];rfl
  ·cases ops[k]? with
   | none => rfl
   | some o => simp only [one1,ih]
theorem zoX {s : AS} {id : Nat} {Φ : AEx -> AS -> Prop} {es ord l : List Nat} {Hf : List Nat -> List AObj} (hok : drawBOk nt ops es ord = true) (h0 : s.H = Hf []) (h : BOps lv P Hf ops (zqB ops es ord) s (Φ .normal) ⟨0⟩) (hs : Sched ops [] l) {E : Env} {V : View} {a : Act} {Q : Ex -> Act -> View -> Prop} (hat : At E V s a nt)
  (hQ : ∀ ae e E' V' a' s',Kept E E' V V' a a' -> At E' V' s' a' nt -> ExDen E' ae e -> Φ ae s' -> Q e a' V') : zmx lv P r ops Q l a V:=by
 have hok:=drawBOk.out hok;obtain ⟨hnd,_,hlt⟩:=zcZ hok.top;have hs0 : s = ⟨TX ops s.T (fun _ => .val undef) [],Hf (done es [])⟩:=by
  have : done es [] = []:=by simp [done]
  rw [this,<- h0]; rfl
 have h' : BOps lv P Hf ops (znE (zns ops ord []) es [] ord) ⟨TX ops s.T (fun _ => .val undef) [],Hf (done es [])⟩ (Φ .normal) ⟨0⟩:=by rw [<- hs0]; exact h
 obtain ⟨f,_,q2,q3⟩:=zfU (r:=r) hok ord [] _ hok.top (fun i hi => by cases hi) h';have hfull : ∀ i,i ∈ ord <-> i < ops.size:=fun i => ⟨hlt i,hok.full i⟩;have hat0 : At E V ⟨TX ops s.T f [],Hf (done es [])⟩ a nt:=by
  have e : (⟨TX ops s.T f [],Hf (done es [])⟩ : AS) = s:=hs0.symm;rw [e]; exact hat
 refine zkP (Hf:=Hf) (es:=es) hok q2 hs (by simp) (fun i hi => by cases hi) E V a Q hat0 fun E' V' a' X' hk hat' hall => ?_;have hmem : ∀ i,i ∈ X' <-> i ∈ ord.reverse ++ []:=fun i => by simp [hall,hfull]
 refine hQ .normal .normal E' V' a' _ hk ⟨?_,fun t x e => ?_,hat'.size⟩ trivial q3
 ·rw [<- zkR hmem]; exact hat'.conc
 ·rw [<- zqZ hok hmem] at e; exact hat'.tok t x e
theorem zqr {es ord : List Nat} (hok : drawBOk nt ops es ord = true) (t : Nat) : Sched ops [] (Region.linearise.go .any ops ops.size t (Array.replicate ops.size false) []):=by
 have hok:=drawBOk.out hok;obtain ⟨hnd,_,hlt⟩:=zcZ hok.top;have ready : ∀ (ord X : List Nat),zoB ops X ord = true -> ∀ A i B,ord = A ++ i :: B -> ∃ o,ops[i]? = some o /\ ∀ j ∈ zlM o,j ∈ A \/ j ∈ X:=by
  intro ord;induction ord with
  | nil => intro X _ A i B e; cases A <;> cases e
  | cons x l ih =>
   intro X htop A i B e;simp only [zoB,Bool.and_eq_true,Bool.not_eq_true',List.contains_eq_mem,decide_eq_false_iff_not] at htop;obtain ⟨⟨h1,h2⟩,h3⟩:=htop;cases A with
   | nil =>
    have e1 : x = i:=(by have:=congrArg List.head? e; simpa using this);rw [e1] at h2;cases ho : ops[i]? with
    | none => rw [ho] at h2; cases h2
    | some o =>
     rw [ho] at h2;exact ⟨o,rfl,fun j hj => .inr (by have:=List.all_eq_true.1 h2 j hj; simpa using this)⟩
   | cons y A =>
    cases e;obtain ⟨o,ho,hb⟩:=ih (x :: X) h3 A i B rfl;refine ⟨o,ho,fun j hj => ?_⟩;rcases hb j hj with h | h
    ·exact .inl (List.mem_cons_of_mem _ h)
    ·rcases List.mem_cons.1 h with rfl | h
     ·exact .inl (List.mem_cons_self ..)
     ·exact .inr h
 exact zfb (ops:=ops) (fun i o ho j hj => by
   obtain ⟨A,B,e⟩:=List.append_of_mem (hok.full i (Array.getElem?_eq_some_iff.1 ho).1);obtain ⟨o',ho',hb⟩:=ready ord [] hok.top A i B e;rw [ho] at ho'; cases ho';rcases hb j hj with h | h
   ·exact hlt j (by rw [e]; exact List.mem_append_left _ h)
   ·cases h)
  (fun X ⟨i,hi,hn⟩ => by
   obtain ⟨A,i',B,e,h1,h2⟩:=zgI (X:=X) ⟨i,hok.full i hi,hn⟩;obtain ⟨o',ho',hb⟩:=ready ord [] hok.top A i' B e;refine ⟨i',o',ho',h1,fun j hj => ?_⟩;rcases hb j hj with h | h
   ·exact h2 j h
   ·cases h)
  ops.size t (Array.replicate ops.size false) [] ⟨by simp,fun i hi => by simp [hi]⟩ (Nat.le_trans List.countP_le_length (by simp))
theorem zpl {s : AS} {id : Nat} {Φ : AEx -> AS -> Prop} (i j : Nat) (es es2 ord0 ord1 ord2 : List Nat) (pl1 pl2 : List PEntry) (Hf1 Hf2 : List Nat -> List AObj) (hm : P.follows .mixedOrders = true) (hij : (i != j && decide (i < ops.size)) = true) (hok0 : drawBOk nt ops es ord0 = true) (hok1 : drawBOk nt (addE ops i j) es ord1 = true) (hok2 : drawBOk nt (addE ops j i) es2 ord2 = true) (hpl1 : zqB (addE ops i j) es ord1 = pl1) (hpl2 : zqB (addE ops j i) es2 ord2 = pl2) (h01 : s.H = Hf1 []) (h02 : s.H = Hf2 [])
  (h1 : BOps lv P Hf1 ops pl1 s (Φ .normal) ⟨0⟩) (h2 : BOps lv P Hf2 ops pl2 s (Φ .normal) ⟨0⟩) : AWP lv P r nt (.region id ops true) s Φ:=by
 intro E V a Q hat hQ;rw [Bool.and_eq_true,bne_iff_ne,decide_eq_true_eq] at hij;refine zg3 fun t => ?_;rw [show Region.schedule (P.follows .mixedOrders) ops t = Region.linearise.go .any ops ops.size t (Array.replicate ops.size false) [] by unfold Region.schedule; rw [hm]; simp [Region.linearise]];subst hpl1 hpl2;rcases zpV hij.1 hij.2 (zqr hok0 t) (by simp) (by simp) with hs | hs
 ·rw [<- zp0 i j];exact zoX (id:=id) hok1 h01 (by rw [zos]; exact h1) hs hat hQ
 ·rw [<- zp0 j i];exact zoX (id:=id) hok2 h02 (by rw [zos]; exact h2) hs hat hQ
end
section
variable {lv : Bool} {P : Program} {r : Option Nat} {s : AS}
theorem zo0 {nt : Nat} {c : Code} {Φ : AEx -> AS -> Prop} (id : Nat) (h : AWP lv P r nt c ⟨s.T,s.H.set id .gone⟩ Φ) : AWP lv P r nt c s Φ:=fun E V a Q hat hQ =>
 h E V a Q ⟨hat.conc.leave id,hat.tok,hat.size⟩ hQ
theorem zoz {nt id jo j sz n cp : Nat} {c : Code} {l lo : List AV} {el elo : TypeId} {Φ : AEx -> AS -> Prop} (hid : s.H[id]? = some (.own sz l el)) (ho : s.H[jo]? = some (.cells lo elo)) (hj : lo[j]? = some (.osl id 0 n cp)) (h : AWP lv P r nt c ⟨s.T,(s.H.set id .gone ++ [AObj.own sz l el]).set jo (.cells (lo.set j (.osl s.H.length 0 n cp)) elo)⟩ Φ) : AWP lv P r nt c s Φ:=fun E V a Q hat hQ => by
 have hc:=hat.conc;have hc1:=hc.relabel hid;have hle : E.Le (E.addR (E.blk id) V.imm (E.room id 0).2):=E.le_addR _ _ (fun b o v h => by rw [<- hc.I]; exact h);have hidl : id < E.n:=by rw [hc.n]; exact (List.getElem?_eq_some_iff.1 hid).1
 have hjl:=(List.getElem?_eq_some_iff.1 ho).1;have hne : id ≠ jo:=fun e => by rw [e,ho] at hid; cases hid
 have ho1 : (s.H.set id .gone ++ [AObj.own sz l el])[jo]? = some (.cells lo elo):=by
  rw [List.getElem?_append_left (by rw [List.length_set]; exact hjl),List.getElem?_set_ne hne]; exact ho
 obtain ⟨⟨cs,hown,hd⟩,himm⟩:=hc1.obj jo _ ho1;have hc2 : Conc (E.addR (E.blk id) V.imm (E.room id 0).2) V ((s.H.set id .gone ++ [AObj.own sz l el]).set jo (.cells (lo.set j (.osl s.H.length 0 n cp)) elo)) :=
  hc1.turn jo _ (Env.Le.refl _) hc1.I (by rw [hc1.n,List.length_set]) zaF rfl (fun _ _ _ => rfl) (fun b y _ hy => ⟨hy,fun _ => rfl⟩) ⟨⟨cs,hown,zpv hd hj (fun v d => by
   cases d with
   | osl hi hcap =>
    rename_i cap';have e1 : (E.addR (E.blk id) V.imm (E.room id 0).2).blk s.H.length = (E.addR (E.blk id) V.imm (E.room id 0).2).blk id:=by
     rw [hle.blk id hidl,<- hc.n]; simp [Env.addR]
    have e2 : ((E.addR (E.blk id) V.imm (E.room id 0).2).room s.H.length 0).2 = ((E.addR (E.blk id) V.imm (E.room id 0).2).room id 0).2:=by
     rw [hle.room id 0 hidl (Nat.zero_le _),<- hc.n]; simp [Env.addR]
    rw [<- e1];exact .osl (by rw [<- hc.n]; simp [Env.addR]) ⟨hcap.1,hcap.2.1,fun h => by rw [e2]; exact hcap.2.2 h⟩)⟩,himm⟩ (fun b hb' => .inl ⟨_,ho1,hb'⟩)
 exact h _ V a Q ⟨hc2,hat.tok.mono hle,hat.size⟩ fun ae e E' V'' a' s' hk => hQ ae e E' V'' a' s' ((⟨hle,rfl,rfl,rfl,rfl⟩ : Kept E _ V V a a).trans hk)
end
def gO : Nat -> AObj -> List AObj
 | 0,_ => []
 | n + 1,o => List.replicate n .gone ++ [o]
theorem zm7 : ∀ (n : Nat) (o : AObj),(gO n o).length = n
 | 0,_ => rfl
 | n + 1,o => by simp [gO]
theorem zqN {A R : List AObj} {n : Nat} {o : AObj} : (A ++ (gO (n + 1) o ++ R))[A.length + n]? = some o:=by
 rw [List.getElem?_append_right (by omega),show A.length + n - A.length = n by omega,List.getElem?_append_left (by rw [zm7]; omega),gO,List.getElem?_append_right (by simp)];simp
theorem zqK {A R : List AObj} {n : Nat} {o o' : AObj} : (A ++ (gO (n + 1) o ++ R)).set (A.length + n) o' = A ++ (gO (n + 1) o' ++ R):=by
 rw [List.set_append_right _ _ (by omega),show A.length + n - A.length = n by omega,List.set_append_left _ _ (by rw [zm7]; omega),gO,List.set_append_right _ _ (by simp)];simp [gO]
theorem zqM {A : List AObj} {n : Nat} {o : AObj} : (A ++ gO (n + 1) o)[A.length + n]? = some o:=by
 have:=zqN (A:=A) (R:=[]) (n:=n) (o:=o);rwa [List.append_nil] at this
theorem zqJ {A : List AObj} {n : Nat} {o o' : AObj} : (A ++ gO (n + 1) o).set (A.length + n) o' = A ++ gO (n + 1) o':=by
 have:=zqK (A:=A) (R:=[]) (n:=n) (o:=o) (o':=o');rwa [List.append_nil,List.append_nil] at this
theorem zqU {lv : Bool} {P : Program} {r : Option Nat} {nt : Nat} {c : Code} {T : List (Nat × AV)} {A B : List AObj} {Φ : AEx -> AS -> Prop} (e : A = B) (h : AWP lv P r nt c ⟨T,A⟩ Φ) : AWP lv P r nt c ⟨T,B⟩ Φ:=e ▸ h
theorem zqL {n : Nat} {o : AObj} : gO (n + 1) .gone ++ [o] = gO (n + 2) o:=by
 simp only [gO,List.replicate_succ']
def slO (j n : Nat) : AV:=match n with
 | 0 => .sl 0 [] .exact
 | n + 1 => .osl (j + n) 0 (n + 1) 0
theorem zoF (j : Nat) : ∀ n,(slO j n).leaf = true
 | 0 => rfl
 | _ + 1 => rfl
def ownK (ks : List Key) : AObj:=.own 3 (ks.flatMap Key.l) 65
def ownL (ls : List (List Band)) : AObj:=.own 1 (ls.map aBands) 29
def ownT (ts : List Try) : AObj:=.own 3 (ts.flatMap Try.l) 28
structure KrF (H : List AObj) (Fo : AObj -> AObj -> AObj -> List AObj) (jz jT m nt : Nat) (x : Ring) : Prop where
 len : ∀ c o z,(Fo c o z).length = m
 pre : ∀ c o z,∃ G,Fo c o z = H ++ G
 g0 : ∀ c o z,(Fo c o z)[H.length]? = some (.cells x.l 26)
 g1 : ∀ c o z,(Fo c o z)[H.length + 1]? = some o
 s1 : ∀ c o z o',(Fo c o z).set (H.length + 1) o' = Fo c o' z
 gz : ∀ c o z,(Fo c o z)[jz]? = some z
 sz : ∀ c o z z',(Fo c o z).set jz z' = Fo c o z'
 gT : 0 < nt -> ∀ c o z,(Fo c o z)[jT]? = some c
 sT : 0 < nt -> ∀ c o z c',(Fo c o z).set jT c' = Fo c' o z
theorem krF_a (H : List AObj) (x : Ring) (nt : Nat) : KrF H (fun c o z => H ++ [.cells x.l 26,o,z,c]) (H.length + 2) (H.length + 3) (H.length + 4) nt x :=
 ⟨fun _ _ _ => by simp,fun _ _ _ => ⟨_,rfl⟩,fun _ _ _ => by simp,fun _ _ _ => by simp,fun _ _ _ _ => by simp,fun _ _ _ => by simp,fun _ _ _ _ => by simp,fun _ _ _ _ => by simp,fun _ _ _ _ _ => by simp⟩
theorem krF_b (H : List AObj) (x : Ring) (nt : Nat) : KrF H (fun c o z => H ++ [.cells x.l 26,o,c,z]) (H.length + 3) (H.length + 2) (H.length + 4) nt x :=
 ⟨fun _ _ _ => by simp,fun _ _ _ => ⟨_,rfl⟩,fun _ _ _ => by simp,fun _ _ _ => by simp,fun _ _ _ _ => by simp,fun _ _ _ => by simp,fun _ _ _ _ => by simp,fun _ _ _ _ => by simp,fun _ _ _ _ _ => by simp⟩
theorem krF_c (H : List AObj) (x : Ring) : KrF H (fun _ o z => H ++ [.cells x.l 26,o,z]) (H.length + 2) 0 (H.length + 3) 0 x :=
 ⟨fun _ _ _ => by simp,fun _ _ _ => ⟨_,rfl⟩,fun _ _ _ => by simp,fun _ _ _ => by simp,fun _ _ _ _ => by simp,fun _ _ _ => by simp,fun _ _ _ _ => by simp,fun h => absurd h (Nat.lt_irrefl _),fun h => absurd h (Nat.lt_irrefl _)⟩
def zmb (N nn : Nat) (ts : List Try) : Nat × AV × List AObj:=match ts.length with
 | 0 => (0,.sl 0 [] .shut,[])
 | n + 1 => (1,.osl (N + 4 + nn) 0 (n + 1) 0,[ownT ts])
def krL (N : Nat) (x : Ring) (p : Nat × AV × List AObj) : List AV:=[iv x.cuts,slO (N + 3 + p.1) x.keys.length,slO (N + 3 + p.1 + x.keys.length) x.locks.length,p.2.1]
def krG (N : Nat) (x : Ring) (p : Nat × AV × List AObj) (K L : AObj) (T : List AObj) : List AObj:=.cells x.l 26 :: .cells (krL N x p) 26 :: (List.replicate (p.1 + 1) .gone ++ ((gO x.keys.length K ++ gO x.locks.length L) ++ T))
section
variable {lv : Bool} {H : List AObj} {k kp : AV -> List AObj -> Prop}
theorem f28_w {x : Ring} (hx : x.Ok) (hk : k (.agg (krL H.length x (zmb H.length (x.keys.length + x.locks.length) x.tries))) (H ++ krG H.length x (zmb H.length (x.keys.length + x.locks.length) x.tries) (ownK x.keys) (ownL x.locks) (zmb H.length (x.keys.length + x.locks.length) x.tries).2.2)) : FnC lv Tryz.prog 28 H [x.av] k kp:=by
 refine zlA (rs:=[.cell 2 26]) (nt:=58) Tryz.f28 fun hH hA => ?_;simp only [zlW,Nat.reduceAdd,Ring.av];have hs:=hx.small;have hcu:=hx.cuts;have hts:=hs.tries;have htln:=zf5 x.tries;have htake : (x.tries.flatMap Try.l).take (x.tries.length * 3) = x.tries.flatMap Try.l:=List.take_of_length_le (by omega);refine zl5 ?_;simp only [seval,Ring.l];rcases Nat.eq_zero_or_pos x.tries.length with ht0 | ht0;have htn : x.tries = []:=List.length_eq_zero_iff.1 ht0;refine zmw [7,8] [0,1,2,3,4,5,6,7,8] [⟨0,false,[],[([7],[7])]⟩,⟨1,false,[],[([7],[7])]⟩,⟨2,false,[],[([7],[7])]⟩,⟨3,false,[],[([7],[7])]⟩,⟨4,false,[],[([7],[7])]⟩,⟨5,false,[],[([7],[7])]⟩,⟨6,false,[],[([7],[7])]⟩,⟨7,true,[7],[]⟩,⟨8,true,[7,8],[]⟩] (fun D => H ++ (.cells [iv x.cuts,zl8 x.keys,zlL x.locks,zl4 x.tries] 26 :: .cells [iv 0,.sl 0 [] .exact,.sl 0 [] .exact,.sl 0 [] .exact] 26 :: (bif zl7 8 D then [.cells [iv x.cuts,.sl 0 [] .exact,.sl 0 [] .exact,zl4 x.tries] 26] else bif zl7 7 D then [.cells [iv 0,.sl 0 [] .exact,.sl 0 [] .exact,.sl 0 [] .exact] 26] else []))) ?_;simp only [seval,htake,htln,zl4];refine ⟨by omega,by omega,?_⟩;obtain ⟨Fo,hF⟩ : ∃ Fo : AObj -> AObj -> AObj -> List AObj,Fo = fun _ o z => H ++ [.cells x.l 26,o,z]:=⟨_,rfl⟩;have hKr : KrF H Fo (H.length + 2) 0 (H.length + 3) x.tries.length x:=by rw [hF]; exact (by rw [ht0]; exact krF_c H x)
 have hk1:=hk;unfold zmb at hk1;rw [ht0] at hk1;obtain ⟨tS2,gs,tO,hkk,hend⟩ : ∃ (tS2 : AV) (gs tO : List AObj),k (.agg [iv x.cuts,slO (H.length + 3) x.keys.length,slO (H.length + 3 + x.keys.length) x.locks.length,tS2]) (H ++ (.cells x.l 26 :: .cells [iv x.cuts,slO (H.length + 3) x.keys.length,slO (H.length + 3 + x.keys.length) x.locks.length,tS2] 26 :: (gs ++ ((gO x.keys.length (ownK x.keys) ++ gO x.locks.length (ownL x.locks)) ++ tO)))) /\ (∀ (c : Code) (T : List (Nat × AV)) (Φ : AEx -> AS -> Prop) (sK sL : AV) (G : List AObj),G.length = x.keys.length + x.locks.length -> AWP lv Tryz.prog none 58 c ⟨T,H ++ (.cells x.l 26 :: .cells [iv x.cuts,sK,sL,tS2] 26 :: (gs ++ (G ++ tO)))⟩ Φ -> AWP lv Tryz.prog none 58 c ⟨T,Fo (ownT x.tries) (.cells [iv x.cuts,sK,sL,.sl 0 [] .shut] 26) (.cells [iv x.cuts,sK,sL,.sl 0 [] .shut] 26) ++ G⟩ Φ):=by
  refine ⟨.sl 0 [] .shut,[.gone],[],hk1,fun c T Φ sK sL G hG h => ?_⟩;refine zo0 (H.length + 2) ?_;have e : (Fo (ownT x.tries) (.cells [iv x.cuts,sK,sL,.sl 0 [] .shut] 26) (.cells [iv x.cuts,sK,sL,.sl 0 [] .shut] 26) ++ G).set (H.length + 2) .gone = H ++ (.cells x.l 26 :: .cells [iv x.cuts,sK,sL,.sl 0 [] .shut] 26 :: ([.gone] ++ (G ++ []))):=by subst hF; simp
  show AWP _ _ _ _ _ ⟨T,_⟩ _;rw [e]; exact h
 clear hk1;rw [htn];refine zqU (A:=Fo (ownT x.tries) (.cells [iv 0,.sl 0 [] .exact,.sl 0 [] .exact,.sl 0 [] .exact] 26) (.cells [iv x.cuts,.sl 0 [] .exact,.sl 0 [] .exact,.sl 0 [] .shut] 26)) (by subst hF; show H ++ [.cells x.l 26,_,_] = _; unfold Ring.l zl4; rw [htn]; rfl) ?_;clear hF ht0 hk;have hlf : (AV.sl 0 [] .shut).leaf = true:=rfl;generalize AV.sl 0 [] .shut = tS at hend hlf ⊢;generalize H.length + 2 = jz at hKr ⊢;generalize H.length + 3 = m at hKr hkk ⊢;refine zoq [3,2,1] ?_;show AWP _ _ _ _ _ ⟨[(3,.op jz 0),(2,.op (H.length + 1) 0),(1,.op H.length 0)],_⟩ _
 rotate_left
 (repeat apply zaa);refine zpl 5 7 [7,5,8] [5,7,8] [0,1,2,3,4,5,6,7,8] [0,1,2,3,4,7,5,6,8] [0,1,2,3,4,5,6,7,8] [⟨0,false,[],[([7],[7]),([7,5],[7,5])]⟩,⟨1,false,[],[([7],[7]),([7,5],[7,5])]⟩,⟨2,false,[],[([7],[7])]⟩,⟨3,false,[],[([7],[7])]⟩,⟨4,false,[],[([7],[7])]⟩,⟨7,true,[7],[]⟩,⟨5,true,[7,5],[]⟩,⟨6,false,[7,5],[]⟩,⟨8,true,[7,5,8],[]⟩] [⟨0,false,[],[([5],[5]),([5,7],[5,7])]⟩,⟨1,false,[],[([5],[5]),([5,7],[5,7])]⟩,⟨2,false,[],[]⟩,⟨3,false,[],[]⟩,⟨4,false,[],[]⟩,⟨5,true,[5],[]⟩,⟨6,false,[5],[([5,7],[5,7])]⟩,⟨7,true,[5,7],[]⟩,⟨8,true,[5,7,8],[]⟩] (fun D => H ++ (.cells [iv x.cuts,zl8 x.keys,zlL x.locks,zl4 x.tries] 26 :: .cells [iv 0,.sl 0 [] .exact,.sl 0 [] .exact,.sl 0 [] .exact] 26 :: (bif zl7 8 D then [.cells [iv x.cuts,.sl 0 [] .exact,.sl 0 [] .exact,.osl (H.length + 3) 0 x.tries.length 0] 26,ownT x.tries] else bif zl7 5 D then [.cells [iv 0,.sl 0 [] .exact,.sl 0 [] .exact,.sl 0 [] .exact] 26,ownT x.tries] else bif zl7 7 D then [.cells [iv 0,.sl 0 [] .exact,.sl 0 [] .exact,.sl 0 [] .exact] 26] else []))) (fun D => H ++ (.cells [iv x.cuts,zl8 x.keys,zlL x.locks,zl4 x.tries] 26 :: .cells [iv 0,.sl 0 [] .exact,.sl 0 [] .exact,.sl 0 [] .exact] 26 :: (bif zl7 8 D then [ownT x.tries,.cells [iv x.cuts,.sl 0 [] .exact,.sl 0 [] .exact,.osl (H.length + 2) 0 x.tries.length 0] 26] else bif zl7 7 D then [ownT x.tries,.cells [iv 0,.sl 0 [] .exact,.sl 0 [] .exact,.sl 0 [] .exact] 26] else bif zl7 5 D then [ownT x.tries] else []))) F.mixed (by kernel_rfl) (by kernel_rfl) (by kernel_rfl) (by kernel_rfl) (by kernel_rfl) (by kernel_rfl) (by first | rfl | simp only [seval]) (by first | rfl | simp only [seval]) ?_ ?_;(try simp only [seval,htake,htln,zl4,ownT]);refine ⟨by omega,ht0,?_⟩;obtain ⟨Fo,hF⟩ : ∃ Fo : AObj -> AObj -> AObj -> List AObj,Fo = fun c o z => H ++ [.cells x.l 26,o,z,c]:=⟨_,rfl⟩;have hKr : KrF H Fo (H.length + 2) (H.length + 3) (H.length + 4) x.tries.length x:=by rw [hF]; exact krF_a H x _
 have hk1:=hk;unfold zmb at hk1;obtain ⟨n,hn⟩ : ∃ n,x.tries.length = n + 1:=⟨x.tries.length - 1,by omega⟩;have e : AV.osl (H.length + 3) 0 x.tries.length 0 = .osl (H.length + 3) 0 (n + 1) 0:=by rw [hn]
 rw [e];rw [hn] at hk1;obtain ⟨tS2,gs,tO,hkk,hend⟩ : ∃ (tS2 : AV) (gs tO : List AObj),k (.agg [iv x.cuts,slO (H.length + 4) x.keys.length,slO (H.length + 4 + x.keys.length) x.locks.length,tS2]) (H ++ (.cells x.l 26 :: .cells [iv x.cuts,slO (H.length + 4) x.keys.length,slO (H.length + 4 + x.keys.length) x.locks.length,tS2] 26 :: (gs ++ ((gO x.keys.length (ownK x.keys) ++ gO x.locks.length (ownL x.locks)) ++ tO)))) /\ (∀ (c : Code) (T : List (Nat × AV)) (Φ : AEx -> AS -> Prop) (sK sL : AV) (G : List AObj),G.length = x.keys.length + x.locks.length -> AWP lv Tryz.prog none 58 c ⟨T,H ++ (.cells x.l 26 :: .cells [iv x.cuts,sK,sL,tS2] 26 :: (gs ++ (G ++ tO)))⟩ Φ -> AWP lv Tryz.prog none 58 c ⟨T,Fo (ownT x.tries) (.cells [iv x.cuts,sK,sL,.osl (H.length + 3) 0 (n + 1) 0] 26) (.cells [iv x.cuts,sK,sL,.osl (H.length + 3) 0 (n + 1) 0] 26) ++ G⟩ Φ):=by
  refine ⟨.osl (H.length + 4 + (x.keys.length + x.locks.length)) 0 (n + 1) 0,[.gone,.gone],[ownT x.tries],hk1,fun c T Φ sK sL G hG h => ?_⟩;have hle : (Fo (ownT x.tries) (.cells [iv x.cuts,sK,sL,.osl (H.length + 3) 0 (n + 1) 0] 26) (.cells [iv x.cuts,sK,sL,.osl (H.length + 3) 0 (n + 1) 0] 26) ++ G).length = H.length + 4 + (x.keys.length + x.locks.length):=by subst hF; simp [hG]; omega
  refine zoz (id:=H.length + 3) (jo:=H.length + 1) (j:=3) (l:=x.tries.flatMap Try.l) (sz:=3) (el:=28) (elo:=26) (lo:=[iv x.cuts,sK,sL,.osl (H.length + 3) 0 (n + 1) 0]) (n:=n + 1) (cp:=0) (by subst hF; simp [ownT]) (by subst hF; simp) rfl ?_;show AWP _ _ _ _ _ ⟨T,_⟩ _;rw [hle];refine zo0 (H.length + 2) ?_;have e2 : (((Fo (ownT x.tries) (.cells [iv x.cuts,sK,sL,.osl (H.length + 3) 0 (n + 1) 0] 26) (.cells [iv x.cuts,sK,sL,.osl (H.length + 3) 0 (n + 1) 0] 26) ++ G).set (H.length + 3) .gone ++ [AObj.own 3 (x.tries.flatMap Try.l) 28]).set (H.length + 1) (.cells ([iv x.cuts,sK,sL,.osl (H.length + 3) 0 (n + 1) 0].set 3 (.osl (H.length + 4 + (x.keys.length + x.locks.length)) 0 (n + 1) 0)) 26)).set (H.length + 2) .gone = H ++ (.cells x.l 26 :: .cells [iv x.cuts,sK,sL,.osl (H.length + 4 + (x.keys.length + x.locks.length)) 0 (n + 1) 0] 26 :: ([.gone,.gone] ++ (G ++ [ownT x.tries]))):=by subst hF; simp [ownT]
  show AWP _ _ _ _ _ ⟨T,_⟩ _;rw [e2]; exact h
 clear hk1;refine zqU (A:=Fo (ownT x.tries) (.cells [iv 0,.sl 0 [] .exact,.sl 0 [] .exact,.sl 0 [] .exact] 26) (.cells [iv x.cuts,.sl 0 [] .exact,.sl 0 [] .exact,.osl (H.length + 3) 0 (n + 1) 0] 26)) (by subst hF; rfl) ?_;clear hF ht0 hk;have hlf : (AV.osl (H.length + 3) 0 (n + 1) 0).leaf = true:=rfl;clear e;generalize AV.osl (H.length + 3) 0 (n + 1) 0 = tS at hend hlf ⊢;generalize H.length + 2 = jz at hKr ⊢;generalize H.length + 4 = m at hKr hkk ⊢;refine zoq [3,2,1] ?_;show AWP _ _ _ _ _ ⟨[(3,.op jz 0),(2,.op (H.length + 1) 0),(1,.op H.length 0)],_⟩ _
 rotate_left
 (try simp only [seval,htake,htln,zl4,ownT]);refine ⟨by omega,ht0,?_⟩;obtain ⟨Fo,hF⟩ : ∃ Fo : AObj -> AObj -> AObj -> List AObj,Fo = fun c o z => H ++ [.cells x.l 26,o,c,z]:=⟨_,rfl⟩;have hKr : KrF H Fo (H.length + 3) (H.length + 2) (H.length + 4) x.tries.length x:=by rw [hF]; exact krF_b H x _
 have hk1:=hk;unfold zmb at hk1;obtain ⟨n,hn⟩ : ∃ n,x.tries.length = n + 1:=⟨x.tries.length - 1,by omega⟩;have e : AV.osl (H.length + 2) 0 x.tries.length 0 = .osl (H.length + 2) 0 (n + 1) 0:=by rw [hn]
 rw [e];rw [hn] at hk1;obtain ⟨tS2,gs,tO,hkk,hend⟩ : ∃ (tS2 : AV) (gs tO : List AObj),k (.agg [iv x.cuts,slO (H.length + 4) x.keys.length,slO (H.length + 4 + x.keys.length) x.locks.length,tS2]) (H ++ (.cells x.l 26 :: .cells [iv x.cuts,slO (H.length + 4) x.keys.length,slO (H.length + 4 + x.keys.length) x.locks.length,tS2] 26 :: (gs ++ ((gO x.keys.length (ownK x.keys) ++ gO x.locks.length (ownL x.locks)) ++ tO)))) /\ (∀ (c : Code) (T : List (Nat × AV)) (Φ : AEx -> AS -> Prop) (sK sL : AV) (G : List AObj),G.length = x.keys.length + x.locks.length -> AWP lv Tryz.prog none 58 c ⟨T,H ++ (.cells x.l 26 :: .cells [iv x.cuts,sK,sL,tS2] 26 :: (gs ++ (G ++ tO)))⟩ Φ -> AWP lv Tryz.prog none 58 c ⟨T,Fo (ownT x.tries) (.cells [iv x.cuts,sK,sL,.osl (H.length + 2) 0 (n + 1) 0] 26) (.cells [iv x.cuts,sK,sL,.osl (H.length + 2) 0 (n + 1) 0] 26) ++ G⟩ Φ):=by
  refine ⟨.osl (H.length + 4 + (x.keys.length + x.locks.length)) 0 (n + 1) 0,[.gone,.gone],[ownT x.tries],hk1,fun c T Φ sK sL G hG h => ?_⟩;have hle : (Fo (ownT x.tries) (.cells [iv x.cuts,sK,sL,.osl (H.length + 2) 0 (n + 1) 0] 26) (.cells [iv x.cuts,sK,sL,.osl (H.length + 2) 0 (n + 1) 0] 26) ++ G).length = H.length + 4 + (x.keys.length + x.locks.length):=by subst hF; simp [hG]; omega
  refine zoz (id:=H.length + 2) (jo:=H.length + 1) (j:=3) (l:=x.tries.flatMap Try.l) (sz:=3) (el:=28) (elo:=26) (lo:=[iv x.cuts,sK,sL,.osl (H.length + 2) 0 (n + 1) 0]) (n:=n + 1) (cp:=0) (by subst hF; simp [ownT]) (by subst hF; simp) rfl ?_;show AWP _ _ _ _ _ ⟨T,_⟩ _;rw [hle];refine zo0 (H.length + 3) ?_;have e2 : (((Fo (ownT x.tries) (.cells [iv x.cuts,sK,sL,.osl (H.length + 2) 0 (n + 1) 0] 26) (.cells [iv x.cuts,sK,sL,.osl (H.length + 2) 0 (n + 1) 0] 26) ++ G).set (H.length + 2) .gone ++ [AObj.own 3 (x.tries.flatMap Try.l) 28]).set (H.length + 1) (.cells ([iv x.cuts,sK,sL,.osl (H.length + 2) 0 (n + 1) 0].set 3 (.osl (H.length + 4 + (x.keys.length + x.locks.length)) 0 (n + 1) 0)) 26)).set (H.length + 3) .gone = H ++ (.cells x.l 26 :: .cells [iv x.cuts,sK,sL,.osl (H.length + 4 + (x.keys.length + x.locks.length)) 0 (n + 1) 0] 26 :: ([.gone,.gone] ++ (G ++ [ownT x.tries]))):=by subst hF; simp [ownT]
  show AWP _ _ _ _ _ ⟨T,_⟩ _;rw [e2]; exact h
 clear hk1;refine zqU (A:=Fo (ownT x.tries) (.cells [iv 0,.sl 0 [] .exact,.sl 0 [] .exact,.sl 0 [] .exact] 26) (.cells [iv x.cuts,.sl 0 [] .exact,.sl 0 [] .exact,.osl (H.length + 2) 0 (n + 1) 0] 26)) (by subst hF; rfl) ?_;clear hF ht0 hk;have hlf : (AV.osl (H.length + 2) 0 (n + 1) 0).leaf = true:=rfl;clear e;generalize AV.osl (H.length + 2) 0 (n + 1) 0 = tS at hend hlf ⊢;generalize H.length + 3 = jz at hKr ⊢;generalize H.length + 4 = m at hKr hkk ⊢;refine zoq [3,2,1] ?_;show AWP _ _ _ _ _ ⟨[(3,.op jz 0),(2,.op (H.length + 1) 0),(1,.op H.length 0)],_⟩ _
 rotate_left
 all_goals
  have hg0 : ∀ c o z R,(Fo c o z ++ R)[H.length]? = some (.cells [iv x.cuts,zl8 x.keys,zlL x.locks,zl4 x.tries] 26):=fun c o z R => zay (hKr.g0 c o z);have hgz : ∀ c o z R,(Fo c o z ++ R)[jz]? = some z:=fun c o z R => zay (hKr.gz c o z);have hsz : ∀ c o z z' R,(Fo c o z ++ R).set jz z' = Fo c o z' ++ R:=fun c o z z' R => by rw [List.set_append_left _ _ (get_lt (hKr.gz c o z)),hKr.sz]
  have hlen : ∀ c o z,(Fo c o z).length = m:=hKr.len;have hg00 : ∀ c o z,(Fo c o z)[H.length]? = some (.cells [iv x.cuts,zl8 x.keys,zlL x.locks,zl4 x.tries] 26):=hKr.g0;have hgz0:=hKr.gz;have hsz0:=hKr.sz;have hgm : ∀ c o z a,(Fo c o z ++ [a])[m]? = some a:=fun c o z a => by rw [<- hlen c o z,List.getElem?_append_right (Nat.le_refl _),Nat.sub_self]; rfl
  have hks:=hx.keys;have hls:=hx.locks;have w1 : ∀ i : Nat,i <= 2 ^ 31 -> IntKind.i64.wrap ((i : Int) + 1) = i + 1:=fun i _ => zau _ (by omega);generalize ho : AObj.cells [iv 0,.sl 0 [] .exact,.sl 0 [] .exact,.sl 0 [] .exact] 26 = o0;refine zfK ?_;refine zlC ?_;refine zqb x.keys.length (fun i : Nat => [(4,iv i)]) (fun i => Fo (ownT x.tries) o0 (.cells [iv x.cuts,slO m i,.sl 0 [] .exact,tS] 26) ++ gO i (ownK (x.keys.take i))) (fun _ => True) (fun _ _ => rfl) (by simp only [seval]; simp [zaf,Wk.refl]) (by simp [gO,slO]) (fun _ _ _ => by simp [hlen]) trivial (fun hHs hLt i hin hi R hR => ?_);clear hHs hLt;refine zl5 ?_;simp only [seval,zl8,hg0];refine zlu ?_;refine ⟨fun h => ?_,fun h => ?_⟩
  ·have hil : i < x.keys.length:=(by omega);obtain ⟨y,hy⟩:=zaE hil;obtain ⟨hyc,hyb,_⟩:=hx.key y (zas hy);have hwi:=w1 i (by omega);have htk : (x.keys.take i).length = i:=(by rw [List.length_take]; omega);have hsu : x.keys.take (i + 1) = x.keys.take i ++ [y]:=(by rw [List.take_add_one,hy]; rfl);rw [hsu] at hR;refine zly ?_;refine zlC ?_;rcases Nat.eq_zero_or_pos i with hi0 | hi0
   ·subst hi0;have hs0 : slO m 0 = .sl 0 [] .exact:=rfl;have ho0 : ∀ o,gO 0 o = []:=fun _ => rfl;have hk0 : (0 < (x.keys.length : Int)) = True:=(by simp; omega);refine zmw [17,19] [0,1,2,3,4,5,6,7,8,9,10,11,12,13,14,15,16,17,18,19] [⟨0,false,[],[]⟩,⟨1,false,[],[]⟩,⟨2,false,[],[]⟩,⟨3,false,[],[]⟩,⟨4,false,[],[]⟩,⟨5,false,[],[]⟩,⟨6,false,[],[]⟩,⟨7,false,[],[]⟩,⟨8,false,[],[]⟩,⟨9,false,[],[]⟩,⟨10,false,[],[]⟩,⟨11,false,[],[]⟩,⟨12,false,[],[]⟩,⟨13,false,[],[]⟩,⟨14,false,[],[]⟩,⟨15,false,[],[]⟩,⟨16,false,[],[]⟩,⟨17,true,[17],[]⟩,⟨18,false,[17],[]⟩,⟨19,true,[17,19],[]⟩] (fun D => Fo (ownT x.tries) o0 (.cells [iv x.cuts,bif zl7 19 D then .osl m 0 1 0 else .sl 0 [] .exact,.sl 0 [] .exact,tS] 26) ++ (bif zl7 17 D then [.own 3 [aInts y.cuts,iv y.wear.min,iv y.wear.max] 65] else [])) ?_;simp only [seval,zc2 hy,zaz hil,zk3,zd5,aInts,zl8,hg0,hg00,hgz,hgz0,hsz,hsz0,hlen,hgm,hs0,ho0,hk0];refine znT (aInts y.cuts) (zlY (f50_c (xs:=y.cuts) (by omega) ⟨rfl,rfl⟩)) ?_;try simp only [seval,zc2 hy,zaz hil,zk3,zd5,aInts,zl8,hg0,hg00,hgz,hgz0,hsz,hsz0,hlen,hgm,hs0,ho0,hk0]
    first | refine ⟨by omega,?_⟩ | skip
    refine zl5 ?_;simp only [seval,show IntKind.i64.wrap 1 = 1 from zau _ (by omega),show (0 : Int) + 1 = 1 from rfl];refine hR _ ⟨hil,trivial,?_⟩;exact zlJ
   ·obtain ⟨n,hn⟩ : ∃ n,i = n + 1:=⟨i - 1,by omega⟩;have hsl : slO m i = .osl (m + n) 0 i 0:=(by rw [hn]; rfl);have hkn : ((x.keys.take i).flatMap Key.l).length = i * 3:=(by rw [zpt,htk]);generalize x.keys.take i = ks at htk hkn hR ⊢;have hgk : ∀ c o z,(Fo c o z ++ gO i (ownK ks))[m + n]? = some (.own 3 (ks.flatMap Key.l) 65):=fun c o z => (by rw [hn]; have:=zqM (A:=Fo c o z) (n:=n) (o:=ownK ks); rwa [hlen] at this);have hsk : ∀ c o z a,(Fo c o z ++ gO i a).set (m + n) .gone = Fo c o z ++ gO i .gone:=fun c o z a => (by rw [hn]; have:=zqJ (A:=Fo c o z) (n:=n) (o:=a) (o':=.gone); rwa [hlen] at this);have hl2 : ∀ c o z a,(Fo c o z ++ gO i a).length = m + i:=fun c o z a => (by rw [List.length_append,hlen,zm7]);have hgw : ∀ a,gO i .gone ++ [a] = gO (i + 1) a:=fun a => (by rw [hn]; exact zqL);refine zma 17 ?_;simp only [seval,zc2 hy,zaz hil,zk3,zd5,aInts,zl8,hg0,hg00,hgz,hgz0,hsz,hsz0,hlen,hsl,hgk,hsk,hl2,hkn,List.append_assoc,hgw];refine znT (aInts y.cuts) (zlY (f50_c (xs:=y.cuts) (by omega) ⟨rfl,rfl⟩)) ?_;(try simp only [seval,zc2 hy,zaz hil,zk3,zd5,aInts,zl8,hg0,hg00,hgz,hgz0,hsz,hsz0,hlen,hsl,hgk,hsk,hl2,hkn,List.append_assoc,hgw]);refine ⟨hi0,by omega,?_⟩;refine zl5 ?_;simp only [seval,hwi];refine hR _ ⟨hil,trivial,?_⟩;have hfl : (ks ++ [y]).flatMap Key.l = ks.flatMap Key.l ++ [aInts y.cuts,iv y.wear.min,iv y.wear.max]:=(by rw [List.flatMap_append]; simp [Key.l]);have hso : slO m (i + 1) = .osl (m + i) 0 (i + 1) 0:=rfl;rw [ownK,hfl,hso];exact zlJ
  ·have hix : i = x.keys.length:=(by omega);subst hix;clear hR;rw [List.take_length];refine zlF ?_;refine zfK ?_;have hm2 : ∀ c o z,(Fo c o z ++ gO x.keys.length (ownK x.keys)).length = m + x.keys.length:=fun c o z => (by rw [List.length_append,hlen,zm7]);have hlK:=zoF m x.keys.length;generalize slO m x.keys.length = sK at hkk hlK ⊢;have hgl:=zm7 x.keys.length (ownK x.keys);generalize gO x.keys.length (ownK x.keys) = gK at hkk hm2 hgl ⊢;refine zlC ?_;refine zqb x.locks.length (fun i : Nat => [(5,iv i)]) (fun i => Fo (ownT x.tries) o0 (.cells [iv x.cuts,sK,slO (m + x.keys.length) i,tS] 26) ++ (gK ++ gO i (ownL (x.locks.take i)))) (fun _ => True) (fun _ _ => rfl) (by simp only [seval]; simp [zaf,Wk.refl]) (by simp [gO,slO]) (fun _ _ _ => by simp [hlen]) trivial (fun hHs hLt i hin hi R hR => ?_);clear hHs hLt;refine zl5 ?_;simp only [seval,zlL,hg0];refine zlu ?_;refine ⟨fun h => ?_,fun h => ?_⟩
   ·have hil : i < x.locks.length:=(by omega);obtain ⟨l,hl⟩:=zaE hil;obtain ⟨hlc,hlb⟩:=hx.lock l (zas hl);have hwi:=w1 i (by omega);have htk : (x.locks.take i).length = i:=(by rw [List.length_take]; omega);have hsu : x.locks.take (i + 1) = x.locks.take i ++ [l]:=(by rw [List.take_add_one,hl]; rfl);have hzs1 : zmn (Value.slice none 0 0) 1 = [.sl 0 [] .exact]:=rfl;rw [hsu] at hR;refine zly ?_;refine zlC ?_;rcases Nat.eq_zero_or_pos i with hi0 | hi0
    ·subst hi0;have hs0 : slO (m + x.keys.length) 0 = .sl 0 [] .exact:=rfl;have ho0 : ∀ o,gO 0 o = []:=fun _ => rfl;have hk0 : (0 < (x.locks.length : Int)) = True:=(by simp; omega);have hgm2 : ∀ c o z a,(Fo c o z ++ (gK ++ [a]))[m + x.keys.length]? = some a:=fun c o z a => (by rw [<- List.append_assoc,<- hm2 c o z,List.getElem?_append_right (Nat.le_refl _),Nat.sub_self]; rfl);refine zmw [9,11] [0,1,2,3,4,5,6,7,8,9,10,11] [⟨0,false,[],[]⟩,⟨1,false,[],[]⟩,⟨2,false,[],[]⟩,⟨3,false,[],[]⟩,⟨4,false,[],[]⟩,⟨5,false,[],[]⟩,⟨6,false,[],[]⟩,⟨7,false,[],[]⟩,⟨8,false,[],[]⟩,⟨9,true,[9],[]⟩,⟨10,false,[9],[]⟩,⟨11,true,[9,11],[]⟩] (fun D => Fo (ownT x.tries) o0 (.cells [iv x.cuts,sK,bif zl7 11 D then .osl (m + x.keys.length) 0 1 0 else .sl 0 [] .exact,tS] 26) ++ (gK ++ (bif zl7 9 D then [.own 1 [aBands l] 29] else []))) ?_;simp only [seval,zfu hl,zaz hil,hzs1,zhq,zho,zlL,hg0,hg00,hgz,hgz0,hsz,hsz0,hlen,hs0,ho0,hk0,hm2,hgm2,List.append_assoc];refine znT (aBands l) (zlY (f59_c (xs:=l) (by omega) ⟨rfl,rfl⟩)) ?_;try simp only [seval,zfu hl,zaz hil,hzs1,zhq,zho,zlL,hg0,hg00,hgz,hgz0,hsz,hsz0,hlen,hs0,ho0,hk0,hm2,hgm2,List.append_assoc]
     first | refine ⟨by omega,?_⟩ | skip
     refine zl5 ?_;simp only [seval,show IntKind.i64.wrap 1 = 1 from zau _ (by omega),show (0 : Int) + 1 = 1 from rfl];refine hR _ ⟨hil,trivial,?_⟩;exact zlJ
    ·obtain ⟨n,hn⟩ : ∃ n,i = n + 1:=⟨i - 1,by omega⟩;have hsl : slO (m + x.keys.length) i = .osl (m + x.keys.length + n) 0 i 0:=(by rw [hn]; rfl);have hkn : ((x.locks.take i).map aBands).length = i:=(by rw [List.length_map,htk]);generalize x.locks.take i = ls at htk hkn hR ⊢;have hgk : ∀ c o z,(Fo c o z ++ (gK ++ gO i (ownL ls)))[m + x.keys.length + n]? = some (.own 1 (ls.map aBands) 29):=fun c o z => (by rw [hn,<- List.append_assoc]; have:=zqM (A:=Fo c o z ++ gK) (n:=n) (o:=ownL ls); rwa [hm2] at this);have hsk : ∀ c o z a,(Fo c o z ++ (gK ++ gO i a)).set (m + x.keys.length + n) .gone = Fo c o z ++ (gK ++ gO i .gone):=fun c o z a => (by rw [hn,<- List.append_assoc,<- List.append_assoc]; have:=zqJ (A:=Fo c o z ++ gK) (n:=n) (o:=a) (o':=.gone); rwa [hm2] at this);have hl2 : ∀ c o z a,(Fo c o z ++ (gK ++ gO i a)).length = m + x.keys.length + i:=fun c o z a => (by rw [<- List.append_assoc,List.length_append,hm2,zm7]);have hgw : ∀ a,gO i .gone ++ [a] = gO (i + 1) a:=fun a => (by rw [hn]; exact zqL);refine zma 9 ?_;simp only [seval,zfu hl,zaz hil,hzs1,zhq,zho,zlL,hg0,hg00,hgz,hgz0,hsz,hsz0,hlen,hsl,hgk,hsk,hl2,hkn,List.append_assoc,hgw];refine znT (aBands l) (zlY (f59_c (xs:=l) (by omega) ⟨rfl,rfl⟩)) ?_;(try simp only [seval,zfu hl,zaz hil,hzs1,zhq,zho,zlL,hg0,hg00,hgz,hgz0,hsz,hsz0,hlen,hsl,hgk,hsk,hl2,hkn,List.append_assoc,hgw]);refine ⟨hi0,by omega,?_⟩;refine zl5 ?_;simp only [seval,hwi];refine hR _ ⟨hil,trivial,?_⟩;have hso : slO (m + x.keys.length) (i + 1) = .osl (m + x.keys.length + i) 0 (i + 1) 0:=rfl;rw [ownL,List.map_append,hso];exact zlJ
   ·have hix : i = x.locks.length:=(by omega);subst hix;clear hR;rw [List.take_length];refine zlF ?_;have hlL:=zoF (m + x.keys.length) x.locks.length;generalize slO (m + x.keys.length) x.locks.length = sL at hkk hlL ⊢;have hGl : (gK ++ gO x.locks.length (ownL x.locks)).length = x.keys.length + x.locks.length:=(by rw [List.length_append,hgl,zm7]);generalize gK ++ gO x.locks.length (ownL x.locks) = G at hkk hGl ⊢;have hg1 : ∀ c z R,(Fo c o0 z ++ R)[H.length + 1]? = some (.cells [iv 0,.sl 0 [] .exact,.sl 0 [] .exact,.sl 0 [] .exact] 26):=fun c z R => (by rw [ho]; exact zay (hKr.g1 c o0 z));have hs1 : ∀ c o z o' R,(Fo c o z ++ R).set (H.length + 1) o' = Fo c o' z ++ R:=fun c o z o' R => (by rw [List.set_append_left _ _ (get_lt (hKr.g1 c o z)),hKr.s1]);have hg2 : ∀ c o z R,(Fo c o z ++ R)[H.length + 1]? = some o:=fun c o z R => zay (hKr.g1 c o z);refine zl5 ?_;simp only [seval,hgz,hg1,hs1,hlf,hlK,hlL];refine hend _ _ _ sK sL G hGl ?_;refine zlz ?_;exact zao hkk
end
def tObj : Nat -> AObj -> List AObj
 | 0,_ => []
 | _ + 1,c => [c]
theorem zoN (N nn : Nat) (ts : List Try) : (zmb N nn ts).2.2 = tObj ts.length (ownT ts):=by
 unfold zmb;cases ts.length <;> rfl
theorem zok {N nn : Nat} {ts : List Try} {n : Nat} (h : ts.length = n + 1) : zmb N nn ts = (1,.osl (N + 4 + nn) 0 (n + 1) 0,[ownT ts]):=by
 unfold zmb;rw [h]
theorem zp7 (N nn : Nat) (x : Ring) : ∀ a ∈ krL N x (zmb N nn x.tries),a.leaf = true:=fun a ha => by
 simp only [krL,List.mem_cons,List.not_mem_nil,or_false] at ha;rcases ha with rfl | rfl | rfl | rfl
 ·rfl
 ·exact zoF _ _
 ·exact zoF _ _
 ·unfold zmb;cases x.tries.length <;> rfl
def krA (B : List AObj) (N : Nat) (x : Ring) (p : Nat × AV × List AObj) : List AObj:=B ++ (.cells x.l 26 :: .cells (krL N x p) 26 :: List.replicate (p.1 + 1) .gone)
theorem zou {B : List AObj} {N : Nat} (hB : B.length = N) (x : Ring) (p : Nat × AV × List AObj) : (krA B N x p).length = N + 3 + p.1:=by simp [krA,hB]; omega
theorem zmY (B R : List AObj) (N : Nat) (x : Ring) (p : Nat × AV × List AObj) (K L : AObj) (T : List AObj) : B ++ (krG N x p K L T ++ R) = krA B N x p ++ (gO x.keys.length K ++ (gO x.locks.length L ++ (T ++ R))):=by simp [krG,krA]
section
variable {B R : List AObj} {N : Nat} {x : Ring} {p : Nat × AV × List AObj} {K L : AObj} {T : List AObj}
theorem ztm (hB : B.length = N) {n : Nat} (hn : x.keys.length = n + 1) : (B ++ (krG N x p K L T ++ R))[N + 3 + p.1 + n]? = some K:=by
 rw [zmY,hn,<- zou hB x p]; exact zqN
theorem ztj (hB : B.length = N) {n : Nat} (hn : x.keys.length = n + 1) (K' : AObj) : (B ++ (krG N x p K L T ++ R)).set (N + 3 + p.1 + n) K' = B ++ (krG N x p K' L T ++ R):=by
 rw [zmY,zmY,hn,<- zou hB x p]; exact zqK
theorem ztl (hB : B.length = N) {n : Nat} (hn : x.locks.length = n + 1) : (B ++ (krG N x p K L T ++ R))[N + 3 + p.1 + x.keys.length + n]? = some L:=by
 have e : N + 3 + p.1 + x.keys.length = (krA B N x p ++ gO x.keys.length K).length:=by rw [List.length_append,zm7,zou hB]
 rw [zmY,hn,<- List.append_assoc,e]; exact zqN
theorem zti (hB : B.length = N) {n : Nat} (hn : x.locks.length = n + 1) (L' : AObj) : (B ++ (krG N x p K L T ++ R)).set (N + 3 + p.1 + x.keys.length + n) L' = B ++ (krG N x p K L' T ++ R):=by
 have e : N + 3 + p.1 + x.keys.length = (krA B N x p ++ gO x.keys.length K).length:=by rw [List.length_append,zm7,zou hB]
 rw [zmY,zmY,hn,<- List.append_assoc,e,zqK,List.append_assoc]
theorem ztk (hB : B.length = N) {c : AObj} : (B ++ (krG N x p K L [c] ++ R))[N + 3 + p.1 + x.keys.length + x.locks.length]? = some c:=by
 have e : N + 3 + p.1 + x.keys.length + x.locks.length = (krA B N x p ++ (gO x.keys.length K ++ gO x.locks.length L)).length:=by rw [List.length_append,List.length_append,zm7,zm7,zou hB]; omega
 rw [zmY,<- List.append_assoc,<- List.append_assoc,List.append_assoc (krA B N x p),e,List.getElem?_append_right (Nat.le_refl _),Nat.sub_self]; rfl
theorem zth (hB : B.length = N) {c : AObj} (c' : AObj) : (B ++ (krG N x p K L [c] ++ R)).set (N + 3 + p.1 + x.keys.length + x.locks.length) c' = B ++ (krG N x p K L [c'] ++ R):=by
 have e : N + 3 + p.1 + x.keys.length + x.locks.length = (krA B N x p ++ (gO x.keys.length K ++ gO x.locks.length L)).length:=by rw [List.length_append,List.length_append,zm7,zm7,zou hB]; omega
 rw [zmY,zmY,<- List.append_assoc,<- List.append_assoc,List.append_assoc (krA B N x p),e,List.set_append_right _ _ (Nat.le_refl _),Nat.sub_self];simp
end
structure NumF (H : List AObj) (x : Ring) (Fo : AObj -> AObj -> AObj -> AObj -> List AObj) (jx jK jL jT m : Nat) : Prop where
 len : ∀ z a b c,(Fo z a b c).length = m
 pre : ∀ z a b c,∃ G,Fo z a b c = H ++ G
 gr : ∀ z a b c,(Fo z a b c)[H.length + 1]? = some (.cells [iv x.cuts,zl8 x.keys,zlL x.locks,zl4 x.tries] 26)
 gx : ∀ z a b c,(Fo z a b c)[jx]? = some z
 sx : ∀ z a b c z',(Fo z a b c).set jx z' = Fo z' a b c
 gK : ∀ z a b c,(Fo z a b c)[jK]? = some a
 sK : ∀ z a b c a',(Fo z a b c).set jK a' = Fo z a' b c
 gL : 0 < x.locks.length -> ∀ z a b c,(Fo z a b c)[jL]? = some b
 sL : 0 < x.locks.length -> ∀ z a b c b',(Fo z a b c).set jL b' = Fo z a b' c
 gT : 0 < x.tries.length -> ∀ z a b c,(Fo z a b c)[jT]? = some c
 sT : 0 < x.tries.length -> ∀ z a b c c',(Fo z a b c).set jT c' = Fo z a b c'
theorem znM {n : Nat} (h : 0 < n) : n = n - 1 + 1:=by omega
section
variable {H : List AObj} {x : Ring} {p : Nat × AV × List AObj}
theorem numF_a (hk : 0 < x.keys.length) (t : AObj) (hp : 0 < x.tries.length -> p.1 = 1) : NumF H x (fun z a b c => H ++ (t :: .cells [iv x.cuts,zl8 x.keys,zlL x.locks,zl4 x.tries] 26 :: z :: krG (H.length + 3) x p a b (tObj x.tries.length c))) (H.length + 2) (H.length + 3 + 3 + p.1 + (x.keys.length - 1)) (H.length + 3 + 3 + p.1 + x.keys.length + (x.locks.length - 1)) (H.length + 3 + 3 + p.1 + x.keys.length + x.locks.length) (H.length + (3 + (2 + (p.1 + 1 + (x.keys.length + x.locks.length + (tObj x.tries.length .gone).length))))):=by
 have e : ∀ z a b c,H ++ (t :: .cells [iv x.cuts,zl8 x.keys,zlL x.locks,zl4 x.tries] 26 :: z :: krG (H.length + 3) x p a b (tObj x.tries.length c)) = (H ++ [t,.cells [iv x.cuts,zl8 x.keys,zlL x.locks,zl4 x.tries] 26,z]) ++ (krG (H.length + 3) x p a b (tObj x.tries.length c) ++ []):=fun z a b c => by simp
 have hB : ∀ z : AObj,(H ++ [t,.cells [iv x.cuts,zl8 x.keys,zlL x.locks,zl4 x.tries] 26,z]).length = H.length + 3:=fun z => by simp
 have ht : ∀ c c' : AObj,(tObj x.tries.length c).length = (tObj x.tries.length c').length:=fun c c' => by cases x.tries.length <;> rfl
 refine ⟨fun z a b c => ?_,fun z a b c => ⟨_,rfl⟩,fun z a b c => by simp,fun z a b c => by simp,fun z a b c z' => by simp,fun z a b c => ?_,fun z a b c a' => ?_,fun hl z a b c => ?_,fun hl z a b c b' => ?_,fun hl z a b c => ?_,fun hl z a b c c' => ?_⟩
 ·rw [ht .gone c]; simp [krG,zm7]; omega
 ·rw [e]; exact ztm (hB z) (znM hk)
 ·rw [e,e,ztj (hB z) (znM hk)]
 ·rw [e]; exact ztl (hB z) (znM hl)
 ·rw [e,e,zti (hB z) (znM hl)]
 ·rw [e,znM hl]; exact ztk (hB z)
 ·rw [e,e,znM hl]; exact zth (hB z) c'
theorem numF_b (hk : 0 < x.keys.length) (t : AObj) (hp : 0 < x.tries.length -> p.1 = 1) : NumF H x (fun z a b c => H ++ (t :: .cells [iv x.cuts,zl8 x.keys,zlL x.locks,zl4 x.tries] 26 :: (krG (H.length + 2) x p a b (tObj x.tries.length c) ++ [z]))) (H.length + (2 + (2 + (p.1 + 1 + (x.keys.length + x.locks.length + (tObj x.tries.length .gone).length))))) (H.length + 2 + 3 + p.1 + (x.keys.length - 1)) (H.length + 2 + 3 + p.1 + x.keys.length + (x.locks.length - 1)) (H.length + 2 + 3 + p.1 + x.keys.length + x.locks.length) (H.length + (3 + (2 + (p.1 + 1 + (x.keys.length + x.locks.length + (tObj x.tries.length .gone).length))))):=by
 have e : ∀ z a b c,H ++ (t :: .cells [iv x.cuts,zl8 x.keys,zlL x.locks,zl4 x.tries] 26 :: (krG (H.length + 2) x p a b (tObj x.tries.length c) ++ [z])) = (H ++ [t,.cells [iv x.cuts,zl8 x.keys,zlL x.locks,zl4 x.tries] 26]) ++ (krG (H.length + 2) x p a b (tObj x.tries.length c) ++ [z]):=fun z a b c => by simp
 have hB : (H ++ [t,.cells [iv x.cuts,zl8 x.keys,zlL x.locks,zl4 x.tries] 26]).length = H.length + 2:=by simp
 have ht : ∀ c c' : AObj,(tObj x.tries.length c).length = (tObj x.tries.length c').length:=fun c c' => by cases x.tries.length <;> rfl
 have hg : ∀ a b c,(H ++ [t,.cells [iv x.cuts,zl8 x.keys,zlL x.locks,zl4 x.tries] 26] ++ krG (H.length + 2) x p a b (tObj x.tries.length c)).length = H.length + (2 + (2 + (p.1 + 1 + (x.keys.length + x.locks.length + (tObj x.tries.length .gone).length)))):=fun a b c => by rw [ht .gone c]; simp [krG,zm7]; omega
 refine ⟨fun z a b c => ?_,fun z a b c => ⟨_,rfl⟩,fun z a b c => by simp,fun z a b c => ?_,fun z a b c z' => ?_,fun z a b c => ?_,fun z a b c a' => ?_,fun hl z a b c => ?_,fun hl z a b c b' => ?_,fun hl z a b c => ?_,fun hl z a b c c' => ?_⟩
 ·rw [ht .gone c]; simp [krG,zm7]; omega
 ·rw [e,<- List.append_assoc,<- hg a b c,List.getElem?_append_right (Nat.le_refl _),Nat.sub_self]; rfl
 ·rw [e,e,<- List.append_assoc,<- List.append_assoc,<- hg a b c,List.set_append_right _ _ (Nat.le_refl _),Nat.sub_self]; rfl
 ·rw [e]; exact ztm hB (znM hk)
 ·rw [e,e,ztj hB (znM hk)]
 ·rw [e]; exact ztl hB (znM hl)
 ·rw [e,e,zti hB (znM hl)]
 ·rw [e,znM hl]; exact ztk hB
 ·rw [e,e,znM hl]; exact zth hB c'
end
theorem zpr {j n : Nat} (h : 0 < n) : slO j n = .osl (j + (n - 1)) 0 n 0:=by
 obtain ⟨m,rfl⟩ : ∃ m,n = m + 1:=⟨n - 1,by omega⟩;rfl
theorem zpu {α : Type} {f : α -> List AV} {m : Nat} (hf : ∀ x,(f x).length = m) {xs : List α} {i : Nat} {y : α} (h : i < xs.length) : (xs.set i y).flatMap f = (xs.flatMap f).take (i * m) ++ f y ++ (xs.flatMap f).drop (i * m + m):=by
 have h1 : ∀ (l : List α) (n : Nat),(l.flatMap f).take (n * m) = (l.take n).flatMap f:=fun l => by
  induction l with
  | nil => simp
  | cons b l ih => intro n; cases n with
   | zero => simp
   | succ n => rw [List.flatMap_cons,List.take_succ_cons,List.flatMap_cons,<- ih n,List.take_append,hf,show (n + 1) * m = m + n * m by rw [Nat.add_mul,Nat.one_mul,Nat.add_comm],List.take_of_length_le (by rw [hf]; omega),show m + n * m - m = n * m by omega]
 have h2 : ∀ (l : List α) (n : Nat),(l.flatMap f).drop (n * m) = (l.drop n).flatMap f:=fun l => by
  induction l with
  | nil => simp
  | cons b l ih => intro n; cases n with
   | zero => simp
   | succ n => rw [List.flatMap_cons,List.drop_succ_cons,<- ih n,List.drop_append,hf,show (n + 1) * m = m + n * m by rw [Nat.add_mul,Nat.one_mul,Nat.add_comm],List.drop_of_length_le (by rw [hf]; omega),show m + n * m - m = n * m by omega]; rfl
 rw [h1,show i * m + m = (i + 1) * m by rw [Nat.add_mul,Nat.one_mul],h2,List.set_eq_take_append_cons_drop,if_pos h,List.flatMap_append,List.flatMap_cons,List.append_assoc]
theorem zrt {xs : List Key} {i : Nat} {y : Key} (h : i < xs.length) : (xs.flatMap Key.l).take (i * 3) ++ [aInts y.cuts,iv y.wear.min,iv y.wear.max] ++ (xs.flatMap Key.l).drop (i * 3 + 3) = (xs.set i y).flatMap Key.l:=(zpu Key.len h).symm
theorem zqx {xs : List (List Band)} {i : Nat} {y : List Band} (h : i < xs.length) : (xs.map aBands).take i ++ [aBands y] ++ (xs.map aBands).drop (i + 1) = (xs.set i y).map aBands:=by
 rw [List.set_eq_take_append_cons_drop,if_pos h,List.map_append,List.map_cons,List.map_take,List.map_drop,List.append_assoc]; rfl
theorem zrr {xs : List Try} {i : Nat} {y : Try} (a : Int) (h : xs[i]? = some y) : (xs.flatMap Try.l).take (i * 3) ++ [iv a] ++ (xs.flatMap Try.l).drop (i * 3 + 1) = (xs.set i ⟨a,y.lock,y.opens⟩).flatMap Try.l:=by
 rw [zpu Try.len (get_lt h),List.append_assoc,List.append_assoc];congr 1;have:=zgL Try.len h;rw [show i * 3 + 1 = i * 3 + 1 from rfl,<- List.drop_drop,<- List.drop_drop,this]; rfl
theorem zrq {xs : List Try} {i : Nat} {y : Try} (a : Int) (h : xs[i]? = some y) : (xs.flatMap Try.l).take (i * 3 + 1) ++ [iv a] ++ (xs.flatMap Try.l).drop (i * 3 + 2) = (xs.set i ⟨y.key,a,y.opens⟩).flatMap Try.l:=by
 have hd:=zgL Try.len h;have e : (xs.flatMap Try.l).take (i * 3 + 1) = (xs.flatMap Try.l).take (i * 3) ++ [iv y.key]:=by
  rw [List.take_add,hd]; rfl
 rw [zpu Try.len (get_lt h),e,List.append_assoc,List.append_assoc,List.append_assoc];congr 1;rw [<- List.drop_drop,<- List.drop_drop,hd]; rfl
section
variable {x y : Ring} {ks ls : List Int}
theorem MixedR.zero (h : MixedR x y ks ls) (hx : x.Ok) : zlD y [] = [] <-> zlD x [] = []:=by
 rw [zoE hx,zoE (h.ok hx),<- List.length_eq_zero_iff,<- List.length_eq_zero_iff,h.count hx]
theorem MixedR.endE (h : MixedR x y ks ls) (hx : x.Ok) : Gg.endE y = Gg.endE x:=by
 unfold Gg.endE;simp only [<- List.length_eq_zero_iff,h.count hx]
theorem MixedR.coverIs (h : MixedR x y ks ls) (hx : x.Ok) {g g' : List Int} {e e' : Int} (h1 : zp1 x g e) (h2 : zp1 y g' e') : g'.length = g.length /\ e' = e:=by
 have hc:=h.cover hx;have hz:=h.zero hx;rcases h1 with ⟨a1,a2,a3⟩ | ⟨a1,a2,a3⟩ <;> rcases h2 with ⟨b1,b2,b3⟩ | ⟨b1,b2,b3⟩
 ·rw [a2,b2] at hc;exact ⟨by simpa using hc,by rw [a3,b3]⟩
 ·rcases b1 with b1 | b1
  ·exact absurd (hz.1 b1) a1
  ·rw [a2,b1] at hc; simp at hc
 ·rcases a1 with a1 | a1
  ·exact absurd (hz.2 a1) b1
  ·rw [b2,a1] at hc; simp at hc
 ·rw [a2,b2,a3,b3]; exact ⟨rfl,rfl⟩
theorem MixedR.tellIs (h : MixedR x y ks ls) (hx : x.Ok) {g g' : List Int} {e e' : Int} (h1 : zqY x g e) (h2 : zqY y g' e') : g'.length = g.length /\ e' = e:=by
 have hc:=h.tell hx;have hz:=h.zero hx;rcases h1 with ⟨a1,a2,a3⟩ | ⟨a1,a2,a3⟩ <;> rcases h2 with ⟨b1,b2,b3⟩ | ⟨b1,b2,b3⟩
 ·rw [a2,b2] at hc;exact ⟨by simpa using hc,by rw [a3,b3]⟩
 ·rcases b1 with b1 | b1
  ·exact absurd (hz.1 b1) a1
  ·rw [a2,b1] at hc; simp at hc
 ·rcases a1 with a1 | a1
  ·exact absurd (hz.2 a1) b1
  ·rw [b2,a1] at hc; simp at hc
 ·rw [a2,b2,a3,b3]; exact ⟨rfl,rfl⟩
end
section
variable {lv : Bool} {P : Program} {r : Option Nat} {H : List AObj} {x : Ring} {Fo : AObj -> AObj -> AObj -> AObj -> List AObj} {jx jK jL jT m : Nat}
theorem zrY (hN : NumF H x Fo jx jK jL jT m) {K : List Key} {L : List (List Band)} {T : List Try} (hK : K.length = x.keys.length) (hL : L.length = x.locks.length) (hT : T.length = x.tries.length) {sL sT : AV} (hsL : 0 < x.locks.length -> sL = .osl jL 0 x.locks.length 0) (hsL0 : x.locks.length = 0 -> sL = .sl 0 [] .exact) (hsT : 0 < x.tries.length -> sT = .osl jT 0 x.tries.length 0) (hsT0 : x.tries.length = 0 -> sT = .sl 0 [] .shut) {nt : Nat} {c : Code} {Tm : List (Nat × AV)} {Φ : AEx -> AS -> Prop} {cu : AV}
  (h : ∀ a b d,AWP lv P r nt c ⟨Tm,Fo (.cells [cu,zl8 K,zlL L,zl4 T] 26) a b d⟩ Φ) : AWP lv P r nt c ⟨Tm,Fo (.cells [cu,.osl jK 0 x.keys.length 0,sL,sT] 26) (ownK K) (ownL L) (ownT T)⟩ Φ:=by
 refine znX (id:=jK) (sz:=3) (l:=K.flatMap Key.l) (el:=65) (hN.gK _ _ _ _) ?_;show AWP lv P r nt c ⟨Tm,(Fo _ _ _ _).set jK _⟩ Φ;rw [hN.sK];refine zoH (id:=jx) (j:=1) (y:=zl8 K) (hN.gx _ _ _ _) rfl ?_ ?_
 ·have e : zl8 K = .sl x.keys.length ((K.flatMap Key.l).take (K.flatMap Key.l).length) .shut:=by rw [List.take_length,zl8,hK]
  rw [e];exact zpp (hN.gK _ _ _ _) (Nat.le_refl _) (Nat.le_refl _)
 show AWP lv P r nt c ⟨Tm,(Fo _ _ _ _).set jx _⟩ Φ;rw [hN.sx];have stepT : ∀ a b,AWP lv P r nt c ⟨Tm,Fo (.cells [cu,zl8 K,zlL L,sT] 26) a b (ownT T)⟩ Φ:=fun a b => by
  rcases Nat.eq_zero_or_pos x.tries.length with h0 | h0
  ·have e0 : T = []:=List.length_eq_zero_iff.1 (by omega);subst e0;rw [hsT0 h0];exact h _ _ _
  ·rw [hsT h0];refine znX (id:=jT) (sz:=3) (l:=T.flatMap Try.l) (el:=28) (hN.gT h0 _ _ _ _) ?_;show AWP lv P r nt c ⟨Tm,(Fo _ _ _ _).set jT _⟩ Φ;rw [hN.sT h0];refine zoH (id:=jx) (j:=3) (y:=zl4 T) (hN.gx _ _ _ _) rfl ?_ ?_
   ·have e : zl4 T = .sl x.tries.length ((T.flatMap Try.l).take (T.flatMap Try.l).length) .shut:=(by rw [List.take_length,zl4,hT]);rw [e];exact zpp (hN.gT h0 _ _ _ _) (Nat.le_refl _) (Nat.le_refl _)
   show AWP lv P r nt c ⟨Tm,(Fo _ _ _ _).set jx _⟩ Φ;rw [hN.sx];exact h _ _ _
 rcases Nat.eq_zero_or_pos x.locks.length with h0 | h0
 ·have e0 : L = []:=List.length_eq_zero_iff.1 (by omega);subst e0;rw [hsL0 h0];refine zoH (id:=jx) (j:=2) (y:=zlL []) (hN.gx _ _ _ _) rfl (.of (zaK _ _ _)) ?_;show AWP lv P r nt c ⟨Tm,(Fo _ _ _ _).set jx _⟩ Φ;rw [hN.sx];exact stepT _ _
 ·rw [hsL h0];refine znX (id:=jL) (sz:=1) (l:=L.map aBands) (el:=29) (hN.gL h0 _ _ _ _) ?_;show AWP lv P r nt c ⟨Tm,(Fo _ _ _ _).set jL _⟩ Φ;rw [hN.sL h0];refine zoH (id:=jx) (j:=2) (y:=zlL L) (hN.gx _ _ _ _) rfl ?_ ?_
  ·have e : zlL L = .sl x.locks.length ((L.map aBands).take (L.map aBands).length) .shut:=(by rw [List.take_length,zlL,hL]);rw [e];exact zpp (hN.gL h0 _ _ _ _) (Nat.le_refl _) (Nat.le_refl _)
  show AWP lv P r nt c ⟨Tm,(Fo _ _ _ _).set jx _⟩ Φ;rw [hN.sx];exact stepT _ _
end
section
variable {H : List AObj} {k kp : AV -> List AObj -> Prop}
end
end Go.Gg
