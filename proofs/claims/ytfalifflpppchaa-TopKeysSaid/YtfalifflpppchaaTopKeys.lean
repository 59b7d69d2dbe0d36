/- The law TopKeys answers true at every list of numbers, on every schedule. No condition. -/
import Derived.Test.YtfalifflpppchaaTopKeys3
import Derived.Conc.LeavingOf
import Derived.Conc.Holds
import Derived.ProofKit
import Derived.Test.YtfalifflpppchaaChecked
import Derived.Test.YtfalifflpppchaaRows
set_option linter.all false
set_option maxRecDepth 4000
set_option maxHeartbeats 1000000
namespace Go.Gg
open Go.Conc Go.Proofs
inductive Wks : List AV -> List AV -> Prop
 | nil : Wks [] []
 | cons {a b : AV} {l m : List AV} (h : Wk a b) (t : Wks l m) : Wks (a :: l) (b :: m)
theorem Wks.len {l m : List AV} (h : Wks l m) : l.length = m.length:=by
 induction h with
 | nil => rfl
 | cons _ _ ih => simp [ih]
theorem Wks.at {l m : List AV} (h : Wks l m) : ∀ (i : Nat) (a b : AV),m[i]? = some a -> l[i]? = some b -> Wk b a:=by
 induction h with
 | nil => intro i a b h; simp at h
 | cons h _ ih =>
  intro i a b h1 h2
  match i with
  | 0 => cases h1; cases h2; exact h
  | i + 1 => exact ih i a b h1 h2
theorem zhX {l l' : List AV} (h : Wks l l') : Wk (.agg l) (.agg l'):=fun E v hd => by
 cases hd with
 | agg hs h1 =>
  refine .agg (by rw [hs,h.len]) fun i x hx => ?_;obtain ⟨y,hy⟩:=zaE (xs:=l) (i:=i) (by rw [h.len]; exact get_lt hx);exact h.at i x y hx hy E _ (h1 i y hy)
theorem zoS {n : Nat} {l l' : List AV} {e : End} (h : Wks l l') : Wk (.sl n l e) (.sl n l' .shut):=zhW (zeg h.len h.at) (zaK _ _ _)
theorem zk3 : zfA (.agg #[.slice none 0 0,.int .i64 0,.int .i64 0]) 3 = [.sl 0 [] .exact,iv 0,iv 0]:=rfl
theorem zb2 : zfA (.agg #[.int .i64 0,.int .i64 0]) 2 = [iv 0,iv 0]:=rfl
theorem zu2 : zfA (.agg #[.int .i64 0,.bool false]) 2 = [iv 0,bv false]:=rfl
theorem zhq : (1 <= 2 ^ 24) = True:=by simp
theorem zes : (2 <= 2 ^ 24) = True:=by simp
theorem zd5 : (3 <= 2 ^ 24) = True:=by simp
theorem zkE (x : List Int) : (zh7 x).leaf = true:=rfl
theorem zfd (x : List Band) : (zlw x).leaf = true:=rfl
theorem zkC (x : List Key) : (zlD x).leaf = true:=rfl
theorem zjd (x : List (List Band)) : (zli x).leaf = true:=rfl
theorem zjc (x : List Try) : (zl1 x).leaf = true:=rfl
attribute [seval] zkE zfd zkC zjd zjc
section
variable {lv : Bool} {H : List AObj} {k kp : AV -> List AObj -> Prop}
theorem f12_same {xs : List Int} {e e' : End} (hx : xs.length < 2 ^ 60) (hk : k (bv true) H) : FnC lv Try.prog 12 H [.sl xs.length (xs.map iv) e,.sl xs.length (xs.map iv) e'] k kp :=
 f12_c hx (by rw [decide_eq_true rfl]; exact hk)
end
theorem zld (bs : List Band) : (bs.flatMap Band.l).length = bs.length * 2:=by
 induction bs with
 | nil => rfl
 | cons b bs ih => rw [List.flatMap_cons,List.length_append,ih]; simp [Band.l]; omega
section
variable {lv : Bool} {k kp : AV -> List AObj -> Prop} {Gf : TinS -> List AObj} {t N : Nat} {τ : TinS} {b : Int}
end
section
variable {Gf : TinS -> List AObj} {t N : Nat} (h : TinAt Gf t N)
include h
theorem TinAt.hi (i : Nat) (τ : TinS) (L : List AObj) : (Gf τ ++ L)[N + i]? = L[i]?:=by have:=zco (Gf τ) L i; rwa [h.len] at this
theorem TinAt.ti (i : Nat) (τ : TinS) (L : List AObj) (x : AObj) : (Gf τ ++ L).set (N + i) x = Gf τ ++ L.set i x:=by have:=zbR (Gf τ) L i x; rwa [h.len] at this
theorem TinAt.h4 : type_of% (h.hi 4):=h.hi 4
theorem TinAt.h5 : type_of% (h.hi 5):=h.hi 5
theorem TinAt.h6 : type_of% (h.hi 6):=h.hi 6
theorem TinAt.h7 : type_of% (h.hi 7):=h.hi 7
theorem TinAt.h8 : type_of% (h.hi 8):=h.hi 8
theorem TinAt.t4 : type_of% (h.ti 4):=h.ti 4
theorem TinAt.t5 : type_of% (h.ti 5):=h.ti 5
theorem TinAt.t6 : type_of% (h.ti 6):=h.ti 6
theorem TinAt.t7 : type_of% (h.ti 7):=h.ti 7
theorem TinAt.t8 : type_of% (h.ti 8):=h.ti 8
end
theorem TinAt.am {Gf : TinS -> List AObj} {t N : Nat} (h : TinAt Gf t N) : (type_of% h.len) /\ (type_of% h.g0) /\ (type_of% h.g1) /\ (type_of% h.h2) /\ (type_of% h.h3) /\ (type_of% h.h4) /\ (type_of% h.h5) /\ (type_of% h.h6) /\ (type_of% h.h7) /\ (type_of% h.h8) /\ (type_of% h.s0) /\ (type_of% h.s1) /\ (type_of% h.t2) /\ (type_of% h.t3) /\ (type_of% h.t4) /\ (type_of% h.t5) /\ (type_of% h.t6) /\ (type_of% h.t7) /\ (type_of% h.t8):=⟨h.len,h.g0,h.g1,h.h2,h.h3,h.h4,h.h5,h.h6,h.h7,h.h8,h.s0,h.s1,h.t2,h.t3,h.t4,h.t5,h.t6,h.t7,h.t8⟩
theorem zho (bs : List Band) : (zlw bs).parts = some [zlw bs]:=rfl
structure KeysP (c : Int) (ks : List Key) (ws : List Int) : Prop where
 len : ws.length = ks.length
 key : ∀ y ∈ ks,(y.cuts.length : Int) = c /\ (∀ n ∈ y.cuts,0 <= n /\ n <= 3) /\ y.wear.Ok 2
 worn : ∀ (i : Nat) y w,ks[i]? = some y -> ws[i]? = some w -> y.wear.min <= w /\ w <= y.wear.max
theorem KeysP.snoc {c : Int} {ks : List Key} {ws : List Int} (h : KeysP c ks ws) {y : Key} {w : Int} (hc : (y.cuts.length : Int) = c) (hn : ∀ n ∈ y.cuts,0 <= n /\ n <= 3) (hb : y.wear.Ok 2) (hw : y.wear.min <= w /\ w <= y.wear.max) : KeysP c (ks ++ [y]) (ws ++ [w]) where
 len:=by simp [h.len]
 key:=fun z hz => by
  rcases List.mem_append.1 hz with hz | hz
  ·exact h.key z hz
  ·rw [List.mem_singleton.1 hz]; exact ⟨hc,hn,hb⟩
 worn:=fun i z v h1 h2 => by
  by_cases hi : i < ks.length
  ·rw [List.getElem?_append_left hi] at h1;rw [List.getElem?_append_left (by rw [h.len]; exact hi)] at h2;exact h.worn i z v h1 h2
  ·have hi2 : i = ks.length:=(by have:=get_lt h1; simp at this; omega);subst hi2;rw [List.getElem?_append_right (Nat.le_refl _)] at h1;rw [<- h.len,List.getElem?_append_right (Nat.le_refl _)] at h2;simp at h1 h2;subst h1 h2;exact hw
def opensW (ks : List Key) (ws : List Int) (ls : List (List Band)) (k l : Int) : Bool:=zns (zl7 (ws.getD k.toNat 0) ((ks[k.toNat]?).map (·.cuts) |>.getD [])) (ls.getD l.toNat [])
structure RingP (K L T : Nat) (wr : Bool) (x : Ring) (ws : List Int) : Prop where
 cuts : 1 <= x.cuts /\ x.cuts <= 3
 keys : 1 <= x.keys.length /\ x.keys.length <= K
 kp : KeysP x.cuts x.keys ws
 locks : x.locks.length <= L
 lock : ∀ l ∈ x.locks,(l.length : Int) = x.cuts /\ ∀ b ∈ l,b.Ok 3
 tries : x.tries.length <= T
 tried : ∀ t ∈ x.tries,(0 <= t.key /\ t.key < x.keys.length) /\ 0 <= t.lock /\ t.lock < x.locks.length
 told : wr = false -> ∀ t ∈ x.tries,t.opens = opensW x.keys ws x.locks t.key t.lock
theorem zpJ (ks : List Key) : (ks.flatMap Key.l).length = ks.length * 3:=by
 induction ks with
 | nil => rfl
 | cons b bs ih => rw [List.flatMap_cons,List.length_append,ih]; simp [Key.l]; omega
theorem zrn (n m k : Nat) (bs : List Key) : Lt n (.sl m (bs.flatMap Key.l) (.opn k)) = (k < n):=by
 rw [zdq,eq_iff_iff];refine ⟨fun h => h.1,fun h => ⟨h,fun a ha => ?_⟩⟩;have:=zc5 n bs;rw [zlD,za3] at this;exact this.mpr trivial a ha
theorem zrm (n m k : Nat) (bs : List (List Band)) : Lt n (.sl m (bs.map zlw) (.opn k)) = (k < n):=by
 rw [zdq,eq_iff_iff];refine ⟨fun h => h.1,fun h => ⟨h,fun a ha => ?_⟩⟩;have:=zci n bs;rw [zli,za3] at this;exact this.mpr trivial a ha
theorem zce {base Vi Vn T : List (Nat × AV)} {H H' : List AObj} (G : List AObj) (hk : Keeps T (Vi ++ base) Vn) (hv : ∀ p ∈ Vn,∃ b,look T p.1 = some b /\ Wk b p.2) (hok : HOk H) (hlt : ∀ p ∈ Vn,Lt H.length p.2) (hG : H' = H ++ G) : zlQ base Vi Vn H ⟨T,H'⟩:=⟨hk,hv,G,hG,.inr ⟨hok,hlt⟩⟩
section
variable {lv : Bool} {k kp : AV -> List AObj -> Prop} {Gf : TinS -> List AObj} {t N : Nat} {τ : TinS} {b : Int}
set_option maxHeartbeats 2000000 in
end
structure Clm where
 feats : Int
 most : Int
 pieces : List (List Int)
 told : List (List Int)
def Clm.l (c : Clm) : List AV:=[iv c.feats,iv c.most,zlX c.pieces,zlX c.told]
def Clm.av (c : Clm) : AV:=.agg c.l
def zn3 (n : Int) (l : List (List Int)) : Prop:=l.length <= 4 /\ ∀ r ∈ l,(r.length : Int) = n /\ ∀ v ∈ r,-1 <= v /\ v <= 2
structure Clm.Ok (c : Clm) : Prop where
 feats : 1 <= c.feats /\ c.feats <= 4
 most : 0 <= c.most /\ c.most <= 2
 pieces : zn3 c.feats c.pieces
 told : zn3 c.feats c.told
def zlV (a b : List Int) (n : Nat) : List Int:=((List.range n).filter fun f => decide (0 <= a.getD f 0) && decide (0 <= b.getD f 0) && decide (a.getD f 0 ≠ b.getD f 0)).map fun i : Nat => (i : Int)
theorem znf (a b : List Int) (n : Nat) : zlV a b (n + 1) = zlV a b n ++ (if (decide (0 <= a.getD n 0) && decide (0 <= b.getD n 0) && decide (a.getD n 0 ≠ b.getD n 0)) = true then [(n : Int)] else []):=by
 unfold zlV;rw [List.range_succ,List.filter_append,List.map_append];congr 1;by_cases h : (decide (0 <= a.getD n 0) && decide (0 <= b.getD n 0) && decide (a.getD n 0 ≠ b.getD n 0)) = true
 ·simp only [List.filter_cons,h,if_true,List.filter_nil,List.map_cons,List.map_nil]
 ·simp only [List.filter_cons,h,if_false,List.filter_nil,List.map_nil,Bool.false_eq_true]
theorem zpu (a b : List Int) (n : Nat) : (zlV a b n).length <= n:=by
 unfold zlV;rw [List.length_map];exact Nat.le_trans (List.length_filter_le _ _) (by simp)
def zlJ (m n : Nat) : List Int:=((List.range n).filter fun i => m.testBit i).map fun i : Nat => (i : Int)
theorem zmY (m n : Nat) : zlJ m (n + 1) = zlJ m n ++ (if m.testBit n = true then [(n : Int)] else []):=by
 unfold zlJ;rw [List.range_succ,List.filter_append,List.map_append];congr 1;by_cases h : m.testBit n = true <;> simp [h]
theorem zow (m n : Nat) : (zlJ m n).length <= n:=by
 unfold zlJ;rw [List.length_map];exact Nat.le_trans (List.length_filter_le _ _) (by simp)
def znh (c : Clm) (b : List Int) (p : Nat) : Bool:=decide (((zlV (c.pieces.getD p []) b c.feats.toNat).length : Int) <= c.most)
def zmz (c : Clm) (b : List Int) : Nat -> Nat
 | 0 => 0
 | p + 1 => if znh c b p = true then zmz c b p ||| 2 ^ p else zmz c b p
theorem znF (c : Clm) (b : List Int) (n i : Nat) : (zmz c b n).testBit i = (decide (i < n) && znh c b i):=by
 induction n with
 | zero => simp [zmz]
 | succ n ih =>
  rw [zmz];by_cases h : znh c b n = true
  ·rw [if_pos h,Nat.testBit_or,ih,Nat.testBit_two_pow];by_cases e : n = i
   ·subst e; simp [h]
   ·have : (i < n + 1) = (i < n):=propext ⟨fun q => by omega,fun q => by omega⟩;simp [e,this]
  ·rw [if_neg h,ih];by_cases e : n = i
   ·subst e; simp [h]
   ·have : (i < n + 1) = (i < n):=propext ⟨fun q => by omega,fun q => by omega⟩;simp [this]
theorem znY (c : Clm) (b : List Int) {n : Nat} (h : n <= 8) : zmz c b n < 256:=by
 refine Nat.lt_of_lt_of_le (m:=2 ^ n) ?_ (by have:=Nat.pow_le_pow_right (n:=2) (by decide) h; omega);refine Nat.lt_pow_two_of_testBit _ fun i hi => ?_;rw [znF]; simp; omega
def zpQ (c : Clm) (b : List Int) : List Int:=zlJ (zmz c b c.pieces.length) 4
section
variable {lv : Bool} {H : List AObj} {k kp : AV -> List AObj -> Prop}
theorem f33_c {n lo hi : Int} (hk : k (bv (decide (n < lo) || decide (hi < n))) H) : FnC lv Try.prog 33 H [iv n,iv lo,iv hi] k kp:=by
 refine zcC (rs:=[.tmp 6]) (nt:=15) Try.f33 fun hH hA => ?_;simp only [zf5,Nat.reduceAdd];refine zbA ?_;refine zbA ?_;refine znD (fun h => ?_) (fun h => ?_)
 ·(try simp only [seval]);refine zcw ?_;refine zao ?_;simpa [h] using hk
 ·(try simp only [seval]);refine zcw ?_;refine zao ?_;simpa [h] using hk
theorem f42_c {x y : AV} {n m : Int} {l : List (List Int)} (hr : zn3 n l) (hn : 1 <= n /\ n <= 4) (hk : k (iv 0) H) : FnC lv Try.prog 42 H [.agg [iv n,iv m,x,y],zlX l,iv 4] k kp:=by
 obtain ⟨hl,hrow⟩:=hr;refine zcC (rs:=[.tmp 6]) (nt:=44) Try.f42 fun hH hA => ?_;simp only [zf5,Nat.reduceAdd,zlX];refine zbA ?_;refine zbA ?_;refine zb4 ?_;refine ⟨fun h => absurd h (by omega),fun h => ?_⟩;refine zca ?_;refine zbA ?_;refine zdp ?_;refine zkO l.length (fun i : Nat => [(18,iv i)]) (fun _ => H ++ [.cells [iv n,iv m,x,y] 40]) (fun i => True) trivial (fun hHs hLt i hin hi R hR => ?_);refine zbA ?_;refine zb4 ?_;refine ⟨fun h2 => ?_,fun h2 => ?_⟩
 ·
  have hlt : i < l.length:=by omega
  obtain ⟨r,hr⟩:=zaE hlt;obtain ⟨hrl,hrv⟩:=hrow r (zas hr);have hi1 : IntKind.i64.wrap ((i : Int) + 1) = ((i + 1 : Nat) : Int):=by rw [zau _ (by omega)]; rfl
  refine zca ?_;refine zl5 ?_;simp only [seval,zlB hr,zaz hlt];refine zl5 ?_;simp only [seval,zh7];refine zbA ?_;refine zb4 ?_;refine ⟨fun h => absurd h (by omega),fun h => ?_⟩;refine zbA ?_;refine zb4 ?_;refine ⟨fun h => absurd h (by omega),fun h => ?_⟩;refine zca ?_;refine zbA ?_;refine zdp ?_;refine zkO r.length (fun i : Nat => [(36,iv i)]) (fun _ => H ++ [.cells [iv n,iv m,x,y] 40]) (fun i => True) trivial (fun hHs3 hLt3 j hjn hj R3 hR3 => ?_);refine zbA ?_;refine zb4 ?_;refine ⟨fun h3 => ?_,fun h3 => ?_⟩
  ·
   have hjl : j < r.length:=(by omega);obtain ⟨v,hv⟩:=zaE hjl;have hvb:=hrv v (zas hv);have hj1 : IntKind.i64.wrap ((j : Int) + 1) = ((j + 1 : Nat) : Int):=(by rw [zau _ (by omega)]; rfl);refine zca ?_;refine zl5 ?_;simp only [seval,za2 hv,zaz hjl];refine zbA ?_;refine zl6 ((f33_c ?_));(try simp only [seval]);refine zb4 ?_;refine ⟨fun h4 => absurd h4 (by simp; omega),fun h4 => ?_⟩;refine zca ?_;refine zl5 ?_;simp only [seval,hj1];refine hR3 _ ⟨hjl,trivial,?_⟩;exact (zh9 hHs)
  ·
   refine zdu ?_;refine zl5 ?_;simp only [seval,hi1];refine hR _ ⟨hlt,trivial,?_⟩;exact (zh9 hHs)
 ·
  refine zdu ?_;refine zbA ?_;refine zcw ?_;exact endV hH hk
theorem f32_c {c : Clm} (hc : c.Ok) (hk : k (iv 0) H) : FnC lv Try.prog 32 H [c.av] k kp:=by
 obtain ⟨hf,hm,hp,ht⟩:=hc;refine zcC (rs:=[.tmp 2]) (nt:=23) Try.f32 fun hH hA => ?_;simp only [zf5,Nat.reduceAdd,Clm.av];refine zl5 ?_;simp only [seval,Clm.l];refine zbA ?_;refine zl6 ((f33_c ?_));(try simp only [seval]);refine znD (fun h => ?_) (fun h => absurd h (by simp; omega));(try simp only [seval]);refine zl6 ((f33_c ?_));(try simp only [seval]);refine zb4 ?_;refine ⟨fun h => absurd h (by simp; omega),fun h => ?_⟩;refine zca ?_;refine zbA ?_;refine zl6 ((f42_c hp hf ?_));(try simp only [seval]);refine zbA ?_;refine zb4 ?_;refine zca ?_;refine zbA ?_;refine zl6 ((f42_c ht hf ?_));(try simp only [seval]);refine zcw ?_;exact endV hH hk
theorem f25_c {c : Clm} {n : Nat} (hc : c.Ok) (hn : n < c.told.length) (hk : k (.tup [c.av,iv 0]) H) : FnC lv Try.prog 25 H [c.av,iv n] k kp:=by
 have ht:=hc.told.1;refine zcC (rs:=[.cell 4 80,.tmp 5]) (nt:=22) Try.f25 fun hH hA => ?_;simp only [zf5,Nat.reduceAdd,Clm.av];have w1 : IntKind.i64.wrap ((c.told.length : Int) - 1) = c.told.length - 1:=zau _ (by omega);refine zl5 ?_;simp only [seval,Clm.l];refine zbA ?_;refine zl6 ((f32_c hc ?_));(try simp only [seval]);refine zbA ?_;refine zb4 ?_;refine zca ?_;refine zl5 ?_;simp only [seval,zlX,w1];refine zl6 ((f33_c ?_));(try simp only [seval]);refine zb4 ?_;refine ⟨fun h => absurd h (by simp; omega),fun h => ?_⟩;refine zca ?_;refine zbA ?_;refine zcw ?_;have l1:=zlv H.length c.pieces;have l2:=zlv H.length c.told;simp only [zlX] at l1 l2;exact endA hH (Wk.refl _) (by simp [zap,zaD,zfa,l1,l2]) hk
theorem f35_c {m n : Nat} (hm : m < 256) (hn : n < 8) (hk : k (uv (m ||| 2 ^ n)) H) : FnC lv Try.prog 35 H [uv m,iv n] k kp:=by
 refine zcC (rs:=[.tmp 4]) (nt:=9) Try.f35 fun hH hA => ?_;simp only [zf5,Nat.reduceAdd];refine zbA ?_;refine zl5 ?_;simp only [seval,ziv,zlp];refine zcw ?_;refine zao ?_;rw [zoj hm hn]; exact hk
theorem f36_c {m n : Nat} (hm : m < 256) (hk : k (bv (m.testBit n)) H) : FnC lv Try.prog 36 H [uv m,iv n] k kp:=by
 refine zcC (rs:=[.tmp 4]) (nt:=10) Try.f36 fun hH hA => ?_;simp only [zf5,Nat.reduceAdd];refine zbA ?_;refine zl5 ?_;simp only [seval,zdz,zn2];refine zcw ?_;refine zao ?_;rw [zqC hm]; exact hk
theorem f27_c {m : Nat} (hm : m < 256) (hk : k (zh7 (zlJ m 4)) H) : FnC lv Try.prog 27 H [uv m] k kp:=by
 refine zcC (rs:=[.tmp 2]) (nt:=17) Try.f27 fun hH hA => ?_;simp only [zf5,Nat.reduceAdd];refine zbA ?_;refine zbA ?_
 (repeat apply zaa); refine zbV (t:=3) (sz:=1) (el:=3) (by simp only [seval] <;> rfl) ?_
 refine zbA ?_;refine zdp ?_;refine zaB 4 (fun i : Nat => [(3,.sl (zlJ m i).length ((zlJ m i).map iv) (.opn H.length)),(5,iv i)]) (fun i => H ++ [.tail (zlJ m i).length 1 3]) (fun i => True) (fun _ _ => rfl) (by simp only [seval]; simp [zaf,Wk.refl]; exact Wk.refl _) rfl (fun _ _ _ => by simp) trivial (fun hHs hLt i hin hi R hR => ?_);refine zbA ?_;have hle:=zow m i;refine zb4 ?_;refine ⟨fun h => ?_,fun h => ?_⟩
 ·
  have hlt : i < 4:=by omega
  have hi1 : IntKind.i64.wrap ((i : Int) + 1) = ((i + 1 : Nat) : Int):=by rw [zau _ (by omega)]; rfl
  refine zca ?_;refine zbA ?_;refine zbA ?_;refine zl6 ((f36_c hm ?_));(try simp only [seval]);refine zb4 ?_;refine ⟨fun h2 => ?_,fun h2 => ?_⟩
  ·
   have e : zlJ m (i + 1) = zlJ m i ++ [(i : Int)]:=(by rw [zmY,if_pos (by simpa using h2)]);have hsl : (zlJ m i ++ [(i : Int)]).length = (zlJ m i).length + 1:=(by simp);refine zl5 ?_;simp only [seval,z1,zhq];refine ⟨by omega,?_⟩;refine zl5 ?_;simp only [seval,hi1];refine hR _ ⟨hlt,trivial,?_⟩;rw [e,hsl,List.map_append];exact zfi
  ·
   have e : zlJ m (i + 1) = zlJ m i:=(by rw [zmY,if_neg (by simpa using h2),List.append_nil]);refine zca ?_;refine zl5 ?_;simp only [seval,hi1];refine hR _ ⟨hlt,trivial,?_⟩;rw [e];exact zfi
 ·
  refine zdu ?_;refine zbA ?_;refine zcw ?_;have : i = 4:=by omega
  subst this;exact endA hH (zaK _ _ _) (by simp [za3,zap]) hk
theorem f34_c {c : Clm} {n p : Nat} {a b : List Int} (hc : c.Ok) (hn : c.told[n]? = some b) (hp : c.pieces[p]? = some a) (hk : k (zh7 (zlV a b c.feats.toNat)) H) : FnC lv Try.prog 34 H [c.av,iv n,iv p] k kp:=by
 obtain ⟨f0,f4⟩:=hc.feats;obtain ⟨fn,hfn⟩ : ∃ m : Nat,c.feats = m:=⟨c.feats.toNat,by omega⟩;have hfn2 : c.feats.toNat = fn:=by omega
 rw [hfn2] at hk;have hal : a.length = fn:=by have:=(hc.pieces.2 a (zas hp)).1; omega
 have hbl : b.length = fn:=by have:=(hc.told.2 b (zas hn)).1; omega
 have hnl:=get_lt hn;have hpl:=get_lt hp;refine zcC (rs:=[.tmp 6]) (nt:=52) Try.f34 fun hH hA => ?_;simp only [zf5,Nat.reduceAdd,Clm.av];refine zl5 ?_;simp only [seval,Clm.l];refine zbA ?_
 (repeat apply zaa); refine zbV (t:=7) (sz:=1) (el:=3) (by simp only [seval] <;> rfl) ?_
 refine zl5 ?_;simp only [seval,hfn];refine zdp ?_;have hokA : ∀ {m},HOk (H ++ [.cells [iv fn,iv c.most,zlX c.pieces,zlX c.told] 80,.tail 0 1 3]) -> HOk (H ++ [.cells [iv fn,iv c.most,zlX c.pieces,zlX c.told] 80,.tail m 1 3]):=fun {m} h0 => by
  have h1:=zec (H:=H ++ [.cells [iv fn,iv c.most,zlX c.pieces,zlX c.told] 80]) (L:=[]) (o:=.tail 0 1 3) (o':=.tail m 1 3) (by simpa using h0) (fun _ => trivial);simpa using h1
 refine zaB fn (fun i : Nat => [(7,.sl (zlV a b i).length ((zlV a b i).map iv) (.opn (H.length + 1))),(14,iv i)]) (fun i => H ++ [.cells [iv fn,iv c.most,zlX c.pieces,zlX c.told] 80,.tail (zlV a b i).length 1 3]) (fun i => True) (fun _ _ => rfl) (by simp only [seval]; simp [zaf,Wk.refl]; exact Wk.refl _) rfl (fun _ _ _ => by simp) trivial (fun hHs hLt i hin hi R hR => ?_);have hok:=hokA (m:=(zlV a b i).length) hHs;have hle:=zpu a b i;have hg1 : ∀ L : List AObj,(H ++ L)[H.length + 1]? = L[1]?:=fun L => zbD H L 1;refine zbA ?_;refine zb4 ?_;refine ⟨fun h => ?_,fun h => ?_⟩
 ·
  have hlt : i < fn:=by omega
  have hi1 : IntKind.i64.wrap ((i : Int) + 1) = ((i + 1 : Nat) : Int):=by rw [zau _ (by omega)]; rfl
  obtain ⟨x,hx⟩:=zaE (xs:=a) (i:=i) (by omega);obtain ⟨y,hy⟩:=zaE (xs:=b) (i:=i) (by omega);have ex : a.getD i 0 = x:=by rw [List.getD_eq_getElem?_getD,hx]; rfl
  have ey : b.getD i 0 = y:=by rw [List.getD_eq_getElem?_getD,hy]; rfl
  have b1:=zaz hnl;have b2:=zaz hpl;have b3 : (0 <= (i : Int) /\ (i : Int) < a.length) = True:=zaz (by omega);have b4 : (0 <= (i : Int) /\ (i : Int) < b.length) = True:=zaz (by omega);refine zca ?_;refine zbA ?_;refine zjl 19 ?_;simp only [seval,zlX,zlB hp,zlB hn,zh7,za2 hx,za2 hy,b1,b2,b3,b4];have stay : (decide (0 <= x) && decide (0 <= y) && decide (x ≠ y)) = false -> zlV a b (i + 1) = zlV a b i:=fun e => by rw [znf,ex,ey,e]; simp
  have add : (decide (0 <= x) && decide (0 <= y) && decide (x ≠ y)) = true -> zlV a b (i + 1) = zlV a b i ++ [(i : Int)]:=fun e => by rw [znf,ex,ey,e]; rfl
  have hsl : (zlV a b i ++ [(i : Int)]).length = (zlV a b i).length + 1:=by simp
  by_cases c1 : 0 <= x
  ·by_cases c2 : 0 <= y
   ·refine zl5 ?_;simp only [seval,c1,c2,ge_iff_le,decide_true];refine zb4 ?_;refine ⟨fun h => ?_,fun h => ?_⟩
    ·
     have e:=add (by simp only [c1,c2,decide_true,Bool.true_and]; simpa using h);refine zl5 ?_;simp only [seval,z1,zhq];refine ⟨by omega,?_⟩;refine zl5 ?_;simp only [seval,hi1];refine hR _ ⟨hlt,trivial,?_⟩;rw [e,hsl,List.map_append];exact zfi
    ·
     have e:=stay (by simp only [c1,c2,decide_true,Bool.true_and]; simpa using h);refine zca ?_;refine zl5 ?_;simp only [seval,hi1];refine hR _ ⟨hlt,trivial,?_⟩;rw [e];exact zfi
   ·have e:=stay (by simp [c2]);refine zl5 ?_;simp only [seval,c1,c2,ge_iff_le,decide_true,decide_false];refine zb4 ?_;refine zca ?_;refine zl5 ?_;simp only [seval,hi1];refine hR _ ⟨hlt,trivial,?_⟩;rw [e];exact zfi
  ·have e:=stay (by simp [c1]);refine zl5 ?_;simp only [seval,c1,ge_iff_le,decide_false];refine zb4 ?_;refine zca ?_;refine zl5 ?_;simp only [seval,hi1];refine hR _ ⟨hlt,trivial,?_⟩;rw [e];exact zfi
 ·
  have : i = fn:=by omega
  subst this;refine zdu ?_;refine zbA ?_;refine zcw ?_;exact endA hH (zaK _ _ _) (by simp [za3,zap]) hk
theorem f26_c {c : Clm} {n : Nat} {b : List Int} (hc : c.Ok) (hn : c.told[n]? = some b) (hk : k (uv (zmz c b c.pieces.length)) H) : FnC lv Try.prog 26 H [c.av,iv n] k kp:=by
 have hm4:=hc.most;have hp4:=hc.pieces.1;refine zcC (rs:=[.tmp 4]) (nt:=28) Try.f26 fun hH hA => ?_;simp only [zf5,Nat.reduceAdd,Clm.av];refine zl5 ?_;simp only [seval,Clm.l];refine zbA ?_;refine zl5 ?_;simp only [seval,zlX];refine zdp ?_;refine zaB c.pieces.length (fun i : Nat => [(5,uv (zmz c b i)),(11,iv i)]) (fun _ => _) (fun i => True) (fun _ _ => rfl) (by simp only [seval]; simp [zaf,Wk.refl]; exact Wk.refl _) rfl (fun _ _ _ => rfl) trivial (fun hHs hLt i hin hi R hR => ?_);refine zbA ?_;refine zb4 ?_;refine ⟨fun h => ?_,fun h => ?_⟩
 ·
  have hlt : i < c.pieces.length:=by omega
  have hi1 : IntKind.i64.wrap ((i : Int) + 1) = ((i + 1 : Nat) : Int):=by rw [zau _ (by omega)]; rfl
  obtain ⟨a,ha⟩:=zaE hlt;have ea : c.pieces.getD i [] = a:=by rw [List.getD_eq_getElem?_getD,ha]; rfl
  refine zca ?_;refine zbA ?_;refine zjl 8 ?_;simp only [seval];refine zod (zh7 (zlV a b c.feats.toNat)) (zme (f34_c hc hn ha ⟨rfl,rfl⟩)) ?_;(try simp only [seval,zh7]);refine zb4 ?_;refine ⟨fun h2 => ?_,fun h2 => ?_⟩
  ·
   have e : zmz c b (i + 1) = zmz c b i ||| 2 ^ i:=(by rw [zmz,if_pos (by rw [znh,ea]; exact decide_eq_true (by omega))]);refine zbA ?_;refine zl6 ((f35_c (znY c b (by omega)) (by omega) ?_));(try simp only [seval]);refine zl5 ?_;simp only [seval,hi1];refine hR _ ⟨hlt,trivial,?_⟩;rw [e];exact zfi
  ·
   have e : zmz c b (i + 1) = zmz c b i:=(by rw [zmz,if_neg (by rw [znh,ea]; simp; omega)]);refine zca ?_;refine zl5 ?_;simp only [seval,hi1];refine hR _ ⟨hlt,trivial,?_⟩;rw [e];exact zfi
 ·
  have : i = c.pieces.length:=by omega
  subst this;refine zdu ?_;refine zbA ?_;refine zcw ?_;exact endV hH hk
theorem f11_c {c : Clm} {n : Nat} {b : List Int} (hc : c.Ok) (hn : c.told[n]? = some b) (hk : k (.tup [zh7 (zpQ c b),iv 0]) H) : FnC lv Try.prog 11 H [c.av,iv n] k kp:=by
 have hp4:=hc.pieces.1;have hnl:=get_lt hn;refine zcC (rs:=[.tmp 4,.tmp 5]) (nt:=21) Try.f11 fun hH hA => ?_;simp only [zf5,Nat.reduceAdd,Clm.av];refine zl5 ?_;simp only [seval,Clm.l];refine zbA ?_;refine zl6 ((f25_c hc hnl ?_));(try simp only [seval,Clm.av,Clm.l]);refine ⟨⟨rfl,rfl⟩,?_⟩;refine zbA ?_;refine zb4 ?_;refine zca ?_;refine zbA ?_;refine zl6 ((f26_c hc hn ?_));(try simp only [seval]);refine zl6 ((f27_c (znY c b (by omega)) ?_));(try simp only [seval]);refine zcw ?_;exact endA hH (Wk.refl _) (by simp [zap,zaD,zbi]) hk
end
def zlS (us : List Turn) (k : Nat) : Int:=match us.find? fun u => decide (u.key = (k : Int)) with
 | none => -1
 | some u => if u.opens then 1 else 0
theorem Ring.Ok.small {x : Ring} (h : x.Ok) : x.Small where
 keys:=by have:=h.keys; omega
 locks:=by have:=h.locks; omega
 tries:=by have:=h.tries; omega
 cuts:=fun y hy => by have:=(h.key y hy).1; have:=h.cuts; omega
 bands:=fun l hl => by have:=(h.lock l hl).1; have:=h.cuts; omega
def verK (v : Int) : Int:=if v = 1 then 1 else if v = 2 then 0 else -1
def zlG (x : Ring) (l k : Nat) : Int:=verK (zlE (cntM x k l (zdt x [])) (zdt x []).length)
def zjh (x : Ring) (l n : Nat) : List Int:=(List.range n).map (zlG x l)
def zgy (x : Ring) (n : Nat) : List (List Int):=(List.range n).map fun l => zjh x l x.keys.length
theorem zmn (x : Ring) (l n : Nat) : zjh x l (n + 1) = zjh x l n ++ [zlG x l n]:=by simp [zjh,List.range_succ]
theorem zm8 (x : Ring) (n : Nat) : zgy x (n + 1) = zgy x n ++ [zjh x n x.keys.length]:=by simp [zgy,List.range_succ]
theorem zmx (x : Ring) (l n : Nat) : (zjh x l n).length = n:=by simp [zjh]
theorem zmc (x : Ring) (n : Nat) : (zgy x n).length = n:=by simp [zgy]
theorem zqP (v : Int) : -1 <= verK v /\ verK v <= 2:=by unfold verK; split <;> (try split) <;> omega
theorem zon (us : List Turn) (k : Nat) : -1 <= zlS us k /\ zlS us k <= 2:=by
 unfold zlS;split
 ·omega
 ·split <;> omega
theorem zoc {lo hi w : Int} : w ∈ zjB lo hi <-> lo <= w /\ w <= hi:=by
 refine ⟨ziS,fun h => ?_⟩;unfold zjB;exact List.mem_map.2 ⟨(w - lo).toNat,List.mem_range.2 (by omega),by omega⟩
theorem zmV : ∀ (ys : List Key) (n : Nat) (t : List Int),n + ys.length <= t.length -> ∀ u ∈ ziR ys n t,∀ i y,ys[i]? = some y -> y.wear.min <= u.getD (n + i) 0 /\ u.getD (n + i) 0 <= y.wear.max
 | [],_,_,_,_,_,i,y,h => by simp at h
 | z :: ys,n,t,hl,u,hu,i,y,h => by
  simp only [List.length_cons] at hl;rw [ziR] at hu;obtain ⟨w,hw,hu⟩:=List.mem_flatMap.1 hu
  match i with
  | 0 =>
   cases h;have e:=zc7 ys (n + 1) _ u hu n (by omega);rw [List.getElem?_set_self (by omega)] at e;rw [List.getD_eq_getElem?_getD,Nat.add_zero,e];exact ziS hw
  | i + 1 =>
   have:=zmV ys (n + 1) _ (by rw [List.length_set]; omega) u hu i y h;rwa [show n + 1 + i = n + (i + 1) by omega] at this
theorem zmJ : ∀ (ys : List Key) (n : Nat) (t : List Int) (f : Nat -> Int),n + ys.length <= t.length -> (∀ i y,ys[i]? = some y -> y.wear.min <= f (n + i) /\ f (n + i) <= y.wear.max) -> ∃ u ∈ ziR ys n t,∀ i,i < ys.length -> u.getD (n + i) 0 = f (n + i)
 | [],_,t,_,_,_ => ⟨t,by simp [ziR],fun i h => absurd h (by simp)⟩
 | z :: ys,n,t,f,hl,hf => by
  simp only [List.length_cons] at hl;obtain ⟨u,hu,h⟩:=zmJ ys (n + 1) (t.set n (f n)) f (by rw [List.length_set]; omega) fun i y h => by
   have:=hf (i + 1) y h;rwa [show n + 1 + i = n + (i + 1) by omega]
  refine ⟨u,?_,fun i hi => ?_⟩
  ·rw [ziR];exact List.mem_flatMap.2 ⟨f n,zoc.2 (hf 0 z rfl),hu⟩
  ·match i with
   | 0 =>
    have e:=zc7 ys (n + 1) _ u hu n (by omega);rw [List.getElem?_set_self (by omega)] at e;rw [List.getD_eq_getElem?_getD,Nat.add_zero,e]; rfl
   | i + 1 =>
    have:=h i (by simp at hi; omega);rwa [show n + 1 + i = n + (i + 1) by omega] at this
section
variable {x : Ring}
theorem zmS (ht : x.tries = []) : zdt x [] = (zeF x).zipIdx:=by
 unfold zdt zif;rw [ht];simp [okTo]
theorem zn8 (ht : x.tries = []) {y : List Int × Nat} (h : y ∈ zdt x []) : y.1 ∈ zeF x:=by
 rw [zmS ht] at h;obtain ⟨a,i⟩:=y;have:=List.mem_zipIdx h;exact this.2.2 ▸ List.getElem_mem _
theorem znw (ht : x.tries = []) {t : List Int} (h : t ∈ zeF x) : ∃ y ∈ zdt x [],y.1 = t:=by
 rw [zmS ht];obtain ⟨i,hi,e⟩:=List.mem_iff_getElem.1 h;exact ⟨(t,i),List.mem_zipIdx_iff_getElem?.2 (by rw [List.getElem?_eq_getElem hi,e]),rfl⟩
theorem zn7 (hx : x.Ok) : ∃ t,t ∈ zeF x:=by
 obtain ⟨u,hu,_⟩:=zmJ x.keys 0 [0,0,0,0] (fun i => match x.keys[i]? with | some y => y.wear.min | none => 0) (by have:=hx.keys; simp; omega) fun i y h => by
  have hy:=(hx.key y (List.mem_of_getElem? h)).2.2;simp only [Nat.zero_add,h];exact ⟨Int.le_refl _,hy.le⟩
 exact ⟨u,hu⟩
theorem zmT (hx : x.Ok) (ht : x.tries = []) : zdt x [] ≠ []:=by
 obtain ⟨t,h⟩:=zn7 hx;obtain ⟨y,hy,_⟩:=znw ht h;exact fun e => by rw [e] at hy; cases hy
def opK (x : Ring) (l k : Nat) (t : List Int) : Bool:=(zg4 x k (t.getD k 0).toNat).testBit l
theorem znB {l k : Nat} (hne : zdt x [] ≠ []) : zlG x l k = 1 <-> ∀ y ∈ zdt x [],opK x l k y.1 = true:=by
 have e : cntM x k l (zdt x []) = ((zdt x []).filter fun y => opK x l k y.1).length:=rfl;have h0 : (zdt x []).length ≠ 0:=fun h => hne (List.length_eq_zero_iff.1 h);unfold zlG verK zlE;rw [e];constructor
 ·intro h;refine List.filter_eq_self.1 (List.filter_sublist.eq_of_length ?_);by_cases h1 : ((zdt x []).filter fun y => opK x l k y.1).length = 0
  ·rw [if_pos h1] at h; exact absurd h (by simp)
  ·rw [if_neg h1] at h;by_cases h2 : ((zdt x []).filter fun y => opK x l k y.1).length = (zdt x []).length
   ·exact h2
   ·rw [if_neg h2] at h; exact absurd h (by simp)
 ·intro h;rw [List.filter_eq_self.2 h,if_neg h0,if_pos rfl]; rfl
theorem zng {l k : Nat} : zlG x l k = 0 <-> ∀ y ∈ zdt x [],opK x l k y.1 = false:=by
 have e : cntM x k l (zdt x []) = ((zdt x []).filter fun y => opK x l k y.1).length:=rfl;unfold zlG verK zlE;rw [e];constructor
 ·intro h y hy;by_cases h1 : ((zdt x []).filter fun y => opK x l k y.1).length = 0
  ·have:=List.filter_eq_nil_iff.1 (List.length_eq_zero_iff.1 h1) y hy;simpa using this
  ·rw [if_neg h1] at h;split at h <;> exact absurd h (by simp)
 ·intro h;rw [List.filter_eq_nil_iff.2 fun y hy => by rw [h y hy]; decide]; rfl
theorem znW : ∀ (us : List Turn),(us.map (·.key)).Nodup -> ∀ a ∈ us,∀ b ∈ us,a.key = b.key -> a = b
 | [],_,a,ha,_,_,_ => by cases ha
 | u :: us,hn,a,ha,b,hb,e => by
  rw [List.map_cons,List.nodup_cons] at hn;rcases List.mem_cons.1 ha with rfl | ha' <;> rcases List.mem_cons.1 hb with rfl | hb'
  ·rfl
  ·exact absurd (List.mem_map.2 ⟨b,hb',e.symm⟩) hn.1
  ·exact absurd (List.mem_map.2 ⟨a,ha',e⟩) hn.1
  ·exact znW us hn.2 a ha' b hb' e
theorem zrM (hx : x.Ok) (ht : x.tries = []) {us : List Turn} (hu : ∀ u ∈ us,0 <= u.key /\ u.key < x.keys.length) (hn : (us.map (·.key)).Nodup) (l : Nat) : bagB x (zdt x []) us l = true <-> ∀ k,k < x.keys.length -> ¬ (0 <= zlG x l k /\ 0 <= zlS us k /\ zlG x l k ≠ zlS us k):=by
 have hne:=zmT hx ht;have hfind : ∀ (k : Nat) (u : Turn),u ∈ us -> u.key = (k : Int) -> us.find? (fun u => decide (u.key = (k : Int))) = some u:=fun k u h1 h2 => by
  cases hf : us.find? (fun u => decide (u.key = (k : Int))) with
  | none => exact absurd (List.find?_eq_none.1 hf u h1) (by simp [h2])
  | some v =>
   have hv:=List.find?_some hf;have hm:=List.mem_of_find?_eq_some hf;simp only [decide_eq_true_eq] at hv;have : v = u:=znW us hn v hm u h1 (hv.trans h2.symm);rw [this]
 have hor : ∀ k,zlG x l k = 1 \/ zlG x l k = 0 \/ zlG x l k = -1:=fun k => by
  unfold zlG verK; split <;> (try split) <;> omega
 constructor
 ·intro h k hk ⟨h1,h2,h3⟩;obtain ⟨y,hy,hall⟩:=List.any_eq_true.1 h;cases hf : us.find? (fun u => decide (u.key = (k : Int))) with
  | none => unfold zlS at h2; rw [hf] at h2; exact absurd h2 (by decide)
  | some u =>
   have hv:=List.find?_some hf;have hm:=List.mem_of_find?_eq_some hf;simp only [decide_eq_true_eq] at hv;have:=List.all_eq_true.1 hall u hm;unfold zmK at this;have hko : u.key.toNat = k:=(by omega);rw [hko] at this;have ho : opK x l k y.1 = u.opens:=(by simpa [opK,znr] using this);have ht : zlS us k = if u.opens then 1 else 0:=(by unfold zlS; rw [hf]);rw [ht] at h3;rcases hor k with e | e | e
   ·rw [(znB hne).1 e y hy] at ho;rw [e,<- ho] at h3; exact h3 rfl
   ·rw [zng.1 e y hy] at ho;rw [e,<- ho] at h3; exact h3 rfl
   ·omega
 ·intro h;have hk : ∀ k : Nat,∃ y ∈ zdt x [],k < x.keys.length -> ∀ u ∈ us,u.key = (k : Int) -> opK x l k y.1 = u.opens:=fun k => by
   obtain ⟨y0,hy0⟩:=List.exists_mem_of_ne_nil _ hne;by_cases hex : k < x.keys.length /\ ∃ u ∈ us,u.key = (k : Int)
   ·obtain ⟨hkl,u,hu1,hu2⟩:=hex;have hf:=hfind k u hu1 hu2;have hto : zlS us k = if u.opens then 1 else 0:=(by unfold zlS; rw [hf]);have hs : ∃ y ∈ zdt x [],opK x l k y.1 = u.opens:=by
     refine Classical.byContradiction fun hc => ?_;have hc2 : ∀ y ∈ zdt x [],opK x l k y.1 = !u.opens:=fun y hy => by
      have:=fun e => hc ⟨y,hy,e⟩;cases h1 : opK x l k y.1 <;> cases h2 : u.opens <;> simp_all
     cases h2 : u.opens with
     | true =>
      have e:=(zng (l:=l) (k:=k)).2 fun y hy => (by rw [hc2 y hy,h2]; rfl);exact h k hkl ⟨by omega,by rw [hto,h2]; decide,by rw [hto,h2,e]; decide⟩
     | false =>
      have e:=(znB (l:=l) (k:=k) hne).2 fun y hy => (by rw [hc2 y hy,h2]; rfl);exact h k hkl ⟨by omega,by rw [hto,h2]; decide,by rw [hto,h2,e]; decide⟩
    obtain ⟨y,hy,e⟩:=hs;refine ⟨y,hy,fun _ v hv1 hv2 => ?_⟩;have:=hfind k v hv1 hv2;rw [hf] at this; cases this;exact e
   ·exact ⟨y0,hy0,fun h1 u h2 h3 => absurd ⟨h1,u,h2,h3⟩ hex⟩
  have hk2 : ∀ k : Nat,∃ t ∈ zeF x,k < x.keys.length -> ∀ u ∈ us,u.key = (k : Int) -> opK x l k t = u.opens:=fun k => by
   obtain ⟨y,hy,e⟩:=hk k;exact ⟨y.1,zn8 ht hy,e⟩
  let g : Nat -> List Int:=fun k => Classical.choose (hk2 k);have hg : ∀ k,g k ∈ zeF x /\ (k < x.keys.length -> ∀ u ∈ us,u.key = (k : Int) -> opK x l k (g k) = u.opens):=fun k => Classical.choose_spec (hk2 k);have h4 : 0 + x.keys.length <= ([0,0,0,0] : List Int).length:=by have:=hx.keys; simp; omega
  obtain ⟨t,htm,hte⟩:=zmJ x.keys 0 [0,0,0,0] (fun k => (g k).getD k 0) h4 fun i y hi => by
   have:=zmV x.keys 0 [0,0,0,0] h4 (g i) (hg i).1 i y hi;simpa only [Nat.zero_add] using this
  obtain ⟨y,hy,rfl⟩:=znw ht htm;refine List.any_eq_true.2 ⟨y,hy,List.all_eq_true.2 fun u hum => ?_⟩;obtain ⟨hu0,hu1⟩:=hu u hum;have e:=hte u.key.toNat (by omega);simp only [Nat.zero_add] at e;have:=(hg u.key.toNat).2 (by omega) u hum (by omega);unfold opK at this;unfold zmK znr;rw [e,this]; simp
theorem zpt {a b : List Int} {n : Nat} : (zlV a b n).length = 0 <-> ∀ k,k < n -> ¬ (0 <= a.getD k 0 /\ 0 <= b.getD k 0 /\ a.getD k 0 ≠ b.getD k 0):=by
 unfold zlV;rw [List.length_map,List.length_eq_zero_iff,List.filter_eq_nil_iff];refine ⟨fun h k hk hc => h k (List.mem_range.2 hk) (by simp only [Bool.and_eq_true,decide_eq_true_eq]; exact ⟨⟨hc.1,hc.2.1⟩,hc.2.2⟩),fun h k hk hc => h k (List.mem_range.1 hk) ?_⟩;simp only [Bool.and_eq_true,decide_eq_true_eq] at hc;exact ⟨hc.1.1,hc.1.2,hc.2⟩
theorem znR (n m : Nat) (h : n <= m) (f : Nat -> Bool) : ((List.range m).filter fun i => decide (i < n) && f i) = (List.range n).filter f:=by
 obtain ⟨d,rfl⟩ : ∃ d,m = n + d:=⟨m - n,by omega⟩;rw [List.range_add,List.filter_append];have h1 : (List.range n).filter (fun i => decide (i < n) && f i) = (List.range n).filter f:=List.filter_congr fun i hi => by
  have:=List.mem_range.1 hi;simp [this]
 have h2 : ((List.range d).map (n + ·)).filter (fun i => decide (i < n) && f i) = []:=List.filter_eq_nil_iff.2 fun i hi => by
  obtain ⟨j,_,rfl⟩:=List.mem_map.1 hi;simp; omega
 rw [h1,h2,List.append_nil]
theorem zpK (hx : x.Ok) (ht : x.tries = []) {us : List Turn} {b : List Int} (hu : ∀ u ∈ us,0 <= u.key /\ u.key < x.keys.length) (hn : (us.map (·.key)).Nodup) (hb : ∀ k,k < x.keys.length -> b.getD k 0 = zlS us k) (bb : List (List Int)) : zpQ ⟨x.keys.length,0,zgy x x.locks.length,bb⟩ b = znd x us:=by
 have hl:=hx.locks;unfold zpQ zlJ znd zjp;simp only [zmc,znF];rw [znR _ _ hl];refine congrArg _ (List.filter_congr fun l hlm => ?_);have hll:=List.mem_range.1 hlm;rw [Bool.eq_iff_iff,zrM hx ht hu hn];unfold znh;have hrow : (zgy x x.locks.length).getD l [] = zjh x l x.keys.length:=by
  unfold zgy;rw [List.getD_eq_getElem?_getD,List.getElem?_map,List.getElem?_range hll]; rfl
 have hcell : ∀ k,k < x.keys.length -> (zjh x l x.keys.length).getD k 0 = zlG x l k:=fun k hk => by
  unfold zjh;rw [List.getD_eq_getElem?_getD,List.getElem?_map,List.getElem?_range hk]; rfl
 simp only [hrow,Int.toNat_natCast,decide_eq_true_eq];rw [show (((zlV (zjh x l x.keys.length) b x.keys.length).length : Int) <= 0) = ((zlV (zjh x l x.keys.length) b x.keys.length).length = 0) from propext ⟨fun h => by omega,fun h => by omega⟩,zpt];constructor
 ·intro h k hk;have:=h k hk;rwa [hcell k hk,hb k hk] at this
 ·intro h k hk;rw [hcell k hk,hb k hk];exact h k hk
end
theorem zof {x : Ring} (hx : x.Ok) (ht : x.tries = []) {l k : Nat} (hk : k < x.keys.length) (hl : l < x.locks.length) : zf8 x (zlu x k l) = 0:=by
 refine zaP.2 ⟨zaN.2 ⟨zbH.2 hx,?_⟩,zmT hx ht⟩;unfold zlu;rw [if_pos (zcx.2 (by omega)),if_pos (zcx.2 (by omega))]
theorem zn6 {x : Ring} (hx : x.Ok) (ht : x.tries = []) {us : List Turn} (h6 : us.length <= 6) (hu : ∀ u ∈ us,0 <= u.key /\ u.key < x.keys.length) : zf8 x (zkZ x us) = 0 :=
 zaP.2 ⟨zaN.2 ⟨zbH.2 hx,zf3.2 ⟨h6,fun u h => by have:=hu u h; omega⟩⟩,zmT hx ht⟩
theorem zpI {x : Ring} (hx : x.Ok) (n : Nat) (hn : n <= x.locks.length) : zn3 x.keys.length (zgy x n):=by
 refine ⟨by rw [zmc]; have:=hx.locks; omega,fun r hr => ?_⟩;obtain ⟨l,_,rfl⟩:=List.mem_map.1 hr;refine ⟨by rw [zmx],fun v hv => ?_⟩;obtain ⟨k,_,rfl⟩:=List.mem_map.1 hv;exact zqP _
theorem zqD {lv : Bool} {H : List AObj} {k kp : AV -> List AObj -> Prop} {P : Program} {f : FuncId} {l l' : List AV} (h : Wks l l') (hf : FnC lv P f H l' k kp) : FnC lv P f H l k kp:=fun E V vs hc hd => by
 refine hf E V vs hc ⟨by rw [hd.1,h.len],fun i a ha => ?_⟩;obtain ⟨b,hb⟩:=zaE (xs:=l) (i:=i) (by rw [h.len]; exact get_lt ha);exact h.at i a b ha hb E _ (hd.2 i b hb)
def awR : Ring:=⟨1,[⟨[2],⟨0,0⟩⟩],[[⟨1,2⟩],[⟨3,3⟩]],[]⟩
def awC : Clm:=⟨1,0,[[1],[0]],[[1]]⟩
theorem zr1 : zfA (Value.int .i64 0) 1 = [iv 0]:=rfl
theorem zs1 : zfA (Value.slice none 0 0) 1 = [.sl 0 [] .exact]:=rfl
theorem zs2 : zfA (Value.slice none 0 0) 2 = [.sl 0 [] .exact,.sl 0 [] .exact]:=rfl
theorem zoz : awR.Small:=⟨by decide,by decide,by decide,by decide,by decide⟩
theorem awC_ok : awC.Ok:=⟨by decide,by decide,⟨by decide,by decide⟩,⟨by decide,by decide⟩⟩
section
variable {H : List AObj} {k kp : AV -> List AObj -> Prop}
theorem zp5 (hmain : H[0]? = some .main) (hk : k (.tup [zh7 [0],iv 0]) H) : FnC true Try.prog 10 H [awR.av,zjx [⟨0,true⟩]] k kp :=
 f10_c zaQ hmain zoz (by decide) (fun h => absurd (by decide +kernel) h) fun _ => by
  rw [show znd awR [⟨0,true⟩] = [0] by decide +kernel]; exact hk
theorem zrN (hk : k (.tup [zh7 [0],iv 0]) H) : FnC true Try.prog 11 H [awC.av,iv 0] k kp :=
 f11_c (c:=awC) (n:=0) (b:=[1]) awC_ok rfl (by rw [show zpQ awC [1] = [0] by decide +kernel]; exact hk)
theorem f13_c (hmain : H[0]? = some .main) (hk : k (bv true) H) : FnC true Try.prog 13 H [] k kp:=by
 have hmn : ∀ L : List AObj,(H ++ L)[0]? = some .main:=fun L => zay hmain;refine zcC (rs:=[.tmp 0]) (nt:=48) Try.f13 fun hH hA => ?_;simp only [zf5,Nat.reduceAdd];refine zbA ?_;refine zl5 ?_;simp only [seval,zr1,zs1,zs2,zk3,zb2,zhq,zes,zd5];refine zl5 ?_;simp only [seval,zu2,zhq,zes];refine zl6 (?_); refine zqD (l':=[awR.av,zjx [⟨0,true⟩]]) (.cons (zhX (.cons (Wk.refl _) (.cons (zoS (.cons (zaK _ _ _) (.cons (Wk.refl _) (.cons (Wk.refl _) .nil)))) (.cons (zoS (.cons (zaK _ _ _) (.cons (zaK _ _ _) .nil))) (.cons (zaK _ _ _) .nil))))) (.cons (zaK _ _ _) .nil)) (zp5 (hmn _) ?_);(try simp only [seval]);refine zl5 ?_;simp only [seval,zr1,zs1,zs2,zhq,zes];refine zl6 (?_); refine zqD (l':=[awC.av,iv 0]) (.cons (zhX (.cons (Wk.refl _) (.cons (Wk.refl _) (.cons (zoS (.cons (zaK _ _ _) (.cons (zaK _ _ _) .nil))) (.cons (zoS (.cons (zaK _ _ _) .nil)) .nil))))) (.cons (Wk.refl _) .nil)) (zrN ?_);(try simp only [seval]);refine zl5 ?_;simp only [seval,zr1,zhq,beq_self_eq_true];refine zl6 (?_); refine f12_same (xs:=[0]) (by decide) ?_;(try simp only [seval]);refine zl6 (?_); refine f12_same (xs:=[0]) (by decide) ?_;(try simp only [seval]);refine zcw ?_;exact endA hH (Wk.refl _) (by simp [zap,bv]) hk
end
structure Kept3 (X Y Z : Prop) : Type where
 n : Nat
def UG (a : AV) (want : Bool) (X Y Z : Prop) (_t : Kept3 X Y Z) : Prop:=(∃ b,a = .val (.bool b) /\ (b = want -> X) /\ (b = !want -> Y)) \/ (a = .val undef /\ Z)
theorem ug_b {b want : Bool} {X Y Z : Prop} {t : Kept3 X Y Z} : UG (.val (.bool b)) want X Y Z t = ((b = want -> X) /\ (b = !want -> Y)):=by
 unfold UG;refine propext ⟨fun h => ?_,fun h => .inl ⟨b,rfl,h⟩⟩;rcases h with ⟨b',e,h⟩ | ⟨e,_⟩
 ·cases e; exact h
 ·cases e
theorem ug_tt (X Y Z : Prop) (t : Kept3 X Y Z) : UG (.val (.bool true)) true X Y Z t = X:=by rw [ug_b]; simp
theorem ug_tf (X Y Z : Prop) (t : Kept3 X Y Z) : UG (.val (.bool true)) false X Y Z t = Y:=by rw [ug_b]; simp
theorem ug_ft (X Y Z : Prop) (t : Kept3 X Y Z) : UG (.val (.bool false)) true X Y Z t = Y:=by rw [ug_b]; simp
theorem ug_ff (X Y Z : Prop) (t : Kept3 X Y Z) : UG (.val (.bool false)) false X Y Z t = X:=by rw [ug_b]; simp
theorem ug_u (want : Bool) (X Y Z : Prop) (t : Kept3 X Y Z) : UG (.val undef) want X Y Z t = Z:=by
 unfold UG;refine propext ⟨fun h => ?_,fun h => .inr ⟨rfl,h⟩⟩;rcases h with ⟨b',e,_⟩ | ⟨_,h⟩
 ·cases e
 ·exact h
section
variable (lv : Bool) (P : Program)
def UOps (all : Array Oper) : List Oper -> AS -> (AS -> Prop) -> (AV -> AS -> Prop) -> Prop
 | [],s,next,_ => next s
 | o :: rest,s,next,bad => match o.guard with
  | none => AStep lv P s o (fun s' => UOps all rest s' next bad) bad
  | some (j,want) => one1 ((all[j]?).bind (·.dst)) fun d => one1 (look s.T d) fun a => UG a want (AStep lv P ⟨(d,.val (.bool want)) :: s.T,s.H⟩ o (fun s' => UOps all rest s' next bad) bad) (UOps all rest ((⟨(d,.val (.bool !want)) :: s.T,s.H⟩ : AS).put o.dst (.val undef)) next bad) (UOps all rest (s.put o.dst (.val undef)) next bad) ⟨0⟩
end
theorem uOps_n : type_of% @UOps.eq_1:=by intros; rw [UOps.eq_1]
theorem uOps_c : type_of% @UOps.eq_2:=by intros; rw [UOps.eq_2]
@[congr] theorem uOps_congr {lv : Bool} {P : Program} {s s' : AS} {all : Array Oper} {l : List Oper} {next : AS -> Prop} {bad : AV -> AS -> Prop} (h : s = s') : UOps lv P all l s next bad = UOps lv P all l s' next bad:=by rw [h]
attribute [seval] uOps_n uOps_c ug_tt ug_tf ug_ft ug_ff ug_u
section
variable {lv : Bool} {P : Program} {r : Option Nat} {s : AS}
end
section
variable {lv : Bool} {P : Program} {r : Option Nat} {o : Oper} {s : AS} {next : AS -> Prop} {bad : AV -> AS -> Prop}
end
section
variable (lv : Bool) (P : Program) (r : Option Nat)
end
section
variable {lv : Bool} {P : Program} {r : Option Nat} {s : AS}
end
section
variable {lv : Bool} {P : Program} {r : Option Nat} {o : Oper} {s : AS} {next : AS -> Prop} {bad : AV -> AS -> Prop}
theorem zm1 {nt id : Nat} {c : Code} {l : List AV} {el : TypeId} {Φ : AEx -> AS -> Prop} (hid : s.H[id]? = some (.cells l el)) (h : AWP lv P r nt c ⟨s.T,s.H.set id (.part l.length l el)⟩ Φ) : AWP lv P r nt c s Φ:=fun E V a Q hat hQ => by
 have hc:=hat.conc;obtain ⟨⟨cs,hown,hd⟩,himm⟩:=hc.obj id _ hid;have g : Ghost V (V.pubp (E.blk id) cs (fun o => decide (o < l.length))):=zb9 hown (fun o _ => himm o);refine WP.ghost g ?_;have hI : ∀ b o v,E.I b o = some v -> (V.pubp (E.blk id) cs (fun o => decide (o < l.length))).imm b o = some v:=fun b o v e => by
  rw [hc.I] at e;have hb : b ≠ E.blk id:=fun hb => by rw [hb,himm] at e; cases e
  simp only [View.pubp];rw [if_neg (fun x => hb x.1)]; exact e
 have hle : E.Le { E with I:=(V.pubp (E.blk id) cs (fun o => decide (o < l.length))).imm }:=⟨hI,Nat.le_refl _,fun _ _ => rfl,fun _ _ => Nat.le_refl _,fun _ _ _ _ => rfl,rfl,rfl⟩;have hc2 : Conc { E with I:=(V.pubp (E.blk id) cs (fun o => decide (o < l.length))).imm } (V.pubp (E.blk id) cs (fun o => decide (o < l.length))) (s.H.set id (.part l.length l el)):=by
  refine hc.turn id _ hle rfl (by rw [List.length_set]; exact hc.n) zaF rfl (fun _ _ _ => rfl) (fun b y hno hy => ⟨hy,fun o => ?_⟩) ⟨⟨cs,hown,(hd.mono hle).p,fun o ho => ?_⟩,fun o ho => ?_⟩ (fun b hb => .inl ⟨_,hid,hb⟩)
  ·have hb : b ≠ E.blk id:=fun hb => hno _ hid (by rw [hb]; rfl);simp only [View.pubp];rw [if_neg (fun x => hb x.1)]
  ·simp only [View.pubp];rw [if_pos ⟨trivial,by simpa using ho⟩]
  ·simp only [View.pubp];rw [if_neg (fun x => by have:=x.2; simp at this; omega)];exact himm o
 exact h _ _ a Q ⟨hc2,hat.tok.mono hle,hat.size⟩ fun ae e E' V'' a' s' hk => hQ ae e E' V'' a' s' ((⟨hle,rfl,rfl,rfl,rfl⟩ : Kept E _ V (V.pubp (E.blk id) cs (fun o => decide (o < l.length))) a a).trans hk)
def WkH (H : List AObj) (b a : AV) : Prop:=∀ E V v,Conc E V H -> Den E b v -> Den E a v
theorem WkH.of {H : List AObj} {b a : AV} (h : Wk b a) : WkH H b a:=fun E _ v _ d => h E v d
theorem zoi {H : List AObj} {id n cap m p : Nat} {l : List AV} {el : TypeId} (hid : H[id]? = some (.part p l el)) (hm : m <= p) (hp : p <= l.length) : WkH H (.osl id 0 n cap) (.sl n (l.take m) .shut):=fun E V v hc hd => by
 cases hd with
 | osl hi hcap =>
  rename_i cap';obtain ⟨⟨cs,ho,hdl,hi2⟩,_⟩:=hc.obj id _ hid;refine .sl (E.blk id) 0 cap' (fun i => cs.getD i undef) hcap.1 trivial (fun i hi' => ?_) (fun i x hx => ?_)
  ·rw [List.length_take] at hi';have hlt : i < cs.size:=(by have:=hdl.1; omega);rw [hc.I,Nat.zero_add,hi2 i (by omega),Array.getD_eq_getD_getElem?,Array.getElem?_eq_getElem hlt]; rfl
  ·rw [List.getElem?_take] at hx;split at hx
   ·exact hdl.2 i x hx
   ·cases hx
theorem zn1 {nt id j : Nat} {c : Code} {l : List AV} {x y : AV} {el : TypeId} {Φ : AEx -> AS -> Prop} (hid : s.H[id]? = some (.cells l el)) (hj : l[j]? = some x) (hw : WkH s.H x y) (h : AWP lv P r nt c ⟨s.T,s.H.set id (.cells (l.set j y) el)⟩ Φ) : AWP lv P r nt c s Φ:=fun E V a Q hat hQ => by
 have hc:=hat.conc;obtain ⟨⟨cs,hown,hd⟩,himm⟩:=hc.obj id _ hid;have hc2 : Conc E V (s.H.set id (.cells (l.set j y) el)) :=
  hc.turn id _ (Env.Le.refl _) hc.I (by rw [hc.n,List.length_set]) zaF rfl (fun _ _ _ => rfl) (fun b y _ hy => ⟨hy,fun _ => rfl⟩) ⟨⟨cs,hown,zn0 hd hj (fun v d => hw E V v hc d)⟩,himm⟩ (fun b hb' => .inl ⟨_,hid,hb'⟩)
 exact h E V a Q ⟨hc2,hat.tok,hat.size⟩ hQ
theorem znu {nt t : Nat} {c : Code} {x y : AV} {Φ : AEx -> AS -> Prop} (ht : look s.T t = some x) (hw : WkH s.H x y) (h : AWP lv P r nt c ⟨(t,y) :: s.T,s.H⟩ Φ) : AWP lv P r nt c s Φ:=fun E V a Q hat hQ => by
 refine h E V a Q ⟨hat.conc,fun t' b e => ?_,hat.size⟩ hQ;simp only [look] at e;split at e
 ·rename_i e'; subst e'; cases e;exact ⟨(hat.tok t x ht).1,hw E V _ hat.conc (hat.tok t x ht).2⟩
 ·exact hat.tok t' b e
end
def behind (j : Nat) (o : Oper) : Oper:={ o with after:=o.after.push { on:=j,ground:=.data } }
def addE (ops : Array Oper) (i j : Nat) : Array Oper:=ops.modify i (behind j)
theorem zoC (ops : Array Oper) (i j : Nat) : (addE ops i j).size = ops.size:=by simp [addE]
theorem zlF (ops : Array Oper) (i j k : Nat) : (addE ops i j)[k]? = if i = k then (ops[k]?).map (behind j) else ops[k]?:=by
 unfold addE;rw [Array.getElem?_modify]
theorem znH (j : Nat) (o : Oper) : zeh (behind j o) = zeh o ++ [j]:=by
 unfold zeh behind;simp only [Array.toList_push,List.filterMap_append];rfl
theorem znz {ops : Array Oper} {i j : Nat} {X l : List Nat} (h : Sched ops X l) : j ∈ X -> Sched (addE ops i j) X l:=by
 induction h with
 | nil X h => exact fun _ => .nil X fun k hk => h k (by rwa [zoC] at hk)
 | cons o ho hn hd hrest ih =>
  rename_i X k l;intro hj;by_cases e : i = k
  ·exact .cons (behind j o) (by rw [zlF,if_pos e,ho]; rfl) hn (fun q hq => by
    rw [znH] at hq;rcases List.mem_append.1 hq with hq | hq
    ·exact hd q hq
    ·rw [List.mem_singleton.1 hq]; exact hj) (ih (List.mem_cons_of_mem _ hj))
  ·exact .cons o (by rw [zlF,if_neg e]; exact ho) hn hd (ih (List.mem_cons_of_mem _ hj))
theorem znP {ops : Array Oper} {i j : Nat} (hij : i ≠ j) (hi : i < ops.size) {X l : List Nat} (h : Sched ops X l) : i ∉ X -> j ∉ X -> Sched (addE ops i j) X l \/ Sched (addE ops j i) X l:=by
 induction h with
 | nil X h => exact fun h1 _ => absurd (h i hi) h1
 | cons o ho hn hd hrest ih =>
  rename_i X k l;intro h1 h2;by_cases e : k = i
  ·subst e;exact .inr (.cons o (by rw [zlF,if_neg (Ne.symm hij)]; exact ho) hn hd (znz hrest List.mem_cons_self))
  ·by_cases e2 : k = j
   ·subst e2;exact .inl (.cons o (by rw [zlF,if_neg hij]; exact ho) hn hd (znz hrest List.mem_cons_self))
   ·rcases ih (fun hm => (List.mem_cons.1 hm).elim (fun x => e x.symm) h1) (fun hm => (List.mem_cons.1 hm).elim (fun x => e2 x.symm) h2) with q | q
    ·exact .inl (.cons o (by rw [zlF,if_neg (Ne.symm e)]; exact ho) hn hd q)
    ·exact .inr (.cons o (by rw [zlF,if_neg (Ne.symm e2)]; exact ho) hn hd q)
section
variable {lv : Bool} {P : Program} {r : Option Nat} {ops : Array Oper} {nt : Nat}
theorem zoh (i j : Nat) (tmps : Array Value) : yielded (addE ops i j) tmps = yielded ops tmps:=by
 funext k;unfold yielded;rw [zlF];by_cases e : i = k
 ·rw [if_pos e]; cases ops[k]? <;> rfl
 ·rw [if_neg e]
theorem zoB (i j : Nat) (Q : Ex -> Act -> View -> Prop) : ∀ l : List Nat,zie lv P r (addE ops i j) Q l = zie lv P r ops Q l
 | [] => rfl
 | k :: l => by
  funext a V;have ih:=zoB i j Q l;simp only [zie];rw [zlF,zoh,ih];by_cases e : i = k
  ·rw [if_pos e];cases ho : ops[k]? with
   | none => rfl
   | some o => rfl
  ·rw [if_neg e]
theorem zm3 (i j : Nat) (Hf : List Nat -> List AObj) (K : AS -> Prop) (t : KeptB K) : ∀ (pl : List PEntry) (s : AS),BOps lv P Hf (addE ops i j) pl s K t = BOps lv P Hf ops pl s K t
 | [],_ => rfl
 | ⟨k,false,_,l⟩ :: rest,s => by
  have ih:=zm3 i j Hf K t rest;simp only [BOps,zlF];have e : ∀ o,one1 (some o) (fun o => AQ lv P s o fun av => BQ lv P Hf s.T o av l /\ BOps lv P Hf (addE ops i j) rest (s.put o.dst av) K t) = one1 (some o) (fun o => AQ lv P s o fun av => BQ lv P Hf s.T o av l /\ BOps lv P Hf ops rest (s.put o.dst av) K t):=fun o => by
   simp only [one1,ih]
  have bq : ∀ (o : Oper) av,BQ lv P Hf s.T (behind j o) av l = BQ lv P Hf s.T o av l:=fun o av => by
   induction l with
   | nil => rfl
   | cons p l ih2 => exact congrArg (fun x => _ /\ x) (ih2 fun o => by simp only [one1,ih])
  split
  ·cases ops[k]? with
   | none => rfl
   | some o =>
    simp only [Option.map_some,one1,ih,bq];rfl
  ·cases ops[k]? with
   | none => rfl
   | some o => exact e o
 | ⟨k,true,D,l⟩ :: rest,s => by
  have ih:=zm3 i j Hf K t rest;simp only [BOps,zlF];have be : ∀ (o : Oper) av,BE lv P Hf s.T (behind j o) av l = BE lv P Hf s.T o av l:=fun o av => by
   induction l with
   | nil => rfl
   | cons p l ih2 => exact congrArg (fun x => _ /\ x) ih2
  split
  ·cases ops[k]? with
   | none => rfl
   | some o =>
    simp only [Option.map_some,one1,ih,be];rfl
  ·cases ops[k]? with
   | none => rfl
   | some o => simp only [one1,ih]
theorem znS {s : AS} {id : Nat} {Φ : AEx -> AS -> Prop} {es ord l : List Nat} {Hf : List Nat -> List AObj} (hok : drawBOk nt ops es ord = true) (h0 : s.H = Hf []) (h : BOps lv P Hf ops (zpg ops es ord) s (Φ .normal) ⟨0⟩) (hs : Sched ops [] l) {E : Env} {V : View} {a : Act} {Q : Ex -> Act -> View -> Prop} (hat : At E V s a nt)
  (hQ : ∀ ae e E' V' a' s',Kept E E' V V' a a' -> At E' V' s' a' nt -> ExDen E' ae e -> Φ ae s' -> Q e a' V') : zie lv P r ops Q l a V:=by
 have hok:=drawBOk.out hok;obtain ⟨hnd,_,hlt⟩:=zcZ hok.top;have hs0 : s = ⟨TX ops s.T (fun _ => .val undef) [],Hf (done es [])⟩:=by
  have : done es [] = []:=by simp [done]
  rw [this,<- h0]; rfl
 have h' : BOps lv P Hf ops (zmb (zl2 ops ord []) es [] ord) ⟨TX ops s.T (fun _ => .val undef) [],Hf (done es [])⟩ (Φ .normal) ⟨0⟩:=by rw [<- hs0]; exact h
 obtain ⟨f,_,q2,q3⟩:=zfU (r:=r) hok ord [] _ hok.top (fun i hi => by cases hi) h';have hfull : ∀ i,i ∈ ord <-> i < ops.size:=fun i => ⟨hlt i,hok.full i⟩;have hat0 : At E V ⟨TX ops s.T f [],Hf (done es [])⟩ a nt:=by
  have e : (⟨TX ops s.T f [],Hf (done es [])⟩ : AS) = s:=hs0.symm;rw [e]; exact hat
 refine zkP (Hf:=Hf) (es:=es) hok q2 hs (by simp) (fun i hi => by cases hi) E V a Q hat0 fun E' V' a' X' hk hat' hall => ?_;have hmem : ∀ i,i ∈ X' <-> i ∈ ord.reverse ++ []:=fun i => by simp [hall,hfull]
 refine hQ .normal .normal E' V' a' _ hk ⟨?_,fun t x e => ?_,hat'.size⟩ trivial q3
 ·rw [<- zkR hmem]; exact hat'.conc
 ·rw [<- zoD hok hmem] at e; exact hat'.tok t x e
theorem zog {es ord : List Nat} (hok : drawBOk nt ops es ord = true) (t : Nat) : Sched ops [] (Region.linearise.go .any ops ops.size t (Array.replicate ops.size false) []):=by
 have hok:=drawBOk.out hok;obtain ⟨hnd,_,hlt⟩:=zcZ hok.top;have ready : ∀ (ord X : List Nat),zmP ops X ord = true -> ∀ A i B,ord = A ++ i :: B -> ∃ o,ops[i]? = some o /\ ∀ j ∈ zeh o,j ∈ A \/ j ∈ X:=by
  intro ord;induction ord with
  | nil => intro X _ A i B e; cases A <;> cases e
  | cons x l ih =>
   intro X htop A i B e;simp only [zmP,Bool.and_eq_true,Bool.not_eq_true',List.contains_eq_mem,decide_eq_false_iff_not] at htop;obtain ⟨⟨h1,h2⟩,h3⟩:=htop;cases A with
   | nil =>
    have e1 : x = i:=(by have:=congrArg List.head? e; simpa using this);rw [e1] at h2;cases ho : ops[i]? with
    | none => rw [ho] at h2; cases h2
    | some o =>
     rw [ho] at h2;exact ⟨o,rfl,fun j hj => .inr (by have:=List.all_eq_true.1 h2 j hj; simpa using this)⟩
   | cons y A =>
    cases e;obtain ⟨o,ho,hb⟩:=ih (x :: X) h3 A i B rfl;refine ⟨o,ho,fun j hj => ?_⟩;rcases hb j hj with h | h
    ·exact .inl (List.mem_cons_of_mem _ h)
    ·rcases List.mem_cons.1 h with rfl | h
     ·exact .inl (List.mem_cons_self ..)
     ·exact .inr h
 exact zfb (ops:=ops) (fun i o ho j hj => by
   obtain ⟨A,B,e⟩:=List.append_of_mem (hok.full i (Array.getElem?_eq_some_iff.1 ho).1);obtain ⟨o',ho',hb⟩:=ready ord [] hok.top A i B e;rw [ho] at ho'; cases ho';rcases hb j hj with h | h
   ·exact hlt j (by rw [e]; exact List.mem_append_left _ h)
   ·cases h)
  (fun X ⟨i,hi,hn⟩ => by
   obtain ⟨A,i',B,e,h1,h2⟩:=zgI (X:=X) ⟨i,hok.full i hi,hn⟩;obtain ⟨o',ho',hb⟩:=ready ord [] hok.top A i' B e;refine ⟨i',o',ho',h1,fun j hj => ?_⟩;rcases hb j hj with h | h
   ·exact h2 j h
   ·cases h)
  ops.size t (Array.replicate ops.size false) [] ⟨by simp,fun i hi => by simp [hi]⟩ (Nat.le_trans List.countP_le_length (by simp))
end
inductive Adds (ops : Array Oper) : Array Oper -> Prop
 | base : Adds ops ops
 | add {o : Array Oper} (h : Adds ops o) (i j : Nat) : Adds ops (addE o i j)
section
variable {lv : Bool} {P : Program} {r : Option Nat} {ops o : Array Oper} {nt : Nat} {s : AS} {Φ : AEx -> AS -> Prop}
theorem Adds.wp (h : Adds ops o) (Q : Ex -> Act -> View -> Prop) (l : List Nat) : zie lv P r o Q l = zie lv P r ops Q l:=by
 induction h with
 | base => rfl
 | add _ i j ih => rw [zoB,ih]
theorem Adds.bops (h : Adds ops o) (Hf : List Nat -> List AObj) (K : AS -> Prop) (t : KeptB K) (pl : List PEntry) (s : AS) : BOps lv P Hf o pl s K t = BOps lv P Hf ops pl s K t:=by
 induction h with
 | base => rfl
 | add _ i j ih => rw [zm3,ih]
def DG (lv : Bool) (P : Program) (r : Option Nat) (nt : Nat) (ops o : Array Oper) (s : AS) (Φ : AEx -> AS -> Prop) : Prop :=
 ∀ l E V a Q,Sched o [] l -> At E V s a nt -> (∀ ae e E' V' a' s',Kept E E' V V' a a' -> At E' V' s' a' nt -> ExDen E' ae e -> Φ ae s' -> Q e a' V') -> zie lv P r ops Q l a V
theorem znZ (i j : Nat) (hij : (i != j && decide (i < o.size)) = true) (h1 : DG lv P r nt ops (addE o i j) s Φ) (h2 : DG lv P r nt ops (addE o j i) s Φ) : DG lv P r nt ops o s Φ:=fun l E V a Q hs hat hQ => by
 rw [Bool.and_eq_true,bne_iff_ne,decide_eq_true_eq] at hij;rcases znP hij.1 hij.2 hs (by simp) (by simp) with hs | hs
 ·exact h1 l E V a Q hs hat hQ
 ·exact h2 l E V a Q hs hat hQ
theorem znT (ha : Adds ops o) (es ord : List Nat) (pl : List PEntry) (Hf : List Nat -> List AObj) (hok : drawBOk nt o es ord = true) (hpl : zpg o es ord = pl) (h0 : s.H = Hf []) (h : BOps lv P Hf ops pl s (Φ .normal) ⟨0⟩) : DG lv P r nt ops o s Φ:=fun l E V a Q hs hat hQ => by
 subst hpl;rw [<- ha.wp];exact znS (id:=0) hok h0 (by rw [ha.bops]; exact h) hs hat hQ
theorem zoy {id : Nat} (es ord : List Nat) (hm : P.follows .mixedOrders = true) (hok : drawBOk nt ops es ord = true) (h : DG lv P r nt ops ops s Φ) : AWP lv P r nt (.region id ops true) s Φ:=by
 intro E V a Q hat hQ;refine zg3 fun t => ?_;rw [show Region.schedule (P.follows .mixedOrders) ops t = Region.linearise.go .any ops ops.size t (Array.replicate ops.size false) [] by unfold Region.schedule; rw [hm]; simp [Region.linearise]];exact h _ E V a Q (zog hok t) hat hQ
end
def tkL (N : Nat) (c : Int) (ks : List Key) (ls : List (List Band)) : List AObj :=
 [.cells [iv c,.sl ks.length (ks.flatMap Key.l) (.opn (N + 1)),.sl ls.length (ls.map zlw) (.opn (N + 2)),.sl 0 [] .exact] 30,.tail ks.length 3 35,.tail ls.length 1 37]
def tkK (N : Nat) (c : Int) (ks : List Key) (bd : Band) (cs : List Int) : List AObj:=tkL N c ks [] ++ [.cells [.sl cs.length (cs.map iv) (.opn (N + 4)),iv bd.min,iv bd.max] 35,.tail cs.length 1 3]
theorem zoV (N : Nat) (c : Int) (ks : List Key) (bd : Band) (cs : List Int) (v : Int) : tkK N c ks bd (cs ++ [v]) = tkL N c ks [] ++ [.cells [.sl (cs.length + 1) (cs.map iv ++ [iv v]) (.opn (N + 4)),iv bd.min,iv bd.max] 35,.tail (cs.length + 1) 1 3]:=by simp [tkK]
structure KeysQ (c : Int) (ks : List Key) : Prop where
 key : ∀ y ∈ ks,(y.cuts.length : Int) = c /\ (∀ n ∈ y.cuts,0 <= n /\ n <= 3) /\ y.wear.Ok 2
theorem KeysQ.snoc {c : Int} {ks : List Key} (h : KeysQ c ks) {y : Key} (hc : (y.cuts.length : Int) = c) (hn : ∀ n ∈ y.cuts,0 <= n /\ n <= 3) (hb : y.wear.Ok 2) : KeysQ c (ks ++ [y]) where
 key:=fun z hz => by
  rcases List.mem_append.1 hz with hz | hz
  ·exact h.key z hz
  ·rw [List.mem_singleton.1 hz]; exact ⟨hc,hn,hb⟩
theorem zqv {Gf : TinS -> List AObj} {t N : Nat} (h : TinAt Gf t N) {τ : TinS} (hH : HOk (Gf τ)) (c : Int) (ks : List Key) (ls : List (List Band)) : HOk (Gf τ ++ tkL N c ks ls):=fun z hz => by
 rcases List.mem_append.1 hz with hz | hz
 ·exact (hH z hz).mono (by simp)
 ·simp only [tkL,List.mem_cons,List.not_mem_nil,or_false] at hz;have hl : (Gf τ ++ tkL N c ks ls).length = N + 3:=by simp [h.len,tkL]
  rw [hl];rcases hz with rfl | rfl | rfl
  ·intro a ha;simp only [List.mem_cons,List.not_mem_nil,or_false] at ha;rcases ha with rfl | rfl | rfl | rfl
   ·exact .val _
   ·rw [zrn]; omega
   ·rw [zrm]; omega
   ·simp [zbh]
  all_goals trivial
structure Arr (Gf : TinS -> List AObj) (N C R O : Nat) (F : AObj -> AObj -> AObj -> List AObj) : Prop where
 len : ∀ c r o,(F c r o).length = 3
 mem : ∀ c r o z,z ∈ F c r o <-> z = c \/ z = r \/ z = o
 lt : C < N + 6 /\ R < N + 6 /\ O < N + 6
 gC : ∀ τ x y z c r o L,(Gf τ ++ (x :: y :: z :: (F c r o ++ L)))[C]? = some c
 gR : ∀ τ x y z c r o L,(Gf τ ++ (x :: y :: z :: (F c r o ++ L)))[R]? = some r
 gO : ∀ τ x y z c r o L,(Gf τ ++ (x :: y :: z :: (F c r o ++ L)))[O]? = some o
 sC : ∀ τ x y z c r o L w,(Gf τ ++ (x :: y :: z :: (F c r o ++ L))).set C w = Gf τ ++ (x :: y :: z :: (F w r o ++ L))
 sR : ∀ τ x y z c r o L w,(Gf τ ++ (x :: y :: z :: (F c r o ++ L))).set R w = Gf τ ++ (x :: y :: z :: (F c w o ++ L))
 sO : ∀ τ x y z c r o L w,(Gf τ ++ (x :: y :: z :: (F c r o ++ L))).set O w = Gf τ ++ (x :: y :: z :: (F c r w ++ L))
 gL : ∀ τ x y z c r o L,(Gf τ ++ (x :: y :: z :: (F c r o ++ L)))[N + 6]? = L[0]?
 gM : ∀ τ x y z c r o L,(Gf τ ++ (x :: y :: z :: (F c r o ++ L)))[N + 7]? = L[1]?
 gK : ∀ τ x y z c r o L,(Gf τ ++ (x :: y :: z :: (F c r o ++ L)))[N + 8]? = L[2]?
 sL : ∀ τ x y z c r o L w,(Gf τ ++ (x :: y :: z :: (F c r o ++ L))).set (N + 6) w = Gf τ ++ (x :: y :: z :: (F c r o ++ L.set 0 w))
 sM : ∀ τ x y z c r o L w,(Gf τ ++ (x :: y :: z :: (F c r o ++ L))).set (N + 7) w = Gf τ ++ (x :: y :: z :: (F c r o ++ L.set 1 w))
 sK : ∀ τ x y z c r o L w,(Gf τ ++ (x :: y :: z :: (F c r o ++ L))).set (N + 8) w = Gf τ ++ (x :: y :: z :: (F c r o ++ L.set 2 w))
theorem arr1 {Gf : TinS -> List AObj} {t N : Nat} (h : TinAt Gf t N) : Arr Gf N (N + 3) (N + 4) (N + 5) fun c r o => [c,r,o] :=
 ⟨fun _ _ _ => rfl,fun _ _ _ _ => by simp,by omega,fun _ _ _ _ _ _ _ _ => h.hi 3 _ _,fun _ _ _ _ _ _ _ _ => h.hi 4 _ _,fun _ _ _ _ _ _ _ _ => h.hi 5 _ _,fun _ _ _ _ _ _ _ _ _ => h.ti 3 _ _ _,fun _ _ _ _ _ _ _ _ _ => h.ti 4 _ _ _,fun _ _ _ _ _ _ _ _ _ => h.ti 5 _ _ _,fun _ _ _ _ _ _ _ _ => h.hi 6 _ _,fun _ _ _ _ _ _ _ _ => h.hi 7 _ _,fun _ _ _ _ _ _ _ _ => h.hi 8 _ _,fun _ _ _ _ _ _ _ _ _ => h.ti 6 _ _ _,fun _ _ _ _ _ _ _ _ _ => h.ti 7 _ _ _,fun _ _ _ _ _ _ _ _ _ => h.ti 8 _ _ _⟩
theorem arr2 {Gf : TinS -> List AObj} {t N : Nat} (h : TinAt Gf t N) : Arr Gf N (N + 4) (N + 3) (N + 5) fun c r o => [r,c,o] :=
 ⟨fun _ _ _ => rfl,fun _ _ _ _ => by simp; constructor <;> (intro h; rcases h with h | h | h <;> simp [h]),by omega,fun _ _ _ _ _ _ _ _ => h.hi 4 _ _,fun _ _ _ _ _ _ _ _ => h.hi 3 _ _,fun _ _ _ _ _ _ _ _ => h.hi 5 _ _,fun _ _ _ _ _ _ _ _ _ => h.ti 4 _ _ _,fun _ _ _ _ _ _ _ _ _ => h.ti 3 _ _ _,fun _ _ _ _ _ _ _ _ _ => h.ti 5 _ _ _,fun _ _ _ _ _ _ _ _ => h.hi 6 _ _,fun _ _ _ _ _ _ _ _ => h.hi 7 _ _,fun _ _ _ _ _ _ _ _ => h.hi 8 _ _,fun _ _ _ _ _ _ _ _ _ => h.ti 6 _ _ _,fun _ _ _ _ _ _ _ _ _ => h.ti 7 _ _ _,fun _ _ _ _ _ _ _ _ _ => h.ti 8 _ _ _⟩
theorem arr3 {Gf : TinS -> List AObj} {t N : Nat} (h : TinAt Gf t N) : Arr Gf N (N + 5) (N + 3) (N + 4) fun c r o => [r,o,c] :=
 ⟨fun _ _ _ => rfl,fun _ _ _ _ => by simp; constructor <;> (intro h; rcases h with h | h | h <;> simp [h]),by omega,fun _ _ _ _ _ _ _ _ => h.hi 5 _ _,fun _ _ _ _ _ _ _ _ => h.hi 3 _ _,fun _ _ _ _ _ _ _ _ => h.hi 4 _ _,fun _ _ _ _ _ _ _ _ _ => h.ti 5 _ _ _,fun _ _ _ _ _ _ _ _ _ => h.ti 3 _ _ _,fun _ _ _ _ _ _ _ _ _ => h.ti 4 _ _ _,fun _ _ _ _ _ _ _ _ => h.hi 6 _ _,fun _ _ _ _ _ _ _ _ => h.hi 7 _ _,fun _ _ _ _ _ _ _ _ => h.hi 8 _ _,fun _ _ _ _ _ _ _ _ _ => h.ti 6 _ _ _,fun _ _ _ _ _ _ _ _ _ => h.ti 7 _ _ _,fun _ _ _ _ _ _ _ _ _ => h.ti 8 _ _ _⟩
theorem znq {T V : List (Nat × AV)} {H H' : List AObj} (hH : H = H') (hv : ∀ p ∈ V,∃ b,look T p.1 = some b /\ Wk b p.2) : (⟨T,H⟩ : AS).Sub ⟨V,H'⟩ :=
 ⟨fun t a e => hv (t,a) (zbB e),hH⟩
def tkO (Ob : AObj -> AObj -> AObj -> List AObj) (N R O : Nat) (c : Int) (ks : List Key) (ls : List (List Band)) (m n : Nat) (b : List Int) (rows : List (List Int)) : List AObj :=
 .cells [iv c,zlD ks,zli ls,zl1 []] 30 :: .tail ks.length 3 35 :: .tail ls.length 1 37 :: (Ob (.cells [iv n,iv 0,.sl rows.length (rows.map zh7) (.opn (N + 7)),.osl O 0 1 1] 40) (.cells (b.map iv) 3) (.cells [.osl R 0 n n] 22) ++ [.tail m 2 44,.tail rows.length 1 22])
theorem zoe (bs : List Int) : (zh7 bs).parts = some [zh7 bs]:=rfl
theorem zro (n m k : Nat) (bs : List (List Int)) : Lt n (.sl m (bs.map zh7) (.opn k)) = (k < n):=by
 rw [zdq];refine propext ⟨fun h => h.1,fun h => ⟨h,fun a ha => ?_⟩⟩;obtain ⟨x,_,rfl⟩:=List.mem_map.1 ha;rw [zbi]; trivial
theorem tkO_ok {Gf : TinS -> List AObj} {t N C R O : Nat} {Ob : AObj -> AObj -> AObj -> List AObj} (h : TinAt Gf t N) (hA : Arr Gf N C R O Ob) {τ : TinS} (hH : HOk (Gf τ)) (c : Int) (ks : List Key) (ls : List (List Band)) (m n : Nat) (b : List Int) (rows : List (List Int)) : HOk (Gf τ ++ tkO Ob N R O c ks ls m n b rows):=fun z hz => by
 have hl : (Gf τ ++ tkO Ob N R O c ks ls m n b rows).length = N + 8:=by simp [h.len,tkO,hA.len]
 rw [hl];obtain ⟨h1,h2,h3⟩:=hA.lt;rcases List.mem_append.1 hz with hz | hz
 ·exact (hH z hz).mono (by rw [h.len]; omega)
 ·simp only [tkO,List.mem_cons,List.mem_append,hA.mem,List.not_mem_nil,or_false] at hz;rcases hz with rfl | rfl | rfl | (rfl | rfl | rfl) | rfl | rfl
  ·intro a ha;simp only [List.mem_cons,List.not_mem_nil,or_false] at ha;rcases ha with rfl | rfl | rfl | rfl
   ·exact .val _
   ·rw [zc5]; trivial
   ·rw [zci]; trivial
   ·rw [zch]; trivial
  ·trivial
  ·trivial
  ·intro a ha;simp only [List.mem_cons,List.not_mem_nil,or_false] at ha;rcases ha with rfl | rfl | rfl | rfl
   ·exact .val _
   ·exact .val _
   ·rw [zro]; omega
   ·rw [zqB]; omega
  ·intro a ha;obtain ⟨x,_,rfl⟩:=List.mem_map.1 ha;exact .val _
  ·intro a ha;rw [List.mem_singleton.1 ha,zqB]; omega
  ·trivial
  ·trivial
structure TurnsP (n i : Nat) (us : List Turn) (b : List Int) : Prop where
 le : i <= n
 len : b.length = n
 key : ∀ u ∈ us,0 <= u.key /\ u.key < i
 nodup : (us.map (·.key)).Nodup
 many : us.length <= i
 told : ∀ k,k < i -> b.getD k 0 = zlS us k
theorem zom (us : List Turn) : (us.flatMap Turn.l).length = us.length * 2:=by
 induction us with
 | nil => rfl
 | cons b bs ih => rw [List.flatMap_cons,List.length_append,ih]; simp [Turn.l]; omega
theorem zoK (n : Nat) : zfA (Value.int .i64 0) n = (List.replicate n (0 : Int)).map iv:=by
 unfold zfA;refine List.ext_getElem (by simp) fun i h1 h2 => ?_;simp [iv,Value.cells,Nat.mod_one];rfl
theorem TurnsP.skip {n i : Nat} {us : List Turn} {b : List Int} (h : TurnsP n i us b) (hi : i < n) : TurnsP n (i + 1) us (b.set i (-1)) where
 le:=hi
 len:=by rw [List.length_set]; exact h.len
 key:=fun u hu => ⟨(h.key u hu).1,by have:=(h.key u hu).2; omega⟩
 nodup:=h.nodup
 many:=by have:=h.many; omega
 told:=fun k hk => by
  by_cases e : k = i
  ·subst e;have hn : us.find? (fun u => decide (u.key = (k : Int))) = none:=List.find?_eq_none.2 fun u hu => by
    have:=(h.key u hu).2;simp; omega
   unfold zlS;rw [hn,List.getD_eq_getElem?_getD,List.getElem?_set_self (by rw [h.len]; exact hi)]; rfl
  ·rw [List.getD_eq_getElem?_getD,List.getElem?_set_ne (Ne.symm e),<- List.getD_eq_getElem?_getD];exact h.told k (by omega)
theorem TurnsP.add {n i : Nat} {us : List Turn} {b : List Int} (h : TurnsP n i us b) (hi : i < n) (o : Bool) : TurnsP n (i + 1) (us ++ [⟨i,o⟩]) (b.set i (if o then 1 else 0)) where
 le:=hi
 len:=by rw [List.length_set]; exact h.len
 key:=fun u hu => by
  rcases List.mem_append.1 hu with hu | hu
  ·exact ⟨(h.key u hu).1,by have:=(h.key u hu).2; omega⟩
  ·rw [List.mem_singleton.1 hu]; exact ⟨by simp,by simp; omega⟩
 nodup:=by
  rw [List.map_append,List.nodup_append];refine ⟨h.nodup,by simp,fun a ha b hb e => ?_⟩;obtain ⟨u,hu,rfl⟩:=List.mem_map.1 ha;have:=(h.key u hu).2;simp at hb; omega
 many:=by have:=h.many; simp; omega
 told:=fun k hk => by
  by_cases e : k = i
  ·subst e;have hn : us.find? (fun u => decide (u.key = (k : Int))) = none:=List.find?_eq_none.2 fun u hu => by
    have:=(h.key u hu).2;simp; omega
   unfold zlS;rw [List.find?_append,hn,List.getD_eq_getElem?_getD,List.getElem?_set_self (by rw [h.len]; exact hi)];simp
  ·rw [List.getD_eq_getElem?_getD,List.getElem?_set_ne (Ne.symm e),<- List.getD_eq_getElem?_getD,h.told k (by omega)];unfold zlS;rw [List.find?_append];cases hf : us.find? (fun u => decide (u.key = (k : Int))) with
   | some u => rfl
   | none =>
    have : ([⟨i,o⟩] : List Turn).find? (fun u => decide (u.key = (k : Int))) = none:=(by simp; omega);rw [this]; rfl
theorem zrI {lv : Bool} {P : Program} {r : Option Nat} {nt : Nat} {ops : Array Oper} {s : AS} {Φ : AEx -> AS -> Prop} {Gf : TinS -> List AObj} {N : Nat} (st : Nat -> Nat -> Nat -> (AObj -> AObj -> AObj -> List AObj) -> AS) (rest : ∀ C R O F,Arr Gf N C R O F -> Φ .normal (st C R O F)) (h : (∀ C R O F,Arr Gf N C R O F -> Φ .normal (st C R O F)) -> DG lv P r nt ops ops s Φ) : DG lv P r nt ops ops s Φ:=h rest
theorem tinOk0 {nums : List Int} (h : nums.length <= 2 ^ 50) (s : Int) : (⟨nums,0,s⟩ : TinS).Ok 0:=⟨Int.le_refl _,Int.le_refl _,h⟩
section
variable {lv : Bool} {k kp : AV -> List AObj -> Prop} {H : List AObj}
theorem f3_c {nums : List Int} (hmain : H[0]? = some .main) (hn : nums.length <= 2 ^ 50) (hk : k (bv true) H) : FnC true Try.prog 3 H [zh7 nums] k kp:=by
 have hmn : ∀ L : List AObj,(H ++ L)[0]? = some .main:=fun L => zay hmain;refine zcC (rs:=[.tmp 2]) (nt:=188) Try.f3 fun hH hA => ?_;simp only [zf5,Nat.reduceAdd];refine zbA ?_;refine zbA ?_;refine zl6 ((f4_c ?_));(try simp only [seval]);have hT:=zjT H;have hto:=tinOk0 hn 7640891576956012809;obtain ⟨Gf,hGf⟩ : ∃ Gf : TinS -> List AObj,Gf = fun τ => H ++ [tinO τ]:=⟨_,rfl⟩;have eG : H ++ [tinO ⟨nums,0,7640891576956012809⟩] = Gf ⟨nums,0,7640891576956012809⟩:=by rw [hGf]
 have hmg : ∀ τ L,(Gf τ ++ L)[0]? = some .main:=fun τ L => by rw [hGf,List.append_assoc]; exact zay hmain
 have hHg : ∀ τ,HOk (Gf τ):=fun τ => by rw [hGf]; exact zc6 hH fun z hz n => by rw [List.mem_singleton.1 hz]; exact zoq _ _
 rw [eG];rw [<- hGf] at hT;obtain ⟨N,hN⟩ : ∃ N,N = H.length + 1:=⟨_,rfl⟩;rw [<- hN] at hT;generalize (⟨nums,0,7640891576956012809⟩ : TinS) = τ at hto ⊢;clear eG;refine zl5 ?_;simp only [seval,hT.am];refine zl6 ((f5_c hT hto (by omega) (by omega) (by omega) ?_));try simp only [seval,hT.am]
 (repeat apply zaa); refine zdw (id:=N) (j:=1) (sz:=3) (el':=35) (by simp only [seval,hT.am] <;> rfl) rfl ?_
 try simp only [seval,hT.am]
 (repeat apply zaa); refine zdw (id:=N) (j:=2) (sz:=1) (el':=37) (by simp only [seval,hT.am] <;> rfl) rfl ?_
 (try simp only [seval,hT.am]);have hc:=za1 τ (show (1 : Int) <= 3 by decide);generalize hcd : zma τ 1 3 = c at hc ⊢;have hto:=hto.tick;generalize tick τ = τ at hto ⊢;refine zl5 ?_;simp only [seval,hT.am];refine zl6 ((f5_c (hT.more _) hto (by omega) (by omega) (by omega) ?_));(try simp only [seval,hT.am]);have ht:=za1 τ (show (1 : Int) <= 4 by omega);generalize zma τ 1 4 = tot at ht ⊢;obtain ⟨tot,rfl⟩ : ∃ n : Nat,tot = n:=⟨tot.toNat,by omega⟩;have hto:=hto.tick;generalize tick τ = τ at hto ⊢;refine zdp ?_;refine za9 (measure fun m : List Key × TinS => tot - m.1.length).wf (fun m => [(5,iv ((tot : Int) - m.1.length))]) (fun m => Gf m.2 ++ tkL N c m.1 []) (fun m => KeysQ c m.1 /\ m.1.length <= tot /\ m.2.Ok (2 + 10 * m.1.length)) ([],τ) (fun _ _ => rfl) (by simp only [seval]; simp [zaf,Wk.refl]) rfl (fun _ _ => by simp [hT.len,tkL]) ⟨⟨by simp⟩,by simp,hto.mono (by simp)⟩ (fun hHs hLt m hok R hR => ?_);clear hHs hLt hto;obtain ⟨ks,τ'⟩:=m;obtain ⟨hkp,hkt,hto⟩:=hok;simp only at hkp hkt hto;refine zl5 ?_;simp only [seval,tkL,List.flatMap_nil,hT.am];refine zb4 ?_;refine ⟨fun h => ?_,fun h => ?_⟩
 ·have hlt : ks.length < tot:=by omega
  refine zca ?_;refine zl5 ?_;simp only [seval,hT.am];refine zl6 ((f6_c (hT.more _) hto (by omega) (by omega) (by omega) ?_));(try simp only [seval,Band.av,Band.l,hT.am]);have hbd:=zir τ' (show (0 : Int) <= 2 by decide);have hto3:=hto.tick.tick;generalize znI τ' 0 2 = bd at hbd ⊢;generalize tick (tick τ') = τ3 at hto3 ⊢;obtain ⟨hbd0,hbd1,hbd2⟩:=hbd
  (repeat apply zaa); refine zdw (id:=N + 3) (j:=0) (sz:=1) (el':=3) (by simp only [seval,hT.am] <;> rfl) rfl ?_
  (try simp only [seval,hT.am]);refine zl5 ?_;simp only [seval,hT.am];refine zdp ?_;refine za9 (measure fun m : List Int × TinS => c.toNat - m.1.length).wf (fun m => [(7,iv m.1.length)]) (fun m => Gf m.2 ++ tkK N c ks bd m.1) (fun m => m.1.length <= c.toNat /\ (∀ n ∈ m.1,0 <= n /\ n <= 3) /\ m.2.Ok (2 + 10 * ks.length + 2 + m.1.length)) ([],τ3) (fun _ _ => rfl) (by simp only [seval]; simp [zaf,Wk.refl]) (by simp [tkK,tkL]) (fun _ _ => by simp [hT.len,tkK,tkL]) ⟨by simp,by simp,hto3.mono (by simp; omega)⟩ (fun hHs2 hLt2 m2 hok2 R2 hR2 => ?_);clear hHs2 hLt2;obtain ⟨cs,τ''⟩:=m2;obtain ⟨hcl,hcb,hto2⟩:=hok2;simp only at hcl hcb hto2;refine zl5 ?_;simp only [seval,tkK,tkL,List.flatMap_nil,hT.am];refine zb4 ?_;refine ⟨fun h2 => ?_,fun h2 => ?_⟩
  ·have hw2 : IntKind.i64.wrap ((cs.length : Int) + 1) = cs.length + 1:=zau _ (by omega);have hv:=zaX τ'' 3;refine zca ?_;refine zdp ?_;refine znm [3,5,7] [0,1,2,3,4,5,6,7] [⟨0,false,[],[([3],[3])]⟩,⟨1,false,[],[([3],[3])]⟩,⟨2,false,[],[]⟩,⟨3,true,[3],[]⟩,⟨4,false,[3],[]⟩,⟨5,true,[3,5],[]⟩,⟨6,false,[3,5],[]⟩,⟨7,true,[3,5,7],[]⟩] (fun D => bif zjC 7 D then Gf (tick τ'') ++ (tkL N c ks [] ++ [.cells [.sl (cs.length + 1) (cs.map iv ++ [iv (zmD τ'' 3)]) (.opn (N + 4)),iv bd.min,iv bd.max] 35,.tail (cs.length + 1) 1 3]) else bif zjC 5 D then Gf (tick τ'') ++ (tkL N c ks [] ++ [.cells [.sl cs.length (cs.map iv) (.opn (N + 4)),iv bd.min,iv bd.max] 35,.tail (cs.length + 1) 1 3]) else bif zjC 3 D then Gf (tick τ'') ++ (tkL N c ks [] ++ [.cells [.sl cs.length (cs.map iv) (.opn (N + 4)),iv bd.min,iv bd.max] 35,.tail cs.length 1 3]) else Gf τ'' ++ (tkL N c ks [] ++ [.cells [.sl cs.length (cs.map iv) (.opn (N + 4)),iv bd.min,iv bd.max] 35,.tail cs.length 1 3])) ?_;simp only [seval,z1,zhq,tkL,List.flatMap_nil,hT.am];refine eCall _ _ (zme (f7_c (hT.more _) hto2 (by omega) (by omega) ⟨rfl,rfl⟩)) ?_;(try simp only [seval,z1,zhq,tkL,List.flatMap_nil,hT.am]);refine ⟨by omega,?_⟩;refine zl5 ?_;simp only [seval,hw2];refine hR2 _ ⟨(cs ++ [zmD τ'' 3],tick τ''),by show c.toNat - (cs ++ [_]).length < c.toNat - cs.length; simp; omega,⟨by simp; omega,fun n hn => ?_,hto2.tick.mono (by simp; omega)⟩,?_⟩
   ·rcases List.mem_append.1 hn with hn | hn
    ·exact hcb n hn
    ·rw [List.mem_singleton.1 hn]; exact ⟨hv.1,hv.2.elim id fun h => by rw [h]; decide⟩
   ·simp only [zoV,List.length_append];exact zfi
  ·have hcc : (cs.length : Int) = c:=(by omega);refine zdu ?_
   (repeat apply zaa); refine zm0 (id:=N + 3) (j:=0) (by simp only [seval,hT.am] <;> rfl) rfl (zaK _ _ _) ?_
   (try simp only [seval,hT.am]);have hw3 : IntKind.i64.wrap ((tot : Int) - ks.length - 1) = tot - (ks.length + 1):=(by rw [zau _ (by omega)]; omega);have hkl:=zpJ ks;refine zl5 ?_;simp only [seval,zk3,zd5,hkl,hT.am];refine ⟨by omega,?_⟩;refine zl5 ?_;simp only [seval,hw3];refine hR _ ⟨(ks ++ [⟨cs,bd⟩],τ''),by show tot - (ks ++ [_]).length < tot - ks.length; simp; omega,⟨hkp.snoc hcc hcb ⟨hbd0,hbd2,hbd1⟩,by simp; omega,hto2.mono (by simp; omega)⟩,?_⟩;refine zce [.cells [.sl cs.length (cs.map iv) .shut,iv bd.min,iv bd.max] 35,.tail cs.length 1 3] (zam rfl rfl) (by simp only [seval,List.length_append,List.map_append]; simp [zaf,Wk.refl]) (zqv hT (hHg _) _ _ _) (by simp [zap]) (by simp [tkL,Key.l,zh7])
 ·have hkn : 1 <= ks.length /\ ks.length <= 4:=by omega
  refine zdu ?_;refine zl5 ?_;simp only [seval,hT.am];refine zl6 ((f7_c (hT.more _) hto (by omega) (by omega) ?_));(try simp only [seval,hT.am]);have htl:=zaX τ' 4;generalize zmD τ' 4 = totl at htl ⊢;obtain ⟨totl,rfl⟩ : ∃ n : Nat,totl = n:=⟨totl.toNat,by omega⟩;have htl2 : totl <= 4:=by omega
  clear htl;have hto1:=hto.tick.mono (b':=100) (by omega);generalize tick τ' = τ4 at hto1 ⊢;refine zdp ?_;refine za9 (measure fun m : List (List Band) × TinS => totl - m.1.length).wf (fun m => [(8,iv ((totl : Int) - m.1.length))]) (fun m => Gf m.2 ++ tkL N c ks m.1) (fun m => (∀ l ∈ m.1,(l.length : Int) = c /\ ∀ b ∈ l,b.Ok 3) /\ m.1.length <= totl /\ m.2.Ok (100 + 20 * m.1.length)) ([],τ4) (fun _ _ => rfl) (by simp only [seval]; simp [zaf,Wk.refl]) (by simp [tkL]) (fun _ _ => by simp [hT.len,tkL]) ⟨by simp,by simp,hto1.mono (by simp)⟩ (fun hHs hLt m hok R2 hR2 => ?_);clear hHs hLt hR hto1 hto;obtain ⟨ls,τ5⟩:=m;obtain ⟨hlk,hlt,hto⟩:=hok;simp only at hlk hlt hto;refine zl5 ?_;simp only [seval,tkL,hT.am];refine zb4 ?_;refine ⟨fun h2 => ?_,fun h2 => ?_⟩
  ·have hllt : ls.length < totl:=(by omega);refine zca ?_;refine zbA ?_
   (repeat apply zaa); refine zbV (t:=9) (sz:=2) (el:=32) (by simp only [seval] <;> rfl) ?_
   (try simp only [seval,hT.am]);refine zbA ?_;refine zdp ?_;refine za9 (measure fun m : List Band × TinS => c.toNat - m.1.length).wf (fun m => [(9,.sl m.1.length (m.1.flatMap Band.l) (.opn (N + 3))),(10,iv m.1.length)]) (fun m => Gf m.2 ++ (tkL N c ks ls ++ [.tail m.1.length 2 32])) (fun m => m.1.length <= c.toNat /\ (∀ b ∈ m.1,b.Ok 3) /\ m.2.Ok (100 + 20 * ls.length + 2 * m.1.length)) ([],τ5) (fun _ _ => rfl) (by simp only [seval]; simp [zaf,Wk.refl]) (by simp [tkL]) (fun _ _ => by simp [hT.len,tkL]) ⟨by simp,by simp,hto.mono (by simp)⟩ (fun hHs2 hLt2 m2 hok2 R3 hR3 => ?_);clear hHs2 hLt2;obtain ⟨bs,τ6⟩:=m2;obtain ⟨hbl,hbb,hto2⟩:=hok2;simp only at hbl hbb hto2;refine zl5 ?_;simp only [seval,tkL,hT.am];refine zb4 ?_;refine ⟨fun h3 => ?_,fun h3 => ?_⟩
   ·have hw2 : IntKind.i64.wrap ((bs.length : Int) + 1) = bs.length + 1:=zau _ (by omega);have hbd:=zir τ6 (show (0 : Int) <= 3 by decide);have hbsl : (bs.flatMap Band.l).length = bs.length * 2:=zld bs;refine zca ?_;refine zl5 ?_;simp only [seval,hT.am];refine zl6 ((f6_c (hT.more _) hto2 (by omega) (by omega) (by omega) ?_));(try simp only [seval,Band.av,Band.l,zb2,zes,hbsl,hT.am]);refine ⟨by omega,?_⟩;refine zl5 ?_;simp only [seval,hw2];refine hR3 _ ⟨(bs ++ [znI τ6 0 3],tick (tick τ6)),by show c.toNat - (bs ++ [_]).length < c.toNat - bs.length; simp; omega,⟨by simp; omega,fun b hb => ?_,hto2.tick.tick.mono (by simp; omega)⟩,?_⟩
    ·rcases List.mem_append.1 hb with hb | hb
     ·exact hbb b hb
     ·rw [List.mem_singleton.1 hb]; exact ⟨hbd.1,hbd.2.2,hbd.2.1⟩
    ·simp only [tkL,List.length_append,List.flatMap_append];exact zax (zam rfl rfl) (by simp only [seval,Band.l,List.flatMap_cons,List.flatMap_nil]; simp [zaf,Wk.refl])
   ·have hcc : (bs.length : Int) = c:=(by omega);have hlw : IntKind.i64.wrap ((totl : Int) - ls.length - 1) = totl - (ls.length + 1):=(by rw [zau _ (by omega)]; omega);have hml : (ls.map zlw).length = ls.length:=List.length_map ..;have hzs1 : zfA (Value.slice none 0 0) 1 = [.sl 0 [] .exact]:=rfl;refine zdu ?_;(repeat apply zaa);refine znu (t:=9) (y:=zlw bs) rfl (WkH.of (zaK _ _ _)) ?_;refine zl5 ?_;simp only [seval,hzs1,zhq,hml,zho,hT.am];refine ⟨by omega,?_⟩;refine zl5 ?_;simp only [seval,hlw];refine hR2 _ ⟨(ls ++ [bs],τ6),by show totl - (ls ++ [_]).length < totl - ls.length; simp; omega,⟨fun l hl => ?_,by simp; omega,hto2.mono (by simp; omega)⟩,?_⟩
    ·rcases List.mem_append.1 hl with hl | hl
     ·exact hlk l hl
     ·rw [List.mem_singleton.1 hl]; exact ⟨hcc,hbb⟩
    ·refine zce [.tail bs.length 2 32] (zam rfl rfl) (by simp only [seval,List.length_append,List.map_append]; simp [zaf,Wk.refl]) (zqv hT (hHg _) _ _ _) (by simp [zap]) (by simp [tkL])
  ·have hll : ls.length <= 4:=(by omega);refine zdu ?_;have hzs1 : zfA (Value.slice none 0 0) 1 = [.sl 0 [] .exact]:=rfl;(repeat apply zaa);refine zoy [6,7,9,10] [0,1,2,3,4,5,6,7,8,9,10] F.mixed (by kernel_rfl) ?_;refine zrI (Gf:=Gf) (N:=N) (fun C R O Ob => ⟨[(11,.op C 0),(4,.op N 0),(3,.op H.length 0)],Gf τ5 ++ (.cells [iv c,.sl ks.length (ks.flatMap Key.l) (.opn (N + 1)),.sl ls.length (ls.map zlw) (.opn (N + 2)),.sl 0 [] .exact] 30 :: .tail ks.length 3 35 :: .tail ls.length 1 37 :: (Ob (.cells [iv ks.length,iv 0,.sl 0 [] .exact,.osl O 0 1 1] 40) (.cells (zfA (.int .i64 0) ks.length) 3) (.cells [.osl R 0 ks.length ks.length] 22) ++ []))⟩) (fun C R O Ob hA => ?_) (fun rest => ?_)
   ·(try simp only [seval]);refine zbA ?_
    (repeat apply zaa); refine zbV (t:=12) (sz:=2) (el:=44) (by simp only [seval] <;> rfl) ?_
    have hl6 : ∀ x y z c r o,(Gf τ5 ++ (x :: y :: z :: (Ob c r o ++ []))).length = N + 6:=fun x y z c r o => (by simp [hT.len,hA.len]);(try simp only [seval,hT.len,hA.len,List.length_append]);refine zl5 ?_;simp only [seval,zoK];refine zdp ?_;refine za9 (measure fun m : Nat × List Turn × List Int × TinS => ks.length - m.1).wf (fun m => [(12,.sl m.2.1.length (m.2.1.flatMap Turn.l) (.opn (N + 6))),(13,iv m.1)]) (fun m => Gf m.2.2.2 ++ (.cells [iv c,.sl ks.length (ks.flatMap Key.l) (.opn (N + 1)),.sl ls.length (ls.map zlw) (.opn (N + 2)),.sl 0 [] .exact] 30 :: .tail ks.length 3 35 :: .tail ls.length 1 37 :: (Ob (.cells [iv ks.length,iv 0,.sl 0 [] .exact,.osl O 0 1 1] 40) (.cells (m.2.2.1.map iv) 3) (.cells [.osl R 0 ks.length ks.length] 22) ++ [.tail m.2.1.length 2 44]))) (fun m => TurnsP ks.length m.1 m.2.1 m.2.2.1 /\ m.2.2.2.Ok (300 + 10 * m.1)) (0,[],List.replicate ks.length 0,τ5) (fun _ _ => rfl) (by simp only [seval]; simp [zaf,Wk.refl]) rfl (fun _ _ => by simp [hT.len,hA.len]) ⟨⟨Nat.zero_le _,by simp,by simp,by simp,Nat.le_refl _,fun _ h => absurd h (by omega)⟩,hto.mono (by simp; omega)⟩ (fun hHs hLt m hok R3 hR3 => ?_);clear hLt;obtain ⟨i,us,b,τ6⟩:=m;obtain ⟨htp,hto⟩:=hok;simp only at htp hto;refine zl5 ?_;simp only [seval,hT.am];refine zb4 ?_;refine ⟨fun h3 => ?_,fun h3 => ?_⟩
    ·have hik : i < ks.length:=(by omega);have hbl:=htp.len;have hib : (0 <= (i : Int) /\ (i : Int) < ks.length) = True:=zaz hik;refine zca ?_;refine zl5 ?_;simp only [seval,hA.gC,hA.gR,hA.gO,hA.sR,hib,zfv (show i < b.length by omega),hT.am];refine ⟨by omega,?_⟩;refine zl5 ?_;simp only [seval,hT.am];refine zl6 ((f8_c (hT.more _) hto (by omega) (by omega) ?_));(try simp only [seval,hT.am]);have hto7:=hto.tick;generalize hr7 : znQ τ6 3 = r7;generalize tick τ6 = τ7 at hto7 ⊢;have hi1 : IntKind.i64.wrap ((i : Int) + 1) = ((i + 1 : Nat) : Int):=(by rw [zau _ (by omega)]; rfl);refine zb4 ?_;refine ⟨fun h4 => ?_,fun h4 => ?_⟩
     ·refine zdu ?_;refine zl5 ?_;simp only [seval,hi1];refine hR3 _ ⟨(i + 1,us,b.set i (-1),τ7),by show ks.length - (i + 1) < ks.length - i; omega,⟨htp.skip hik,hto7.mono (by show (300 + 10 * i + 1 : Int) <= 300 + 10 * ((i + 1 : Nat) : Int); omega)⟩,?_⟩;exact zfi
     ·refine zca ?_;refine zl5 ?_;simp only [seval,hT.am];refine zl6 ((f8_c (hT.more _) hto7 (by omega) (by omega) ?_));(try simp only [seval,hT.am]);have hto8:=hto7.tick;generalize znQ τ7 2 = op;generalize tick τ7 = τ8 at hto8 ⊢;have hul:=htp.many;have husl : (us.flatMap Turn.l).length = us.length * 2:=zom us;have hb2 : i < (b.set i (-1)).length:=(by rw [List.length_set]; omega);have hb3 : i < (b.set i 0).length:=(by rw [List.length_set]; omega);refine zl5 ?_;simp only [seval,zu2,zes,husl,hA.gL,hA.sL,hT.am];refine ⟨by omega,?_⟩;refine zl5 ?_;simp only [seval,hA.gC,hA.gR,hA.gO,hA.sR,hib,zfv hb2,List.set_set,hT.am];refine ⟨by omega,?_⟩;refine zbA ?_;refine zb4 ?_;refine ⟨fun h5 => ?_,fun h5 => ?_⟩
      ·subst h5;refine zl5 ?_;simp only [seval,hA.gC,hA.gR,hA.gO,hA.sR,hib,zfv hb3,List.set_set,hT.am];refine ⟨by omega,?_⟩;refine zl5 ?_;simp only [seval,hi1];refine hR3 _ ⟨(i + 1,us ++ [⟨i,true⟩],b.set i 1,τ8),by show ks.length - (i + 1) < ks.length - i; omega,⟨htp.add hik true,hto8.mono (by show (300 + 10 * i + 1 + 1 : Int) <= 300 + 10 * ((i + 1 : Nat) : Int); omega)⟩,?_⟩;simp only [List.length_append,List.flatMap_append];exact zax (zam rfl rfl) (by simp only [seval,Turn.l,List.flatMap_cons,List.flatMap_nil]; simp [zaf,Wk.refl])
      ·subst h5;refine zca ?_;refine zl5 ?_;simp only [seval,hi1];refine hR3 _ ⟨(i + 1,us ++ [⟨i,false⟩],b.set i 0,τ8),by show ks.length - (i + 1) < ks.length - i; omega,⟨htp.add hik false,hto8.mono (by show (300 + 10 * i + 1 + 1 : Int) <= 300 + 10 * ((i + 1 : Nat) : Int); omega)⟩,?_⟩;simp only [List.length_append,List.flatMap_append];exact zax (zam rfl rfl) (by simp only [seval,Turn.l,List.flatMap_cons,List.flatMap_nil]; simp [zaf,Wk.refl])
    ·refine zdu ?_;have hin : i = ks.length:=(by have:=htp.le; omega);subst hin;clear hHs h3 hR3;have hx : (Ring.mk c ks ls []).Ok:=⟨⟨by show 1 <= c; omega,by show c <= 4; omega⟩,hkn.2,hkp.key,hll,hlk,by simp,by simp⟩;have hxs:=hx.small;obtain ⟨x,hxe⟩ : ∃ x : Ring,x = ⟨c,ks,ls,[]⟩:=⟨_,rfl⟩;rw [<- hxe] at hx hxs;have hxt : x.tries = []:=by rw [hxe]
     (repeat apply zaa); refine znu (t:=12) (y:=zjx us) rfl (WkH.of (zaK _ _ _)) ?_
     (repeat apply zaa); refine zm0 (id:=N) (j:=1) (y:=zlD ks) (by simp only [seval,hT.am] <;> rfl) rfl (zaK _ _ _) ?_
     try simp only [seval,hT.am]
     (repeat apply zaa); refine zm0 (id:=N) (j:=2) (y:=zli ls) (by simp only [seval,hT.am] <;> rfl) rfl (zaK _ _ _) ?_
     try simp only [seval,hT.am]
     (repeat apply zaa); refine zm0 (id:=N) (j:=3) (y:=zl1 []) (by simp only [seval,hT.am] <;> rfl) rfl (zaK _ _ _) ?_
     (try simp only [seval,hT.am]);refine zbA ?_
     (repeat apply zaa); refine zdw (id:=C) (j:=2) (sz:=1) (el':=22) (by simp only [seval,hA.gC] <;> rfl) rfl ?_
     (try simp only [seval,hA.sC,hA.len,hT.len]);have hav : AV.agg [iv c,zlD ks,zli ls,zl1 []] = x.av:=(by rw [hxe]; rfl);have hxk : x.keys.length = ks.length:=(by rw [hxe]);have hxl : x.locks.length = ls.length:=(by rw [hxe]);simp only [iv] at hav;have hav2:=hav;simp only [zlD] at hav2;refine zdp ?_;refine za9 (measure fun m : Nat => ls.length - m).wf (fun m => [(15,iv m)]) (fun m => Gf τ6 ++ tkO Ob N R O c ks ls us.length ks.length b (zgy x m)) (fun m => m <= ls.length) 0 (fun _ _ => rfl) (by simp only [seval]; simp [zaf,Wk.refl]) rfl (fun _ _ => by simp [hT.len,hA.len,tkO]) (Nat.zero_le _) (fun hHs hLt m hok R4 hR4 => ?_);clear hHs hLt;refine zl5 ?_;simp only [seval,tkO,zli,hT.am];refine zb4 ?_;refine ⟨fun h6 => ?_,fun h6 => ?_⟩
     ·have hml : m < ls.length:=(by omega);refine zca ?_;refine zbA ?_
      (repeat apply zaa); refine zbV (t:=16) (sz:=1) (el:=3) (by simp only [seval] <;> rfl) ?_
      (try simp only [seval,hT.len,hA.len,List.length_append]);refine zbA ?_;refine zdp ?_;refine za9 (measure fun m : Nat => ks.length - m).wf (fun k => [(16,.sl k ((zjh x m k).map iv) (.opn (N + 8))),(17,iv k)]) (fun k => Gf τ6 ++ (tkO Ob N R O c ks ls us.length ks.length b (zgy x m) ++ [.tail k 1 3])) (fun k => k <= ks.length) 0 (fun _ _ => rfl) (by simp only [show zjh x m 0 = [] from rfl]; simp only [seval]; simp [zaf,Wk.refl]) (by simp [tkO,zjh,zli]) (fun _ _ => by simp [hT.len,hA.len,tkO]) (Nat.zero_le _) (fun hHs2 hLt2 k hok2 R5 hR5 => ?_);clear hHs2 hLt2;have hklen : ((zjh x m k).map iv).length = k:=(by rw [List.length_map,zmx]);refine zl5 ?_;simp only [seval,tkO,zlD,List.append_assoc,hT.am];refine zb4 ?_;refine ⟨fun h7 => ?_,fun h7 => ?_⟩
      ·have hkl : k < ks.length:=(by omega);have hk1 : IntKind.i64.wrap ((k : Int) + 1) = ((k + 1 : Nat) : Int):=(by rw [zau _ (by omega)]; rfl);refine zca ?_;refine zl5 ?_;simp only [seval,hav2,hT.am];refine zl6 ((f9_c (x:=x) zaQ (hmg _ _) hxs (fun h => absurd (zof hx hxt (by omega) (by omega)) h) (fun _ => ?_)));have hkn2 : zlG x m k = verK (zlE (cntM x k m (zdt x [])) (zdt x []).length):=rfl;(try simp only [seval]);generalize zlE (cntM x k m (zdt x [])) (zdt x []).length = vd at hkn2 ⊢;refine zbA ?_;refine zb4 ?_;refine zca ?_;refine zbA ?_;refine zbA ?_;refine zb4 ?_;refine ⟨fun h8 => ?_,fun h8 => ?_⟩
       ·have hkv : zlG x m k = 1:=(by rw [hkn2]; unfold verK; rw [if_pos h8]);refine zbA ?_;refine zl5 ?_;simp only [seval,zr1,zhq,hklen,hA.gK,hA.sK];refine ⟨by omega,?_⟩;refine zl5 ?_;simp only [seval,hk1];refine hR5 _ ⟨k + 1,by show ks.length - (k + 1) < ks.length - k; omega,by show k + 1 <= ks.length; omega,?_⟩;simp only [tkO,zlD,zmn,hkv,List.map_append,List.cons_append,List.append_assoc,List.nil_append];exact zfi
       ·have h8' : ¬ vd = 1:=(by simpa using h8);refine zbA ?_;refine zb4 ?_;refine ⟨fun h9 => ?_,fun h9 => ?_⟩
        ·have hkv : zlG x m k = 0:=(by rw [hkn2]; unfold verK; rw [if_neg h8',if_pos h9]);refine zbA ?_;refine zl5 ?_;simp only [seval,zr1,zhq,hklen,hA.gK,hA.sK];refine ⟨by omega,?_⟩;refine zl5 ?_;simp only [seval,hk1];refine hR5 _ ⟨k + 1,by show ks.length - (k + 1) < ks.length - k; omega,by show k + 1 <= ks.length; omega,?_⟩;simp only [tkO,zlD,zmn,hkv,List.map_append,List.cons_append,List.append_assoc,List.nil_append];exact zfi
        ·have hkv : zlG x m k = -1:=(by rw [hkn2]; unfold verK; rw [if_neg h8',if_neg (by simpa using h9)]);refine zca ?_;refine zl5 ?_;simp only [seval,zr1,zhq,hklen,hA.gK,hA.sK];refine ⟨by omega,?_⟩;refine zl5 ?_;simp only [seval,hk1];refine hR5 _ ⟨k + 1,by show ks.length - (k + 1) < ks.length - k; omega,by show k + 1 <= ks.length; omega,?_⟩;simp only [tkO,zlD,zmn,hkv,List.map_append,List.cons_append,List.append_assoc,List.nil_append];exact zfi
      ·have hkk : k = ks.length:=(by omega);subst hkk;refine zdu ?_;have hm1 : IntKind.i64.wrap ((m : Int) + 1) = ((m + 1 : Nat) : Int):=(by rw [zau _ (by omega)]; rfl);have hrl : ((zgy x m).map zh7).length = (zgy x m).length:=List.length_map ..;have hwk : Wk (.sl ks.length ((zjh x m ks.length).map iv) (.opn (N + 8))) (zh7 (zjh x m ks.length)):=by
        unfold zh7;rw [zmx]; exact zaK _ _ _
       (repeat apply zaa); refine znu (t:=16) (y:=zh7 (zjh x m ks.length)) rfl (WkH.of hwk) ?_
       refine zl5 ?_;simp only [seval,hzs1,zhq,hrl,zoe,hA.gC,hA.sC,hA.gM,hA.sM];refine ⟨by rw [zmc]; omega,?_⟩;refine zl5 ?_;simp only [seval,hm1];refine hR4 _ ⟨m + 1,by show ls.length - (m + 1) < ls.length - m; omega,by show m + 1 <= ls.length; omega,?_⟩;refine zce [.tail ks.length 1 3] (zam rfl rfl) (by simp only [seval]; simp [zaf,Wk.refl]) (tkO_ok hT hA (hHg _) _ _ _ _ _ _ _) (by simp [zap]) (by simp [tkO,zm8,hxk,List.length_append,zlD])
     ·have hmm : m = ls.length:=(by omega);subst hmm;refine zdu ?_;have hbl:=htp.len;have h6u : us.length <= 6:=(by have:=htp.many; omega);have hav3:=hav;simp only [zli] at hav3;have hbo : ∀ v ∈ b,-1 <= v /\ v <= 2:=fun v hv => by
       obtain ⟨i,hi,e⟩:=List.mem_iff_getElem.1 hv;have:=htp.told i (by omega);rw [List.getD_eq_getElem?_getD,List.getElem?_eq_getElem hi,e] at this;have h9:=zon us i;simp only [Option.getD_some] at this;omega
      have hcok : (Clm.mk ks.length 0 (zgy x ls.length) [b]).Ok:=⟨by show 1 <= (ks.length : Int) /\ (ks.length : Int) <= 4; omega,by show (0 : Int) <= 0 /\ (0 : Int) <= 2; decide,by have:=zpI hx ls.length (by omega); rwa [hxk] at this,⟨by show 1 <= 4; decide,fun r hr => by rw [List.mem_singleton.1 hr]; exact ⟨by show (b.length : Int) = ks.length; omega,hbo⟩⟩⟩;have hlaw:=zpK hx hxt (us:=us) (b:=b) (by rw [hxk]; exact htp.key) htp.nodup (by rw [hxk]; exact htp.told) [b];rw [hxk,hxl] at hlaw;refine zl5 ?_;simp only [seval,hav3,hT.am];refine zl6 ((f10_c (x:=x) zaQ (hmg _ _) hxs (by omega) (fun h => absurd (zn6 hx hxt h6u (by rw [hxk]; exact htp.key)) h) (fun _ => ?_)));try simp only [seval]
      (repeat apply zaa); refine zm1 (id:=R) (by simp only [seval,hA.gR] <;> rfl) ?_
      try simp only [seval,hA.sR]
      (repeat apply zaa); refine zn1 (id:=O) (j:=0) (y:=zh7 b) (by simp only [seval,hA.gO] <;> rfl) rfl ?_ ?_
      ·have e : zh7 b = .sl ks.length ((b.map iv).take b.length) .shut:=by
        unfold zh7;rw [List.take_of_length_le (by simp),hbl]
       rw [e];exact zoi (p:=b.length) (el:=3) (by simp only [seval,hA.gR] <;> rfl) (Nat.le_refl _) (by simp)
      try simp only [seval,hA.sO]
      (repeat apply zaa); refine zm1 (id:=O) (by simp only [seval,hA.gO] <;> rfl) ?_
      try simp only [seval,hA.sO]
      (repeat apply zaa); refine zm0 (id:=C) (j:=2) (y:=zlX (zgy x ls.length)) (by simp only [seval,hA.gC] <;> rfl) rfl (zaK _ _ _) ?_
      try simp only [seval,hA.sC]
      (repeat apply zaa); refine zn1 (id:=C) (j:=3) (y:=zlX [b]) (by simp only [seval,hA.gC] <;> rfl) rfl ?_ ?_
      ·show WkH _ _ (.sl 1 (List.take 1 [zh7 b]) .shut);exact zoi (p:=1) (el:=22) (by simp only [seval,hA.gO] <;> rfl) (Nat.le_refl _) (by simp)
      (try simp only [seval,hA.sC]);have hcv : AV.agg [iv ks.length,iv 0,zlX (zgy x ls.length),zlX [b]] = (Clm.mk ks.length 0 (zgy x ls.length) [b]).av:=rfl;simp only [iv] at hcv;refine zl5 ?_;simp only [seval,hA.gC,hcv];refine zl6 ((f11_c (c:=⟨ks.length,0,zgy x ls.length,[b]⟩) (n:=0) (b:=b) hcok rfl ?_));rw [hlaw];(try simp only [seval]);refine zl5 ?_;simp only [seval,beq_self_eq_true];have hwl : (znd x us).length < 2 ^ 60:=by
       have:=ziB x us x.locks.length;unfold znd; omega
      refine zl6 (?_); refine f12_same hwl ?_;(try simp only [seval]);refine zl6 ((f13_c (hmg _ _) ?_));(try simp only [seval]);refine zcw ?_;rw [hGf,List.append_assoc];exact endA hH (Wk.refl _) (by simp [zap,bv]) hk
   refine znZ 6 9 rfl ?_ (znZ 7 9 rfl ?_ ?_)
   ·refine znT (.add .base 6 9) [9,6,7,10] [0,1,2,3,4,5,9,6,7,8,10] [⟨0,false,[],[([9],[9]),([9,6],[9,6]),([9,6,7],[9,6,7])]⟩,⟨1,false,[],[([9],[9]),([9,6],[9,6]),([9,6,7],[9,6,7])]⟩,⟨2,false,[],[([9],[9]),([9,6],[9,6]),([9,6,7],[9,6,7])]⟩,⟨3,false,[],[([9],[9])]⟩,⟨4,false,[],[([9],[9])]⟩,⟨5,false,[],[([9],[9])]⟩,⟨9,true,[9],[]⟩,⟨6,true,[9,6],[]⟩,⟨7,true,[9,6,7],[]⟩,⟨8,false,[9,6,7],[]⟩,⟨10,true,[9,6,7,10],[]⟩] (fun D => bif zjC 10 D then Gf τ5 ++ tkL N c ks ls ++ [.cells [iv ks.length,iv 0,.sl 0 [] .exact,.osl (N + 5) 0 1 1] 40,.cells (zfA (.int .i64 0) ks.length) 3,.cells [.osl (N + 4) 0 ks.length ks.length] 22] else bif zjC 7 D then Gf τ5 ++ tkL N c ks ls ++ [.cells [iv 0,iv 0,.sl 0 [] .exact,.sl 0 [] .exact] 40,.cells (zfA (.int .i64 0) ks.length) 3,.cells [.osl (N + 4) 0 ks.length ks.length] 22] else bif zjC 6 D then Gf τ5 ++ tkL N c ks ls ++ [.cells [iv 0,iv 0,.sl 0 [] .exact,.sl 0 [] .exact] 40,.cells (zfA (.int .i64 0) ks.length) 3] else bif zjC 9 D then Gf τ5 ++ tkL N c ks ls ++ [.cells [iv 0,iv 0,.sl 0 [] .exact,.sl 0 [] .exact] 40] else Gf τ5 ++ tkL N c ks ls) (by kernel_rfl) (by kernel_rfl) (by first | rfl | simp only [seval]) ?_;(try simp only [seval,hzs1,zhq,tkL,hT.am]);exact ⟨by omega,by omega,ziu (znq rfl (by simp only [seval]; simp [zaf,Wk.refl])) (rest _ _ _ _ (arr1 hT))⟩
   ·refine znT (.add (.add .base 9 6) 7 9) [6,9,7,10] [0,1,2,3,4,5,6,9,7,8,10] [⟨0,false,[],[([6],[6]),([6,9],[6,9]),([6,9,7],[6,9,7])]⟩,⟨1,false,[],[([6],[6]),([6,9],[6,9]),([6,9,7],[6,9,7])]⟩,⟨2,false,[],[([6],[6]),([6,9],[6,9]),([6,9,7],[6,9,7])]⟩,⟨3,false,[],[]⟩,⟨4,false,[],[]⟩,⟨5,false,[],[]⟩,⟨6,true,[6],[]⟩,⟨9,true,[6,9],[]⟩,⟨7,true,[6,9,7],[]⟩,⟨8,false,[6,9,7],[]⟩,⟨10,true,[6,9,7,10],[]⟩] (fun D => bif zjC 10 D then Gf τ5 ++ tkL N c ks ls ++ [.cells (zfA (.int .i64 0) ks.length) 3,.cells [iv ks.length,iv 0,.sl 0 [] .exact,.osl (N + 5) 0 1 1] 40,.cells [.osl (N + 3) 0 ks.length ks.length] 22] else bif zjC 7 D then Gf τ5 ++ tkL N c ks ls ++ [.cells (zfA (.int .i64 0) ks.length) 3,.cells [iv 0,iv 0,.sl 0 [] .exact,.sl 0 [] .exact] 40,.cells [.osl (N + 3) 0 ks.length ks.length] 22] else bif zjC 9 D then Gf τ5 ++ tkL N c ks ls ++ [.cells (zfA (.int .i64 0) ks.length) 3,.cells [iv 0,iv 0,.sl 0 [] .exact,.sl 0 [] .exact] 40] else bif zjC 6 D then Gf τ5 ++ tkL N c ks ls ++ [.cells (zfA (.int .i64 0) ks.length) 3] else Gf τ5 ++ tkL N c ks ls) (by kernel_rfl) (by kernel_rfl) (by first | rfl | simp only [seval]) ?_;(try simp only [seval,hzs1,zhq,tkL,hT.am]);exact ⟨by omega,by omega,ziu (znq rfl (by simp only [seval]; simp [zaf,Wk.refl])) (rest _ _ _ _ (arr2 hT))⟩
   ·refine znT (.add (.add .base 9 6) 9 7) [6,7,9,10] [0,1,2,3,4,5,6,7,8,9,10] [⟨0,false,[],[([6],[6]),([6,7],[6,7]),([6,7,9],[6,7,9])]⟩,⟨1,false,[],[([6],[6]),([6,7],[6,7]),([6,7,9],[6,7,9])]⟩,⟨2,false,[],[([6],[6]),([6,7],[6,7]),([6,7,9],[6,7,9])]⟩,⟨3,false,[],[]⟩,⟨4,false,[],[]⟩,⟨5,false,[],[]⟩,⟨6,true,[6],[]⟩,⟨7,true,[6,7],[]⟩,⟨8,false,[6,7],[([6,7,9],[6,7,9])]⟩,⟨9,true,[6,7,9],[]⟩,⟨10,true,[6,7,9,10],[]⟩] (fun D => bif zjC 10 D then Gf τ5 ++ tkL N c ks ls ++ [.cells (zfA (.int .i64 0) ks.length) 3,.cells [.osl (N + 3) 0 ks.length ks.length] 22,.cells [iv ks.length,iv 0,.sl 0 [] .exact,.osl (N + 4) 0 1 1] 40] else bif zjC 9 D then Gf τ5 ++ tkL N c ks ls ++ [.cells (zfA (.int .i64 0) ks.length) 3,.cells [.osl (N + 3) 0 ks.length ks.length] 22,.cells [iv 0,iv 0,.sl 0 [] .exact,.sl 0 [] .exact] 40] else bif zjC 7 D then Gf τ5 ++ tkL N c ks ls ++ [.cells (zfA (.int .i64 0) ks.length) 3,.cells [.osl (N + 3) 0 ks.length ks.length] 22] else bif zjC 6 D then Gf τ5 ++ tkL N c ks ls ++ [.cells (zfA (.int .i64 0) ks.length) 3] else Gf τ5 ++ tkL N c ks ls) (by kernel_rfl) (by kernel_rfl) (by first | rfl | simp only [seval]) ?_;(try simp only [seval,hzs1,zhq,tkL,hT.am]);exact ⟨by omega,by omega,ziu (znq rfl (by simp only [seval]; simp [zaf,Wk.refl])) (rest _ _ _ _ (arr3 hT))⟩
end
open Go.ChangeShapes Go.WideShapes Go.ChangeAt Go.RowKit
def zol (W : World) : View:=⟨fun b o => W.cell? ⟨b,o,none⟩,fun _ => none,0,.plain⟩
def env0 (W : World) : Env:=⟨(zol W).imm,1,fun _ => 0,fun _ _ => (none,0),fun _ => 0,fun _ => none,true⟩
theorem sat0 (W : World) : Sat (zol W) W:=⟨fun _ _ _ h => h,fun _ _ h => by cases h⟩
theorem conc0 (W : World) : Conc (env0 W) (zol W) [.main] where
 I:=rfl
 n:=rfl
 obj:=fun k x h => by
  match k,h with
  | 0,h => cases h; exact rfl
  | k + 1,h => cases h
 inj:=fun i j x y b hi hj h1 h2 => by
  match i,hi with
  | 0,hi => cases hi; cases h1
  | i + 1,hi => cases hi
 group:=fun g h => by cases h
 chan:=fun c h => by cases h
 top:=fun _ => ⟨rfl,rfl⟩
 fr:=fun b y h => by cases h
theorem zjf {f : FuncId} {W : World} {args : Array Value} {avs : List AV} {Q : Value -> Prop} (hi : Try.prog.inits.idxOf? f = none) (hd : Denl (env0 W) avs args) (h : FnC true Try.prog f [.main] avs (fun a _ => ∀ E v,Den E a v -> Q v) (fun _ _ => False)) :
  ∃ M last o w' t',runNT Try.prog (M + 1) (solo (G (Frame.enter Try.prog f args .normal) []) W) #[] = (.ended o w',t') /\ runN Try.prog M (solo (G (Frame.enter Try.prog f args .normal) []) W) = .next last /\ step Try.prog last = .ended o w' /\ Conc.Good Try.prog (fun v w => Q v /\ Left W.heap.size W w) last o w' t' :=
 zgE hi (V:=zol W) rfl rfl rfl (sat0 W) (h (env0 W) (zol W) args (conc0 W) hd) fun o V' r => by
  cases o with
  | ret v =>
   obtain ⟨av,E',H',_,hro,_,hden,_,hk⟩:=r;exact ⟨hro,v,rfl,fun w _ hl => ⟨hk _ _ hden,hl⟩⟩
  | panic ch =>
   obtain ⟨pv,v,E',H',_,_,_,_,_,_,hf⟩:=r;exact hf.elim
theorem zkY {W : World} {b o len cap : Nat} {zs : List Int} (hl : zs.length = len) (hc : len <= cap) (h : ∀ i,i < len -> W.cell? ⟨b,o + i,none⟩ = some (.int .i64 (zs.getD i 0))) : Den (env0 W) (zh7 zs) (.slice (some ⟨b,o,none⟩) len cap):=by
 subst hl;refine .sl b o cap (fun i => .int .i64 (zs.getD i 0)) hc trivial (fun i hi => ?_) (fun i x hx => ?_)
 ·exact h i (by simpa using hi)
 ·rw [List.getElem?_map] at hx;obtain ⟨z,hz,rfl⟩:=Option.map_eq_some_iff.1 hx;rw [List.getD_eq_getElem?_getD,hz];exact .val _
theorem Left.below {W w : World} (h : Left W.heap.size W w) : Below W.heap.size W w:=⟨h.os,h.tape,h.out,h.size,h.old⟩
theorem Tz.own : ownKnob Try.prog.godebug = none:=by kernel_rfl
theorem Tz.laidOut : laidOutB Try.prog = true:=by kernel_rfl
theorem Tz.u22 : Try.prog.underlying 22 = some (.slice 3):=by kernel_rfl
theorem Tz.u3 : Try.prog.underlying 3 = some (.int .i64):=by kernel_rfl
theorem Tz.u4 : Try.prog.underlying 4 = some .bool:=by kernel_rfl
theorem Tz.c3 : Try.prog.cellsOf 3 = 1:=by kernel_rfl
theorem Tz.b3 : Try.prog.bytesOf 3 = 8:=by kernel_rfl
theorem Tz.r22 : Try.prog.readableRec 22 = true:=by kernel_rfl
theorem Tz.l22 : 22 < Try.prog.types.size:=of_decide_eq_true (by kernel_rfl)
def zr5 (f : FuncId) : Prop:=∀ nums : List Int,nums.length <= 2 ^ 50 -> FnC true Try.prog f [.main] [zh7 nums] (fun a _ => a = bv true) (fun _ _ => False)
set_option maxRecDepth 100000 in
theorem zhC {f : FuncId} {fn : Func} {s : ChangeSpec} (hf : Try.prog.funcs[f]? = some fn) (hp : fn.params = #[22]) (hr : fn.resultTypes = #[4]) (hv : s.vars = []) (hs : ∀ (H : Type) (d : DataW H),s.fn H [d] = { results:=[.lit (.bool true)],args:=[d] }) (hi : Try.prog.inits.idxOf? f = none) (hlaw : zr5 f)
  (os : Os) (started : os.Started) (H : Type) (enc : TypeId × Value -> H)
  (hwit : ∃ (w : World) (tape : Tape) (i : Input),w.os = os /\ (w.forCall tape i).Shaped Try.checked.prog /\ i.vars = [] /\ Input.okWide Try.checked.prog (w.forCall tape i) .any w.heap.size f i /\
   s.pre6 enc Try.checked.prog fn [] false (w.forCall tape i).memory i.args /\ ({} : Assume).holds Try.checked.prog (lone (Frame.enter Try.checked.prog f i.args .normal) [] (w.forCall tape i))) :
  ReturnsInLeavingWide {} Try.checked os f .any (s.pre6 enc Try.prog fn [] false) (s.post enc Try.prog fn false true false false):=by
 refine returnsInLeavingWide_of_change_sized (C:=Try.checked) Tz.own started hf hwit ?_;intro W base args ds gs before hval0 hW _ hsz0 _;have hsz : (DataW.weightsEach Try.prog (fn.params.toList ++ s.plain.varTypes Try.prog) (ds ++ gs)).all (· <= reachBytes) = true:=hsz0;clear hsz0;have hval : ∀ (j : Nat) t v,fn.params[j]? = some t -> args[j]? = some v -> Value.okWide Try.prog W .any base t v:=hval0;have hW':=hW;obtain ⟨p,q,hA0,hV,rfl,_,_⟩:=hW;have hA : DataW.TrodAll enc Try.prog W 0 (fun _ => true) true fn.params.toList args.toList ds p:=hA0;rw [hp] at hA hval hsz;obtain ⟨v0,d0,rfl,rfl,h0⟩:=trodAll_one hA;rw [hv] at hV;obtain ⟨rfl,rfl⟩:=trodVars_none hV;have hok:=hval 0 22 v0 rfl rfl;obtain ⟨a0,len,cap,rfl⟩:=okWide_slice Tz.u22 hok;have h0k:=h0;obtain ⟨fuel,hfu⟩:=h0;clear hA0 hval0;simp only [List.append_nil] at hW';have hlt : ∀ x ∈ p,x.block < W.heap.size:=fun x hx => by simpa using hW'.lt x hx
 have hargs : ∀ (W' : World),Below W.heap.size W W' -> DataW.Trod enc Try.prog W' 0 (fun b => decide (b < W.heap.size)) true 22 (.slice a0 len cap) d0 p :=
  fun W' hn => Below.trod Tz.laidOut Tz.r22 Tz.l22 h0k hn hlt
 have close : ∀ nums : List Int,nums.length <= 2 ^ 50 -> Den (env0 W) (zh7 nums) (.slice a0 len cap) ->
   ∃ M last o w' t',runNT Try.checked.prog (M + 1) (solo (G (Frame.enter Try.checked.prog f #[.slice a0 len cap] .normal) []) W) #[] = (.ended o w',t') /\
    runN Try.checked.prog M (solo (G (Frame.enter Try.checked.prog f #[.slice a0 len cap] .normal) []) W) = .next last /\ step Try.checked.prog last = .ended o w' /\
    Conc.Good Try.checked.prog (fun v W' => s.post enc Try.checked.prog fn false true false false W #[.slice a0 len cap] v W') last o w' t':=by
  intro nums hn hd;obtain ⟨M,last,o,w',t',h1,h2,h3,h4⟩:=zjf (Q:=fun v => v = .bool true) (args:=#[.slice a0 len cap]) (avs:=[zh7 nums]) hi ⟨rfl,fun i a e => by
   match i,e with
   | 0,e => cases e; exact hd⟩ ((hlaw nums hn).mono (fun a H' e E v hden => by subst e; cases hden; rfl) fun _ _ h => h)
  refine ⟨M,last,o,w',t',h1,h2,h3,h4.mono fun v ⟨hQ,hL⟩ => ?_⟩;subst hQ;have hb:=hL.below;refine ⟨[d0],[],_,[],p,[],hW',?_,?_,by rw [hv]; exact (by rw [show ([d0] ++ [] : List (DataW H)) = [d0] from rfl,hs]; rfl),hb.frame _,fun h => by cases h⟩
  ·rw [show ([d0] ++ [] : List (DataW H)) = [d0] from rfl,hs,hr];exact trodAll_mk1 (shut_bool Tz.u4 true)
  ·rw [show ([d0] ++ [] : List (DataW H)) = [d0] from rfl,hs,hp];exact trodAll_mk1 (hargs _ hb)
 rcases open_ints Tz.u22 Tz.u3 Tz.c3 hfu with ⟨hcs,hx⟩ | ⟨a,len',cap',zs,hcs,_,hl,hm,hz,hx,hcell,hwz⟩
 ·simp [Value.cells] at hcs;obtain ⟨rfl,rfl,rfl⟩:=hcs;exact close [] (by simp) (.nil trivial)
 ·simp [Value.cells] at hcs;obtain ⟨rfl,rfl,rfl⟩:=hcs;simp only [Prod.mk.injEq] at hx;obtain ⟨rfl,rfl⟩:=hx;simp only [if_true] at hz;have hspot : a.spot = none:=by
   have:=hok;simp only [Value.okWide,Tz.u22,Cell.okWide,Cell.ok] at this;exact this.2.2.2.1
  have hreach : len * 8 <= 140737488355328:=by
   have:=sized_slice hsz (j:=0) (t:=22) (e:=3) rfl rfl Tz.u22;rw [Tz.b3] at this;simp only [lits,List.length_map,List.length_take,List.length_drop,reachBytes] at this;omega
  obtain ⟨bl,off,spot⟩:=a;simp only at hspot;subst hspot;have hzl : (zs.take len).length = len:=by rw [List.length_take]; omega
  refine close (zs.take len) (by rw [hzl]; omega) (zkY hzl hl fun i hi => ?_);have:=hcell i (by omega);rw [show (Addr.add ⟨bl,off,none⟩ i) = ⟨bl,off + i,none⟩ by simp [Addr.add]] at this;rw [this,List.getD_eq_getElem?_getD,List.getD_eq_getElem?_getD,List.getElem?_take_of_lt hi]
def ioNums : List (List Nat):=[99,117,116] :: [97,116] :: [[]].map ([103,108,97,100,115,116,111,110,101,47,103,108,97,100,115,116,111,110,101,116,111,112,46,84,111,112,75,101,121,115] ++ ·)
def ioCodes : List Nat:=[104,97,114,110,101,115,115,32,102,98,49,101,49,51,56,55,102,49,50,54,102,49,48,56,48,100,51,97,53,102,48,55,102,57,49,55,56,101,100,55,101,53,56,53,101,54,55,52,100,56,101,54,100,50,101,57,99,98,99,102,97,101,54,100,54,57,101,57,100,50,50,97] ++ ioNums.flatMap (32 :: ·)
set_option maxRecDepth 100000 in
theorem ioL : Try.prog.initOrder.toList = ioCodes.map Char.ofNat:=by
 have h : Try.prog.initOrder = String.ofList (ioCodes.map Char.ofNat):=by kernel_rfl
 rw [h,String.toList_ofList]
def ioWords : List (List Char):=ioNums.map fun l => l.map Char.ofNat
set_option maxRecDepth 100000 in
theorem ioW : behindMainWord (wordsSigns Try.prog.initOrder.toList) = ioWords:=by
 rw [ioL]
 kernel_rfl
section
variable {P : Program} {c : List Char} {rest : List (List Char)}
theorem zhx (h : behindMainWord (wordsSigns P.initOrder.toList) = c :: rest) (hc : c = "cut".toList) (h1 : stripLifts liftWords (c :: rest) = ([], c :: rest)) (h2 : P.laysLater = false) (h3 : P.bearsReflect = false) (h4 : P.doorFits [] = true) : P.mayEnter = true := by
 unfold Program.mayEnter;rw [h];subst hc;simp only [h1,h2,h3,h4,List.head?_cons,beq_self_eq_true,List.contains_nil,Bool.not_false,Bool.false_or,Bool.or_true,Bool.and_self,Bool.true_and]
theorem zgB (h : behindMainWord (wordsSigns P.initOrder.toList) = c :: rest) (hc : c = "cut".toList) (h1 : stripLifts liftWords (c :: rest) = ([], c :: rest)) : P.headLifts = [] := by
 unfold Program.headLifts;rw [h];simp only [h1,ite_self]
theorem zpz (h : behindMainWord (wordsSigns P.initOrder.toList) = c :: rest) (hc : c = "cut".toList) (h1 : stripLifts liftWords (c :: rest) = ([], c :: rest)) : P.liftsFinal = false := by
 unfold Program.liftsFinal;rw [zgB h hc h1, h];subst hc;simp only [List.head?_cons, List.contains_nil, Bool.or_false];have : (some "cut".toList == some "carried".toList) = false := by decide +kernel
 rw [this,Bool.false_and]
theorem zrl (h : behindMainWord (wordsSigns P.initOrder.toList) = c :: rest) (hc : c = "cut".toList) : P.make = some .cut := by
 unfold Program.make;rw [h];subst hc;have e1 : ("cut".toList == "gc".toList) = false := by decide +kernel
 have e2 : ("cut".toList == "spec".toList) = false := by decide +kernel
 simp only [e1,e2,Bool.or_self,Bool.false_eq_true,if_false,beq_self_eq_true,Bool.true_or,if_true]
end
def znX : List Char:=ioWords.headD []
def zos : List (List Char):=ioWords.tail
theorem ioW2 : behindMainWord (wordsSigns Try.prog.initOrder.toList) = znX :: zos:=ioW.trans (by kernel_rfl)
theorem ioC : znX = "cut".toList := by kernel_rfl
theorem ioS : stripLifts liftWords (znX :: zos) = ([],znX :: zos):=by kernel_rfl
theorem Tz.mayEnter : Try.prog.mayEnter = true:=zhx ioW2 ioC ioS (by kernel_rfl) (by kernel_rfl) (by kernel_rfl)
theorem Tz.lifts : Try.prog.liftsFinal = false:=zpz ioW2 ioC ioS
theorem Tz.make : Try.prog.make = some .cut:=zrl ioW2 ioC
theorem zkH {P : Program} {f : FuncId} {fn : Func} {s : ChangeSpec} {c : OpenClaim}
  (k0 : (c.wf (OpenSpec.ofChange s)) = true)
  (k1 : (laidOutB P) = true)
  (k2 : (mapsRowed P) = true)
  (k3 : (fn.params.all (P.readableRec ·)) = true)
  (k4 : (namedTie P c.named s.vars) = true)
  (k5 : ((c.stops == [])) = true)
  (k6 : ((P.stops == [])) = true)
  (k7 : ((c.knobs == [])) = true)
  (k8 : ((P.stopKnobs == [])) = true)
  (k9 : ((c.inPlace == P.inPlace f)) = true)
  (k10 : ((c.unfollowed == P.unfollowed f)) = true)
  (k11 : ((c.recurses == P.recurses f)) = true)
  (k12 : ((c.named == P.varsNamed f)) = true)
  (k13 : ((c.maps == (fn.params.toList ++ s.plain.varTypes P).any (P.mapsRec ·))) = true)
  (k14 : ((c.ifaces == (fn.params.toList ++ s.plain.varTypes P).any (P.ifacesRec ·))) = true)
  (k15 : ((c.mapsOut == P.mapsAmong fn.resultTypes.toList)) = true)
  (k16 : ((c.loops == (fn.params.toList ++ s.plain.varTypes P).any (P.loopsFrom ·))) = true)
  (k17 : ((c.wideKeys == (fn.params.toList ++ s.plain.varTypes P ++ fn.resultTypes.toList).any (P.wideKeysFrom ·))) = true)
  (k18 : (s.vars.all (P.varReadable ·)) = true)
  (k19 : (fn.resultTypes.all (fun t => P.readableRec t && decide (t < P.types.size))) = true)
  (k20 : ((c.ifacesOut == fn.resultTypes.toList.any (P.ifacesRec ·))) = true)
  (k21 : ((c.loopsOut == fn.resultTypes.toList.any (P.loopsFrom ·))) = true)
  (k22 : ((c.plainKeys == P.plainKeys)) = true)
  (k23 : (c.shortTexts.isNone) = true)
  (k24 : (P.stopsHeard) = true)
  (k25 : (P.mayEnter) = true)
  (k26 : ((c.lifted == P.liftsFinal)) = true)
  (k27 : ((P.make == some c.make)) = true)
  (k28 : c.domain.isEmpty = true) (k28' : c.kinds = [])
  (k29 : ((c.pinned == c.pinnedBy)) = true)
  (k30 : ((c.veiled == (fn.params.toList ++ s.plain.varTypes P ++ fn.resultTypes.toList).any (P.veiledRec ·))) = true)
  (k31 : (c.veiledFits P fn.params.toList (fn.params.toList ++ s.plain.varTypes P ++ fn.resultTypes.toList)) = true) : joinedFacts P f fn s c = true:=by
 simp only [joinedFacts,k0,k1,k2,k3,k4,k5,k6,k7,k8,k9,k10,k11,k12,k13,k14,k15,k16,k17,k18,k19,k20,k21,k22,k23,k24,k25,k26,k27,k28,k28',if_true,beq_self_eq_true,k29,k30,k31,Bool.and_self]
theorem zkB {c : OpenClaim} (h : c.lifted = false) : (c.lifted == Try.prog.liftsFinal) = true:=by rw [Tz.lifts,h]; rfl
theorem zpv {c : OpenClaim} (h : c.make = .cut) : (Try.prog.make == some c.make) = true:=by rw [Tz.make,h]; rfl
end Go.Gg
namespace Go.Proofs.Ytfalifflpppchaa
open Go.Conc Go.Proofs Go.Gg
theorem tkName : Try.prog.funcNamed Rows.topKeysRow.func = some 3:=by kernel_rfl
theorem zoW : joinedFacts Try.prog 3 Try.f3 Rows.topKeysSpec Rows.topKeysRow = true :=
 zkH (by kernel_rfl) Tz.laidOut (by kernel_rfl) (by kernel_rfl) (by kernel_rfl) (by kernel_rfl) (by kernel_rfl) (by kernel_rfl) (by kernel_rfl) (by kernel_rfl) (by kernel_rfl) (by kernel_rfl) (by kernel_rfl) (by kernel_rfl) (by kernel_rfl) (by kernel_rfl) (by kernel_rfl) (by kernel_rfl) (by kernel_rfl) (by kernel_rfl) (by kernel_rfl) (by kernel_rfl) (by kernel_rfl) (by kernel_rfl) (by kernel_rfl) Tz.mayEnter (zkB (by kernel_rfl)) (zpv (by kernel_rfl)) (by kernel_rfl) (by kernel_rfl) (by kernel_rfl) (by kernel_rfl) (by kernel_rfl)
theorem tkInst : Try.f3.isInstance Try.prog Rows.topKeysRow.origin Rows.topKeysRow.targs:=of_decide_eq_true (by kernel_rfl)
theorem tkWrap : Try.f3.isWrapper Try.prog Rows.topKeysRow.wrapper Rows.topKeysRow.mainSum:=by unfold Func.isWrapper; first | (rw [if_pos (by decide +kernel)]; kernel_rfl) | (rw [if_neg (by decide +kernel)]; exact ⟨rfl,rfl⟩)
theorem zm7 (os : Os) (started : os.Started) (H : Type) (enc : TypeId × Value -> H) :
  ReturnsInLeavingWide {} Try.checked os 3 .any (Rows.topKeysSpec.pre6 enc Try.prog Try.f3 Rows.topKeysRow.domain false) (Rows.topKeysSpec.post enc Try.prog Try.f3 false true false false) :=
 zhC (f:=3) (fn:=Try.f3) (s:=Rows.topKeysSpec) Try.func3 rfl rfl rfl (fun _ _ => rfl) (by kernel_rfl) (fun nums hn => f3_c rfl hn rfl) os started H enc
  (ChangeSpec.witness6 (enc:=enc) (C:=Try.checked) false ⟨#[],#[.slice none 0 0],[]⟩ 3 (by kernel_rfl) (by kernel_rfl) (by kernel_rfl) (by kernel_rfl))
theorem topKeys_holds : Rows.TopKeysSaid :=
 OpenClaim.holds_of_wide_leaving 3 Try.f3 rfl rfl rfl rfl rfl rfl rfl ⟨rfl,rfl,rfl,rfl,rfl⟩ rfl rfl rfl rfl rfl tkName Try.func3 zoW tkInst tkWrap
  (fun os started H enc _ => zm7 os started H enc)
end Go.Proofs.Ytfalifflpppchaa
