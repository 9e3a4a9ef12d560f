/-
  A text of mine, of several parts: OwTop, Ow2Cfg, Ow2Vc, OwP2, Ow2V, Ow3Cfg, Ow3Vc, OwP3, Ow3V, OwDefA, OwaCfg, OwaVc, OwPA, OwaV, OwbCfg.
-/
import Derived.Test.YtdkcgcgefgeooaaGreatDoorOoa
import Derived.Test.YtdkcgcgefgeooaaGreatDoorOob
import Derived.Test.YtdkcgcgefgeooaaGreatDoorOoc
import Derived.Test.YtdkcgcgefgeooaaGreatDoorOod
import Derived.RangeFuncBox
import Derived.RangeFuncLeaves
import Derived.Shelf.Abstract
import Derived.WalkKit
import Derived.OwnWalkIn
import Derived.TacticsInMore
import Derived.LoopNIn
import Derived.LoopIn
import Derived.Maps.AppendAt
import Derived.Shelf.RegionOpenV
import Derived.WalkMore
import Derived.RangeFuncNested
set_option linter.all false
set_option linter.all false
namespace Go.Proofs.YtdkcgcgefgeooaaGreatDoor.Ow
open Go.RowKit Go.Shelf Go.Eng
attribute [local go_sem] Oper.semAt_some
abbrev W0 := Fence.wide
theorem wide_fn (f : FuncId) : W0.fn f := by trivial
theorem wide_ro : W0.round = none := rfl
theorem info3 : (Tryz.prog.info? 3).map (fun i => (i.zero, i.size, i.bytes)) = some (some (.int .i64 0), 1, 8) := by kernel_rfl
theorem und27 : Tryz.prog.underlying 27 = some (.slice 3) := by kernel_rfl
def dwn (n j : Nat) : List (Fin n) := ((List.finRange n).reverse).take j
theorem dwn_len (n j : Nat) (h : j ≤ n) : (dwn n j).length = j := by simp [dwn]; omega
theorem dwn_succ (n j : Nat) (h : j < n) : dwn n (j + 1) = dwn n j ++ [⟨n - 1 - j, by omega⟩] := by
  unfold dwn
  have hl : j < ((List.finRange n).reverse).length := by simpa using h
  rw [List.take_add_one, List.getElem?_eq_getElem hl]
  simp [List.getElem_reverse]
def encR (l : List Rs) (k : Fin l.length) : Array Value := #[.int .i64 ((k : Nat) : Int), .agg #[.int .i64 (l[k]).1, .int .i64 (l[k]).2.1]]
def Rests (n₀ : Nat) (W : World) (base : Option Addr) (l : List Rs) : Prop := ∀ k : Fin l.length, ∃ b off, base = some ⟨b, off, none⟩ ∧ b < n₀ ∧ W.cell? ⟨b, off + (k : Nat) * 2 + 0, none⟩ = some (.int .i64 (l[k]).1) ∧ W.cell? ⟨b, off + (k : Nat) * 2 + 1, none⟩ = some (.int .i64 (l[k]).2.1)
theorem Rests.below {n₀ : Nat} {A B : World} (h : Below n₀ A B) {base : Option Addr} {l : List Rs} (hI : Rests n₀ A base l) : Rests n₀ B base l := fun k => by
  obtain ⟨b, off, e, hb, hc, hd⟩ := hI k
  exact ⟨b, off, e, hb, (h.cell (p := ⟨b, _, none⟩) hb).trans hc, (h.cell (p := ⟨b, _, none⟩) hb).trans hd⟩
structure Kp (n₀ bf : Nat) (f : Value) (A B : World) : Prop where
  below : Below n₀ A B
  box : Boxed A bf 26 f → Boxed B bf 26 f
theorem Kp.refl (n₀ bf : Nat) (f : Value) (A : World) : Kp n₀ bf f A A := ⟨Below.refl _ _, id⟩
theorem Kp.trans {n₀ bf : Nat} {f : Value} {A B C : World} (h : Kp n₀ bf f A B) (k : Kp n₀ bf f B C) : Kp n₀ bf f A C := ⟨h.below.trans k.below, fun x => k.box (h.box x)⟩
theorem kp_b {n₀ bf : Nat} {f : Value} {w : World} (hn : n₀ ≤ w.heap.size) (hb : bf < w.heap.size) (W : World) (l : Nat) (o o' : Obj) (hl : w.heap.size ≤ l) (h : W.heap[l]? = some o) (h1 : o.isCells = false) (h2 : o.isWalk = false) : Kp n₀ bf f W (W.putObj l o') :=
  ⟨belowK_b hn W l o o' hl h h1 h2, fun hx => hx.kept (grownBy_putObj' W l o') (by intro e; cases e; omega)⟩
set_option maxRecDepth 100000 in
set_option maxHeartbeats 2000000 in
theorem back1_in (n : Nat) (hn : 1 ≤ n) (lp Bs n₀ cap : Nat) (base : Option Addr) (l : List Rs) (hl : l.length ≤ 1000000) (J Jx : List (Fin l.length) → World → Prop)
    (hY : ∀ pre x W, J pre W → pre.length < l.length → YieldAt W0 (n - 1) Tryz.prog lp (encR l x) W fun e W' =>
      (e = .returned (.bool true) ∧ J (pre ++ [x]) W' ∧ Kp n₀ Bs (.slice base l.length cap) W W') ∨ (e = .returned (.bool false) ∧ Jx (pre ++ [x]) W'))
    (W : World) (hBs : Boxed W Bs 26 (.slice base l.length cap)) (hI : Rests n₀ W base l) (h0 : J [] W) :
    CallsIn W0 n Tryz.prog 121 #[.func (.yield lp) #[] #[], .pointer (some ⟨Bs, 0, none⟩)] W fun e W' => (∃ v, e = .returned v) ∧
      ((∃ ys, ys = dwn l.length l.length ∧ J ys W') ∨ (∃ pre, (∃ j, j < l.length ∧ pre = dwn l.length (j + 1)) ∧ Jx pre W')) := by
  refine callsIn_of_wp Tryz.func121 rfl (wide_fn _) ?_ wide_ro
  simp only [Tryz.ntmps121, List.size_toArray, List.length_cons, List.length_nil, Nat.reduceAdd, Nat.reduceSub, Array.replicate_succ, Array.replicate_zero, List.push_toArray, List.append_toArray, List.nil_append, List.cons_append]
  have c0 := hBs.cell
  have f0 := hBs.frozen
  gi_wp2
  gi_loopw [3] (fun i wr => ∃ k : Nat, k ≤ l.length ∧ i = .int .i64 ((l.length : Int) - 1 - k) ∧ J (dwn l.length k) wr ∧ Kp n₀ Bs (.slice base l.length cap) W wr)
    (fun i _ => (intOf i + 1).toNat)
  case atStart => exact ⟨0, Nat.zero_le _, by simp, h0, Kp.refl _ _ _ _⟩
  case round =>
    obtain ⟨k, hk, rfl, hJs, hnx⟩ := hrel
    have hB := hnx.box hBs
    have c1 := hB.cell
    have f1 := hB.frozen
    by_cases hlt : k < l.length
    · obtain ⟨m, hm⟩ : ∃ m : Nat, m + k + 1 = l.length := ⟨l.length - 1 - k, by omega⟩
      have hml : m < l.length := by omega
      have em : (l.length : Int) - 1 - k = (m : Int) := by omega
      rw [em]
      obtain ⟨b, off, rfl, hb, hc1, hc2⟩ := (hI.below hnx.below) ⟨m, hml⟩
      have hc1 : wr.cell? ⟨b, off + m * 2 + 0, none⟩ = some (.int .i64 (l[m]).1) := hc1
      have hc2 : wr.cell? ⟨b, off + m * 2 + 1, none⟩ = some (.int .i64 (l[m]).2.1) := hc2
      simp only [Nat.add_zero] at hc1
      have hd : dwn l.length (k + 1) = dwn l.length k ++ [⟨m, hml⟩] := by rw [dwn_succ _ _ hlt]; congr 3; omega
      obtain ⟨fn, tmps, assign, body, hy, hR⟩ := hY _ ⟨m, hml⟩ wr hJs (by rw [dwn_len _ _ hk]; exact hlt)
      have hy : (Instr.yield lp #[.int .i64 (m : Int), .agg #[.int .i64 (l[m]).1, .int .i64 (l[m]).2.1]]).run Tryz.prog wr = _ := hy
      generalize (l[m]).1 = q1 at *
      generalize (l[m]).2.1 = q2 at *
      gi_wp2
      refine hR.mono ?_
      rintro e W3 (⟨rfl, hJ3, hk3⟩ | ⟨rfl, hJx3⟩)
      · gi_wp2
        go_roundw
        case rel => exact ⟨k + 1, by omega, by simp; omega, by rw [hd]; exact hJ3, hnx.trans hk3⟩
        case measure => simp [intOf]
      · gi_wp2
        refine bodyPost_ret (results_none rfl _ _ _) rfl ?_
        exact ⟨⟨_, rfl⟩, .inr ⟨_, ⟨k, hlt, rfl⟩, by rw [hd]; exact hJx3⟩⟩
    · obtain rfl : k = l.length := by omega
      have em : (l.length : Int) - 1 - l.length = -1 := by omega
      rw [em]
      gi_wp2
      go_end0
      exact ⟨⟨_, rfl⟩, .inl ⟨_, rfl, hJs⟩⟩
theorem back_stops (n : Nat) (hn : 1 ≤ n) (Bs n₀ cap : Nat) (base : Option Addr) (l : List Rs) (hl : l.length ≤ 1000000) (w : World) (hBs : Boxed w Bs 26 (.slice base l.length cap)) (hn₀ : n₀ ≤ w.heap.size) (hI : Rests n₀ w base l) :
    SeqStopsK W0 n Tryz.prog 121 #[.pointer (some ⟨Bs, 0, none⟩)] (encR l) (Kp n₀ Bs (.slice base l.length cap)) (fun ys => ys = dwn l.length l.length) (fun pre => ∃ j, j < l.length ∧ pre = dwn l.length (j + 1)) l.length w := fun lp J Jx W hW _ _ hY h0 =>
  back1_in n hn lp Bs n₀ cap base l hl J Jx hY W ((hW.block Bs hBs.lt).trans hBs) (hI.below (hW.mono hn₀)) h0
set_option maxHeartbeats 1000000 in
theorem back_in (n : Nat) (a : Option Addr) (len cap : Nat) (w : World) :
    CallsIn W0 n Tryz.prog 109 #[.slice a len cap] w fun e w' => e = .returned (.func (.func 121) #[] #[.pointer (some ⟨w.heap.size, 0, none⟩)]) ∧ w' = w.alloc (.cells #[.slice a len cap] 26) := by
  refine callsIn_of_wp Tryz.func109 rfl (wide_fn _) ?_ wide_ro
  simp only [Tryz.ntmps109, List.size_toArray, List.length_cons, List.length_nil, Nat.reduceAdd, Nat.reduceSub, Array.replicate_succ, Array.replicate_zero, List.push_toArray, List.append_toArray, List.nil_append, List.cons_append]
  gi_wp2
  go_ret
  exact ⟨rfl, rfl⟩
set_option maxHeartbeats 1000000 in
theorem spent_in (n : Nat) (x y : Int) (b : Option Addr) (m c : Nat) (w : World) :
    CallsIn W0 n Tryz.prog 85 #[.int .i64 x, .int .i64 y, .slice b m c] w fun e w' => e = .returned (.func (.func 107) #[] #[.pointer (some ⟨w.heap.size + 1 + 1, 0, none⟩), .pointer (some ⟨w.heap.size, 0, none⟩), .pointer (some ⟨w.heap.size + 1, 0, none⟩)]) ∧ w' = ((w.alloc (.cells #[.int .i64 x] 3)).alloc (.cells #[.int .i64 y] 3)).alloc (.cells #[.slice b m c] 27) := by
  refine callsIn_of_wp Tryz.func85 rfl (wide_fn _) ?_ wide_ro
  simp only [Tryz.ntmps85, List.size_toArray, List.length_cons, List.length_nil, Nat.reduceAdd, Nat.reduceSub, Array.replicate_succ, Array.replicate_zero, List.push_toArray, List.append_toArray, List.nil_append, List.cons_append]
  gi_wp2
  go_ret
  exact ⟨rfl, rfl⟩
theorem wpW_scope {n : Nat} {P : Program} {c : Code} {Q : Exit → Act → World → Prop} {a : Act} {w : World} (h : c.wpIn W0 n P (Exit.noGoto Q) a w) : (Code.scope c).wpIn W0 n P Q a w := wpIn_wide.2 (wp_scope_straight (wpIn_wide.1 h))
theorem wpQuietIn_do {F : Fence} {n : Nat} {P : Program} {ops : Array Oper} {C : World → Prop} {Q : Act → Prop} {a : Act} {o : Oper} {rest : List Oper} (hg : o.guard = none) (v : Value) (ha : o.askedIn F P a C) (h : ∀ w, C w → o.quietAtIn F n P a C w v)
    (hn : wpQuietIn F n P ops C Q rest (a.put o.dst v)) : wpQuietIn F n P ops C Q (o :: rest) a := by
  refine ⟨ha, ?_⟩
  rw [if_pos (by unfold Region.wanted; rw [hg])]
  exact ⟨v, h, hn⟩
theorem setCell_id {W : World} {b : Nat} {t : TypeId} {v : Value} (h : Boxed W b t v) : W.setCell ⟨b, 0, none⟩ v = W := by
  obtain ⟨hlt, hk⟩ := Array.getElem?_eq_some_iff.1 h
  have e : ∀ f : Obj → Obj, f W.heap[b] = W.heap[b] → W.heap.modify b f = W.heap := fun f hf => by
    apply Array.ext
    · rw [Array.size_modify]
    · intro i h1 h2
      rw [Array.getElem_modify]
      split
      · rename_i e; subst e; exact hf
      · rfl
  unfold World.setCell
  show ({ W with heap := W.heap.modify b _ } : World) = W
  rw [e]
  rw [hk]; rfl
theorem run_store_func {P : Program} {w : World} {a : Addr} {m : Mode} (g : Fn) (fs cs : Array Value) : (store a (.func g fs cs) m).run P w = stored P w a (.func g fs cs) m := run_store P w a _ m rfl
attribute [local go_sem] run_store_func
def clo (q : Nat) : Value := .func (.func 107) #[] #[.pointer (some ⟨q + 1 + 1, 0, none⟩), .pointer (some ⟨q, 0, none⟩), .pointer (some ⟨q + 1, 0, none⟩)]
structure TopB (base : Option Addr) (n cap a q : Nat) (x y : Int) (sd : Value) (w W : World) : Prop where
  b4 : Boxed W a 26 (.slice base n cap)
  cl : Boxed W q 3 (.int .i64 x)
  cn : Boxed W (q + 1) 3 (.int .i64 y)
  cd : Boxed W (q + 1 + 1) 27 sd
  b12 : Boxed W (q + 1 + 1 + 1) 177 (clo q)
  hB : Below a w W
theorem TopB.kept {base : Option Addr} {n cap a q : Nat} {x y : Int} {sd : Value} {w A B : World} {row : Option Nat} (h : TopB base n cap a q x y sd w A) (hg : A.grownBy B row) (hr : ∀ r, row = some r → a < r ∧ r ≠ q ∧ r ≠ q + 1 ∧ r ≠ q + 1 + 1 ∧ r ≠ q + 1 + 1 + 1) : TopB base n cap a q x y sd w B :=
  ⟨h.b4.kept hg (fun e => by have := hr _ e.symm; omega), h.cl.kept hg (fun e => by have := hr _ e.symm; omega), h.cn.kept hg (fun e => by have := hr _ e.symm; omega), h.cd.kept hg (fun e => by have := hr _ e.symm; omega), h.b12.kept hg (fun e => by have := hr _ e.symm; omega), h.hB.grown hg (Nat.le_of_lt h.b4.lt) (fun k e => by have := (hr k e).1; omega)⟩
theorem TopB.below {base : Option Addr} {n cap a q : Nat} {x y : Int} {sd : Value} {w A B : World} {m : Nat} (h : TopB base n cap a q x y sd w A) (hb : Below m A B) (hm : a + 1 ≤ m) (hq : q + 4 ≤ m) : TopB base n cap a q x y sd w B :=
  ⟨(hb.block _ (by omega)).trans h.b4, (hb.block _ (by omega)).trans h.cl, (hb.block _ (by omega)).trans h.cn, (hb.block _ (by omega)).trans h.cd, (hb.block _ (by omega)).trans h.b12, h.hB.trans (hb.mono (by omega))⟩
theorem topB_new {base : Option Addr} {n cap a q : Nat} {x y : Int} {sd : Value} {w W1 : World} (b4 : Boxed W1 a 26 (.slice base n cap)) (hB : Below a w W1) (hz : W1.heap.size = q) :
    TopB base n cap a q x y sd w ((((W1.alloc (.cells #[.int .i64 x] 3)).alloc (.cells #[.int .i64 y] 3)).alloc (.cells #[sd] 27)).alloc (.cells #[clo q] 177)) := by
  have n1 := Boxed.new W1 3 (.int .i64 x)
  have n2 := Boxed.new (W1.alloc (.cells #[.int .i64 x] 3)) 3 (.int .i64 y)
  have n3 := Boxed.new ((W1.alloc (.cells #[.int .i64 x] 3)).alloc (.cells #[.int .i64 y] 3)) 27 sd
  have n4 := Boxed.new (((W1.alloc (.cells #[.int .i64 x] 3)).alloc (.cells #[.int .i64 y] 3)).alloc (.cells #[sd] 27)) 177 (clo q)
  have h4 := b4.lt
  simp only [World.size_alloc, hz] at n1 n2 n3 n4
  exact ⟨(((b4.alloc _).alloc _).alloc _).alloc _, ((n1.alloc _).alloc _).alloc _, (n2.alloc _).alloc _, n3.alloc _, n4, (((hB.alloc (by omega) _).alloc (by simp; omega) _).alloc (by simp; omega) _).alloc (by simp; omega) _⟩
theorem ownsRow_down {w : World} {A B : Nat} {e : TypeId} {size n : Nat} {v : Value} {xs : List Value} (h : w.ownsRow B e size v n xs) (hA : A ≤ B) : w.ownsRow A e size v n xs := by
  refine ⟨h.1, ?_⟩
  rcases h.2 with hn | ⟨g, cap, cur, rfl, hb, r⟩
  · exact .inl hn
  · exact .inr ⟨g, cap, cur, rfl, Nat.le_trans hA hb, r⟩
theorem spent_at {base : Option Addr} {n cap a q : Nat} {x y : Int} {b : Option Addr} {m c : Nat} {w W : World} (N lp : Nat) (dead : List Int) (S : Nat → Prop) (hS : ∀ k, S k → k < a) (hd : RdC Tryz.prog IL S w dead [.slice b m c]) (hx : IntKind.wrap .i64 x = x) (hy : IntKind.wrap .i64 y = y)
    (q1 q2 : Int) (h1 : IntKind.wrap .i64 q1 = q1) (h2 : IntKind.wrap .i64 q2 = q2) (hT : TopB base n cap a q x y (.slice b m c) w W) :
    CallsIn (W0.inRound lp) N Tryz.prog 107 #[.agg #[.int .i64 q1, .int .i64 q2], .pointer (some ⟨q + 1 + 1, 0, none⟩), .pointer (some ⟨q, 0, none⟩), .pointer (some ⟨q + 1, 0, none⟩)] W fun e W' => e = .returned (.bool (spent x y dead (q1, q2, ()))) ∧ Below W.heap.size W W' := by
  have hlt := hT.b12.lt
  have hla := hT.b4.lt
  have hone : ∀ (B : Nat) (t : TypeId) (v : Value), Boxed W B t v → Lies W B 0 [v] := fun B t v hb j u hu => by
    match j, hu with
    | 0, hu => cases hu; exact hb.cell
    | j + 1, hu => cases hu
  have h := val107.2 W trivial (fun k => k < W.heap.size) ((q1, q2, ()), some dead, some x, some y, ()) [.int .i64 q1, .int .i64 q2, .pointer (some ⟨q + 1 + 1, 0, none⟩), .pointer (some ⟨q, 0, none⟩), .pointer (some ⟨q + 1, 0, none⟩)] (fun _ h => h)
    ⟨[_, _], [_, _, _], rfl, ⟨[_], [_], rfl, ⟨rfl, h1⟩, [_], [], rfl, ⟨rfl, h2⟩, rfl⟩, [_], [_, _], rfl, ⟨q + 1 + 1, 0, [.slice b m c], rfl, by omega, hd.mono (fun k hk => ⟨by have := hS k hk; omega, hT.hB.block k (hS k hk)⟩), hone _ _ _ hT.cd⟩, [_], [_], rfl, ⟨q, 0, [.int .i64 x], rfl, by omega, ⟨rfl, hx⟩, hone _ _ _ hT.cl⟩, [_], [], rfl, ⟨q + 1, 0, [.int .i64 y], rfl, by omega, ⟨rfl, hy⟩, hone _ _ _ hT.cn⟩, rfl⟩ rfl
  have h : CallsIn (W0.inRound lp) N Tryz.prog 107 _ W _ := (callsIn_wide (n := N)).2 h
  refine CallsIn.mono h ?_
  rintro e W' ⟨hb, rs, rfl, hr, _⟩
  obtain ⟨c1, c2, rfl, hc1, hc2⟩ := hr
  obtain rfl : c1 = [.bool (spent x y dead (q1, q2, ()))] := hc1
  obtain rfl : c2 = [] := hc2
  exact ⟨rfl, hb⟩
def lastK {n : Nat} (pre : List (Fin n)) : Nat := match pre.getLast? with
  | some k => k.1
  | none => 0
def sockV (l : List Rs) (k : Fin l.length) : Value := .int .i64 (l[k]).1
def restV (l : List Rs) : List Value := l.flatMap fun r => [.int .i64 r.1, .int .i64 r.2.1]
def TopI (base : Option Addr) (cap a q p8 p9 p10 p11 : Nat) (l : List Rs) (x y : Int) (dead : List Int) (sd : Value) (w : World) (pre : List (Fin l.length)) (W : World) : Prop :=
  (∃ v, Boxed W p10 27 v ∧ W.ownsRow (q + 1 + 1 + 1 + 1 + 1) 3 1 v pre.length (pre.map (sockV l)) ∧ True) ∧
  (TopB base l.length cap a q x y sd w W ∧ Boxed W p8 3 (.int .i64 (-1)) ∧ Boxed W p9 26 (.slice none 0 0) ∧ Boxed W p11 4 (.bool false) ∧ (∀ k ∈ pre, spent x y dead l[k] = true) ∧ q + 1 + 1 + 1 + 1 < W.heap.size)
def TopX (base : Option Addr) (cap a q p8 p9 p10 p11 : Nat) (l : List Rs) (x y : Int) (dead : List Int) (sd : Value) (w : World) (c : Code) (pre : List (Fin l.length)) (W : World) : Prop :=
  (∃ v, Boxed W p10 27 v ∧ W.ownsRow (q + 1 + 1 + 1 + 1 + 1) 3 1 v pre.dropLast.length (pre.dropLast.map (sockV l)) ∧ True) ∧
  (∃ v, Boxed W p9 26 v ∧ W.ownsRow (q + 1 + 1 + 1 + 1 + 1) 72 2 v (lastK pre) (restV (l.take (lastK pre))) ∧ True) ∧
  (TopB base l.length cap a q x y sd w W ∧ Boxed W p8 3 (.int .i64 (l.getD (lastK pre) (0, 0, ())).1) ∧ Boxed W p11 4 (.bool true) ∧ c = .exit 0 ∧ ∃ k pre', pre = pre' ++ [k] ∧ (∀ k ∈ pre', spent x y dead l[k] = true) ∧ spent x y dead l[k] = false)
theorem TopB.own {β : Type} {base : Option Addr} {n cap a q : Nat} {x y : Int} {sd : Value} {w : World} {B : Nat} (ha : a < B) (hq : q + 1 + 1 + 1 < B) : OwnFrom B (fun (_ : β) W => TopB base n cap a q x y sd w W) := fun _ A C row hs hg hr =>
  hs.kept hg (fun r e => by have := (hr r e).1; omega)
theorem boxed_from {β : Type} {B b : Nat} (t : TypeId) (f : β → Value) : OwnFrom B (fun s W => Boxed W b t (f s)) := (boxed_own b t f).from B
theorem size_own {β : Type} {B m : Nat} : OwnFrom B (fun (_ : β) W => m < W.heap.size) := fun _ A C row hs hg _ => Nat.lt_of_lt_of_le hs hg.size
theorem topI_own {base : Option Addr} {cap a q p8 p9 p10 p11 : Nat} {l : List Rs} {x y : Int} {dead : List Int} {sd : Value} {w : World} {B : Nat} (ha : a < B) (hq : q + 1 + 1 + 1 < B) : OwnFrom B (TopI base cap a q p8 p9 p10 p11 l x y dead sd w) :=
  ((holdsRow_own (q + 1 + 1 + 1 + 1 + 1) p10 27 3 1 (fun pre : List (Fin l.length) => pre.length) (fun pre => pre.map (sockV l)) (fun _ _ => True)).from B).and
    ((TopB.own ha hq).and ((boxed_from 3 _).and ((boxed_from 26 _).and ((boxed_from 4 _).and ((ownFrom_pure B _).and size_own)))))
theorem topX_own {base : Option Addr} {cap a q p8 p9 p10 p11 : Nat} {l : List Rs} {x y : Int} {dead : List Int} {sd : Value} {w : World} {B : Nat} (ha : a < B) (hq : q + 1 + 1 + 1 < B) (c : Code) : OwnFrom B (TopX base cap a q p8 p9 p10 p11 l x y dead sd w c) :=
  ((holdsRow_own (q + 1 + 1 + 1 + 1 + 1) p10 27 3 1 (fun pre : List (Fin l.length) => pre.dropLast.length) (fun pre => pre.dropLast.map (sockV l)) (fun _ _ => True)).from B).and
    (((holdsRow_own (q + 1 + 1 + 1 + 1 + 1) p9 26 72 2 (fun pre : List (Fin l.length) => lastK pre) (fun pre => restV (l.take (lastK pre))) (fun _ _ => True)).from B).and
    ((TopB.own ha hq).and ((boxed_from 3 _).and ((boxed_from 4 _).and (ownFrom_pure B _)))))
def TopA (base : Option Addr) (cap a q p8 p9 p10 p11 : Nat) (l : List Rs) (x y : Int) (sd : Value) (k : Fin l.length) (a' : Act) (W : World) : Prop :=
  ∃ tb, a' = { tmps := #[.slice base l.length cap, .int .i64 x, .int .i64 y, sd, .pointer (some ⟨a, 0, none⟩), undef, undef, undef, .pointer (some ⟨p8, 0, none⟩), .pointer (some ⟨p9, 0, none⟩), .pointer (some ⟨p10, 0, none⟩), .pointer (some ⟨p11, 0, none⟩), .pointer (some ⟨q + 1 + 1 + 1, 0, none⟩), .int .i64 ((k : Nat) : Int), .pointer (some ⟨tb, 0, none⟩), .int .i64 x, .int .i64 y, sd, clo q, .slice base l.length cap, .func (.func 121) #[] #[.pointer (some ⟨q + 1 + 1 + 1 + 1, 0, none⟩)], .int .i64 ((k : Nat) : Int), .agg #[.int .i64 (l[k]).1, .int .i64 (l[k]).2.1], undef, undef, undef, undef, undef, undef, undef, undef, undef, undef, undef, undef, undef, undef, undef, undef, undef, undef, undef], defers := [] } ∧
    q + 1 + 1 + 1 + 1 < tb ∧ W.heap[tb]? = some (.cells #[.int .i64 (l[k]).1, .int .i64 (l[k]).2.1] 72 (0, 0))
theorem topA_own {base : Option Addr} {cap a q p8 p9 p10 p11 : Nat} {l : List Rs} {x y : Int} {sd : Value} {B : Nat} (k : Fin l.length) (a' : Act) : OwnFrom B (fun (_ : Unit) W => TopA base cap a q p8 p9 p10 p11 l x y sd k a' W) := fun _ A C row hs hg hr => by
  obtain ⟨tb, e, h1, h2⟩ := hs
  refine ⟨tb, e, h1, (hg.block tb (Array.getElem?_eq_some_iff.1 h2).1 (fun e' => ?_)).trans h2⟩
  obtain ⟨_, o, ho, hc⟩ := hr tb e'.symm
  rw [h2] at ho; cases ho; cases hc
theorem rdL_rests {P : Program} {S : Nat → Prop} {w : World} : ∀ {l : List Rs} {cs : List Value}, RdL P RestT S w l cs → cs = restV l
  | [], _, h => h
  | (so, si, ⟨⟩) :: r, _, h => by
    obtain ⟨c1, c2, rfl, hx, hr⟩ := h
    obtain ⟨d1, d2, rfl, ⟨rfl, _⟩, d3, d4, rfl, ⟨rfl, _⟩, rfl⟩ := hx
    rw [rdL_rests hr]
    rfl
theorem clone_at {base : Option Addr} {cap a : Nat} {w W : World} (N lp : Nat) (l : List Rs) (hl : l.length ≤ 1000000) (S : Nat → Prop) (hS : ∀ k, S k → k < a) (hR : RdC Tryz.prog (.sl RestT) S w l [.slice base l.length cap]) (kk : Nat) (hk : kk < l.length) (hB : Below a w W) (ha : a ≤ W.heap.size) :
    CallsIn (W0.inRound lp) N Tryz.prog 110 #[.slice base kk cap] W fun e W' => ∃ x c, e = .returned (.slice x kk c) ∧ W'.ownsRow W.heap.size 72 2 (.slice x kk c) kk (restV (l.take kk)) ∧ Below W.heap.size W W' := by
  obtain ⟨base', cap', he, h1, h2, h3⟩ := hR
  obtain ⟨rfl, rfl⟩ : base = base' ∧ cap = cap' := by
    injection he with he _
    injection he with h1 _ h2
    exact ⟨h1, h2⟩
  have hlen : List.length (α := Rs) (l.take kk) = kk := by rw [List.length_take]; omega
  have hR2 : RdC Tryz.prog (.sl RestT) S W (l.take kk) [.slice base kk cap] := by
    refine ⟨base, cap, by rw [hlen], by rw [hlen]; exact Nat.le_trans (Nat.le_of_lt hk) h1, h2, fun hne => ?_⟩
    obtain ⟨b, off, e, hb, hel⟩ := h3 (fun e => hne (by rw [show l = ([] : List Rs) from e]; exact List.take_nil))
    refine ⟨b, off, e, hb, fun i x hx => ?_⟩
    have hx' : (l : List Rs)[i]? = some x := by
      have hi : i < kk := by
        have h := (List.getElem?_eq_some_iff.1 hx).1
        rw [hlen] at h
        exact h
      rw [← hx]
      exact (List.getElem?_take_of_lt hi).symm
    obtain ⟨es, he1, he2⟩ := hel i x hx'
    exact ⟨es, he1.mono (fun z hz => ⟨hz, hB.block z (hS z hz)⟩), he2.mono (hB.block b (hS b hb))⟩
  have h := val110.2 W trivial S ((l.take kk : List Rs), ()) [.slice base kk cap] (fun z hz => Nat.lt_of_lt_of_le (hS z hz) ha) ⟨[_], [], rfl, hR2, rfl⟩ (by
    show decide (List.length (α := Rs) (l.take kk) * 16 ≤ 140737488355328) = true
    rw [hlen]
    exact decide_eq_true (by omega))
  have h : CallsIn (W0.inRound lp) N Tryz.prog 110 _ W _ := (callsIn_wide (n := N)).2 h
  refine CallsIn.mono h ?_
  rintro e W' ⟨hb, v, cs, rfl, _, _, hrow, hrd⟩
  have hrow : W'.ownsRow W.heap.size 72 2 v (List.length (α := Rs) (l.take kk)) cs := hrow
  rw [hlen, rdL_rests hrd] at hrow
  rcases hrow.2 with ⟨rfl, h0⟩ | ⟨g, c, cur, rfl, _⟩
  · subst h0
    exact ⟨none, 0, rfl, hrow, hb⟩
  · exact ⟨some ⟨g, 0, none⟩, c, rfl, hrow, hb⟩
def findR (id : Nat) : Code → Option (Array Oper)
  | .region i ops _ => if i = id then some ops else none
  | .seq a b => match findR id a with
    | some r => some r
    | none => findR id b
  | .cond _ a b => match findR id a with
    | some r => some r
    | none => findR id b
  | .block _ b => findR id b
  | .scope b => findR id b
  | .loop b => findR id b
  | .rangeFunc _ _ a b => match findR id a with
    | some r => some r
    | none => findR id b
  | _ => none
theorem any_named {F : Fence} {n : Nat} {P : Program} {md : Region.Mode} {Q : Exit → Act → World → Prop} {ops : Array Oper} {a : Act} {w : World} (h : ∀ ops', ops' = ops → wpAnyIn F n P md ops' Q ops'.size (Array.replicate ops'.size false) a w) : wpAnyIn F n P md ops Q ops.size (Array.replicate ops.size false) a w := h _ rfl
set_option maxRecDepth 100000 in
set_option maxHeartbeats 4000000 in
theorem reg7 {ops : Array Oper} (hops : findR 7 (Tryz.f88.body.getD .skip) = some ops) {lp a p8 p9 p11 tb cap kk n : Nat} {base : Option Addr} {l : List Rs} {w2 : World} {Q : Exit → Act → World → Prop} {v8 v9 v11 : Value} {q1 q2 : Int} {z0 z1 z2 z3 z5 z6 z7 z10 z12 z15 z16 z17 z18 z19 z20 z21 z22 z23 z24 z25 z26 z33 z34 z35 z36 z37 z38 z39 z40 z41 : Value}
    (b4 : Boxed w2 a 26 (.slice base n cap)) (b8 : Boxed w2 p8 3 v8) (b9 : Boxed w2 p9 26 v9) (b11 : Boxed w2 p11 4 v11) (hn : kk < n) (hcap : n ≤ cap) (h89 : p8 ≠ p9) (h811 : p8 ≠ p11) (h911 : p9 ≠ p11)
    (hbox : w2.heap[tb]? = some (.cells #[.int .i64 q1, .int .i64 q2] 72 (0, 0)))
    (hcall : ∀ w', Below w2.heap.size w2 w' → CallsIn (W0.inRound lp) (3 - 1 - 1 - 1) Tryz.prog 110 #[.slice base kk cap] w' fun e w'' => ∃ x c, e = .returned (.slice x kk c) ∧ w''.ownsRow w2.heap.size 72 2 (.slice x kk c) kk (restV (l.take kk)) ∧ Below w'.heap.size w' w'')
    (hQ : ∀ x c w', Below w2.heap.size w2 w' → w'.ownsRow w2.heap.size 72 2 (.slice x kk c) kk (restV (l.take kk)) → Q .normal { tmps := #[z0, z1, z2, z3, .pointer (some ⟨a, 0, none⟩), z5, z6, z7, .pointer (some ⟨p8, 0, none⟩), .pointer (some ⟨p9, 0, none⟩), z10, .pointer (some ⟨p11, 0, none⟩), z12, .int .i64 (kk : Int), .pointer (some ⟨tb, 0, none⟩), z15, z16, z17, z18, z19, z20, z21, z22, z23, z24, z25, z26, .pointer (some ⟨tb, 0, none⟩), .int .i64 q1, .slice base n cap, .int .i64 (kk : Int), .slice base kk cap, .slice x kk c, z33, z34, z35, z36, z37, z38, z39, z40, z41], defers := [] } (((w'.setCell ⟨p8, 0, none⟩ (.int .i64 q1)).setCell ⟨p9, 0, none⟩ (.slice x kk c)).setCell ⟨p11, 0, none⟩ (.bool true))) :
    (Code.region 7 ops true).wpIn (W0.inRound lp) (3 - 1 - 1) Tryz.prog Q { tmps := #[z0, z1, z2, z3, .pointer (some ⟨a, 0, none⟩), z5, z6, z7, .pointer (some ⟨p8, 0, none⟩), .pointer (some ⟨p9, 0, none⟩), z10, .pointer (some ⟨p11, 0, none⟩), z12, .int .i64 (kk : Int), .pointer (some ⟨tb, 0, none⟩), z15, z16, z17, z18, z19, z20, z21, z22, z23, z24, z25, z26, undef, undef, undef, undef, undef, undef, z33, z34, z35, z36, z37, z38, z39, z40, z41], defers := [] } w2 := by
  have hl : findR 7 (Tryz.f88.body.getD .skip) = some _ := rfl
  rw [hl] at hops
  cases hops
  clear hl
  dsimp only at hQ ⊢
  refine wpIn_region_any (by kernel_rfl) ?_
  refine any_named fun ops' hops => ?_
  have hsz : ops'.size = 9 := by rw [hops]; rfl
  rw [hsz]
  have st0 : ∀ (K : Act → World → Prop) (w' : World) (u27 u28 u29 u30 u31 u32 : Value), Below w2.heap.size w2 w' → K { tmps := #[z0, z1, z2, z3, .pointer (some ⟨a, 0, none⟩), z5, z6, z7, .pointer (some ⟨p8, 0, none⟩), .pointer (some ⟨p9, 0, none⟩), z10, .pointer (some ⟨p11, 0, none⟩), z12, .int .i64 (kk : Int), .pointer (some ⟨tb, 0, none⟩), z15, z16, z17, z18, z19, z20, z21, z22, z23, z24, z25, z26, .pointer (some ⟨tb, 0, none⟩), u28, u29, u30, u31, u32, z33, z34, z35, z36, z37, z38, z39, z40, z41], defers := [] } w' → wpOpIn (W0.inRound lp) (3 - 1 - 1) Tryz.prog ops' Q 0 K { tmps := #[z0, z1, z2, z3, .pointer (some ⟨a, 0, none⟩), z5, z6, z7, .pointer (some ⟨p8, 0, none⟩), .pointer (some ⟨p9, 0, none⟩), z10, .pointer (some ⟨p11, 0, none⟩), z12, .int .i64 (kk : Int), .pointer (some ⟨tb, 0, none⟩), z15, z16, z17, z18, z19, z20, z21, z22, z23, z24, z25, z26, u27, u28, u29, u30, u31, u32, z33, z34, z35, z36, z37, z38, z39, z40, z41], defers := [] } w' := by
    intro K w' u27 u28 u29 u30 u31 u32 hb hK
    rw [hops]
    unfold wpOpIn
    simp only [Region.wanted, List.getElem?_toArray, List.getElem?_cons_zero, List.getElem?_cons_succ, if_true]
    unfold Oper.wpIn
    go_simp
    try exact hK
  have st1 : ∀ (K : Act → World → Prop) (w' : World) (u27 u28 u29 u30 u31 u32 : Value), Below w2.heap.size w2 w' → K { tmps := #[z0, z1, z2, z3, .pointer (some ⟨a, 0, none⟩), z5, z6, z7, .pointer (some ⟨p8, 0, none⟩), .pointer (some ⟨p9, 0, none⟩), z10, .pointer (some ⟨p11, 0, none⟩), z12, .int .i64 (kk : Int), .pointer (some ⟨tb, 0, none⟩), z15, z16, z17, z18, z19, z20, z21, z22, z23, z24, z25, z26, .pointer (some ⟨tb, 0, none⟩), .int .i64 q1, u29, u30, u31, u32, z33, z34, z35, z36, z37, z38, z39, z40, z41], defers := [] } w' → wpOpIn (W0.inRound lp) (3 - 1 - 1) Tryz.prog ops' Q 1 K { tmps := #[z0, z1, z2, z3, .pointer (some ⟨a, 0, none⟩), z5, z6, z7, .pointer (some ⟨p8, 0, none⟩), .pointer (some ⟨p9, 0, none⟩), z10, .pointer (some ⟨p11, 0, none⟩), z12, .int .i64 (kk : Int), .pointer (some ⟨tb, 0, none⟩), z15, z16, z17, z18, z19, z20, z21, z22, z23, z24, z25, z26, .pointer (some ⟨tb, 0, none⟩), u28, u29, u30, u31, u32, z33, z34, z35, z36, z37, z38, z39, z40, z41], defers := [] } w' := by
    intro K w' u27 u28 u29 u30 u31 u32 hb hK
    have hx : w'.cell? ⟨tb, 0, none⟩ = some (.int .i64 q1) := (hb.cell (p := ⟨tb, 0, none⟩) (Array.getElem?_eq_some_iff.1 hbox).1).trans (by simp [World.cell?, hbox])
    rw [hops]
    unfold wpOpIn
    simp only [Region.wanted, List.getElem?_toArray, List.getElem?_cons_zero, List.getElem?_cons_succ, if_true]
    unfold Oper.wpIn
    go_simp
    try exact hK
  have st2 : ∀ (K : Act → World → Prop) (w' : World) (u27 u28 u29 u30 u31 u32 : Value), Below w2.heap.size w2 w' → K { tmps := #[z0, z1, z2, z3, .pointer (some ⟨a, 0, none⟩), z5, z6, z7, .pointer (some ⟨p8, 0, none⟩), .pointer (some ⟨p9, 0, none⟩), z10, .pointer (some ⟨p11, 0, none⟩), z12, .int .i64 (kk : Int), .pointer (some ⟨tb, 0, none⟩), z15, z16, z17, z18, z19, z20, z21, z22, z23, z24, z25, z26, u27, u28, .slice base n cap, u30, u31, u32, z33, z34, z35, z36, z37, z38, z39, z40, z41], defers := [] } w' → wpOpIn (W0.inRound lp) (3 - 1 - 1) Tryz.prog ops' Q 2 K { tmps := #[z0, z1, z2, z3, .pointer (some ⟨a, 0, none⟩), z5, z6, z7, .pointer (some ⟨p8, 0, none⟩), .pointer (some ⟨p9, 0, none⟩), z10, .pointer (some ⟨p11, 0, none⟩), z12, .int .i64 (kk : Int), .pointer (some ⟨tb, 0, none⟩), z15, z16, z17, z18, z19, z20, z21, z22, z23, z24, z25, z26, u27, u28, u29, u30, u31, u32, z33, z34, z35, z36, z37, z38, z39, z40, z41], defers := [] } w' := by
    intro K w' u27 u28 u29 u30 u31 u32 hb hK
    have hx : w'.cell? ⟨a, 0, none⟩ = some (.slice base n cap) := (hb.cell (p := ⟨a, 0, none⟩) b4.lt).trans b4.cell
    rw [hops]
    unfold wpOpIn
    simp only [Region.wanted, List.getElem?_toArray, List.getElem?_cons_zero, List.getElem?_cons_succ, if_true]
    unfold Oper.wpIn
    go_simp
    try exact hK
  have st3 : ∀ (K : Act → World → Prop) (w' : World) (u27 u28 u29 u30 u31 u32 : Value), Below w2.heap.size w2 w' → K { tmps := #[z0, z1, z2, z3, .pointer (some ⟨a, 0, none⟩), z5, z6, z7, .pointer (some ⟨p8, 0, none⟩), .pointer (some ⟨p9, 0, none⟩), z10, .pointer (some ⟨p11, 0, none⟩), z12, .int .i64 (kk : Int), .pointer (some ⟨tb, 0, none⟩), z15, z16, z17, z18, z19, z20, z21, z22, z23, z24, z25, z26, u27, u28, u29, .int .i64 (kk : Int), u31, u32, z33, z34, z35, z36, z37, z38, z39, z40, z41], defers := [] } w' → wpOpIn (W0.inRound lp) (3 - 1 - 1) Tryz.prog ops' Q 3 K { tmps := #[z0, z1, z2, z3, .pointer (some ⟨a, 0, none⟩), z5, z6, z7, .pointer (some ⟨p8, 0, none⟩), .pointer (some ⟨p9, 0, none⟩), z10, .pointer (some ⟨p11, 0, none⟩), z12, .int .i64 (kk : Int), .pointer (some ⟨tb, 0, none⟩), z15, z16, z17, z18, z19, z20, z21, z22, z23, z24, z25, z26, u27, u28, u29, u30, u31, u32, z33, z34, z35, z36, z37, z38, z39, z40, z41], defers := [] } w' := by
    intro K w' u27 u28 u29 u30 u31 u32 hb hK
    rw [hops]
    unfold wpOpIn
    simp only [Region.wanted, List.getElem?_toArray, List.getElem?_cons_zero, List.getElem?_cons_succ, if_true]
    unfold Oper.wpIn
    go_simp
    try exact hK
  have st4 : ∀ (K : Act → World → Prop) (w' : World) (u27 u28 u29 u30 u31 u32 : Value), Below w2.heap.size w2 w' → K { tmps := #[z0, z1, z2, z3, .pointer (some ⟨a, 0, none⟩), z5, z6, z7, .pointer (some ⟨p8, 0, none⟩), .pointer (some ⟨p9, 0, none⟩), z10, .pointer (some ⟨p11, 0, none⟩), z12, .int .i64 (kk : Int), .pointer (some ⟨tb, 0, none⟩), z15, z16, z17, z18, z19, z20, z21, z22, z23, z24, z25, z26, u27, u28, .slice base n cap, .int .i64 (kk : Int), .slice base kk cap, u32, z33, z34, z35, z36, z37, z38, z39, z40, z41], defers := [] } w' → wpOpIn (W0.inRound lp) (3 - 1 - 1) Tryz.prog ops' Q 4 K { tmps := #[z0, z1, z2, z3, .pointer (some ⟨a, 0, none⟩), z5, z6, z7, .pointer (some ⟨p8, 0, none⟩), .pointer (some ⟨p9, 0, none⟩), z10, .pointer (some ⟨p11, 0, none⟩), z12, .int .i64 (kk : Int), .pointer (some ⟨tb, 0, none⟩), z15, z16, z17, z18, z19, z20, z21, z22, z23, z24, z25, z26, u27, u28, .slice base n cap, .int .i64 (kk : Int), u31, u32, z33, z34, z35, z36, z37, z38, z39, z40, z41], defers := [] } w' := by
    intro K w' u27 u28 u29 u30 u31 u32 hb hK
    rw [hops]
    unfold wpOpIn
    simp only [Region.wanted, List.getElem?_toArray, List.getElem?_cons_zero, List.getElem?_cons_succ, if_true]
    unfold Oper.wpIn
    go_simp
    rw [if_pos (show kk ≤ cap by omega)]
    try exact hK
  have st5 : ∀ (K : Act → World → Prop) (w' : World) (u27 u28 u29 u30 u31 u32 : Value), Below w2.heap.size w2 w' → (∀ xx cc w', Below w2.heap.size w2 w' → w'.ownsRow w2.heap.size 72 2 (.slice xx kk cc) kk (restV (l.take kk)) → K { tmps := #[z0, z1, z2, z3, .pointer (some ⟨a, 0, none⟩), z5, z6, z7, .pointer (some ⟨p8, 0, none⟩), .pointer (some ⟨p9, 0, none⟩), z10, .pointer (some ⟨p11, 0, none⟩), z12, .int .i64 (kk : Int), .pointer (some ⟨tb, 0, none⟩), z15, z16, z17, z18, z19, z20, z21, z22, z23, z24, z25, z26, u27, u28, u29, u30, .slice base kk cap, .slice xx kk cc, z33, z34, z35, z36, z37, z38, z39, z40, z41], defers := [] } w') → wpOpIn (W0.inRound lp) (3 - 1 - 1) Tryz.prog ops' Q 5 K { tmps := #[z0, z1, z2, z3, .pointer (some ⟨a, 0, none⟩), z5, z6, z7, .pointer (some ⟨p8, 0, none⟩), .pointer (some ⟨p9, 0, none⟩), z10, .pointer (some ⟨p11, 0, none⟩), z12, .int .i64 (kk : Int), .pointer (some ⟨tb, 0, none⟩), z15, z16, z17, z18, z19, z20, z21, z22, z23, z24, z25, z26, u27, u28, u29, u30, .slice base kk cap, u32, z33, z34, z35, z36, z37, z38, z39, z40, z41], defers := [] } w' := by
    intro K w' u27 u28 u29 u30 u31 u32 hb hK
    rw [hops]
    unfold wpOpIn
    simp only [Region.wanted, List.getElem?_toArray, List.getElem?_cons_zero, List.getElem?_cons_succ, if_true]
    unfold Oper.wpIn
    go_simp
    refine ⟨wide_fn _, CallsIn.mono (hcall w' hb) ?_⟩
    rintro e w4 ⟨x, c, rfl, hr, hb2⟩
    exact hK x c w4 (hb.trans (hb2.mono hb.size)) hr
  have st6 : ∀ (K : Act → World → Prop) (w' : World) (xx : Option Addr) (cc : Nat), Below w2.heap.size w2 w' → K { tmps := #[z0, z1, z2, z3, .pointer (some ⟨a, 0, none⟩), z5, z6, z7, .pointer (some ⟨p8, 0, none⟩), .pointer (some ⟨p9, 0, none⟩), z10, .pointer (some ⟨p11, 0, none⟩), z12, .int .i64 (kk : Int), .pointer (some ⟨tb, 0, none⟩), z15, z16, z17, z18, z19, z20, z21, z22, z23, z24, z25, z26, .pointer (some ⟨tb, 0, none⟩), .int .i64 q1, .slice base n cap, .int .i64 (kk : Int), .slice base kk cap, .slice xx kk cc, z33, z34, z35, z36, z37, z38, z39, z40, z41], defers := [] } (w'.setCell ⟨p8, 0, none⟩ (.int .i64 q1)) → wpOpIn (W0.inRound lp) (3 - 1 - 1) Tryz.prog ops' Q 6 K { tmps := #[z0, z1, z2, z3, .pointer (some ⟨a, 0, none⟩), z5, z6, z7, .pointer (some ⟨p8, 0, none⟩), .pointer (some ⟨p9, 0, none⟩), z10, .pointer (some ⟨p11, 0, none⟩), z12, .int .i64 (kk : Int), .pointer (some ⟨tb, 0, none⟩), z15, z16, z17, z18, z19, z20, z21, z22, z23, z24, z25, z26, .pointer (some ⟨tb, 0, none⟩), .int .i64 q1, .slice base n cap, .int .i64 (kk : Int), .slice base kk cap, .slice xx kk cc, z33, z34, z35, z36, z37, z38, z39, z40, z41], defers := [] } w' := by
    intro K w' xx cc hb hK
    have B := (hb.block _ b8.lt).trans b8
    have B : Boxed w' p8 3 v8 := B
    have B1 := B.cell
    have B2 := B.frozen
    rw [hops]
    unfold wpOpIn
    simp only [Region.wanted, List.getElem?_toArray, List.getElem?_cons_zero, List.getElem?_cons_succ, if_true]
    unfold Oper.wpIn
    go_simp
    try exact hK
  have st7 : ∀ (K : Act → World → Prop) (w' : World) (xx : Option Addr) (cc : Nat), Below w2.heap.size w2 w' → K { tmps := #[z0, z1, z2, z3, .pointer (some ⟨a, 0, none⟩), z5, z6, z7, .pointer (some ⟨p8, 0, none⟩), .pointer (some ⟨p9, 0, none⟩), z10, .pointer (some ⟨p11, 0, none⟩), z12, .int .i64 (kk : Int), .pointer (some ⟨tb, 0, none⟩), z15, z16, z17, z18, z19, z20, z21, z22, z23, z24, z25, z26, .pointer (some ⟨tb, 0, none⟩), .int .i64 q1, .slice base n cap, .int .i64 (kk : Int), .slice base kk cap, .slice xx kk cc, z33, z34, z35, z36, z37, z38, z39, z40, z41], defers := [] } ((w'.setCell ⟨p8, 0, none⟩ (.int .i64 q1)).setCell ⟨p9, 0, none⟩ (.slice xx kk cc)) → wpOpIn (W0.inRound lp) (3 - 1 - 1) Tryz.prog ops' Q 7 K { tmps := #[z0, z1, z2, z3, .pointer (some ⟨a, 0, none⟩), z5, z6, z7, .pointer (some ⟨p8, 0, none⟩), .pointer (some ⟨p9, 0, none⟩), z10, .pointer (some ⟨p11, 0, none⟩), z12, .int .i64 (kk : Int), .pointer (some ⟨tb, 0, none⟩), z15, z16, z17, z18, z19, z20, z21, z22, z23, z24, z25, z26, .pointer (some ⟨tb, 0, none⟩), .int .i64 q1, .slice base n cap, .int .i64 (kk : Int), .slice base kk cap, .slice xx kk cc, z33, z34, z35, z36, z37, z38, z39, z40, z41], defers := [] } (w'.setCell ⟨p8, 0, none⟩ (.int .i64 q1)) := by
    intro K w' xx cc hb hK
    have B : Boxed w' p9 26 v9 := (hb.block _ b9.lt).trans b9
    have B := B.other h89.symm (.int .i64 q1)
    have B1 := B.cell
    have B2 := B.frozen
    rw [hops]
    unfold wpOpIn
    simp only [Region.wanted, List.getElem?_toArray, List.getElem?_cons_zero, List.getElem?_cons_succ, if_true]
    unfold Oper.wpIn
    go_simp
    try exact hK
  have st8 : ∀ (K : Act → World → Prop) (w' : World) (xx : Option Addr) (cc : Nat), Below w2.heap.size w2 w' → K { tmps := #[z0, z1, z2, z3, .pointer (some ⟨a, 0, none⟩), z5, z6, z7, .pointer (some ⟨p8, 0, none⟩), .pointer (some ⟨p9, 0, none⟩), z10, .pointer (some ⟨p11, 0, none⟩), z12, .int .i64 (kk : Int), .pointer (some ⟨tb, 0, none⟩), z15, z16, z17, z18, z19, z20, z21, z22, z23, z24, z25, z26, .pointer (some ⟨tb, 0, none⟩), .int .i64 q1, .slice base n cap, .int .i64 (kk : Int), .slice base kk cap, .slice xx kk cc, z33, z34, z35, z36, z37, z38, z39, z40, z41], defers := [] } (((w'.setCell ⟨p8, 0, none⟩ (.int .i64 q1)).setCell ⟨p9, 0, none⟩ (.slice xx kk cc)).setCell ⟨p11, 0, none⟩ (.bool true)) → wpOpIn (W0.inRound lp) (3 - 1 - 1) Tryz.prog ops' Q 8 K { tmps := #[z0, z1, z2, z3, .pointer (some ⟨a, 0, none⟩), z5, z6, z7, .pointer (some ⟨p8, 0, none⟩), .pointer (some ⟨p9, 0, none⟩), z10, .pointer (some ⟨p11, 0, none⟩), z12, .int .i64 (kk : Int), .pointer (some ⟨tb, 0, none⟩), z15, z16, z17, z18, z19, z20, z21, z22, z23, z24, z25, z26, .pointer (some ⟨tb, 0, none⟩), .int .i64 q1, .slice base n cap, .int .i64 (kk : Int), .slice base kk cap, .slice xx kk cc, z33, z34, z35, z36, z37, z38, z39, z40, z41], defers := [] } ((w'.setCell ⟨p8, 0, none⟩ (.int .i64 q1)).setCell ⟨p9, 0, none⟩ (.slice xx kk cc)) := by
    intro K w' xx cc hb hK
    have B : Boxed w' p11 4 v11 := (hb.block _ b11.lt).trans b11
    have B := (B.other h811.symm (.int .i64 q1)).other h911.symm (.slice xx kk cc)
    have B1 := B.cell
    have B2 := B.frozen
    rw [hops]
    unfold wpOpIn
    simp only [Region.wanted, List.getElem?_toArray, List.getElem?_cons_zero, List.getElem?_cons_succ, if_true]
    unfold Oper.wpIn
    go_simp
    try exact hK
  have t9 : ∀ (w' : World) (xx : Option Addr) (cc : Nat), Below w2.heap.size w2 w' → w'.ownsRow w2.heap.size 72 2 (.slice xx kk cc) kk (restV (l.take kk)) → wpAnyIn (W0.inRound lp) (3 - 1 - 1) Tryz.prog .any ops' Q 0 #[true, true, true, true, true, true, true, true, true] { tmps := #[z0, z1, z2, z3, .pointer (some ⟨a, 0, none⟩), z5, z6, z7, .pointer (some ⟨p8, 0, none⟩), .pointer (some ⟨p9, 0, none⟩), z10, .pointer (some ⟨p11, 0, none⟩), z12, .int .i64 (kk : Int), .pointer (some ⟨tb, 0, none⟩), z15, z16, z17, z18, z19, z20, z21, z22, z23, z24, z25, z26, .pointer (some ⟨tb, 0, none⟩), .int .i64 q1, .slice base n cap, .int .i64 (kk : Int), .slice base kk cap, .slice xx kk cc, z33, z34, z35, z36, z37, z38, z39, z40, z41], defers := [] } (((w'.setCell ⟨p8, 0, none⟩ (.int .i64 q1)).setCell ⟨p9, 0, none⟩ (.slice xx kk cc)).setCell ⟨p11, 0, none⟩ (.bool true)) := fun w' xx cc hb hr => ⟨by rw [hops]; kernel_rfl, hQ xx cc w' hb hr⟩
  have t8 : ∀ (w' : World) (xx : Option Addr) (cc : Nat), Below w2.heap.size w2 w' → w'.ownsRow w2.heap.size 72 2 (.slice xx kk cc) kk (restV (l.take kk)) → wpAnyIn (W0.inRound lp) (3 - 1 - 1) Tryz.prog .any ops' Q 1 #[true, true, true, true, true, true, true, true, false] { tmps := #[z0, z1, z2, z3, .pointer (some ⟨a, 0, none⟩), z5, z6, z7, .pointer (some ⟨p8, 0, none⟩), .pointer (some ⟨p9, 0, none⟩), z10, .pointer (some ⟨p11, 0, none⟩), z12, .int .i64 (kk : Int), .pointer (some ⟨tb, 0, none⟩), z15, z16, z17, z18, z19, z20, z21, z22, z23, z24, z25, z26, .pointer (some ⟨tb, 0, none⟩), .int .i64 q1, .slice base n cap, .int .i64 (kk : Int), .slice base kk cap, .slice xx kk cc, z33, z34, z35, z36, z37, z38, z39, z40, z41], defers := [] } ((w'.setCell ⟨p8, 0, none⟩ (.int .i64 q1)).setCell ⟨p9, 0, none⟩ (.slice xx kk cc)) := by
    intro w' xx cc hb hrw
    have hr : Region.ready .any ops' #[true, true, true, true, true, true, true, true, false] = [8] := by rw [hops]; kernel_rfl
    refine ⟨fun h => absurd (hr.symm.trans h) (by simp), ?_⟩
    rw [hr]
    intro i hi
    obtain rfl := List.mem_singleton.1 hi
    exact st8 _ w' xx cc hb (t9 w' xx cc hb hrw)
  have t7 : ∀ (w' : World) (xx : Option Addr) (cc : Nat), Below w2.heap.size w2 w' → w'.ownsRow w2.heap.size 72 2 (.slice xx kk cc) kk (restV (l.take kk)) → wpAnyIn (W0.inRound lp) (3 - 1 - 1) Tryz.prog .any ops' Q 2 #[true, true, true, true, true, true, true, false, false] { tmps := #[z0, z1, z2, z3, .pointer (some ⟨a, 0, none⟩), z5, z6, z7, .pointer (some ⟨p8, 0, none⟩), .pointer (some ⟨p9, 0, none⟩), z10, .pointer (some ⟨p11, 0, none⟩), z12, .int .i64 (kk : Int), .pointer (some ⟨tb, 0, none⟩), z15, z16, z17, z18, z19, z20, z21, z22, z23, z24, z25, z26, .pointer (some ⟨tb, 0, none⟩), .int .i64 q1, .slice base n cap, .int .i64 (kk : Int), .slice base kk cap, .slice xx kk cc, z33, z34, z35, z36, z37, z38, z39, z40, z41], defers := [] } (w'.setCell ⟨p8, 0, none⟩ (.int .i64 q1)) := by
    intro w' xx cc hb hrw
    have hr : Region.ready .any ops' #[true, true, true, true, true, true, true, false, false] = [7] := by rw [hops]; kernel_rfl
    refine ⟨fun h => absurd (hr.symm.trans h) (by simp), ?_⟩
    rw [hr]
    intro i hi
    obtain rfl := List.mem_singleton.1 hi
    exact st7 _ w' xx cc hb (t8 w' xx cc hb hrw)
  have t6 : ∀ (w' : World) (xx : Option Addr) (cc : Nat), Below w2.heap.size w2 w' → w'.ownsRow w2.heap.size 72 2 (.slice xx kk cc) kk (restV (l.take kk)) → wpAnyIn (W0.inRound lp) (3 - 1 - 1) Tryz.prog .any ops' Q 3 #[true, true, true, true, true, true, false, false, false] { tmps := #[z0, z1, z2, z3, .pointer (some ⟨a, 0, none⟩), z5, z6, z7, .pointer (some ⟨p8, 0, none⟩), .pointer (some ⟨p9, 0, none⟩), z10, .pointer (some ⟨p11, 0, none⟩), z12, .int .i64 (kk : Int), .pointer (some ⟨tb, 0, none⟩), z15, z16, z17, z18, z19, z20, z21, z22, z23, z24, z25, z26, .pointer (some ⟨tb, 0, none⟩), .int .i64 q1, .slice base n cap, .int .i64 (kk : Int), .slice base kk cap, .slice xx kk cc, z33, z34, z35, z36, z37, z38, z39, z40, z41], defers := [] } w' := by
    intro w' xx cc hb hrw
    have hr : Region.ready .any ops' #[true, true, true, true, true, true, false, false, false] = [6] := by rw [hops]; kernel_rfl
    refine ⟨fun h => absurd (hr.symm.trans h) (by simp), ?_⟩
    rw [hr]
    intro i hi
    obtain rfl := List.mem_singleton.1 hi
    exact st6 _ w' xx cc hb (t7 w' xx cc hb hrw)
  have s101111 : ∀ (w' : World) (xx : Option Addr) (cc : Nat), Below w2.heap.size w2 w' → w'.ownsRow w2.heap.size 72 2 (.slice xx kk cc) kk (restV (l.take kk)) → wpAnyIn (W0.inRound lp) (3 - 1 - 1) Tryz.prog .any ops' Q 4 #[true, false, true, true, true, true, false, false, false] { tmps := #[z0, z1, z2, z3, .pointer (some ⟨a, 0, none⟩), z5, z6, z7, .pointer (some ⟨p8, 0, none⟩), .pointer (some ⟨p9, 0, none⟩), z10, .pointer (some ⟨p11, 0, none⟩), z12, .int .i64 (kk : Int), .pointer (some ⟨tb, 0, none⟩), z15, z16, z17, z18, z19, z20, z21, z22, z23, z24, z25, z26, .pointer (some ⟨tb, 0, none⟩), undef, .slice base n cap, .int .i64 (kk : Int), .slice base kk cap, .slice xx kk cc, z33, z34, z35, z36, z37, z38, z39, z40, z41], defers := [] } w' := by
    intro w' xx cc hb hrw
    have hr : Region.ready .any ops' #[true, false, true, true, true, true, false, false, false] = [1] := by rw [hops]; kernel_rfl
    refine ⟨fun h => absurd (hr.symm.trans h) (by simp), ?_⟩
    rw [hr]
    intro i hi
    obtain rfl := List.mem_singleton.1 hi
    exact st1 _ w' (.pointer (some ⟨tb, 0, none⟩)) (undef) (.slice base n cap) (.int .i64 (kk : Int)) (.slice base kk cap) (.slice xx kk cc) hb (t6 w' xx cc hb hrw)
  have s111110 : ∀ (w' : World), Below w2.heap.size w2 w' → wpAnyIn (W0.inRound lp) (3 - 1 - 1) Tryz.prog .any ops' Q 4 #[true, true, true, true, true, false, false, false, false] { tmps := #[z0, z1, z2, z3, .pointer (some ⟨a, 0, none⟩), z5, z6, z7, .pointer (some ⟨p8, 0, none⟩), .pointer (some ⟨p9, 0, none⟩), z10, .pointer (some ⟨p11, 0, none⟩), z12, .int .i64 (kk : Int), .pointer (some ⟨tb, 0, none⟩), z15, z16, z17, z18, z19, z20, z21, z22, z23, z24, z25, z26, .pointer (some ⟨tb, 0, none⟩), .int .i64 q1, .slice base n cap, .int .i64 (kk : Int), .slice base kk cap, undef, z33, z34, z35, z36, z37, z38, z39, z40, z41], defers := [] } w' := by
    intro w' hb
    have hr : Region.ready .any ops' #[true, true, true, true, true, false, false, false, false] = [5] := by rw [hops]; kernel_rfl
    refine ⟨fun h => absurd (hr.symm.trans h) (by simp), ?_⟩
    rw [hr]
    intro i hi
    obtain rfl := List.mem_singleton.1 hi
    exact st5 _ w' (.pointer (some ⟨tb, 0, none⟩)) (.int .i64 q1) (.slice base n cap) (.int .i64 (kk : Int)) (.slice base kk cap) (undef) hb (fun xx cc w' hb hrw => t6 w' xx cc hb hrw)
  have s001111 : ∀ (w' : World) (xx : Option Addr) (cc : Nat), Below w2.heap.size w2 w' → w'.ownsRow w2.heap.size 72 2 (.slice xx kk cc) kk (restV (l.take kk)) → wpAnyIn (W0.inRound lp) (3 - 1 - 1) Tryz.prog .any ops' Q 5 #[false, false, true, true, true, true, false, false, false] { tmps := #[z0, z1, z2, z3, .pointer (some ⟨a, 0, none⟩), z5, z6, z7, .pointer (some ⟨p8, 0, none⟩), .pointer (some ⟨p9, 0, none⟩), z10, .pointer (some ⟨p11, 0, none⟩), z12, .int .i64 (kk : Int), .pointer (some ⟨tb, 0, none⟩), z15, z16, z17, z18, z19, z20, z21, z22, z23, z24, z25, z26, undef, undef, .slice base n cap, .int .i64 (kk : Int), .slice base kk cap, .slice xx kk cc, z33, z34, z35, z36, z37, z38, z39, z40, z41], defers := [] } w' := by
    intro w' xx cc hb hrw
    have hr : Region.ready .any ops' #[false, false, true, true, true, true, false, false, false] = [0] := by rw [hops]; kernel_rfl
    refine ⟨fun h => absurd (hr.symm.trans h) (by simp), ?_⟩
    rw [hr]
    intro i hi
    obtain rfl := List.mem_singleton.1 hi
    exact st0 _ w' (undef) (undef) (.slice base n cap) (.int .i64 (kk : Int)) (.slice base kk cap) (.slice xx kk cc) hb (s101111 w' xx cc hb hrw)
  have s101110 : ∀ (w' : World), Below w2.heap.size w2 w' → wpAnyIn (W0.inRound lp) (3 - 1 - 1) Tryz.prog .any ops' Q 5 #[true, false, true, true, true, false, false, false, false] { tmps := #[z0, z1, z2, z3, .pointer (some ⟨a, 0, none⟩), z5, z6, z7, .pointer (some ⟨p8, 0, none⟩), .pointer (some ⟨p9, 0, none⟩), z10, .pointer (some ⟨p11, 0, none⟩), z12, .int .i64 (kk : Int), .pointer (some ⟨tb, 0, none⟩), z15, z16, z17, z18, z19, z20, z21, z22, z23, z24, z25, z26, .pointer (some ⟨tb, 0, none⟩), undef, .slice base n cap, .int .i64 (kk : Int), .slice base kk cap, undef, z33, z34, z35, z36, z37, z38, z39, z40, z41], defers := [] } w' := by
    intro w' hb
    have hr : Region.ready .any ops' #[true, false, true, true, true, false, false, false, false] = [1, 5] := by rw [hops]; kernel_rfl
    refine ⟨fun h => absurd (hr.symm.trans h) (by simp), ?_⟩
    rw [hr]
    intro i hi
    simp only [List.mem_cons, List.not_mem_nil, or_false] at hi
    rcases hi with rfl | rfl
    · exact st1 _ w' (.pointer (some ⟨tb, 0, none⟩)) (undef) (.slice base n cap) (.int .i64 (kk : Int)) (.slice base kk cap) (undef) hb (s111110 w' hb)
    · exact st5 _ w' (.pointer (some ⟨tb, 0, none⟩)) (undef) (.slice base n cap) (.int .i64 (kk : Int)) (.slice base kk cap) (undef) hb (fun xx cc w' hb hrw => s101111 w' xx cc hb hrw)
  have s111100 : ∀ (w' : World), Below w2.heap.size w2 w' → wpAnyIn (W0.inRound lp) (3 - 1 - 1) Tryz.prog .any ops' Q 5 #[true, true, true, true, false, false, false, false, false] { tmps := #[z0, z1, z2, z3, .pointer (some ⟨a, 0, none⟩), z5, z6, z7, .pointer (some ⟨p8, 0, none⟩), .pointer (some ⟨p9, 0, none⟩), z10, .pointer (some ⟨p11, 0, none⟩), z12, .int .i64 (kk : Int), .pointer (some ⟨tb, 0, none⟩), z15, z16, z17, z18, z19, z20, z21, z22, z23, z24, z25, z26, .pointer (some ⟨tb, 0, none⟩), .int .i64 q1, .slice base n cap, .int .i64 (kk : Int), undef, undef, z33, z34, z35, z36, z37, z38, z39, z40, z41], defers := [] } w' := by
    intro w' hb
    have hr : Region.ready .any ops' #[true, true, true, true, false, false, false, false, false] = [4] := by rw [hops]; kernel_rfl
    refine ⟨fun h => absurd (hr.symm.trans h) (by simp), ?_⟩
    rw [hr]
    intro i hi
    obtain rfl := List.mem_singleton.1 hi
    exact st4 _ w' (.pointer (some ⟨tb, 0, none⟩)) (.int .i64 q1) (.slice base n cap) (.int .i64 (kk : Int)) (undef) (undef) hb (s111110 w' hb)
  have s001110 : ∀ (w' : World), Below w2.heap.size w2 w' → wpAnyIn (W0.inRound lp) (3 - 1 - 1) Tryz.prog .any ops' Q 6 #[false, false, true, true, true, false, false, false, false] { tmps := #[z0, z1, z2, z3, .pointer (some ⟨a, 0, none⟩), z5, z6, z7, .pointer (some ⟨p8, 0, none⟩), .pointer (some ⟨p9, 0, none⟩), z10, .pointer (some ⟨p11, 0, none⟩), z12, .int .i64 (kk : Int), .pointer (some ⟨tb, 0, none⟩), z15, z16, z17, z18, z19, z20, z21, z22, z23, z24, z25, z26, undef, undef, .slice base n cap, .int .i64 (kk : Int), .slice base kk cap, undef, z33, z34, z35, z36, z37, z38, z39, z40, z41], defers := [] } w' := by
    intro w' hb
    have hr : Region.ready .any ops' #[false, false, true, true, true, false, false, false, false] = [0, 5] := by rw [hops]; kernel_rfl
    refine ⟨fun h => absurd (hr.symm.trans h) (by simp), ?_⟩
    rw [hr]
    intro i hi
    simp only [List.mem_cons, List.not_mem_nil, or_false] at hi
    rcases hi with rfl | rfl
    · exact st0 _ w' (undef) (undef) (.slice base n cap) (.int .i64 (kk : Int)) (.slice base kk cap) (undef) hb (s101110 w' hb)
    · exact st5 _ w' (undef) (undef) (.slice base n cap) (.int .i64 (kk : Int)) (.slice base kk cap) (undef) hb (fun xx cc w' hb hrw => s001111 w' xx cc hb hrw)
  have s101100 : ∀ (w' : World), Below w2.heap.size w2 w' → wpAnyIn (W0.inRound lp) (3 - 1 - 1) Tryz.prog .any ops' Q 6 #[true, false, true, true, false, false, false, false, false] { tmps := #[z0, z1, z2, z3, .pointer (some ⟨a, 0, none⟩), z5, z6, z7, .pointer (some ⟨p8, 0, none⟩), .pointer (some ⟨p9, 0, none⟩), z10, .pointer (some ⟨p11, 0, none⟩), z12, .int .i64 (kk : Int), .pointer (some ⟨tb, 0, none⟩), z15, z16, z17, z18, z19, z20, z21, z22, z23, z24, z25, z26, .pointer (some ⟨tb, 0, none⟩), undef, .slice base n cap, .int .i64 (kk : Int), undef, undef, z33, z34, z35, z36, z37, z38, z39, z40, z41], defers := [] } w' := by
    intro w' hb
    have hr : Region.ready .any ops' #[true, false, true, true, false, false, false, false, false] = [1, 4] := by rw [hops]; kernel_rfl
    refine ⟨fun h => absurd (hr.symm.trans h) (by simp), ?_⟩
    rw [hr]
    intro i hi
    simp only [List.mem_cons, List.not_mem_nil, or_false] at hi
    rcases hi with rfl | rfl
    · exact st1 _ w' (.pointer (some ⟨tb, 0, none⟩)) (undef) (.slice base n cap) (.int .i64 (kk : Int)) (undef) (undef) hb (s111100 w' hb)
    · exact st4 _ w' (.pointer (some ⟨tb, 0, none⟩)) (undef) (.slice base n cap) (.int .i64 (kk : Int)) (undef) (undef) hb (s101110 w' hb)
  have s110100 : ∀ (w' : World), Below w2.heap.size w2 w' → wpAnyIn (W0.inRound lp) (3 - 1 - 1) Tryz.prog .any ops' Q 6 #[true, true, false, true, false, false, false, false, false] { tmps := #[z0, z1, z2, z3, .pointer (some ⟨a, 0, none⟩), z5, z6, z7, .pointer (some ⟨p8, 0, none⟩), .pointer (some ⟨p9, 0, none⟩), z10, .pointer (some ⟨p11, 0, none⟩), z12, .int .i64 (kk : Int), .pointer (some ⟨tb, 0, none⟩), z15, z16, z17, z18, z19, z20, z21, z22, z23, z24, z25, z26, .pointer (some ⟨tb, 0, none⟩), .int .i64 q1, undef, .int .i64 (kk : Int), undef, undef, z33, z34, z35, z36, z37, z38, z39, z40, z41], defers := [] } w' := by
    intro w' hb
    have hr : Region.ready .any ops' #[true, true, false, true, false, false, false, false, false] = [2] := by rw [hops]; kernel_rfl
    refine ⟨fun h => absurd (hr.symm.trans h) (by simp), ?_⟩
    rw [hr]
    intro i hi
    obtain rfl := List.mem_singleton.1 hi
    exact st2 _ w' (.pointer (some ⟨tb, 0, none⟩)) (.int .i64 q1) (undef) (.int .i64 (kk : Int)) (undef) (undef) hb (s111100 w' hb)
  have s111000 : ∀ (w' : World), Below w2.heap.size w2 w' → wpAnyIn (W0.inRound lp) (3 - 1 - 1) Tryz.prog .any ops' Q 6 #[true, true, true, false, false, false, false, false, false] { tmps := #[z0, z1, z2, z3, .pointer (some ⟨a, 0, none⟩), z5, z6, z7, .pointer (some ⟨p8, 0, none⟩), .pointer (some ⟨p9, 0, none⟩), z10, .pointer (some ⟨p11, 0, none⟩), z12, .int .i64 (kk : Int), .pointer (some ⟨tb, 0, none⟩), z15, z16, z17, z18, z19, z20, z21, z22, z23, z24, z25, z26, .pointer (some ⟨tb, 0, none⟩), .int .i64 q1, .slice base n cap, undef, undef, undef, z33, z34, z35, z36, z37, z38, z39, z40, z41], defers := [] } w' := by
    intro w' hb
    have hr : Region.ready .any ops' #[true, true, true, false, false, false, false, false, false] = [3] := by rw [hops]; kernel_rfl
    refine ⟨fun h => absurd (hr.symm.trans h) (by simp), ?_⟩
    rw [hr]
    intro i hi
    obtain rfl := List.mem_singleton.1 hi
    exact st3 _ w' (.pointer (some ⟨tb, 0, none⟩)) (.int .i64 q1) (.slice base n cap) (undef) (undef) (undef) hb (s111100 w' hb)
  have s001100 : ∀ (w' : World), Below w2.heap.size w2 w' → wpAnyIn (W0.inRound lp) (3 - 1 - 1) Tryz.prog .any ops' Q 7 #[false, false, true, true, false, false, false, false, false] { tmps := #[z0, z1, z2, z3, .pointer (some ⟨a, 0, none⟩), z5, z6, z7, .pointer (some ⟨p8, 0, none⟩), .pointer (some ⟨p9, 0, none⟩), z10, .pointer (some ⟨p11, 0, none⟩), z12, .int .i64 (kk : Int), .pointer (some ⟨tb, 0, none⟩), z15, z16, z17, z18, z19, z20, z21, z22, z23, z24, z25, z26, undef, undef, .slice base n cap, .int .i64 (kk : Int), undef, undef, z33, z34, z35, z36, z37, z38, z39, z40, z41], defers := [] } w' := by
    intro w' hb
    have hr : Region.ready .any ops' #[false, false, true, true, false, false, false, false, false] = [0, 4] := by rw [hops]; kernel_rfl
    refine ⟨fun h => absurd (hr.symm.trans h) (by simp), ?_⟩
    rw [hr]
    intro i hi
    simp only [List.mem_cons, List.not_mem_nil, or_false] at hi
    rcases hi with rfl | rfl
    · exact st0 _ w' (undef) (undef) (.slice base n cap) (.int .i64 (kk : Int)) (undef) (undef) hb (s101100 w' hb)
    · exact st4 _ w' (undef) (undef) (.slice base n cap) (.int .i64 (kk : Int)) (undef) (undef) hb (s001110 w' hb)
  have s100100 : ∀ (w' : World), Below w2.heap.size w2 w' → wpAnyIn (W0.inRound lp) (3 - 1 - 1) Tryz.prog .any ops' Q 7 #[true, false, false, true, false, false, false, false, false] { tmps := #[z0, z1, z2, z3, .pointer (some ⟨a, 0, none⟩), z5, z6, z7, .pointer (some ⟨p8, 0, none⟩), .pointer (some ⟨p9, 0, none⟩), z10, .pointer (some ⟨p11, 0, none⟩), z12, .int .i64 (kk : Int), .pointer (some ⟨tb, 0, none⟩), z15, z16, z17, z18, z19, z20, z21, z22, z23, z24, z25, z26, .pointer (some ⟨tb, 0, none⟩), undef, undef, .int .i64 (kk : Int), undef, undef, z33, z34, z35, z36, z37, z38, z39, z40, z41], defers := [] } w' := by
    intro w' hb
    have hr : Region.ready .any ops' #[true, false, false, true, false, false, false, false, false] = [1, 2] := by rw [hops]; kernel_rfl
    refine ⟨fun h => absurd (hr.symm.trans h) (by simp), ?_⟩
    rw [hr]
    intro i hi
    simp only [List.mem_cons, List.not_mem_nil, or_false] at hi
    rcases hi with rfl | rfl
    · exact st1 _ w' (.pointer (some ⟨tb, 0, none⟩)) (undef) (undef) (.int .i64 (kk : Int)) (undef) (undef) hb (s110100 w' hb)
    · exact st2 _ w' (.pointer (some ⟨tb, 0, none⟩)) (undef) (undef) (.int .i64 (kk : Int)) (undef) (undef) hb (s101100 w' hb)
  have s101000 : ∀ (w' : World), Below w2.heap.size w2 w' → wpAnyIn (W0.inRound lp) (3 - 1 - 1) Tryz.prog .any ops' Q 7 #[true, false, true, false, false, false, false, false, false] { tmps := #[z0, z1, z2, z3, .pointer (some ⟨a, 0, none⟩), z5, z6, z7, .pointer (some ⟨p8, 0, none⟩), .pointer (some ⟨p9, 0, none⟩), z10, .pointer (some ⟨p11, 0, none⟩), z12, .int .i64 (kk : Int), .pointer (some ⟨tb, 0, none⟩), z15, z16, z17, z18, z19, z20, z21, z22, z23, z24, z25, z26, .pointer (some ⟨tb, 0, none⟩), undef, .slice base n cap, undef, undef, undef, z33, z34, z35, z36, z37, z38, z39, z40, z41], defers := [] } w' := by
    intro w' hb
    have hr : Region.ready .any ops' #[true, false, true, false, false, false, false, false, false] = [1, 3] := by rw [hops]; kernel_rfl
    refine ⟨fun h => absurd (hr.symm.trans h) (by simp), ?_⟩
    rw [hr]
    intro i hi
    simp only [List.mem_cons, List.not_mem_nil, or_false] at hi
    rcases hi with rfl | rfl
    · exact st1 _ w' (.pointer (some ⟨tb, 0, none⟩)) (undef) (.slice base n cap) (undef) (undef) (undef) hb (s111000 w' hb)
    · exact st3 _ w' (.pointer (some ⟨tb, 0, none⟩)) (undef) (.slice base n cap) (undef) (undef) (undef) hb (s101100 w' hb)
  have s110000 : ∀ (w' : World), Below w2.heap.size w2 w' → wpAnyIn (W0.inRound lp) (3 - 1 - 1) Tryz.prog .any ops' Q 7 #[true, true, false, false, false, false, false, false, false] { tmps := #[z0, z1, z2, z3, .pointer (some ⟨a, 0, none⟩), z5, z6, z7, .pointer (some ⟨p8, 0, none⟩), .pointer (some ⟨p9, 0, none⟩), z10, .pointer (some ⟨p11, 0, none⟩), z12, .int .i64 (kk : Int), .pointer (some ⟨tb, 0, none⟩), z15, z16, z17, z18, z19, z20, z21, z22, z23, z24, z25, z26, .pointer (some ⟨tb, 0, none⟩), .int .i64 q1, undef, undef, undef, undef, z33, z34, z35, z36, z37, z38, z39, z40, z41], defers := [] } w' := by
    intro w' hb
    have hr : Region.ready .any ops' #[true, true, false, false, false, false, false, false, false] = [2, 3] := by rw [hops]; kernel_rfl
    refine ⟨fun h => absurd (hr.symm.trans h) (by simp), ?_⟩
    rw [hr]
    intro i hi
    simp only [List.mem_cons, List.not_mem_nil, or_false] at hi
    rcases hi with rfl | rfl
    · exact st2 _ w' (.pointer (some ⟨tb, 0, none⟩)) (.int .i64 q1) (undef) (undef) (undef) (undef) hb (s111000 w' hb)
    · exact st3 _ w' (.pointer (some ⟨tb, 0, none⟩)) (.int .i64 q1) (undef) (undef) (undef) (undef) hb (s110100 w' hb)
  have s000100 : ∀ (w' : World), Below w2.heap.size w2 w' → wpAnyIn (W0.inRound lp) (3 - 1 - 1) Tryz.prog .any ops' Q 8 #[false, false, false, true, false, false, false, false, false] { tmps := #[z0, z1, z2, z3, .pointer (some ⟨a, 0, none⟩), z5, z6, z7, .pointer (some ⟨p8, 0, none⟩), .pointer (some ⟨p9, 0, none⟩), z10, .pointer (some ⟨p11, 0, none⟩), z12, .int .i64 (kk : Int), .pointer (some ⟨tb, 0, none⟩), z15, z16, z17, z18, z19, z20, z21, z22, z23, z24, z25, z26, undef, undef, undef, .int .i64 (kk : Int), undef, undef, z33, z34, z35, z36, z37, z38, z39, z40, z41], defers := [] } w' := by
    intro w' hb
    have hr : Region.ready .any ops' #[false, false, false, true, false, false, false, false, false] = [0, 2] := by rw [hops]; kernel_rfl
    refine ⟨fun h => absurd (hr.symm.trans h) (by simp), ?_⟩
    rw [hr]
    intro i hi
    simp only [List.mem_cons, List.not_mem_nil, or_false] at hi
    rcases hi with rfl | rfl
    · exact st0 _ w' (undef) (undef) (undef) (.int .i64 (kk : Int)) (undef) (undef) hb (s100100 w' hb)
    · exact st2 _ w' (undef) (undef) (undef) (.int .i64 (kk : Int)) (undef) (undef) hb (s001100 w' hb)
  have s001000 : ∀ (w' : World), Below w2.heap.size w2 w' → wpAnyIn (W0.inRound lp) (3 - 1 - 1) Tryz.prog .any ops' Q 8 #[false, false, true, false, false, false, false, false, false] { tmps := #[z0, z1, z2, z3, .pointer (some ⟨a, 0, none⟩), z5, z6, z7, .pointer (some ⟨p8, 0, none⟩), .pointer (some ⟨p9, 0, none⟩), z10, .pointer (some ⟨p11, 0, none⟩), z12, .int .i64 (kk : Int), .pointer (some ⟨tb, 0, none⟩), z15, z16, z17, z18, z19, z20, z21, z22, z23, z24, z25, z26, undef, undef, .slice base n cap, undef, undef, undef, z33, z34, z35, z36, z37, z38, z39, z40, z41], defers := [] } w' := by
    intro w' hb
    have hr : Region.ready .any ops' #[false, false, true, false, false, false, false, false, false] = [0, 3] := by rw [hops]; kernel_rfl
    refine ⟨fun h => absurd (hr.symm.trans h) (by simp), ?_⟩
    rw [hr]
    intro i hi
    simp only [List.mem_cons, List.not_mem_nil, or_false] at hi
    rcases hi with rfl | rfl
    · exact st0 _ w' (undef) (undef) (.slice base n cap) (undef) (undef) (undef) hb (s101000 w' hb)
    · exact st3 _ w' (undef) (undef) (.slice base n cap) (undef) (undef) (undef) hb (s001100 w' hb)
  have s100000 : ∀ (w' : World), Below w2.heap.size w2 w' → wpAnyIn (W0.inRound lp) (3 - 1 - 1) Tryz.prog .any ops' Q 8 #[true, false, false, false, false, false, false, false, false] { tmps := #[z0, z1, z2, z3, .pointer (some ⟨a, 0, none⟩), z5, z6, z7, .pointer (some ⟨p8, 0, none⟩), .pointer (some ⟨p9, 0, none⟩), z10, .pointer (some ⟨p11, 0, none⟩), z12, .int .i64 (kk : Int), .pointer (some ⟨tb, 0, none⟩), z15, z16, z17, z18, z19, z20, z21, z22, z23, z24, z25, z26, .pointer (some ⟨tb, 0, none⟩), undef, undef, undef, undef, undef, z33, z34, z35, z36, z37, z38, z39, z40, z41], defers := [] } w' := by
    intro w' hb
    have hr : Region.ready .any ops' #[true, false, false, false, false, false, false, false, false] = [1, 2, 3] := by rw [hops]; kernel_rfl
    refine ⟨fun h => absurd (hr.symm.trans h) (by simp), ?_⟩
    rw [hr]
    intro i hi
    simp only [List.mem_cons, List.not_mem_nil, or_false] at hi
    rcases hi with rfl | rfl | rfl
    · exact st1 _ w' (.pointer (some ⟨tb, 0, none⟩)) (undef) (undef) (undef) (undef) (undef) hb (s110000 w' hb)
    · exact st2 _ w' (.pointer (some ⟨tb, 0, none⟩)) (undef) (undef) (undef) (undef) (undef) hb (s101000 w' hb)
    · exact st3 _ w' (.pointer (some ⟨tb, 0, none⟩)) (undef) (undef) (undef) (undef) (undef) hb (s100100 w' hb)
  have s000000 : ∀ (w' : World), Below w2.heap.size w2 w' → wpAnyIn (W0.inRound lp) (3 - 1 - 1) Tryz.prog .any ops' Q 9 #[false, false, false, false, false, false, false, false, false] { tmps := #[z0, z1, z2, z3, .pointer (some ⟨a, 0, none⟩), z5, z6, z7, .pointer (some ⟨p8, 0, none⟩), .pointer (some ⟨p9, 0, none⟩), z10, .pointer (some ⟨p11, 0, none⟩), z12, .int .i64 (kk : Int), .pointer (some ⟨tb, 0, none⟩), z15, z16, z17, z18, z19, z20, z21, z22, z23, z24, z25, z26, undef, undef, undef, undef, undef, undef, z33, z34, z35, z36, z37, z38, z39, z40, z41], defers := [] } w' := by
    intro w' hb
    have hr : Region.ready .any ops' #[false, false, false, false, false, false, false, false, false] = [0, 2, 3] := by rw [hops]; kernel_rfl
    refine ⟨fun h => absurd (hr.symm.trans h) (by simp), ?_⟩
    rw [hr]
    intro i hi
    simp only [List.mem_cons, List.not_mem_nil, or_false] at hi
    rcases hi with rfl | rfl | rfl
    · exact st0 _ w' (undef) (undef) (undef) (undef) (undef) (undef) hb (s100000 w' hb)
    · exact st2 _ w' (undef) (undef) (undef) (undef) (undef) (undef) hb (s001000 w' hb)
    · exact st3 _ w' (undef) (undef) (undef) (undef) (undef) (undef) hb (s000100 w' hb)
  exact s000000 _ ⟨rfl, rfl, rfl, Nat.le_refl _, fun _ _ => rfl⟩
def TopQ (l : List Rs) (x y : Int) (dead : List Int) (sk : Int) (ok : Bool) (n9 : Nat) (outs : List (Fin l.length)) : Prop :=
  (ok = false ∧ sk = -1 ∧ n9 = 0 ∧ outs = dwn l.length l.length ∧ ∀ k ∈ outs, spent x y dead l[k] = true) ∨
  (∃ k : Fin l.length, ok = true ∧ sk = (l[k]).1 ∧ n9 = k.1 ∧ (∃ j, j < l.length ∧ outs ++ [k] = dwn l.length (j + 1)) ∧ (∀ z ∈ outs, spent x y dead l[z] = true) ∧ spent x y dead l[k] = false)
def TopE (a : Nat) (l : List Rs) (x y : Int) (dead : List Int) (w : World) (e : Ending) (W' : World) : Prop :=
  ∃ (sk : Int) (ok : Bool) (v9 v10 : Value) (n9 : Nat) (outs : List (Fin l.length)), e = .returned (.tuple #[.int .i64 sk, v9, v10, .bool ok]) ∧ W'.ownsRow a 3 1 v10 outs.length (outs.map (sockV l)) ∧ W'.ownsRow a 72 2 v9 n9 (restV (l.take n9)) ∧ Below a w W' ∧ TopQ l x y dead sk ok n9 outs
theorem ownsRow_form {w : World} {B : Nat} {e : TypeId} {size n : Nat} {v : Value} {xs : List Value} (h : w.ownsRow B e size v n xs) : ∃ x c, v = .slice x n c := by
  rcases h.2 with ⟨rfl, rfl⟩ | ⟨g, cap, cur, rfl, _⟩
  · exact ⟨_, _, rfl⟩
  · exact ⟨_, _, rfl⟩
set_option maxRecDepth 100000 in
set_option maxHeartbeats 4000000 in
theorem top_in (base : Option Addr) (cap : Nat) (l : List Rs) (hl : l.length ≤ 1000000) (x y : Int) (b : Option Addr) (m c : Nat) (dead : List Int) (w : World) (S : Nat → Prop) (hS : ∀ k, S k → k < w.heap.size) (hd : RdC Tryz.prog IL S w dead [.slice b m c]) (hR : RdC Tryz.prog (.sl RestT) S w l [.slice base l.length cap]) (hx : IntKind.wrap .i64 x = x) (hy : IntKind.wrap .i64 y = y) (hw : ∀ k : Fin l.length, IntKind.wrap .i64 (l[k]).1 = (l[k]).1 ∧ IntKind.wrap .i64 (l[k]).2.1 = (l[k]).2.1) (hI : Rests w.heap.size w base l) :
    CallsIn W0 3 Tryz.prog 88 #[.slice base l.length cap, .int .i64 x, .int .i64 y, .slice b m c] w fun e W' => TopE w.heap.size l x y dead w e W' := by
  have h1 : 1 ≤ 3 := by omega
  have hcap : l.length ≤ cap := by
    obtain ⟨base', cap', he, h1, _⟩ := hR
    injection he with he _
    injection he with _ _ h2
    rw [h2]; exact h1
  obtain ⟨i0, hi, hz0, hz1, hz2⟩ := info_parts info3
  have hmx : maxLen = 2 ^ 63 - 1 := rfl
  refine callsIn_of_wp_marks Tryz.func88 rfl (wide_fn _) ?_ wide_ro
  simp only [Tryz.ntmps88, List.size_toArray, List.length_cons, List.length_nil, Nat.reduceAdd, Nat.reduceSub, Array.replicate_succ, Array.replicate_zero, List.push_toArray, List.append_toArray, List.nil_append, List.cons_append]
  obtain ⟨a, ha⟩ : ∃ a, w.heap.size = a := ⟨_, rfl⟩
  rw [ha] at hI hS ⊢
  gi_wp2
  refine wpW_scope ?_
  have b4 := Boxed.new w 26 (.slice base l.length cap)
  have b8 := Boxed.new (w.alloc (.cells #[.slice base l.length cap] 26)) 3 (.int .i64 0)
  have b9 := Boxed.new ((w.alloc (.cells #[.slice base l.length cap] 26)).alloc (.cells #[.int .i64 0] 3)) 26 (.slice none 0 0)
  have b10 := Boxed.new (((w.alloc (.cells #[.slice base l.length cap] 26)).alloc (.cells #[.int .i64 0] 3)).alloc (.cells #[.slice none 0 0] 26)) 27 (.slice none 0 0)
  have b11 := Boxed.new ((((w.alloc (.cells #[.slice base l.length cap] 26)).alloc (.cells #[.int .i64 0] 3)).alloc (.cells #[.slice none 0 0] 26)).alloc (.cells #[.slice none 0 0] 27)) 4 (.bool false)
  have hB1 : Below a w (((((w.alloc (.cells #[.slice base l.length cap] 26)).alloc (.cells #[.int .i64 0] 3)).alloc (.cells #[.slice none 0 0] 26)).alloc (.cells #[.slice none 0 0] 27)).alloc (.cells #[.bool false] 4)) := (((((Below.refl _ w).alloc (by omega) _).alloc (by simp; omega) _).alloc (by simp; omega) _).alloc (by simp; omega) _).alloc (by simp; omega) _
  have hz : (((((w.alloc (.cells #[.slice base l.length cap] 26)).alloc (.cells #[.int .i64 0] 3)).alloc (.cells #[.slice none 0 0] 26)).alloc (.cells #[.slice none 0 0] 27)).alloc (.cells #[.bool false] 4)).heap.size = a + 1 + 1 + 1 + 1 + 1 := by simp [ha]
  simp only [World.size_alloc, ha] at b4 b8 b9 b10 b11
  replace b4 := (((b4.alloc (.cells #[.int .i64 0] 3)).alloc (.cells #[.slice none 0 0] 26)).alloc (.cells #[.slice none 0 0] 27)).alloc (.cells #[.bool false] 4)
  replace b8 := ((b8.alloc (.cells #[.slice none 0 0] 26)).alloc (.cells #[.slice none 0 0] 27)).alloc (.cells #[.bool false] 4)
  replace b9 := (b9.alloc (.cells #[.slice none 0 0] 27)).alloc (.cells #[.bool false] 4)
  replace b10 := b10.alloc (.cells #[.bool false] 4)
  generalize (((((w.alloc (.cells #[.slice base l.length cap] 26)).alloc (.cells #[.int .i64 0] 3)).alloc (.cells #[.slice none 0 0] 26)).alloc (.cells #[.slice none 0 0] 27)).alloc (.cells #[.bool false] 4)) = W1 at b4 b8 b9 b10 b11 hB1 hz ⊢
  obtain ⟨p8, h8⟩ : ∃ p, a + 1 = p := ⟨_, rfl⟩
  obtain ⟨p9, h9⟩ : ∃ p, p8 + 1 = p := ⟨_, rfl⟩
  obtain ⟨p10, h10⟩ : ∃ p, p9 + 1 = p := ⟨_, rfl⟩
  obtain ⟨p11, h11⟩ : ∃ p, p10 + 1 = p := ⟨_, rfl⟩
  obtain ⟨q, hq⟩ : ∃ p, p11 + 1 = p := ⟨_, rfl⟩
  simp only [h8, h9, h10, h11, hq] at b8 b9 b10 b11 hz ⊢
  refine wpIn_seq (wpIn_mono (Q := fun e a' W => e = .normal ∧ a' = { tmps := #[.slice base l.length cap, .int .i64 x, .int .i64 y, .slice b m c, .pointer (some ⟨a, 0, none⟩), undef, undef, undef, .pointer (some ⟨p8, 0, none⟩), .pointer (some ⟨p9, 0, none⟩), .pointer (some ⟨p10, 0, none⟩), .pointer (some ⟨p11, 0, none⟩), .pointer (some ⟨q + 1 + 1 + 1, 0, none⟩), undef, undef, .int .i64 x, .int .i64 y, .slice b m c, clo q, undef, undef, undef, undef, undef, undef, undef, undef, undef, undef, undef, undef, undef, undef, undef, undef, undef, undef, undef, undef, undef, undef, undef], defers := [] } ∧ TopB base l.length cap a q x y (.slice b m c) w W ∧ Boxed W p8 3 (.int .i64 0) ∧ Boxed W p9 26 (.slice none 0 0) ∧ Boxed W p10 27 (.slice none 0 0) ∧ Boxed W p11 4 (.bool false) ∧ W.heap.size = q + 1 + 1 + 1 + 1) ?_ ?_)
  · gi_wp2_with (refine ⟨wide_fn _, ?_⟩; gi_at_call 85; refine (spent_in _ _ _ _ _ _ _).mono ?_; rintro e w2 ⟨rfl, rfl⟩)
    exact ⟨rfl, topB_new b4 hB1 hz, (((b8.alloc _).alloc _).alloc _).alloc _, (((b9.alloc _).alloc _).alloc _).alloc _, (((b10.alloc _).alloc _).alloc _).alloc _, (((b11.alloc _).alloc _).alloc _).alloc _⟩
  clear b4 b8 b9 b10 b11 hB1 hz W1
  rintro e a' W2 ⟨rfl, rfl, hT2, b8, b9, b10, b11, hz2⟩
  show Code.wpIn W0 3 Tryz.prog _ _ _ _
  have c8 := b8.cell
  have f8 := b8.frozen
  refine wpIn_seq (wpIn_mono (Q := fun e a' W => e = .normal ∧ a' = { tmps := #[.slice base l.length cap, .int .i64 x, .int .i64 y, .slice b m c, .pointer (some ⟨a, 0, none⟩), undef, undef, undef, .pointer (some ⟨p8, 0, none⟩), .pointer (some ⟨p9, 0, none⟩), .pointer (some ⟨p10, 0, none⟩), .pointer (some ⟨p11, 0, none⟩), .pointer (some ⟨q + 1 + 1 + 1, 0, none⟩), undef, undef, .int .i64 x, .int .i64 y, .slice b m c, clo q, undef, undef, undef, undef, undef, undef, undef, undef, undef, undef, undef, undef, undef, undef, undef, undef, undef, undef, undef, undef, undef, undef, undef], defers := [] } ∧ TopB base l.length cap a q x y (.slice b m c) w W ∧ Boxed W p8 3 (.int .i64 (-1)) ∧ Boxed W p9 26 (.slice none 0 0) ∧ Boxed W p10 27 (.slice none 0 0) ∧ Boxed W p11 4 (.bool false) ∧ W.heap.size = q + 1 + 1 + 1 + 1) ?_ ?_)
  · gi_wp2
    have hg := grownBy_setCell' W2 p8 (.int .i64 (-1))
    exact ⟨hT2.kept hg (fun r e => by cases e; omega), b8.set _, b9.kept hg (by simp; omega), b10.kept hg (by simp; omega), b11.kept hg (by simp; omega)⟩
  clear b8 b9 b10 b11 hT2 hz2 c8 f8 W2
  rintro e a' W3 ⟨rfl, rfl, hT3, b8, b9, b10, b11, hz3⟩
  show Code.wpIn W0 3 Tryz.prog _ _ _ _
  refine wpIn_seq (wpIn_label ?_)
  show Code.wpIn W0 3 Tryz.prog _ _ _ _
  have c4 := hT3.b4.cell
  gi_wp2_with (refine ⟨wide_fn _, ?_⟩; gi_at_call 109; refine (back_in _ _ _ _ _).mono ?_; rintro e w4 ⟨rfl, rfl⟩)
  have hT4 : TopB base l.length cap a q x y (.slice b m c) w (W3.alloc (.cells #[.slice base l.length cap] 26)) := hT3.kept (World.grownBy_alloc W3 _ none) (fun r e => by cases e)
  have bS := Boxed.new W3 26 (.slice base l.length cap)
  rw [hz3] at bS
  rename_i K hK0
  have hfin : ∀ (D : Nat) (W : World) (sk : Int) (ok : Bool) (x9 x10 : Option Addr) (n9 c9 n10 c10 : Nat), q + 1 + 1 + 1 + 1 + 1 ≤ D → Boxed W p8 3 (.int .i64 sk) → Boxed W p9 26 (.slice x9 n9 c9) → Boxed W p10 27 (.slice x10 n10 c10) → Boxed W p11 4 (.bool ok) → W.heap[D]? = some (.deferred (some [])) →
      (∀ W', W.grownBy W' (some D) → TopE a l x y dead w (.returned (.tuple #[.int .i64 sk, .slice x9 n9 c9, .slice x10 n10 c10, .bool ok])) W') → ∀ A, A = ({ tmps := #[.slice base l.length cap, .int .i64 x, .int .i64 y, .slice b m c, .pointer (some ⟨a, 0, none⟩), undef, undef, undef, .pointer (some ⟨p8, 0, none⟩), .pointer (some ⟨p9, 0, none⟩), .pointer (some ⟨p10, 0, none⟩), .pointer (some ⟨p11, 0, none⟩), .pointer (some ⟨q + 1 + 1 + 1, 0, none⟩), undef, undef, .int .i64 x, .int .i64 y, .slice b m c, clo q, .slice base l.length cap, .func (.func 121) #[] #[.pointer (some ⟨q + 1 + 1 + 1 + 1, 0, none⟩)], undef, undef, undef, undef, undef, undef, undef, undef, undef, undef, undef, undef, undef, undef, undef, undef, undef, undef, undef, undef, undef], defers := [{ target := .collected D, args := #[] }] } : Act) → K A W := by
    intro D W sk ok x9 x10 n9 c9 n10 c10 hD b8 b9 b10 b11 hK hpost A hA
    subst hA
    refine hK0 _ _ ?_
    clear hK0
    refine wpIn_seq (wpIn_region_quiet (C := fun W' => Below W.heap.size W W') wide_ro (by kernel_rfl) (by kernel_rfl) ?_ ?_)
    · exact ⟨rfl, rfl, rfl, Nat.le_refl _, fun _ _ => rfl⟩
    have bx : ∀ {W' : World} {B : Nat} {t : TypeId} {v : Value}, Below W.heap.size W W' → Boxed W B t v → Boxed W' B t v := fun hw hb => (hw.block _ hb.lt).trans hb
    refine wpQuietIn_do rfl (.int .i64 sk) (by quiet_asked_in) (fun w' hw' => ?_) ?_
    · have c0 := (bx hw' b8).cell
      have f0 := (bx hw' b8).frozen
      go_simp
    refine wpQuietIn_do rfl (.slice x9 n9 c9) (by quiet_asked_in) (fun w' hw' => ?_) ?_
    · have c0 := (bx hw' b9).cell
      have f0 := (bx hw' b9).frozen
      go_simp
    refine wpQuietIn_do rfl (.slice x10 n10 c10) (by quiet_asked_in) (fun w' hw' => ?_) ?_
    · have c0 := (bx hw' b10).cell
      have f0 := (bx hw' b10).frozen
      go_simp
    refine wpQuietIn_do rfl (.bool ok) (by quiet_asked_in) (fun w' hw' => ?_) ?_
    · have c0 := (bx hw' b11).cell
      have f0 := (bx hw' b11).frozen
      go_simp
    refine wpQuietIn_do rfl (undef) (by quiet_asked_in) (fun w' hw' => ?_) ?_
    · have c0 := (bx hw' b8).cell
      have f0 := (bx hw' b8).frozen
      have e0 := setCell_id (bx hw' b8)
      go_simp
      try exact e0
    refine wpQuietIn_do rfl (undef) (by quiet_asked_in) (fun w' hw' => ?_) ?_
    · have c0 := (bx hw' b9).cell
      have f0 := (bx hw' b9).frozen
      have e0 := setCell_id (bx hw' b9)
      go_simp
      try exact e0
    refine wpQuietIn_do rfl (undef) (by quiet_asked_in) (fun w' hw' => ?_) ?_
    · have c0 := (bx hw' b10).cell
      have f0 := (bx hw' b10).frozen
      have e0 := setCell_id (bx hw' b10)
      go_simp
      try exact e0
    refine wpQuietIn_do rfl (undef) (by quiet_asked_in) (fun w' hw' => ?_) ?_
    · have c0 := (bx hw' b11).cell
      have f0 := (bx hw' b11).frozen
      have e0 := setCell_id (bx hw' b11)
      go_simp
      try exact e0
    refine wpQuietIn_nil ?_
    rintro W6 hW6
    show Code.wpIn W0 3 Tryz.prog _ _ _ _
    refine wpIn_ret ?_
    have hK6 : W6.heap[D]? = some (.deferred (some [])) := (hW6.block _ (Array.getElem?_eq_some_iff.1 hK).1).trans hK
    have hg6 := grownBy_putObj' W6 D (.deferred none)
    have hne : ∀ z, z < q + 1 + 1 + 1 + 1 + 1 → some z ≠ some D := fun z hz e => by cases e; omega
    have b8 := ((bx hW6 b8).kept hg6 (hne _ (by omega))).cell
    have b9 := ((bx hW6 b9).kept hg6 (hne _ (by omega))).cell
    have b10 := ((bx hW6 b10).kept hg6 (hne _ (by omega))).cell
    have b11 := ((bx hW6 b11).kept hg6 (hne _ (by omega))).cell
    show bodyPostM W0 3 Tryz.prog Tryz.f88 _ Exit.ret _ W6
    refine ⟨by simp, .inl ⟨_, _, rfl, run_takeDeferred hK6, ?_⟩⟩
    refine ⟨.tuple #[.int .i64 sk, .slice x9 n9 c9, .slice x10 n10 c10, .bool ok], ?_, hpost _ ⟨hg6.os.trans hW6.os, hg6.tape.trans hW6.tape, hg6.output.trans hW6.output, Nat.le_trans hW6.size hg6.size, fun z hz hzn => (hg6.block z (Nat.lt_of_lt_of_le hz hW6.size) hzn).trans (hW6.block z hz)⟩⟩
    simp [results, Tryz.f88, Act.put, go_sem, b8, b9, b10, b11]
  refine wpIn_rangeFunc_ownH (F := W0) (n := 3) (P := Tryz.prog) wide_ro h1 (gf := 121) (lb := #[.pointer (some ⟨q + 1 + 1 + 1 + 1, 0, none⟩)]) rfl (wide_fn _) (enters_of Tryz.func121 (by kernel_rfl) rfl)
    (back_stops 2 (by omega) (q + 1 + 1 + 1 + 1) a cap base l hl _ bS (by simp; omega) (hI.below hT4.hB))
    Kp.trans (kp_b (by simp; omega) (by simp; omega)) (Below.refl _ _) (fun _ => rfl)
    (TopI base cap a q p8 p9 p10 p11 l x y dead (.slice b m c) w) (TopX base cap a q p8 p9 p10 p11 l x y dead (.slice b m c) w)
    (topI_own (by simp; omega) (by simp; omega)) (topX_own (by simp; omega) (by simp; omega))
    ⟨⟨_, b10.alloc _, World.ownsRow_nil _ _ _ _, trivial⟩, hT4, b8.alloc _, b9.alloc _, b11.alloc _, (fun k hk => by cases hk), (by simp [World.size_alloc]; omega)⟩
    (TopA base cap a q p8 p9 p10 p11 l x y (.slice b m c)) (fun k a' => topA_own k a') ?assign ?body ?done ?stop
  case assign =>
    intro lp pre k W K hI0 hK
    have hsz : q + 1 + 1 + 1 + 1 < W.heap.size := hI0.2.2.2.2.2.2
    obtain ⟨q1, hq1⟩ : ∃ z, (l[k]).1 = z := ⟨_, rfl⟩
    obtain ⟨q2, hq2⟩ : ∃ z, (l[k]).2.1 = z := ⟨_, rfl⟩
    simp only [encR, hq1, hq2]
    gi_wp2
    refine hK _ _ ((KeepsOthers.alloc W _).from _) ⟨(Below.refl _ _).alloc (by omega) _, fun h => h.alloc _⟩ ((topI_own (B := q + 1 + 1 + 1 + 1) (by omega) (by omega)).alloc _ hI0) ⟨W.heap.size, by rw [hq1, hq2], hsz, ?_⟩
    rw [hq1, hq2]
    exact World.alloc_heap_new W _
  case body =>
    rintro lp pre k a' W hlp _ ⟨⟨v, hv, hrow, _⟩, hT, b8, b9, b11, hsp, hsz⟩ ⟨tb, rfl, htb, hbox⟩ hlt
    have ct0 : W.cell? ⟨tb, 0, none⟩ = some (.int .i64 (l[k]).1) := by simp [World.cell?, hbox]
    have ct1 : W.cell? ⟨tb, 1, none⟩ = some (.int .i64 (l[k]).2.1) := by simp [World.cell?, hbox]
    have hcl : W.cell? ⟨q + 1 + 1 + 1, 0, none⟩ = some (.func (.func 107) #[] #[.pointer (some ⟨q + 1 + 1, 0, none⟩), .pointer (some ⟨q, 0, none⟩), .pointer (some ⟨q + 1, 0, none⟩)]) := hT.b12.cell
    have hcall := spent_at (lp := lp) (N := 0) dead S hS hd hx hy (l[k]).1 (l[k]).2.1 (hw k).1 (hw k).2 hT
    gi_wp2
    refine ⟨wide_fn _, CallsIn.mono hcall ?_⟩
    rintro e w2 ⟨rfl, hb2⟩
    have hwlt := hT.b12.lt
    have hsps : spent x y dead ((l[k]).1, (l[k]).2.1, ()) = spent x y dead l[k] := rfl
    have hT2 := hT.below hb2 (by have := hT.b4.lt; omega) (by omega)
    have b82 : Boxed w2 p8 3 _ := (hb2.block _ b8.lt).trans b8
    have b92 : Boxed w2 p9 26 _ := (hb2.block _ b9.lt).trans b9
    have b112 : Boxed w2 p11 4 _ := (hb2.block _ b11.lt).trans b11
    have hv2 : Boxed w2 p10 27 _ := (hb2.block _ hv.lt).trans hv
    have hrow2 : w2.ownsRow (q + 1 + 1 + 1 + 1 + 1) 3 1 v pre.length (pre.map (sockV l)) := hrow.kept (row := none) ⟨hb2.os, hb2.tape, hb2.output, hb2.size, fun z hz _ => hb2.block z hz⟩ (by
      rcases hrow.2 with ⟨rfl, _⟩ | ⟨g, cap, cur, rfl, _⟩
      · exact .inl rfl
      · exact .inr (by simp [Value.ownBlock]))
    have hbox2 : w2.heap[tb]? = some (.cells #[.int .i64 (l[k]).1, .int .i64 (l[k]).2.1] 72 (0, 0)) := (hb2.block _ (Array.getElem?_eq_some_iff.1 hbox).1).trans hbox
    have hkf2 : KeepsFrom (W3.alloc (.cells #[.slice base l.length cap] 26)).heap.size W w2 := ⟨hb2.size, fun z o _ hz _ => (hb2.block z (Array.getElem?_eq_some_iff.1 hz).1).trans hz⟩
    have hkp2 : Kp a (q + 1 + 1 + 1 + 1) (.slice base l.length cap) W w2 := ⟨hb2.mono (by have := hT.b4.lt; omega), fun h => (hb2.block _ h.lt).trans h⟩
    have hsz2 : W.heap.size ≤ w2.heap.size := hb2.size
    rw [hsps]
    by_cases hs : spent x y dead l[k] = true
    · rw [hs]
      have c10 := hv2.cell
      have ct2 : w2.cell? ⟨tb, 0, none⟩ = some (.int .i64 (l[k]).1) := by simp [World.cell?, hbox2]
      have hAw : q + 1 + 1 + 1 + 1 < w2.heap.size := by omega
      gi_wp2_with (gi_at_builtin; refine wpListIn_append_own _ rfl _ _ 27 rfl (q + 1 + 1 + 1 + 1 + 1) 3 i0 (.int .i64 0) 1 8 und27 hi hz0 hz1 hz2 rfl (by decide) _ _ _ rfl (hrow2.alloc _) ⟨w2.heap.size, 0, none⟩ 1 1 [.int .i64 (l[k]).1] rfl rfl (cell_one_new _ _ _) (by simp [Value.oneCell']) (by omega) (by omega) (by simp; omega) ?_; intro v' w1 hown' hgrow _; obtain ⟨g', cap', rfl⟩ := ownsRow_succ hown'; obtain ⟨hv1, hv3, hr3, hk3, hb3⟩ := hv2.appended (n₀ := a) (by decide) (ownsRow_down hrow2 (by omega)) (by omega) (by omega) (ownsRow_down hown' (by omega)) hgrow; have hc1 := hv1.cell; have hf1 := hv1.frozen)
      have hgrow : (w2.alloc (.cells #[.int .i64 (l[k]).1] 3)).grownBy w1 v.ownBlock := hgrow
      have hnr : ∀ r, v.ownBlock = some r → q + 1 + 1 + 1 + 1 + 1 ≤ r := fun r e => (hrow2.lt r e).1
      have hgs := grownBy_setCell' w1 p10 (.slice (some ⟨g', 0, none⟩) (pre.length + 1) cap')
      have kb : ∀ B t u, Boxed w2 B t u → B ≤ q + 1 + 1 + 1 + 1 → B ≠ p10 → Boxed (w1.setCell ⟨p10, 0, none⟩ (.slice (some ⟨g', 0, none⟩) (pre.length + 1) cap')) B t u := fun B t u hb h1 h2 =>
        ((hb.alloc _).kept hgrow (fun e => by have := hnr _ e.symm; omega)).kept hgs (by simp; omega)
      refine ⟨hkf2.trans (hk3.from _), hkp2.trans ⟨hb3, fun h => kb _ _ _ h (Nat.le_refl _) (by omega)⟩, ⟨_, hv3, ?_, trivial⟩, ⟨kb _ _ _ hT2.b4 (by omega) (by omega), kb _ _ _ hT2.cl (by omega) (by omega), kb _ _ _ hT2.cn (by omega) (by omega), kb _ _ _ hT2.cd (by omega) (by omega), kb _ _ _ hT2.b12 (by omega) (by omega), hT2.hB.trans hb3⟩, kb _ _ _ b82 (by omega) (by omega), kb _ _ _ b92 (by omega) (by omega), kb _ _ _ b112 (by omega) (by omega), ?_, ?_⟩
      · have := hown'.kept hgs (.inr (hv1.not_row (by decide) hown').symm)
        simpa [sockV] using this
      · intro z hz
        rcases List.mem_append.1 hz with h | h
        · exact hsp z h
        · obtain rfl := List.mem_singleton.1 h
          exact hs
      · exact Nat.lt_of_lt_of_le hAw hk3.size
    · rw [Bool.not_eq_true] at hs
      rw [hs]
      gi_wp2
      refine reg7 (l := l) rfl hT2.b4 b82 b92 b112 k.2 hcap (by omega) (by omega) (by omega) hbox2 (fun w' hb => (clone_at _ lp l hl S hS hR k.1 k.2 (hT2.hB.trans (hb.mono (by have := hT2.b4.lt; omega))) (by have := hb.size; have := hT2.b4.lt; omega)).mono ?_) ?_
      · rintro e w3 ⟨x', c', rfl, hr, hb2⟩
        exact ⟨x', c', rfl, ownsRow_down hr hb.size, hb2⟩
      intro x' c' w3 hb3 hr3
      rename_i K7 h7
      refine h7 _ _ (wpIn_exit ?_)
      have hlk : lastK (pre ++ [k]) = k.1 := by simp [lastK]
      have hgd : (l.getD k.1 (0, 0, ())).1 = (l[k]).1 := by rw [List.getD_eq_getElem?_getD, List.getElem?_eq_getElem k.2]; rfl
      have g1 := grownBy_setCell' w3 p8 (.int .i64 (l[k]).1)
      have g2 := grownBy_setCell' (w3.setCell ⟨p8, 0, none⟩ (.int .i64 (l[k]).1)) p9 (.slice x' k.1 c')
      have g3 := grownBy_setCell' ((w3.setCell ⟨p8, 0, none⟩ (.int .i64 (l[k]).1)).setCell ⟨p9, 0, none⟩ (.slice x' k.1 c')) p11 (.bool true)
      have kb : ∀ B t u, Boxed w2 B t u → B ≠ p8 → B ≠ p9 → B ≠ p11 → Boxed (((w3.setCell ⟨p8, 0, none⟩ (.int .i64 (l[k]).1)).setCell ⟨p9, 0, none⟩ (.slice x' k.1 c')).setCell ⟨p11, 0, none⟩ (.bool true)) B t u := fun B t u hb h1 h2 h3 =>
        (((show Boxed w3 B t u from (hb3.block B hb.lt).trans hb).kept g1 (by simp; omega)).kept g2 (by simp; omega)).kept g3 (by simp; omega)
      have hlt2 := hT2.b12.lt
      have hro : ∀ {e : TypeId} {sz n : Nat} {v : Value} {xs : List Value}, w3.ownsRow (q + 1 + 1 + 1 + 1 + 1) e sz v n xs → (((w3.setCell ⟨p8, 0, none⟩ (.int .i64 (l[k]).1)).setCell ⟨p9, 0, none⟩ (.slice x' k.1 c')).setCell ⟨p11, 0, none⟩ (.bool true)).ownsRow (q + 1 + 1 + 1 + 1 + 1) e sz v n xs := fun {e sz n v xs} h => by
        have hn : ∀ z, z < q + 1 + 1 + 1 + 1 + 1 → v.ownBlock ≠ some z := fun z hz e => by have := (h.lt z e).1; omega
        exact ((h.kept g1 (.inr (hn _ (by omega)))).kept g2 (.inr (hn _ (by omega)))).kept g3 (.inr (hn _ (by omega)))
      have b83 : Boxed w3 p8 3 _ := (hb3.block _ b82.lt).trans b82
      have b93 : Boxed w3 p9 26 _ := (hb3.block _ b92.lt).trans b92
      have b113 : Boxed w3 p11 4 _ := (hb3.block _ b112.lt).trans b112
      have hB4 : Below a w2 (((w3.setCell ⟨p8, 0, none⟩ (.int .i64 (l[k]).1)).setCell ⟨p9, 0, none⟩ (.slice x' k.1 c')).setCell ⟨p11, 0, none⟩ (.bool true)) := (((hb3.mono (by have := hT2.b4.lt; omega)).setCell (p := ⟨p8, 0, none⟩) (by simp; omega) _).setCell (p := ⟨p9, 0, none⟩) (by simp; omega) _).setCell (p := ⟨p11, 0, none⟩) (by simp; omega) _
      refine ⟨hkf2.trans (KeepsFrom.trans ⟨hb3.size, fun z o _ hz _ => (hb3.block z (Array.getElem?_eq_some_iff.1 hz).1).trans hz⟩ ((((KeepsOthers.setCell _ _ _).trans (KeepsOthers.setCell _ _ _)).trans (KeepsOthers.setCell _ _ _)).from _)), ⟨v, kb _ _ _ hv2 (by omega) (by omega) (by omega), ?_, trivial⟩, ⟨.slice x' k.1 c', ?_, ?_, trivial⟩,
        ⟨kb _ _ _ hT2.b4 (by omega) (by omega) (by omega), kb _ _ _ hT2.cl (by omega) (by omega) (by omega), kb _ _ _ hT2.cn (by omega) (by omega) (by omega), kb _ _ _ hT2.cd (by omega) (by omega) (by omega), kb _ _ _ hT2.b12 (by omega) (by omega) (by omega), hT2.hB.trans hB4⟩, ?_, (((b113.kept g1 (by simp; omega)).kept g2 (by simp; omega)).set _), rfl, k, pre, rfl, hsp, hs⟩
      · rw [List.dropLast_concat]
        refine hro ?_
        exact hrow2.kept (row := none) ⟨hb3.os, hb3.tape, hb3.output, hb3.size, fun z hz _ => hb3.block z hz⟩ (by
          rcases hrow2.2 with ⟨rfl, _⟩ | ⟨g, cap, cur, rfl, _⟩
          · exact .inl rfl
          · exact .inr (by simp [Value.ownBlock]))
      · exact ((b93.kept g1 (by simp; omega)).set _).kept g3 (by simp; omega)
      · rw [hlk]
        exact hro (ownsRow_down hr3 (by omega))
      · rw [hlk, hgd]
        exact ((b83.set _).kept g2 (by simp; omega)).kept g3 (by simp; omega)
  case done =>
    rintro D xs W hD rfl ⟨⟨v, hv, hrow, _⟩, hT, b8, b9, b11, hsp, hsz⟩ hK
    have hD : q + 1 + 1 + 1 + 1 + 1 ≤ D := by simpa [World.size_alloc, hz3] using hD
    obtain ⟨x0, c0, rfl⟩ := ownsRow_form hrow
    refine hfin D W (-1) false none x0 0 0 _ c0 hD b8 b9 hv b11 hK (fun W' hg => ⟨-1, false, _, _, 0, _, rfl, (ownsRow_down hrow (by omega)).kept hg ?_, World.ownsRow_nil _ _ _ _, hT.hB.grown hg (by have := hT.b4.lt; omega) (fun z e => by cases e; omega), .inl ⟨rfl, rfl, rfl, rfl, hsp⟩⟩) _ rfl
    rcases hrow.2 with ⟨e, _⟩ | ⟨g, cap', cur, e, hg1, hg2, _⟩
    · rw [e]; exact .inl rfl
    · rw [e]
      refine .inr (fun e' => ?_)
      obtain rfl : g = D := by simpa [Value.ownBlock] using e'
      rw [hK] at hg2; cases hg2
  case stop =>
    rintro D c0 pre W hD ⟨j, hj, hpre⟩ ⟨⟨v, hv, hrow, _⟩, ⟨v9, b9, hrow9, _⟩, hT, b8, b11, rfl, k, pre', rfl, hsp, hs⟩ hK
    have hD : q + 1 + 1 + 1 + 1 + 1 ≤ D := by simpa [World.size_alloc, hz3] using hD
    obtain ⟨x0, c0, rfl⟩ := ownsRow_form hrow
    obtain ⟨x9, c9, rfl⟩ := ownsRow_form hrow9
    have hlk : lastK (pre' ++ [k]) = k.1 := by simp [lastK]
    have hgd : (l.getD k.1 (0, 0, ())).1 = (l[k]).1 := by rw [List.getD_eq_getElem?_getD, List.getElem?_eq_getElem k.2]; rfl
    rw [hlk] at b8 b9 hrow9
    rw [hgd] at b8
    rw [List.dropLast_concat] at hrow hv
    have hnD : ∀ {e : TypeId} {sz n : Nat} {v : Value} {xs : List Value}, W.ownsRow (q + 1 + 1 + 1 + 1 + 1) e sz v n xs → v.ownBlock = none ∨ v.ownBlock ≠ some D := fun {e sz n v xs} h => by
      rcases h.2 with ⟨e, _⟩ | ⟨g, cap', cur, e, hg1, hg2, _⟩
      · rw [e]; exact .inl rfl
      · rw [e]
        refine .inr (fun e' => ?_)
        obtain rfl : g = D := by simpa [Value.ownBlock] using e'
        rw [hK] at hg2; cases hg2
    refine wpIn_exit ?_
    exact hfin D W _ true x9 x0 _ c9 _ c0 hD b8 b9 hv b11 hK (fun W' hg => ⟨_, true, _, _, k.1, pre', rfl, (ownsRow_down hrow (by omega)).kept hg (hnD hrow), (ownsRow_down hrow9 (by omega)).kept hg (hnD hrow9), hT.hB.grown hg (by have := hT.b4.lt; omega) (fun z e => by cases e; omega), .inr ⟨k, rfl, rfl, rfl, ⟨j, hj, hpre⟩, hsp, hs⟩⟩) _ rfl
theorem dwn_map (l : List Rs) (j : Nat) (hj : j ≤ l.length) : (dwn l.length j).map (fun k => l[k]) = l.reverse.take j := by
  apply List.ext_getElem
  · simp [dwn]
  · intro i h1 h2
    simp [dwn, List.getElem_reverse]
theorem dw_app {α : Type} (p : α → Bool) : ∀ (a b : List α), (∀ r ∈ a, p r = true) → (a ++ b).dropWhile p = b.dropWhile p
  | [], _, _ => rfl
  | x :: a, b, h => by
    rw [List.cons_append, List.dropWhile_cons_of_pos (h x (List.mem_cons_self ..))]
    exact dw_app p a b fun r hr => h r (List.mem_cons_of_mem _ hr)
theorem tw_app {α : Type} (p : α → Bool) : ∀ (a b : List α), (∀ r ∈ a, p r = true) → (a ++ b).takeWhile p = a ++ b.takeWhile p
  | [], _, _ => rfl
  | x :: a, b, h => by
    rw [List.cons_append, List.takeWhile_cons_of_pos (h x (List.mem_cons_self ..)), tw_app p a b fun r hr => h r (List.mem_cons_of_mem _ hr)]
    rfl
theorem topQ_plain {l : List Rs} {x y : Int} {dead : List Int} {sk : Int} {ok : Bool} {n9 : Nat} {outs : List (Fin l.length)} (h : TopQ l x y dead sk ok n9 outs) :
    sk = topS x y dead l ∧ l.take n9 = topR x y dead l ∧ outs.map (fun k => (l[k]).1) = topO x y dead l ∧ ok = topK x y dead l := by
  rcases h with ⟨rfl, rfl, rfl, rfl, hs⟩ | ⟨k, rfl, rfl, rfl, ⟨j, hj, hp⟩, hsp, hs⟩
  · have e := dwn_map l l.length (Nat.le_refl _)
    rw [List.take_of_length_le (by simp)] at e
    have hall : ∀ r ∈ l.reverse, spent x y dead r = true := by
      intro r hr
      rw [← e] at hr
      obtain ⟨k, hk, rfl⟩ := List.mem_map.1 hr
      exact hs k hk
    have hq : topQ x y dead l = [] := by
      have := dw_app (spent x y dead) l.reverse [] hall
      rw [List.append_nil] at this
      rw [topQ, this]; rfl
    have ho : l.reverse.takeWhile (spent x y dead) = l.reverse := by
      have := tw_app (spent x y dead) l.reverse [] hall
      rw [List.append_nil] at this
      rw [this]; exact List.append_nil _
    refine ⟨by rw [topS, hq]; rfl, by rw [topR, hq]; rfl, ?_, by rw [topK, hq]; rfl⟩
    rw [topO, ho, ← e, List.map_map]
    rfl
  · have hol : outs.length = j := by
      have := congrArg List.length hp
      rw [dwn_len _ _ (by omega)] at this
      simp at this
      omega
    have hd := dwn_succ l.length j hj
    rw [← hp] at hd
    obtain ⟨h1, h2⟩ := List.append_inj hd (by rw [hol, dwn_len _ _ (by omega)])
    have hk : k.1 = l.length - 1 - j := by
      have := List.cons.inj h2
      rw [this.1]
    have e := dwn_map l j (by omega)
    rw [← h1] at e
    have hrev : l.reverse = l.reverse.take j ++ l[k] :: (l.take k.1).reverse := by
      have h3 : l = l.take k.1 ++ l[k] :: l.drop (k.1 + 1) := (List.take_append_drop k.1 l).symm.trans (by rw [List.drop_eq_getElem_cons k.2]; rfl)
      have h4 : (l.drop (k.1 + 1)).reverse = l.reverse.take j := by
        rw [List.reverse_drop]
        congr 1
        omega
      rw [← h4]
      exact (congrArg List.reverse h3).trans (by rw [List.reverse_append, List.reverse_cons, List.append_assoc]; rfl)
    have hall : ∀ r ∈ l.reverse.take j, spent x y dead r = true := by
      intro r hr
      rw [← e] at hr
      obtain ⟨z, hz, rfl⟩ := List.mem_map.1 hr
      exact hsp z hz
    have hdw : l.reverse.dropWhile (spent x y dead) = l[k] :: (l.take k.1).reverse := by
      rw [hrev, dw_app _ _ _ hall, List.dropWhile_cons_of_neg (by rw [hs]; decide)]
    have htw : l.reverse.takeWhile (spent x y dead) = l.reverse.take j := by
      have h5 := tw_app (spent x y dead) _ (l[k] :: (l.take k.1).reverse) hall
      rw [← hrev, List.takeWhile_cons_of_neg (by rw [hs]; decide), List.append_nil] at h5
      exact h5
    have hq : topQ x y dead l = l.take k.1 ++ [l[k]] := by
      rw [topQ, hdw, List.reverse_cons, List.reverse_reverse]
    refine ⟨by rw [topS, hq, List.getLast?_concat], by rw [topR, hq, List.dropLast_concat], ?_, by rw [topK, hq]; exact (decide_eq_true (by simp only [ne_eq, List.append_eq_nil_iff]; exact fun h => by cases h.2)).symm⟩
    rw [topO, htw, ← e, List.map_map]
    rfl
theorem ints_rdL {S : Nat → Prop} {w : World} {l : List Rs} (hw : ∀ k : Fin l.length, IntKind.wrap .i64 (l[k]).1 = (l[k]).1 ∧ IntKind.wrap .i64 (l[k]).2.1 = (l[k]).2.1) : ∀ (outs : List (Fin l.length)), RdL Tryz.prog I64 S w (outs.map fun k => (l[k]).1) (outs.map (sockV l))
  | [] => rfl
  | k :: r => ⟨[.int .i64 (l[k]).1], _, rfl, ⟨rfl, (hw k).1⟩, ints_rdL hw r⟩
theorem rests_rdL {S : Nat → Prop} {w : World} : ∀ {l : List Rs}, (∀ r ∈ l, IntKind.wrap .i64 r.1 = r.1 ∧ IntKind.wrap .i64 r.2.1 = r.2.1) → RdL Tryz.prog RestT S w l (restV l)
  | [], _ => rfl
  | (so, si, ⟨⟩) :: r, h => ⟨[.int .i64 so, .int .i64 si], _, rfl, ⟨[_], [_], rfl, ⟨rfl, (h _ (List.mem_cons_self ..)).1⟩, [_], [], rfl, ⟨rfl, (h _ (List.mem_cons_self ..)).2⟩, rfl⟩, rests_rdL fun r hr => h r (List.mem_cons_of_mem _ hr)⟩
theorem row_fin {t : Ty} {e : TypeId} {n len : Nat} {w' W' : World} {v : Value} {cs : List Value} (S : Nat → Prop) (l : List t.El) (hlen : len = l.length) (hr : W'.ownsRow n e t.size v len cs) (hl : RdL Tryz.prog t (fun b => S b ∨ n ≤ b ∧ b < W'.heap.size) W' l cs) : RdC Tryz.prog (.sl t) (fun b => S b ∨ n ≤ b ∧ b < W'.heap.size) W' l [v] := by
  subst hlen
  exact row_reads (c := ⟨fun b => S b ∨ n ≤ b ∧ b < W'.heap.size, W', fun _ => .slice none 0 0, []⟩) hr hl (fun b hb => hb) (fun b hb => by
    rcases hr.2 with ⟨rfl, _⟩ | ⟨g, cap, cur, rfl, hg, hh, _⟩
    · cases hb
    · cases hb; exact .inr ⟨hg, (Array.getElem?_eq_some_iff.1 hh).1⟩)
theorem val88 : Valid Tryz.prog GW 88 cTop := by
  refine ⟨⟨Tryz.f88, Tryz.func88, by kernel_rfl, rfl⟩, fun w _ S x cs hS hx hpre => ?_⟩
  obtain ⟨l, lo, no, dead, ⟨⟩⟩ := x
  obtain ⟨c1, c2, rfl, h1, c3, c4, rfl, ⟨rfl, hlo⟩, c5, c6, rfl, ⟨rfl, hno⟩, c7, c8, rfl, h2, rfl⟩ := hx
  have hl : l.length ≤ 1000000 := of_decide_eq_true hpre
  have hR := h1
  have hd := h2
  obtain ⟨base, cap, rfl, _, _, hne⟩ := h1
  obtain ⟨b, c, rfl, _⟩ := h2
  have hel : ∀ k : Fin l.length, ∃ b off, base = some ⟨b, off, none⟩ ∧ b < w.heap.size ∧ w.cell? ⟨b, off + (k : Nat) * 2 + 0, none⟩ = some (.int .i64 (l[k]).1) ∧ w.cell? ⟨b, off + (k : Nat) * 2 + 1, none⟩ = some (.int .i64 (l[k]).2.1) ∧ IntKind.wrap .i64 (l[k]).1 = (l[k]).1 ∧ IntKind.wrap .i64 (l[k]).2.1 = (l[k]).2.1 := fun k => by
    obtain ⟨b, off, e, hb, hel⟩ := hne (fun e => absurd (congrArg (List.length (α := Rs)) e) (by show ¬ List.length (α := Rs) l = 0; have := k.2; omega))
    obtain ⟨es, hes, hlies⟩ := hel k.1 (l[k]) (List.getElem?_eq_getElem k.2)
    obtain ⟨d1, d2, rfl, ⟨rfl, hq1⟩, d3, d4, rfl, ⟨rfl, hq2⟩, rfl⟩ := hes
    exact ⟨b, off, e, hS b hb, hlies 0 _ rfl, hlies 1 _ rfl, hq1, hq2⟩
  have hw : ∀ k : Fin l.length, IntKind.wrap .i64 (l[k]).1 = (l[k]).1 ∧ IntKind.wrap .i64 (l[k]).2.1 = (l[k]).2.1 := fun k => by
    obtain ⟨_, _, _, _, _, _, h⟩ := hel k; exact h
  refine Calls.mono (callsIn_wide.1 (top_in base cap l hl lo no b _ c dead w S hS hd hR hlo hno hw (fun k => by obtain ⟨b, off, h1, h2, h3, h4, _⟩ := hel k; exact ⟨b, off, h1, h2, h3, h4⟩))) ?_
  rintro e W' ⟨sk, ok, v9, v10, n9, outs, rfl, hr10, hr9, hB, hQ⟩
  obtain ⟨e1, e2, e3, e4⟩ := topQ_plain hQ
  have hn9 : n9 = (l.take n9).length := by
    rcases hQ with ⟨_, _, rfl, _⟩ | ⟨k, _, _, rfl, _⟩
    · rfl
    · rw [List.length_take]; have := k.2; omega
  have hmem : ∀ r ∈ l.take n9, IntKind.wrap .i64 r.1 = r.1 ∧ IntKind.wrap .i64 r.2.1 = r.2.1 := fun r hr => by
    obtain ⟨i, hi, rfl⟩ := List.mem_iff_getElem.1 (List.mem_of_mem_take hr)
    exact hw ⟨i, hi⟩
  have hsk : IntKind.wrap .i64 sk = sk := by
    rcases hQ with ⟨_, rfl, _⟩ | ⟨k, _, rfl, _⟩
    · decide
    · exact (hw k).1
  refine ⟨hB, [.int .i64 sk, v9, v10, .bool ok], rfl, ⟨[_], [_, _, _], rfl, ⟨congrArg (fun z => [Value.int .i64 z]) e1, by rw [e1] at hsk; exact hsk⟩, [_], [_, _], rfl, ?_, [_], [_], rfl, ?_, [_], [], rfl, congrArg (fun z => [Value.bool z]) e4, rfl⟩, fun h => by cases h⟩
  · show RdC Tryz.prog (.sl RestT) _ W' (topR lo no dead l) [v9]
    rw [← e2]
    exact row_fin (w' := W') S (l.take n9) hn9 hr9 (rests_rdL hmem)
  · show RdC Tryz.prog (.sl I64) _ W' (topO lo no dead l) [v10]
    rw [← e3]
    exact row_fin (w' := W') S _ (by rw [List.length_map]) hr10 (ints_rdL hw outs)
end Go.Proofs.YtdkcgcgefgeooaaGreatDoor.Ow
namespace Go.Proofs.YtdkcgcgefgeooaaGreatDoor.Ow
open Go Go.Eng 
set_option maxRecDepth 100000
noncomputable def g90 : Cfg := { tab := To.tab, cons := [], inls := [], loops := [], cuts := [], unroll := false, arrs := [], keys := [] }
noncomputable def g106 : Cfg := { tab := To.tab, cons := [], inls := [], loops := [], cuts := [], unroll := false, arrs := [], keys := [] }
noncomputable def g53 : Cfg := { tab := To.tab, cons := [], inls := [], loops := [], cuts := [], unroll := false, arrs := [], keys := [] }
noncomputable def g52 : Cfg := { tab := To.tab, cons := [(67, cSift), (86, cStarts)], inls := [(61, Tryz.f61), (63, Tryz.f63), (68, Tryz.f68), (69, Tryz.f69), (87, Tryz.f87), (95, Tryz.f95), (96, Tryz.f96)], loops := [], cuts := [], unroll := false, arrs := [], keys := [] }
noncomputable def g81 : Cfg := { tab := To.tab, cons := [(53, (cClone 142 40 ScT))], inls := [], loops := [(3, ntA)], cuts := [], unroll := false, arrs := [], keys := [] }
noncomputable def g28 : Cfg := { tab := To.tab, cons := [], inls := [], loops := [], cuts := [], unroll := false, arrs := [], keys := [] }
noncomputable def g18 : Cfg := { tab := To.tab, cons := [(28, cNone)], inls := [], loops := [], cuts := [], unroll := false, arrs := [], keys := [] }
noncomputable def g22 : Cfg := { tab := To.tab, cons := [(32, cOn)], inls := [], loops := [], cuts := [], unroll := false, arrs := [], keys := [] }
noncomputable def g40 : Cfg := { tab := To.tab, cons := [(54, cBegin)], inls := [], loops := [], cuts := [], unroll := false, arrs := [], keys := [] }
noncomputable def g55 : Cfg := { tab := To.tab, cons := [(86, cStarts), (88, cTop), (90, (cClip I64)), (91, cJoin)], inls := [(61, Tryz.f61), (63, Tryz.f63), (68, Tryz.f68), (69, Tryz.f69), (71, Tryz.f71), (87, Tryz.f87), (89, Tryz.f89), (95, Tryz.f95), (96, Tryz.f96)], loops := [], cuts := [], unroll := false, arrs := [], keys := [] }
noncomputable def g56 : Cfg := { tab := To.tab, cons := [(86, cStarts), (90, (cClip I64)), (92, cIdx), (94, (cClone 3 8 I64)), (105, cHas), (106, (cClip RestT)), (111, cPart)], mcons := [(93, mDel)], inls := [(61, Tryz.f61), (63, Tryz.f63), (68, Tryz.f68), (69, Tryz.f69), (72, Tryz.f72), (82, Tryz.f82), (83, Tryz.f83), (87, Tryz.f87), (89, Tryz.f89), (95, Tryz.f95), (96, Tryz.f96)], loops := [], cuts := [], unroll := false, arrs := [], keys := [] }
end Go.Proofs.YtdkcgcgefgeooaaGreatDoor.Ow
namespace Go.Proofs.YtdkcgcgefgeooaaGreatDoor.Ow
open Go Go.Eng 
set_option maxRecDepth 100000
theorem v90_eq : vcFn g90 300 Tryz.f90 ((cClip I64)) = ( ∀ (x : List Int × Unit), Wr True → Wr ((0 : Int) ≤ (0 : Int)) ∧ Wr ((0 : Int) ≤ (↑(List.length x.1) : Int)) ∧ Wr ((↑(List.length x.1) : Int) ≤ (↑(List.length x.1) : Int)) ∧ Wr ((↑(List.length x.1) : Int) =
  (↑(List.length x.1) : Int)) ∧ (List.drop (Int.toNat (0 : Int)) (List.take (Int.toNat (↑(List.length x.1) : Int)) x.1), ()) = x) := by kernel_rfl
theorem v106_eq : vcFn g106 300 Tryz.f106 ((cClip RestT)) = ( ∀ (x : List (Int × Int × Unit) × Unit), Wr True → Wr ((0 : Int) ≤ (0 : Int)) ∧ Wr ((0 : Int) ≤ (↑(List.length x.1) : Int)) ∧ Wr ((↑(List.length x.1) : Int) ≤ (↑(List.length x.1) : Int)) ∧ Wr ((↑(List.length x.1)
  : Int) = (↑(List.length x.1) : Int)) ∧ (List.drop (Int.toNat (0 : Int)) (List.take (Int.toNat (↑(List.length x.1) : Int)) x.1), ()) = x) := by kernel_rfl
theorem v53_eq : vcFn g53 300 Tryz.f53 ((cClone 142 40 ScT)) = ( ∀ (x : List ((Int × (Int × Int × Int × Int × Int × Int × Int × Int × Unit) × Int × Unit) × Int × Unit) × Unit), Wr (Decidable.decide (List.length x.1 * (40 : Nat) ≤ (140737488355328 : Nat)) = Bool.true) → ∀ (b : Bool),
  Wr (b = Bool.true → x.1 = nilL ((Int × (Int × Int × Int × Int × Int × Int × Int × Int × Unit) × Int × Unit) × Int × Unit)) → bcase b (x.1 = nilL ((Int × (Int × Int × Int × Int × Int × Int × Int × Int × Unit) × Int ×
  Unit) × Int × Unit)) (Wr ((List.length (nilL ((Int × (Int × Int × Int × Int × Int × Int × Int × Int × Unit) × Int × Unit) × Int × Unit)) + List.length x.1) * (40 : Nat) ≤ (140737488355328 : Nat)) ∧ nilL ((Int × (Int ×
  Int × Int × Int × Int × Int × Int × Int × Unit) × Int × Unit) × Int × Unit) ++ x.1 = x.1)) := by kernel_rfl
theorem v52_eq : vcFn g52 300 Tryz.f52 cOld = ( ∀ (x : ((Int × Int × Int × Int × Int × Int × Int × Int × Int × Unit) × List (Int × Int × Unit) × List Int × List Int × (Int × Bool × Int × Unit) × List ((Int × (Int × Int × Int × Int × Int × Int × Int × Int × Unit) × Int
  × Unit) × Int × Unit) × Bool × Unit) × Int × List Int × Unit), Wr (askOk x.1 x.2.2.1 = Bool.true) → Wr (topOk x.1.2.1 = Bool.true) ∧ Wr (List.length (sftO x.1.1.2.2.2.2.2.1 x.2.1
  x.2.2.1 x.1.2.1) * (8 : Nat) ≤ (140737488355328 : Nat)) ∧ Wr ((!x.1.2.2.2.2.2.2.1) = Bool.true → Bool.true = Bool.true) ∧ ((x.1.1, sftG x.1.1.2.2.2.2.2.1 x.2.1
  x.2.2.1 x.1.2.1, x.1.2.2), (nilL (Int × Int × Int × Unit), sftO x.1.1.2.2.2.2.2.1 x.2.1 x.2.2.1 x.1.2.1, !x.1.2.2.2.2.2.2.1 && startsF
  x.1.2.2.2.2.1, Bool.false, ()), ()) = (outB (oldD x.1 x.2.1 x.2.2.1), outT (oldD x.1 x.2.1 x.2.2.1), ())) := by kernel_rfl
theorem v81_eq : vcFn g81 300 Tryz.f81 cNote = ( ∀ (x : List ((Int × (Int × Int × Int × Int × Int × Int × Int × Int × Unit) × Int × Unit) × Int × Unit) × Int × List (Int × (Int × Int × Int × Int × Int × Int × Int × Int × Unit) × Int × Unit) × Unit), Wr
  ((Decidable.decide (List.length x.1 ≤ (1000000 : Nat)) && Decidable.decide (List.length x.2.2.1 = (0 : Nat))) = Bool.true) → Wr (Decidable.decide (List.length x.1 * (40 : Nat) ≤ (140737488355328 : Nat)) =
  Bool.true) ∧ (Wr ((0 : Int) = (0 : Int)) ∧ Wr ((0 : Int) = (0 : Int)) ∧ Wr (x.2.2.1 = x.2.2.1) ∧ Wr (x.2.2.1 = x.2.2.1) ∧ Wr ((↑(List.length x.2.2.1) : Int) = (↑(List.length x.2.2.1)
  : Int)) ∧ Wr (x.1 = x.1)) ∧ ∀ (x_1 : Int), Wr (x_1 = (0 : Int)) → bcase (Decidable.decide (x_1 < (↑(List.length x.2.2.1) : Int))) (Wr ((0 : Int) ≤ x_1) ∧ Wr (x_1 < (↑(List.length x.2.2.1) : Int)) ∧ Wr
  (Bool.true = Bool.true) ∧ Fail (nat_lit 1030) (nat_lit 5)) (Wr ((0 : Int) ≤ Max.max (0 : Int) (IntKind.wrap IntKind.i64 ((↑(List.length x.1) : Int) - (32 : Int)))) ∧ Wr (Max.max (0 : Int) (IntKind.wrap IntKind.i64
  ((↑(List.length x.1) : Int) - (32 : Int))) ≤ (↑(List.length x.1) : Int)) ∧ Wr ((↑(List.length x.1) : Int) ≤ (↑(List.length x.1) : Int)) ∧ (List.drop (Int.toNat (Max.max (0 : Int) (IntKind.wrap IntKind.i64
  ((↑(List.length x.1) : Int) - (32 : Int))))) (List.take (Int.toNat (↑(List.length x.1) : Int)) x.1), ()) = (noteS x.1, ()))) := by kernel_rfl
theorem v28_eq : vcFn g28 300 Tryz.f28 cNone = ( ∀ (x : Unit), Wr (Bool.true = Bool.true) → (((-1 : Int), Bool.false, (0 : Int), ()), ()) = (noneF, ())) := by kernel_rfl
theorem v18_eq : vcFn g18 300 Tryz.f18 cNew = ( ∀ (x : (Int × Int × Int × Int × Int × Int × Int × Int × Int × Unit) × Unit), Wr (Bool.true = Bool.true) → Wr (Bool.true = Bool.true) ∧ ((x.1, nilL (Int × Int × Unit), nilL Int, nilL Int, noneF, nilL ((Int × (Int × Int
  × Int × Int × Int × Int × Int × Int × Unit) × Int × Unit) × Int × Unit), Bool.false, ()), ()) = (mkB x.1 (nilL (Int × Int × Unit)) (nilL Int) (nilL Int) noneF (nilL ((Int × (Int × Int × Int × Int × Int × Int × Int ×
  Int × Unit) × Int × Unit) × Int × Unit)) Bool.false, ())) := by kernel_rfl
theorem v22_eq : vcFn g22 300 Tryz.f22 cOver = ( ∀ (x : ((Int × Int × Int × Int × Int × Int × Int × Int × Int × Unit) × List (Int × Int × Unit) × List Int × List Int × (Int × Bool × Int × Unit) × List ((Int × (Int × Int × Int × Int × Int × Int × Int × Int × Unit) × Int
  × Unit) × Int × Unit) × Bool × Unit) × Unit), Wr (Bool.true = Bool.true) → Wr (x.1.2.2.2.2.2.2.1 = Bool.true → Bool.true = Bool.true) ∧ (x.1.2.2.2.2.2.2.1 && !onF
  x.1.2.2.2.2.1, ()) = (x.1.2.2.2.2.2.2.1 && !onF x.1.2.2.2.2.1, ())) := by kernel_rfl
theorem v40_eq : vcFn g40 300 Tryz.f40 cStarted = ( ∀ (x : ((Int × Int × Int × Int × Int × Int × Int × Int × Int × Unit) × List (Int × Int × Unit) × List Int × List Int × (Int × Bool × Int × Unit) × List ((Int × (Int × Int × Int × Int × Int × Int × Int × Int × Unit) × Int
  × Unit) × Int × Unit) × Bool × Unit) × Int × Unit), Wr (Bool.true = Bool.true) → Wr (Bool.true = Bool.true) ∧ bcase (Decidable.decide (beginE x.1.2.2.2.2.1 x.2.1 = (0 : Int))) (((x.1.1,
  x.1.2.1, x.1.2.2.1, x.1.2.2.2.1, beginF x.1.2.2.2.2.1 x.2.1, x.1.2.2.2.2.2), beginE x.1.2.2.2.2.1 x.2.1, ()) = (startB x.1 x.2.1, beginE
  x.1.2.2.2.2.1 x.2.1, ())) ((x.1, beginE x.1.2.2.2.2.1 x.2.1, ()) = (startB x.1 x.2.1, beginE x.1.2.2.2.2.1 x.2.1, ()))) := by kernel_rfl
theorem v55_eq : vcFn g55 300 Tryz.f55 cAsk = ( ∀ (x : ((Int × Int × Int × Int × Int × Int × Int × Int × Int × Unit) × List (Int × Int × Unit) × List Int × List Int × (Int × Bool × Int × Unit) × List ((Int × (Int × Int × Int × Int × Int × Int × Int × Int × Unit) × Int
  × Unit) × Int × Unit) × Bool × Unit) × Int × Int × List Int × Unit), Wr (askOk x.1 x.2.2.2.1 = Bool.true) → bcase x.1.2.2.2.2.2.2.1 (Wr (List.length ((x.2.1, (-1 : Int), (240 : Int), ()) ::
  nilL (Int × Int × Int × Unit)) * (24 : Nat) ≤ (140737488355328 : Nat)) ∧ Wr ((!x.1.2.2.2.2.2.2.1) = Bool.true → Bool.true = Bool.true) ∧ (x.1, ((x.2.1, (-1 : Int), (240 : Int), ()) :: nilL (Int ×
  Int × Int × Unit), nilL Int, !x.1.2.2.2.2.2.2.1 && startsF x.1.2.2.2.2.1, Bool.false, ()), ()) = (outB (askD x.1 x.2.1 x.2.2.1 x.2.2.2.1), outT (askD x.1 x.2.1
  x.2.2.1 x.2.2.2.1), ())) (Wr (topOk x.1.2.1 = Bool.true) ∧ Wr (List.length (topO x.1.1.2.2.2.2.2.1 x.2.2.1 x.2.2.2.1 x.1.2.1) * (8 : Nat) ≤ (140737488355328 :
  Nat)) ∧ bcase (topK x.1.1.2.2.2.2.2.1 x.2.2.1 x.2.2.2.1 x.1.2.1) (Wr True ∧ Wr ((List.length x.1.2.2.1 + List.length (topS x.1.1.2.2.2.2.2.1 x.2.2.1
  x.2.2.2.1 x.1.2.1 :: nilL Int)) * (8 : Nat) ≤ (140737488355328 : Nat)) ∧ Wr ((0 : Nat) < List.length (topS x.1.1.2.2.2.2.2.1 x.2.2.1 x.2.2.2.1 x.1.2.1 :: nilL Int)) ∧ Wr
  (List.length ((x.2.1, topS x.1.1.2.2.2.2.2.1 x.2.2.1 x.2.2.2.1 x.1.2.1, (0 : Int), ()) :: nilL (Int × Int × Int × Unit)) * (24 : Nat) ≤ (140737488355328 : Nat)) ∧ Wr
  ((!x.1.2.2.2.2.2.2.1) = Bool.true → Bool.true = Bool.true) ∧ ((x.1.1, topR x.1.1.2.2.2.2.2.1 x.2.2.1 x.2.2.2.1 x.1.2.1, x.1.2.2.1 ++ topS
  x.1.1.2.2.2.2.2.1 x.2.2.1 x.2.2.2.1 x.1.2.1 :: nilL Int, x.1.2.2.2), ((x.2.1, topS x.1.1.2.2.2.2.2.1 x.2.2.1 x.2.2.2.1 x.1.2.1, (0 :
  Int), ()) :: nilL (Int × Int × Int × Unit), topO x.1.1.2.2.2.2.2.1 x.2.2.1 x.2.2.2.1 x.1.2.1, !x.1.2.2.2.2.2.2.1 && startsF x.1.2.2.2.2.1, Bool.false, ()),
  ()) = (outB (askD x.1 x.2.1 x.2.2.1 x.2.2.2.1), outT (askD x.1 x.2.1 x.2.2.1 x.2.2.2.1), ())) (bcase (Decidable.decide ((↑(List.length x.1.2.2.2.1) : Int) ≥
  x.1.1.2.2.1)) (Wr (List.length ((x.2.1, (-1 : Int), (230 : Int), ()) :: nilL (Int × Int × Int × Unit)) * (24 : Nat) ≤ (140737488355328 : Nat)) ∧ Wr ((!x.1.2.2.2.2.2.2.1) = Bool.true →
  Bool.true = Bool.true) ∧ ((x.1.1, topR x.1.1.2.2.2.2.2.1 x.2.2.1 x.2.2.2.1 x.1.2.1, x.1.2.2), ((x.2.1, (-1 : Int), (230 : Int), ()) :: nilL (Int × Int × Int × Unit),
  topO x.1.1.2.2.2.2.2.1 x.2.2.1 x.2.2.2.1 x.1.2.1, !x.1.2.2.2.2.2.2.1 && startsF x.1.2.2.2.2.1, Bool.false, ()), ()) = (outB (askD x.1 x.2.1
  x.2.2.1 x.2.2.2.1), outT (askD x.1 x.2.1 x.2.2.1 x.2.2.2.1), ())) (Wr True ∧ Wr ((List.length x.1.2.2.2.1 + List.length (x.2.1 :: nilL Int)) * (8 : Nat) ≤ (140737488355328
  : Nat)) ∧ Wr ((0 : Nat) < List.length (x.2.1 :: nilL Int)) ∧ Wr ((Decidable.decide (x.1.2.2.2.2.1.2.2.1 ≤ (1152921504606846976 : Ty.El I64)) && Decidable.decide (List.length (x.2.1 :: nilL Int)
  = (1 : Nat))) = Bool.true) ∧ Wr ((!x.1.2.2.2.2.2.2.1) = Bool.true → Bool.true = Bool.true) ∧ ((x.1.1, topR x.1.1.2.2.2.2.2.1 x.2.2.1 x.2.2.2.1 x.1.2.1,
  x.1.2.2.1, x.1.2.2.2.1 ++ x.2.1 :: nilL Int, joinF x.1.2.2.2.2.1, x.1.2.2.2.2.2), (nilL (Int × Int × Int × Unit), topO x.1.1.2.2.2.2.2.1 x.2.2.1
  x.2.2.2.1 x.1.2.1, !x.1.2.2.2.2.2.2.1 && startsF (joinF x.1.2.2.2.2.1), Bool.false, ()), ()) = (outB (askD x.1 x.2.1 x.2.2.1 x.2.2.2.1), outT (askD x.1
  x.2.1 x.2.2.1 x.2.2.2.1), ()))))) := by kernel_rfl
theorem v56_eq : vcFn g56 300 Tryz.f56 cBack = ( ∀ (x : ((Int × Int × Int × Int × Int × Int × Int × Int × Int × Unit) × List (Int × Int × Unit) × List Int × List Int × (Int × Bool × Int × Unit) × List ((Int × (Int × Int × Int × Int × Int × Int × Int × Int × Unit) × Int
  × Unit) × Int × Unit) × Bool × Unit) × Int × Int × Bool × Int × List Int × Unit), Wr ((szB x.1 && szI x.2.2.2.2.2.1) = Bool.true) → Wr (Bool.true = Bool.true) ∧ bcase x.1.2.2.2.2.2.2.1 (Wr
  (List.length ((x.2.1, (-1 : Int), (240 : Int), ()) :: nilL (Int × Int × Int × Unit)) * (24 : Nat) ≤ (140737488355328 : Nat)) ∧ Wr ((!x.1.2.2.2.2.2.2.1) = Bool.true → Bool.true = Bool.true) ∧ (x.1,
  ((x.2.1, (-1 : Int), (240 : Int), ()) :: nilL (Int × Int × Int × Unit), nilL Int, !x.1.2.2.2.2.2.2.1 && startsF x.1.2.2.2.2.1, Bool.false, ()), ()) = (outB (backD x.1 x.2.1
  x.2.2.1 x.2.2.2.1 x.2.2.2.2.1 x.2.2.2.2.2.1), outT (backD x.1 x.2.1 x.2.2.1 x.2.2.2.1 x.2.2.2.2.1 x.2.2.2.2.2.1), ())) (bcase
  (Decidable.decide (idxN x.2.2.1 x.1.2.2.1 < (0 : Int))) (Wr (List.length ((x.2.1, (-1 : Int), (80 : Int), ()) :: nilL (Int × Int × Int × Unit)) * (24 : Nat) ≤ (140737488355328 : Nat)) ∧ Wr
  ((!x.1.2.2.2.2.2.2.1) = Bool.true → Bool.true = Bool.true) ∧ (x.1, ((x.2.1, (-1 : Int), (80 : Int), ()) :: nilL (Int × Int × Int × Unit), nilL Int, !x.1.2.2.2.2.2.2.1 && startsF
  x.1.2.2.2.2.1, Bool.false, ()), ()) = (outB (backD x.1 x.2.1 x.2.2.1 x.2.2.2.1 x.2.2.2.2.1 x.2.2.2.2.2.1), outT (backD x.1 x.2.1 x.2.2.1
  x.2.2.2.1 x.2.2.2.2.1 x.2.2.2.2.2.1), ())) (Wr (Decidable.decide (List.length x.1.2.2.1 * (8 : Nat) ≤ (140737488355328 : Nat)) = Bool.true) ∧ Wr ((0 : Ty.El I64) ≤ idxN
  x.2.2.1 x.1.2.2.1 ∧ idxN x.2.2.1 x.1.2.2.1 ≤ IntKind.wrap IntKind.i64 (idxN x.2.2.1 x.1.2.2.1 + (1 : Int)) ∧ IntKind.wrap IntKind.i64 (idxN x.2.2.1 x.1.2.2.1 + (1
  : Int)) ≤ (↑(List.length x.1.2.2.1) : Int) ∧ List.length x.1.2.2.1 ≤ (1000000000 : Nat)) ∧ Wr (List.length ((x.2.1, (-1 : Int), (0 : Int), ()) :: nilL (Int × Int × Int × Unit)) * (24 : Nat) ≤
  (140737488355328 : Nat)) ∧ bcase x.2.2.2.1 (Wr (Bool.true = Bool.true) ∧ bcase (Bool.true && !hasN x.2.2.2.2.2.1 x.2.2.1) (bcase (Decidable.decide ((↑(List.length x.1.2.2.2.1) : Int)
  > (0 : Int))) (Wr ((0 : Int) ≤ (0 : Int)) ∧ Wr ((0 : Int) < (↑(List.length x.1.2.2.2.1) : Int)) ∧ Wr (Bool.true = Bool.true) ∧ Wr ((0 : Int) ≤ (1 : Int)) ∧ Wr ((1 : Int) ≤ (↑(List.length x.1.2.2.2.1)
  : Int)) ∧ Wr ((↑(List.length x.1.2.2.2.1) : Int) ≤ (↑(List.length x.1.2.2.2.1) : Int)) ∧ Wr (Decidable.decide (List.length (List.drop (Int.toNat (1 : Int)) (List.take (Int.toNat (↑(List.length
  x.1.2.2.2.1) : Int)) x.1.2.2.2.1)) * (8 : Nat) ≤ (140737488355328 : Nat)) = Bool.true) ∧ Wr True ∧ Wr ((List.length (delL x.1.2.2.1 (idxN x.2.2.1 x.1.2.2.1) (IntKind.wrap
  IntKind.i64 (idxN x.2.2.1 x.1.2.2.1 + (1 : Int)))) + List.length (x.2.2.1 :: nilL Int)) * (8 : Nat) ≤ (140737488355328 : Nat)) ∧ Wr ((0 : Nat) < List.length (x.2.2.1 :: nilL Int)) ∧ Wr
  ((List.length ((x.2.1, (-1 : Int), (0 : Int), ()) :: nilL (Int × Int × Int × Unit)) + List.length ((List.getD x.1.2.2.2.1 (Int.toNat (0 : Int)) (0 : Int), x.2.2.1, (0 : Int), ()) :: nilL (Int × Int ×
  Int × Unit))) * (24 : Nat) ≤ (140737488355328 : Nat)) ∧ Wr (Bool.true = Bool.true) ∧ Wr ((!x.1.2.2.2.2.2.2.1) = Bool.true → Bool.true = Bool.true) ∧ ((x.1.1, x.1.2.1, delL x.1.2.2.1
  (idxN x.2.2.1 x.1.2.2.1) (IntKind.wrap IntKind.i64 (idxN x.2.2.1 x.1.2.2.1 + (1 : Int))) ++ x.2.2.1 :: nilL Int, List.drop (Int.toNat (1 : Int)) (List.take (Int.toNat (↑(List.length
  x.1.2.2.2.1) : Int)) x.1.2.2.2.1), partF x.1.2.2.2.2.1 (1 : Int), x.1.2.2.2.2.2), ((x.2.1, (-1 : Int), (0 : Int), ()) :: nilL (Int × Int × Int × Unit) ++ (List.getD
  x.1.2.2.2.1 (Int.toNat (0 : Int)) (0 : Int), x.2.2.1, (0 : Int), ()) :: nilL (Int × Int × Int × Unit), nilL Int, !x.1.2.2.2.2.2.2.1 && startsF (partF x.1.2.2.2.2.1 (1 : Int)),
  Bool.false || partC x.1.2.2.2.2.1 (1 : Int), ()), ()) = (outB (backD x.1 x.2.1 x.2.2.1 x.2.2.2.1 x.2.2.2.2.1 x.2.2.2.2.2.1), outT (backD x.1 x.2.1
  x.2.2.1 x.2.2.2.1 x.2.2.2.2.1 x.2.2.2.2.2.1), ())) (bcase (Decidable.decide ((↑(List.length x.1.2.1) : Int) < x.1.1.2.1)) (Wr True ∧ Wr ((List.length x.1.2.1 +
  List.length ((x.2.2.1, x.2.2.2.2.1, ()) :: nilL (Int × Int × Unit))) * (16 : Nat) ≤ (140737488355328 : Nat)) ∧ Wr ((0 : Nat) < List.length ((x.2.2.1, x.2.2.2.2.1, ()) :: nilL (Int × Int ×
  Unit))) ∧ Wr ((!x.1.2.2.2.2.2.2.1) = Bool.true → Bool.true = Bool.true) ∧ ((x.1.1, x.1.2.1 ++ (x.2.2.1, x.2.2.2.2.1, ()) :: nilL (Int × Int × Unit), delL x.1.2.2.1 (idxN
  x.2.2.1 x.1.2.2.1) (IntKind.wrap IntKind.i64 (idxN x.2.2.1 x.1.2.2.1 + (1 : Int))), x.1.2.2.2), ((x.2.1, (-1 : Int), (0 : Int), ()) :: nilL (Int × Int × Int × Unit), nilL Int,
  !x.1.2.2.2.2.2.2.1 && startsF x.1.2.2.2.2.1, Bool.false, ()), ()) = (outB (backD x.1 x.2.1 x.2.2.1 x.2.2.2.1 x.2.2.2.2.1 x.2.2.2.2.2.1), outT (backD
  x.1 x.2.1 x.2.2.1 x.2.2.2.1 x.2.2.2.2.1 x.2.2.2.2.2.1), ())) (Wr (List.length (x.2.2.1 :: nilL Int) * (8 : Nat) ≤ (140737488355328 : Nat)) ∧ Wr
  ((!x.1.2.2.2.2.2.2.1) = Bool.true → Bool.true = Bool.true) ∧ ((x.1.1, x.1.2.1, delL x.1.2.2.1 (idxN x.2.2.1 x.1.2.2.1) (IntKind.wrap IntKind.i64 (idxN x.2.2.1
  x.1.2.2.1 + (1 : Int))), x.1.2.2.2), ((x.2.1, (-1 : Int), (0 : Int), ()) :: nilL (Int × Int × Int × Unit), x.2.2.1 :: nilL Int, !x.1.2.2.2.2.2.2.1 && startsF
  x.1.2.2.2.2.1, Bool.false, ()), ()) = (outB (backD x.1 x.2.1 x.2.2.1 x.2.2.2.1 x.2.2.2.2.1 x.2.2.2.2.2.1), outT (backD x.1 x.2.1 x.2.2.1
  x.2.2.2.1 x.2.2.2.2.1 x.2.2.2.2.2.1), ())))) (Wr (List.length (x.2.2.1 :: nilL Int) * (8 : Nat) ≤ (140737488355328 : Nat)) ∧ Wr ((!x.1.2.2.2.2.2.2.1) = Bool.true →
  Bool.true = Bool.true) ∧ ((x.1.1, x.1.2.1, delL x.1.2.2.1 (idxN x.2.2.1 x.1.2.2.1) (IntKind.wrap IntKind.i64 (idxN x.2.2.1 x.1.2.2.1 + (1 : Int))), x.1.2.2.2),
  ((x.2.1, (-1 : Int), (0 : Int), ()) :: nilL (Int × Int × Int × Unit), x.2.2.1 :: nilL Int, !x.1.2.2.2.2.2.2.1 && startsF x.1.2.2.2.2.1, Bool.false, ()), ()) = (outB (backD x.1
  x.2.1 x.2.2.1 x.2.2.2.1 x.2.2.2.2.1 x.2.2.2.2.2.1), outT (backD x.1 x.2.1 x.2.2.1 x.2.2.2.1 x.2.2.2.2.1 x.2.2.2.2.2.1), ()))) (Wr
  (List.length (x.2.2.1 :: nilL Int) * (8 : Nat) ≤ (140737488355328 : Nat)) ∧ Wr ((!x.1.2.2.2.2.2.2.1) = Bool.true → Bool.true = Bool.true) ∧ ((x.1.1, x.1.2.1, delL x.1.2.2.1 (idxN
  x.2.2.1 x.1.2.2.1) (IntKind.wrap IntKind.i64 (idxN x.2.2.1 x.1.2.2.1 + (1 : Int))), x.1.2.2.2), ((x.2.1, (-1 : Int), (0 : Int), ()) :: nilL (Int × Int × Int × Unit), x.2.2.1
  :: nilL Int, !x.1.2.2.2.2.2.2.1 && startsF x.1.2.2.2.2.1, Bool.false, ()), ()) = (outB (backD x.1 x.2.1 x.2.2.1 x.2.2.2.1 x.2.2.2.2.1 x.2.2.2.2.2.1),
  outT (backD x.1 x.2.1 x.2.2.1 x.2.2.2.1 x.2.2.2.2.1 x.2.2.2.2.2.1), ()))))) := by kernel_rfl
end Go.Proofs.YtdkcgcgefgeooaaGreatDoor.Ow
set_option linter.all false
namespace Go.Proofs.YtdkcgcgefgeooaaGreatDoor.Ow
open Go Go.Eng Go.RowKit
set_option maxRecDepth 100000
set_option maxHeartbeats 8000000
theorem v28 : Vc g28 300 Tryz.f28 cNone := by
  constructor
  rw [v28_eq]
  simp only [Wr_iff, bcase_iff, true_and, and_true, decide_eq_true_eq, decide_eq_false_iff_not, Bool.and_eq_true, Bool.and_eq_false_iff, Bool.or_eq_true, Bool.or_eq_false_iff, Bool.not_eq_true', Bool.not_eq_false', Option.map_some, Option.getD_some, Option.isSome_some, Option.isSome_map, imp_self, nilL, noneO]
  intro x
  first | exact trivial | exact fun _ => rfl
theorem v18 : Vc g18 300 Tryz.f18 cNew := by
  constructor
  rw [v18_eq]
  simp only [Wr_iff, bcase_iff, true_and, and_true, decide_eq_true_eq, decide_eq_false_iff_not, Bool.and_eq_true, Bool.and_eq_false_iff, Bool.or_eq_true, Bool.or_eq_false_iff, Bool.not_eq_true', Bool.not_eq_false', Option.map_some, Option.getD_some, Option.isSome_some, Option.isSome_map, imp_self, nilL, noneO]
  intro x
  first | exact trivial | exact fun _ => rfl
theorem v22 : Vc g22 300 Tryz.f22 cOver := by
  constructor
  rw [v22_eq]
  simp only [Wr_iff, bcase_iff, true_and, and_true, decide_eq_true_eq, decide_eq_false_iff_not, Bool.and_eq_true, Bool.and_eq_false_iff, Bool.or_eq_true, Bool.or_eq_false_iff, Bool.not_eq_true', Bool.not_eq_false', Option.map_some, Option.getD_some, Option.isSome_some, Option.isSome_map, imp_self, nilL, noneO]
  intro x
  first | exact trivial | exact fun _ => rfl | exact fun _ _ => trivial | exact fun _ => ⟨fun _ => trivial, rfl⟩
theorem v90 : Vc g90 300 Tryz.f90 (cClip I64) := by
  constructor
  rw [v90_eq]
  simp only [Wr_iff, bcase_iff, true_and, and_true, decide_eq_true_eq, decide_eq_false_iff_not, Bool.and_eq_true, Bool.and_eq_false_iff, Bool.or_eq_true, Bool.or_eq_false_iff, Bool.not_eq_true', Bool.not_eq_false', Option.map_some, Option.getD_some, Option.isSome_some, Option.isSome_map, imp_self, nilL, noneO]
  rintro ⟨l, ⟨⟩⟩ _
  refine ⟨by omega, by simp, by omega, ?_⟩
  simp
theorem v106 : Vc g106 300 Tryz.f106 (cClip RestT) := by
  constructor
  rw [v106_eq]
  simp only [Wr_iff, bcase_iff, true_and, and_true, decide_eq_true_eq, decide_eq_false_iff_not, Bool.and_eq_true, Bool.and_eq_false_iff, Bool.or_eq_true, Bool.or_eq_false_iff, Bool.not_eq_true', Bool.not_eq_false', Option.map_some, Option.getD_some, Option.isSome_some, Option.isSome_map, imp_self, nilL, noneO]
  rintro ⟨l, ⟨⟩⟩ _
  refine ⟨by omega, by simp, by omega, ?_⟩
  simp
theorem v53 : Vc g53 300 Tryz.f53 (cClone 142 40 ScT) := by
  constructor
  rw [v53_eq]
  simp only [Wr_iff, bcase_iff, true_and, and_true, decide_eq_true_eq, decide_eq_false_iff_not, Bool.and_eq_true, Bool.and_eq_false_iff, Bool.or_eq_true, Bool.or_eq_false_iff, Bool.not_eq_true', Bool.not_eq_false', Option.map_some, Option.getD_some, Option.isSome_some, Option.isSome_map, imp_self, nilL, noneO]
  rintro ⟨l, ⟨⟩⟩ h b hb
  dsimp only at *
  exact ⟨hb, fun _ => ⟨by simpa using h, by simp⟩⟩
theorem v40 : Vc g40 300 Tryz.f40 cStarted := by
  constructor
  rw [v40_eq]
  simp only [Wr_iff, bcase_iff, true_and, and_true, decide_eq_true_eq, decide_eq_false_iff_not, Bool.and_eq_true, Bool.and_eq_false_iff, Bool.or_eq_true, Bool.or_eq_false_iff, Bool.not_eq_true', Bool.not_eq_false', Option.map_some, Option.getD_some, Option.isSome_some, Option.isSome_map, imp_self, nilL, noneO]
  rintro ⟨b, r, ⟨⟩⟩ _
  dsimp only
  rw [startB]
  refine ⟨fun h => ?_, fun h => ?_⟩
  · rw [decide_eq_true h]; rfl
  · rw [decide_eq_false h]; rfl
theorem v81 : Vc g81 300 Tryz.f81 cNote := by
  constructor
  rw [v81_eq]
  simp only [Wr_iff, bcase_iff, true_and, and_true, decide_eq_true_eq, decide_eq_false_iff_not, Bool.and_eq_true, Bool.and_eq_false_iff, Bool.or_eq_true, Bool.or_eq_false_iff, Bool.not_eq_true', Bool.not_eq_false', Option.map_some, Option.getD_some, Option.isSome_some, Option.isSome_map, imp_self, nilL, noneO]
  rintro ⟨l, n, bad, ⟨⟩⟩ ⟨h1, h2⟩
  dsimp only at *
  refine ⟨by omega, fun k hk => ⟨fun hl => absurd hl (by omega), fun _ => ?_⟩⟩
  have e : IntKind.wrap .i64 ((l.length : Int) - 32) = (l.length : Int) - 32 := wrap_id (by omega) (by omega)
  rw [e]
  refine ⟨by omega, by omega, Int.le_refl _, ?_⟩
  have e2 : (max 0 ((l.length : Int) - 32)).toNat = l.length - 32 := by omega
  rw [e2, noteS, Int.toNat_natCast, List.take_length]
theorem top_lens (lo now : Int) (dead : List Int) (l : List Rs) : (topO lo now dead l).length ≤ l.length ∧ (topR lo now dead l).length ≤ l.length := by
  constructor
  · rw [topO, List.length_map]
    exact Nat.le_trans (List.takeWhile_sublist _).length_le (by rw [List.length_reverse]; exact Nat.le_refl _)
  · rw [topR, List.length_dropLast, topQ, List.length_reverse]
    have := (List.dropWhile_sublist (spent lo now dead) (l := l.reverse)).length_le
    rw [List.length_reverse] at this
    omega
theorem v52 : Vc g52 300 Tryz.f52 cOld := by
  constructor
  rw [v52_eq]
  simp only [Wr_iff, bcase_iff, true_and, and_true, decide_eq_true_eq, decide_eq_false_iff_not, Bool.and_eq_true, Bool.and_eq_false_iff, Bool.or_eq_true, Bool.or_eq_false_iff, Bool.not_eq_true', Bool.not_eq_false', Option.map_some, Option.getD_some, Option.isSome_some, Option.isSome_map, imp_self, nilL, noneO]
  rintro ⟨⟨cf, id, le, wa, fl, sc, cl, ⟨⟩⟩, now, dead, ⟨⟩⟩ hb
  dsimp only at *
  simp only [askOk, Bool.and_eq_true] at hb
  obtain ⟨hs, hd⟩ := hb
  rw [szB_iff] at hs
  have hsO := sft_lens cf.2.2.2.2.2.1 now dead id
  dsimp only at hs hsO
  exact ⟨decide_eq_true hs.1, by omega, fun _ => trivial, rfl⟩
theorem v55 : Vc g55 300 Tryz.f55 cAsk := by
  constructor
  rw [v55_eq]
  simp only [Wr_iff, bcase_iff, true_and, and_true, decide_eq_true_eq, decide_eq_false_iff_not, Bool.and_eq_true, Bool.and_eq_false_iff, Bool.or_eq_true, Bool.or_eq_false_iff, Bool.not_eq_true', Bool.not_eq_false', Option.map_some, Option.getD_some, Option.isSome_some, Option.isSome_map, imp_self, nilL, noneO]
  rintro ⟨b, c, now, dead, ⟨⟩⟩ hb
  dsimp only at *
  simp only [askOk, Bool.and_eq_true] at hb
  obtain ⟨hs, hd⟩ := hb
  rw [szB_iff] at hs
  obtain ⟨t1, t2⟩ := top_lens b.1.2.2.2.2.2.1 now dead b.2.1
  refine ⟨fun h => ⟨by simp, fun _ => trivial, ?_⟩, fun h => ⟨decide_eq_true hs.1, by omega, fun h2 => ⟨by simp; omega, by simp, by simp, fun _ => trivial, ?_⟩, fun h2 => ⟨fun h3 => ⟨by simp, fun _ => trivial, ?_⟩, fun h3 => ⟨by simp; omega, by simp, ⟨by omega, by simp⟩, fun _ => trivial, ?_⟩⟩⟩⟩
  · have e : askD b c now dead = (b, [(c, -1, 240, ())], [], false) := by rw [askD, h]; rfl
    rw [e]; rfl
  · have e : askD b c now dead = (mkB b.1 (topR b.1.2.2.2.2.2.1 now dead b.2.1) (b.2.2.1 ++ [topS b.1.2.2.2.2.2.1 now dead b.2.1]) b.2.2.2.1 b.2.2.2.2.1 b.2.2.2.2.2.1 b.2.2.2.2.2.2.1, [(c, topS b.1.2.2.2.2.2.1 now dead b.2.1, 0, ())], topO b.1.2.2.2.2.2.1 now dead b.2.1, false) := by rw [askD, h, h2]; rfl
    rw [e]; rfl
  · have e : askD b c now dead = (mkB b.1 (topR b.1.2.2.2.2.2.1 now dead b.2.1) b.2.2.1 b.2.2.2.1 b.2.2.2.2.1 b.2.2.2.2.2.1 b.2.2.2.2.2.2.1, [(c, -1, 230, ())], topO b.1.2.2.2.2.2.1 now dead b.2.1, false) := by rw [askD, h, h2, decide_eq_true (show b.1.2.2.1 ≤ (b.2.2.2.1.length : Int) from h3)]; rfl
    rw [e]; rfl
  · have e : askD b c now dead = (mkB b.1 (topR b.1.2.2.2.2.2.1 now dead b.2.1) b.2.2.1 (b.2.2.2.1 ++ [c]) (joinF b.2.2.2.2.1) b.2.2.2.2.2.1 b.2.2.2.2.2.2.1, [], topO b.1.2.2.2.2.2.1 now dead b.2.1, false) := by rw [askD, h, h2, decide_eq_false (show ¬ b.1.2.2.1 ≤ (b.2.2.2.1.length : Int) from h3)]; rfl
    rw [e]; rfl
theorem fileW {cf : Cf} {id : List Rs} {le : List Int} {w : Int} {ws : List Int} {fl : Fl} {sc : List Sc} {cl : Bool} {re : List Rp} {sh : List Int} {sock now : Int} :
    fileD (mkB cf id le (w :: ws) fl sc cl) re sh sock now = (mkB cf id (le ++ [sock]) ws (partF fl 1) sc cl, re ++ [(w, sock, 0, ())], sh, partC fl 1) := rfl
theorem fileI {cf : Cf} {id : List Rs} {le : List Int} {fl : Fl} {sc : List Sc} {cl : Bool} {re : List Rp} {sh : List Int} {sock now : Int} (h : (id.length : Int) < cf.2.1) :
    fileD (mkB cf id le [] fl sc cl) re sh sock now = (mkB cf (id ++ [(sock, now, ())]) le [] fl sc cl, re, sh, false) := by
  rw [fileD]; dsimp only; rw [decide_eq_true h]; rfl
theorem fileS {cf : Cf} {id : List Rs} {le : List Int} {fl : Fl} {sc : List Sc} {cl : Bool} {re : List Rp} {sh : List Int} {sock now : Int} (h : ¬ (id.length : Int) < cf.2.1) :
    fileD (mkB cf id le [] fl sc cl) re sh sock now = (mkB cf id le [] fl sc cl, re, sh ++ [sock], false) := by
  rw [fileD]; dsimp only; rw [decide_eq_false h]; rfl
theorem v56 : Vc g56 300 Tryz.f56 cBack := by
  constructor
  rw [v56_eq]
  simp only [Wr_iff, bcase_iff, true_and, and_true, decide_eq_true_eq, decide_eq_false_iff_not, Bool.and_eq_true, Bool.and_eq_false_iff, Bool.or_eq_true, Bool.or_eq_false_iff, Bool.not_eq_true', Bool.not_eq_false', Option.map_some, Option.getD_some, Option.isSome_some, Option.isSome_map, imp_self, nilL, noneO]
  rintro ⟨⟨cf, id, le, wa, fl, sc, cl, ⟨⟩⟩, c, sock, keep, now, dead, ⟨⟩⟩ hb
  dsimp only at *
  obtain ⟨hs, hd⟩ := hb
  rw [szB_iff] at hs
  dsimp only at hs
  simp only [szI, decide_eq_true_eq] at hd
  have hi := idx_cases sock le
  refine ⟨fun h => ⟨by simp, fun _ => trivial, ?_⟩, fun h => ⟨fun h2 => ⟨by simp, fun _ => trivial, ?_⟩, fun h2 => ?_⟩⟩
  · subst h
    have e : backD (cf, id, le, wa, fl, sc, true, ()) c sock keep now dead = ((cf, id, le, wa, fl, sc, true, ()), [(c, -1, 240, ())], [], false) := rfl
    rw [e]; rfl
  · subst h
    have e : backD (cf, id, le, wa, fl, sc, false, ()) c sock keep now dead = ((cf, id, le, wa, fl, sc, false, ()), [(c, -1, 80, ())], [], false) := by rw [backD]; dsimp only; rw [decide_eq_true h2]; rfl
    rw [e]; rfl
  subst h
  have ew : IntKind.wrap .i64 (idxN sock le + 1) = idxN sock le + 1 := wrap_id (by omega) (by omega)
  rw [ew]
  have hdl : (delL le (idxN sock le) (idxN sock le + 1)).length ≤ le.length := by
    rw [delL, List.length_append, List.length_take, List.length_drop]; omega
  have e0 : backD (cf, id, le, wa, fl, sc, false, ()) c sock keep now dead = bif keep && !hasN dead sock then fileD (mkB cf id (delL le (idxN sock le) (idxN sock le + 1)) wa fl sc false) [(c, -1, 0, ())] [] sock now else
        (mkB cf id (delL le (idxN sock le) (idxN sock le + 1)) wa fl sc false, [(c, -1, 0, ())], [sock], false) := by rw [backD]; dsimp only; rw [decide_eq_false h2]; rfl
  rw [e0]
  generalize delL le (idxN sock le) (idxN sock le + 1) = le' at *
  refine ⟨by omega, ⟨by show (0 : Int) ≤ _; omega, by omega, by omega, by omega⟩, by simp, fun hk => ⟨fun hh => ⟨fun hw => ?_, fun hw => ⟨fun hc => ⟨by simp; omega, by simp, fun _ => trivial, ?_⟩, fun hc => ⟨by simp, fun _ => trivial, ?_⟩⟩⟩, fun hh => ⟨by simp, fun _ => trivial, ?_⟩⟩, fun hk => ⟨by simp, fun _ => trivial, ?_⟩⟩
  · subst hk
    rw [hh]
    cases wa with
    | nil => exact absurd hw (by simp)
    | cons w ws =>
      simp only [List.length_cons] at hs hw ⊢
      refine ⟨by omega, by omega, by omega, by omega, by omega, by simp; omega, by simp; omega, by simp, by simp, fun _ => trivial, ?_⟩
      rw [show (bif true && !false then fileD (mkB cf id le' (w :: ws) fl sc false) [(c, -1, 0, ())] [] sock now else (mkB cf id le' (w :: ws) fl sc false, [(c, -1, 0, ())], [sock], false)) = fileD (mkB cf id le' (w :: ws) fl sc false) [(c, -1, 0, ())] [] sock now from rfl, fileW]
      simp [outB, outT, endsB, mkB]
  · subst hk
    rw [hh]
    have hw0 : wa = [] := List.length_eq_zero_iff.1 (by omega)
    subst hw0
    rw [show (bif true && !false then fileD (mkB cf id le' [] fl sc false) [(c, -1, 0, ())] [] sock now else (mkB cf id le' [] fl sc false, [(c, -1, 0, ())], [sock], false)) = fileD (mkB cf id le' [] fl sc false) [(c, -1, 0, ())] [] sock now from rfl, fileI hc]
    rfl
  · subst hk
    rw [hh]
    have hw0 : wa = [] := List.length_eq_zero_iff.1 (by omega)
    subst hw0
    rw [show (bif true && !false then fileD (mkB cf id le' [] fl sc false) [(c, -1, 0, ())] [] sock now else (mkB cf id le' [] fl sc false, [(c, -1, 0, ())], [sock], false)) = fileD (mkB cf id le' [] fl sc false) [(c, -1, 0, ())] [] sock now from rfl, fileS hc]
    rfl
  · have hh2 : hasN dead sock = true := hh.resolve_left (by decide)
    rw [hh2, Bool.not_true, Bool.and_false]; rfl
  · rw [hk, Bool.false_and]; rfl
end Go.Proofs.YtdkcgcgefgeooaaGreatDoor.Ow
namespace Go.Proofs.YtdkcgcgefgeooaaGreatDoor.Ow
open Go Go.Eng 
set_option maxRecDepth 100000
theorem val90 : Valid Tryz.prog GW 90 ((cClip I64)) := mkValid gws To.mix To.tab_ok To.eqs_ok g90 rfl allV_nil allI_nil Tryz.func90 (by kernel_rfl) v90
theorem val106 : Valid Tryz.prog GW 106 ((cClip RestT)) := mkValid gws To.mix To.tab_ok To.eqs_ok g106 rfl allV_nil allI_nil Tryz.func106 (by kernel_rfl) v106
theorem val53 : Valid Tryz.prog GW 53 ((cClone 142 40 ScT)) := mkValid gws To.mix To.tab_ok To.eqs_ok g53 rfl allV_nil allI_nil Tryz.func53 (by kernel_rfl) v53
theorem val52 : Valid Tryz.prog GW 52 cOld := mkValid gws To.mix To.tab_ok To.eqs_ok g52 rfl (allV_cons val67 (allV_cons val86 allV_nil)) (allI_cons Tryz.func61 (by kernel_rfl) (allI_cons Tryz.func63 (by kernel_rfl) (allI_cons Tryz.func68 (by kernel_rfl) (allI_cons Tryz.func69 (by kernel_rfl) (allI_cons Tryz.func87 (by kernel_rfl) (allI_cons Tryz.func95 (by kernel_rfl) (allI_cons Tryz.func96 (by kernel_rfl) allI_nil))))))) Tryz.func52 (by kernel_rfl) v52
theorem val81 : Valid Tryz.prog GW 81 cNote := mkValid gws To.mix To.tab_ok To.eqs_ok g81 rfl (allV_cons val53 allV_nil) allI_nil Tryz.func81 (by kernel_rfl) v81
theorem val28 : Valid Tryz.prog GW 28 cNone := mkValid gws To.mix To.tab_ok To.eqs_ok g28 rfl allV_nil allI_nil Tryz.func28 (by kernel_rfl) v28
theorem val18 : Valid Tryz.prog GW 18 cNew := mkValid gws To.mix To.tab_ok To.eqs_ok g18 rfl (allV_cons val28 allV_nil) allI_nil Tryz.func18 (by kernel_rfl) v18
theorem val22 : Valid Tryz.prog GW 22 cOver := mkValid gws To.mix To.tab_ok To.eqs_ok g22 rfl (allV_cons val32 allV_nil) allI_nil Tryz.func22 (by kernel_rfl) v22
theorem val40 : Valid Tryz.prog GW 40 cStarted := mkValid gws To.mix To.tab_ok To.eqs_ok g40 rfl (allV_cons val54 allV_nil) allI_nil Tryz.func40 (by kernel_rfl) v40
theorem val55 : Valid Tryz.prog GW 55 cAsk := mkValid gws To.mix To.tab_ok To.eqs_ok g55 rfl (allV_cons val86 (allV_cons val88 (allV_cons val90 (allV_cons val91 allV_nil)))) (allI_cons Tryz.func61 (by kernel_rfl) (allI_cons Tryz.func63 (by kernel_rfl) (allI_cons Tryz.func68 (by kernel_rfl) (allI_cons Tryz.func69 (by kernel_rfl) (allI_cons Tryz.func71 (by kernel_rfl) (allI_cons Tryz.func87 (by kernel_rfl) (allI_cons Tryz.func89 (by kernel_rfl) (allI_cons Tryz.func95 (by kernel_rfl) (allI_cons Tryz.func96 (by kernel_rfl) allI_nil))))))))) Tryz.func55 (by kernel_rfl) v55
theorem val56 : Valid Tryz.prog GW 56 cBack := mkValidM gws To.mix To.tab_ok To.eqs_ok (by kernel_rfl) g56 rfl (allM_cons mval93 allM_nil) (allV_cons val86 (allV_cons val90 (allV_cons val92 (allV_cons val94 (allV_cons val105 (allV_cons val106 (allV_cons val111 allV_nil))))))) (allI_cons Tryz.func61 (by kernel_rfl) (allI_cons Tryz.func63 (by kernel_rfl) (allI_cons Tryz.func68 (by kernel_rfl) (allI_cons Tryz.func69 (by kernel_rfl) (allI_cons Tryz.func72 (by kernel_rfl) (allI_cons Tryz.func82 (by kernel_rfl) (allI_cons Tryz.func83 (by kernel_rfl) (allI_cons Tryz.func87 (by kernel_rfl) (allI_cons Tryz.func89 (by kernel_rfl) (allI_cons Tryz.func95 (by kernel_rfl) (allI_cons Tryz.func96 (by kernel_rfl) allI_nil))))))))))) Tryz.func56 (by kernel_rfl) v56
end Go.Proofs.YtdkcgcgefgeooaaGreatDoor.Ow
namespace Go.Proofs.YtdkcgcgefgeooaaGreatDoor.Ow
open Go Go.Eng 
set_option maxRecDepth 100000
noncomputable def g49 : Cfg := { tab := To.tab, cons := [(80, cEnd), (81, cNote), (86, cStarts), (90, (cClip I64)), (94, (cClone 3 8 I64)), (105, cHas), (106, (cClip RestT)), (111, cPart)], inls := [(61, Tryz.f61), (62, Tryz.f62), (63, Tryz.f63), (68, Tryz.f68), (69, Tryz.f69), (82, Tryz.f82), (83, Tryz.f83), (84, Tryz.f84), (87, Tryz.f87), (89, Tryz.f89), (95, Tryz.f95), (96, Tryz.f96)], loops := [(850001, alA)], cuts := [], unroll := false, arrs := [], keys := [] }
noncomputable def g58 : Cfg := { tab := To.tab, cons := [(86, cStarts), (97, cOwns), (111, cPart)], inls := [(61, Tryz.f61), (63, Tryz.f63), (68, Tryz.f68), (69, Tryz.f69), (74, Tryz.f74), (84, Tryz.f84), (87, Tryz.f87), (95, Tryz.f95), (96, Tryz.f96)], loops := [(850001, alA)], cuts := [], unroll := false, arrs := [], keys := [] }
end Go.Proofs.YtdkcgcgefgeooaaGreatDoor.Ow
namespace Go.Proofs.YtdkcgcgefgeooaaGreatDoor.Ow
open Go Go.Eng 
set_option maxRecDepth 100000
theorem v49_eq : vcFn g49 300 Tryz.f49 cTold = ( ∀ (x : ((Int × Int × Int × Int × Int × Int × Int × Int × Int × Unit) × List (Int × Int × Unit) × List Int × List Int × (Int × Bool × Int × Unit) × List ((Int × (Int × Int × Int × Int × Int × Int × Int × Int × Unit) × Int
  × Unit) × Int × Unit) × Bool × Unit) × Int × Int × List (Int × (Int × Int × Int × Int × Int × Int × Int × Int × Unit) × Int × Unit) × Int × List Int × Unit), Wr ((szB x.1 && szI x.2.2.2.2.2.1 &&
  Decidable.decide (List.length x.2.2.2.1 = (0 : Nat))) = Bool.true) → Wr (Bool.true = Bool.true) ∧ Wr ((Decidable.decide (List.length x.1.2.2.2.2.2.1 ≤ (1000000 : Nat)) && Decidable.decide
  (List.length x.2.2.2.1 = (0 : Nat))) = Bool.true) ∧ bcase (Decidable.decide (x.2.2.1 = (0 : Int))) (bcase (!x.1.2.2.2.2.2.2.1) (Wr (Bool.true = Bool.true) ∧ bcase (Bool.true && (Bool.false
  || hasN x.2.2.2.2.2.1 x.2.1)) (Wr (List.length (x.2.1 :: nilL Int) * (8 : Nat) ≤ (140737488355328 : Nat)) ∧ Wr ((!x.1.2.2.2.2.2.2.1) = Bool.true → Bool.true = Bool.true) ∧
  ((x.1.1, x.1.2.1, x.1.2.2.1, x.1.2.2.2.1, endF x.1.2.2.2.2.1, noteS x.1.2.2.2.2.2.1, x.1.2.2.2.2.2.2), (nilL (Int × Int × Int × Unit), x.2.1 ::
  nilL Int, !x.1.2.2.2.2.2.2.1 && startsF (endF x.1.2.2.2.2.1), Bool.false, ()), ()) = (outB (toldD x.1 x.2.1 x.2.2.1 x.2.2.2.2.1 x.2.2.2.2.2.1), outT (toldD
  x.1 x.2.1 x.2.2.1 x.2.2.2.2.1 x.2.2.2.2.2.1), ())) (bcase (Decidable.decide (x.2.2.1 = (0 : Int))) (bcase (Decidable.decide ((↑(List.length x.1.2.2.2.1) : Int) > (0 :
  Int))) (Wr ((0 : Int) ≤ (0 : Int)) ∧ Wr ((0 : Int) < (↑(List.length x.1.2.2.2.1) : Int)) ∧ Wr (Bool.true = Bool.true) ∧ Wr ((0 : Int) ≤ (1 : Int)) ∧ Wr ((1 : Int) ≤ (↑(List.length x.1.2.2.2.1) :
  Int)) ∧ Wr ((↑(List.length x.1.2.2.2.1) : Int) ≤ (↑(List.length x.1.2.2.2.1) : Int)) ∧ Wr (Decidable.decide (List.length (List.drop (Int.toNat (1 : Int)) (List.take (Int.toNat (↑(List.length
  x.1.2.2.2.1) : Int)) x.1.2.2.2.1)) * (8 : Nat) ≤ (140737488355328 : Nat)) = Bool.true) ∧ Wr True ∧ Wr ((List.length x.1.2.2.1 + List.length (x.2.1 :: nilL Int)) * (8 : Nat) ≤
  (140737488355328 : Nat)) ∧ Wr ((0 : Nat) < List.length (x.2.1 :: nilL Int)) ∧ Wr (List.length ((List.getD x.1.2.2.2.1 (Int.toNat (0 : Int)) (0 : Int), x.2.1, (0 : Int), ()) :: nilL (Int × Int × Int ×
  Unit)) * (24 : Nat) ≤ (140737488355328 : Nat)) ∧ Wr (Bool.true = Bool.true) ∧ Wr ((!x.1.2.2.2.2.2.2.1) = Bool.true → Bool.true = Bool.true) ∧ ((x.1.1, x.1.2.1, x.1.2.2.1 ++ x.2.1 ::
  nilL Int, List.drop (Int.toNat (1 : Int)) (List.take (Int.toNat (↑(List.length x.1.2.2.2.1) : Int)) x.1.2.2.2.1), partF (endF x.1.2.2.2.2.1) (1 : Int), noteS
  x.1.2.2.2.2.2.1, x.1.2.2.2.2.2.2), ((List.getD x.1.2.2.2.1 (Int.toNat (0 : Int)) (0 : Int), x.2.1, (0 : Int), ()) :: nilL (Int × Int × Int × Unit), nilL Int,
  !x.1.2.2.2.2.2.2.1 && startsF (partF (endF x.1.2.2.2.2.1) (1 : Int)), Bool.false || partC (endF x.1.2.2.2.2.1) (1 : Int), ()), ()) = (outB (toldD x.1 x.2.1 x.2.2.1
  x.2.2.2.2.1 x.2.2.2.2.2.1), outT (toldD x.1 x.2.1 x.2.2.1 x.2.2.2.2.1 x.2.2.2.2.2.1), ())) (bcase (Decidable.decide ((↑(List.length x.1.2.1) : Int) <
  x.1.1.2.1)) (Wr True ∧ Wr ((List.length x.1.2.1 + List.length ((x.2.1, x.2.2.2.2.1, ()) :: nilL (Int × Int × Unit))) * (16 : Nat) ≤ (140737488355328 : Nat)) ∧ Wr ((0 : Nat) < List.length
  ((x.2.1, x.2.2.2.2.1, ()) :: nilL (Int × Int × Unit))) ∧ Wr ((!x.1.2.2.2.2.2.2.1) = Bool.true → Bool.true = Bool.true) ∧ ((x.1.1, x.1.2.1 ++ (x.2.1, x.2.2.2.2.1, ())
  :: nilL (Int × Int × Unit), x.1.2.2.1, x.1.2.2.2.1, endF x.1.2.2.2.2.1, noteS x.1.2.2.2.2.2.1, x.1.2.2.2.2.2.2), (nilL (Int × Int × Int × Unit), nilL Int,
  !x.1.2.2.2.2.2.2.1 && startsF (endF x.1.2.2.2.2.1), Bool.false, ()), ()) = (outB (toldD x.1 x.2.1 x.2.2.1 x.2.2.2.2.1 x.2.2.2.2.2.1), outT (toldD x.1
  x.2.1 x.2.2.1 x.2.2.2.2.1 x.2.2.2.2.2.1), ())) (Wr (List.length (x.2.1 :: nilL Int) * (8 : Nat) ≤ (140737488355328 : Nat)) ∧ Wr ((!x.1.2.2.2.2.2.2.1) = Bool.true →
  Bool.true = Bool.true) ∧ ((x.1.1, x.1.2.1, x.1.2.2.1, x.1.2.2.2.1, endF x.1.2.2.2.2.1, noteS x.1.2.2.2.2.2.1, x.1.2.2.2.2.2.2), (nilL (Int × Int × Int
  × Unit), x.2.1 :: nilL Int, !x.1.2.2.2.2.2.2.1 && startsF (endF x.1.2.2.2.2.1), Bool.false, ()), ()) = (outB (toldD x.1 x.2.1 x.2.2.1 x.2.2.2.2.1
  x.2.2.2.2.2.1), outT (toldD x.1 x.2.1 x.2.2.1 x.2.2.2.2.1 x.2.2.2.2.2.1), ())))) (bcase (!Decidable.decide (x.2.2.1 = (191 : Int))) ((Wr (AlI x.1.2.2.2.1
  x.2.2.1 (0 : Int) (nilL (Int × Int × Int × Unit))) ∧ Wr ((0 : Int) = (0 : Int)) ∧ Wr (x.2.2.1 = x.2.2.1) ∧ Wr (x.1.2.2.2.1 = x.1.2.2.2.1) ∧ Wr ((↑(List.length x.1.2.2.2.1)
  : Int) = (↑(List.length x.1.2.2.2.1) : Int)) ∧ Wr (x.1.1.1 = x.1.1.1) ∧ Wr (x.1.1.2.1 = x.1.1.2.1) ∧ Wr (x.1.1.2.2.1 = x.1.1.2.2.1) ∧ Wr
  (x.1.1.2.2.2.1 = x.1.1.2.2.2.1) ∧ Wr (x.1.1.2.2.2.2.1 = x.1.1.2.2.2.2.1) ∧ Wr (x.1.1.2.2.2.2.2.1 = x.1.1.2.2.2.2.2.1) ∧ Wr
  (x.1.1.2.2.2.2.2.2.1 = x.1.1.2.2.2.2.2.2.1) ∧ Wr (x.1.1.2.2.2.2.2.2.2.1 = x.1.1.2.2.2.2.2.2.2.1) ∧ Wr
  (x.1.1.2.2.2.2.2.2.2.2.1 = x.1.1.2.2.2.2.2.2.2.2.1) ∧ Wr (x.1.2.1 = x.1.2.1) ∧ Wr (x.1.2.2.1 = x.1.2.2.1) ∧ Wr (x.1.2.2.2.1 =
  x.1.2.2.2.1) ∧ Wr ((endF x.1.2.2.2.2.1).1 = (endF x.1.2.2.2.2.1).1) ∧ Wr ((endF x.1.2.2.2.2.1).2.1 = (endF x.1.2.2.2.2.1).2.1) ∧ Wr ((endF
  x.1.2.2.2.2.1).2.2.1 = (endF x.1.2.2.2.2.1).2.2.1) ∧ Wr (noteS x.1.2.2.2.2.2.1 = noteS x.1.2.2.2.2.2.1) ∧ Wr (x.1.2.2.2.2.2.2.1 =
  x.1.2.2.2.2.2.2.1) ∧ Wr (Bool.false = Bool.false) ∧ Wr (Bool.false = Bool.false) ∧ Wr (x.2.2.2.2.1 = x.2.2.2.2.1) ∧ Wr (x.2.2.2.2.2.1 = x.2.2.2.2.2.1) ∧ Wr
  (nilL (Int × Int × Int × Unit) = nilL (Int × Int × Int × Unit)) ∧ Wr (x.1.1.1 = x.1.1.1) ∧ Wr (x.1.1.2.1 = x.1.1.2.1) ∧ Wr (x.1.1.2.2.1 = x.1.1.2.2.1) ∧ Wr
  (x.1.1.2.2.2.1 = x.1.1.2.2.2.1) ∧ Wr (x.1.1.2.2.2.2.1 = x.1.1.2.2.2.2.1) ∧ Wr (x.1.1.2.2.2.2.2.1 = x.1.1.2.2.2.2.2.1) ∧ Wr
  (x.1.1.2.2.2.2.2.2.1 = x.1.1.2.2.2.2.2.2.1) ∧ Wr (x.1.1.2.2.2.2.2.2.2.1 = x.1.1.2.2.2.2.2.2.2.1) ∧ Wr
  (x.1.1.2.2.2.2.2.2.2.2.1 = x.1.1.2.2.2.2.2.2.2.2.1) ∧ Wr (x.1.2.1 = x.1.2.1) ∧ Wr (x.1.2.2.1 = x.1.2.2.1) ∧ Wr (x.1.2.2.2.1 =
  x.1.2.2.2.1) ∧ Wr (x.1.2.2.2.2.1.1 = x.1.2.2.2.2.1.1) ∧ Wr (x.1.2.2.2.2.1.2.1 = x.1.2.2.2.2.1.2.1) ∧ Wr (x.1.2.2.2.2.1.2.2.1 =
  x.1.2.2.2.2.1.2.2.1) ∧ Wr (x.1.2.2.2.2.2.1 = x.1.2.2.2.2.2.1) ∧ Wr (x.1.2.2.2.2.2.2.1 = x.1.2.2.2.2.2.2.1) ∧ Wr (Bool.false = Bool.false) ∧
  Wr (Bool.false = Bool.false) ∧ Wr ((0 : Int) = (0 : Int)) ∧ Wr ((0 : Int) = (0 : Int)) ∧ Wr ((0 : Int) = (0 : Int)) ∧ Wr ((0 : Int) = (0 : Int)) ∧ Wr ((0 : Int) = (0 : Int)) ∧ Wr ((0 : Int) = (0 : Int)) ∧ Wr ((0 : Int)
  = (0 : Int)) ∧ Wr ((0 : Int) = (0 : Int)) ∧ Wr ((0 : Int) = (0 : Int)) ∧ Wr ((0 : Int) = (0 : Int)) ∧ Wr (Bool.false = Bool.false) ∧ Wr ((0 : Int) = (0 : Int)) ∧ Wr (Bool.false = Bool.false) ∧ Wr (x.1.1.1 =
  x.1.1.1) ∧ Wr (x.1.1.2.1 = x.1.1.2.1) ∧ Wr (x.1.1.2.2.1 = x.1.1.2.2.1) ∧ Wr (x.1.1.2.2.2.1 = x.1.1.2.2.2.1) ∧ Wr (x.1.1.2.2.2.2.1 =
  x.1.1.2.2.2.2.1) ∧ Wr (x.1.1.2.2.2.2.2.1 = x.1.1.2.2.2.2.2.1) ∧ Wr (x.1.1.2.2.2.2.2.2.1 = x.1.1.2.2.2.2.2.2.1) ∧ Wr
  (x.1.1.2.2.2.2.2.2.2.1 = x.1.1.2.2.2.2.2.2.2.1) ∧ Wr (x.1.1.2.2.2.2.2.2.2.2.1 = x.1.1.2.2.2.2.2.2.2.2.1) ∧ Wr (x.1.2.1 =
  x.1.2.1) ∧ Wr (x.1.2.2.1 = x.1.2.2.1) ∧ Wr (x.1.2.2.2.1 = x.1.2.2.2.1) ∧ Wr (x.1.2.2.2.2.1.1 = x.1.2.2.2.2.1.1) ∧ Wr
  (x.1.2.2.2.2.1.2.1 = x.1.2.2.2.2.1.2.1) ∧ Wr (x.1.2.2.2.2.1.2.2.1 = x.1.2.2.2.2.1.2.2.1) ∧ Wr (x.1.2.2.2.2.2.1 =
  x.1.2.2.2.2.2.1) ∧ Wr (x.1.2.2.2.2.2.2.1 = x.1.2.2.2.2.2.2.1)) ∧ ∀ (x_1 : Int × List (Int × Int × Int × Unit)), Wr (AlI x.1.2.2.2.1 x.2.2.1 x_1.1 x_1.2)
  → bcase (Decidable.decide (x_1.1 < (↑(List.length x.1.2.2.2.1) : Int))) (Wr ((0 : Int) ≤ x_1.1) ∧ Wr (x_1.1 < (↑(List.length x.1.2.2.2.1) : Int)) ∧ Wr (Bool.true = Bool.true) ∧ Wr ((List.length
  x_1.2 + List.length ((List.getD x.1.2.2.2.1 (Int.toNat x_1.1) (0 : Int), (-1 : Int), x.2.2.1, ()) :: nilL (Int × Int × Int × Unit))) * (24 : Nat) ≤ (140737488355328 : Nat)) ∧ Wr (AlI
  x.1.2.2.2.1 x.2.2.1 (IntKind.wrap IntKind.i64 (x_1.1 + (1 : Int))) (x_1.2 ++ (List.getD x.1.2.2.2.1 (Int.toNat x_1.1) (0 : Int), (-1 : Int), x.2.2.1, ()) :: nilL (Int × Int × Int ×
  Unit))) ∧ Wr (List.length x.1.2.2.2.1 - Int.toNat (IntKind.wrap IntKind.i64 (x_1.1 + (1 : Int))) < List.length x.1.2.2.2.1 - Int.toNat x_1.1) ∧ Wr (IntKind.wrap IntKind.i64 (x_1.1 + (1 : Int))
  = IntKind.wrap IntKind.i64 (x_1.1 + (1 : Int))) ∧ Wr (x.2.2.1 = x.2.2.1) ∧ Wr (x.1.2.2.2.1 = x.1.2.2.2.1) ∧ Wr ((↑(List.length x.1.2.2.2.1) : Int) = (↑(List.length
  x.1.2.2.2.1) : Int)) ∧ Wr (x.1.1.1 = x.1.1.1) ∧ Wr (x.1.1.2.1 = x.1.1.2.1) ∧ Wr (x.1.1.2.2.1 = x.1.1.2.2.1) ∧ Wr (x.1.1.2.2.2.1 =
  x.1.1.2.2.2.1) ∧ Wr (x.1.1.2.2.2.2.1 = x.1.1.2.2.2.2.1) ∧ Wr (x.1.1.2.2.2.2.2.1 = x.1.1.2.2.2.2.2.1) ∧ Wr (x.1.1.2.2.2.2.2.2.1 =
  x.1.1.2.2.2.2.2.2.1) ∧ Wr (x.1.1.2.2.2.2.2.2.2.1 = x.1.1.2.2.2.2.2.2.2.1) ∧ Wr (x.1.1.2.2.2.2.2.2.2.2.1 =
  x.1.1.2.2.2.2.2.2.2.2.1) ∧ Wr (x.1.2.1 = x.1.2.1) ∧ Wr (x.1.2.2.1 = x.1.2.2.1) ∧ Wr (x.1.2.2.2.1 = x.1.2.2.2.1) ∧ Wr ((endF
  x.1.2.2.2.2.1).1 = (endF x.1.2.2.2.2.1).1) ∧ Wr ((endF x.1.2.2.2.2.1).2.1 = (endF x.1.2.2.2.2.1).2.1) ∧ Wr ((endF x.1.2.2.2.2.1).2.2.1 =
  (endF x.1.2.2.2.2.1).2.2.1) ∧ Wr (noteS x.1.2.2.2.2.2.1 = noteS x.1.2.2.2.2.2.1) ∧ Wr (x.1.2.2.2.2.2.2.1 = x.1.2.2.2.2.2.2.1) ∧ Wr
  (Bool.false = Bool.false) ∧ Wr (Bool.false = Bool.false) ∧ Wr (x.2.2.2.2.1 = x.2.2.2.2.1) ∧ Wr (x.2.2.2.2.2.1 = x.2.2.2.2.2.1) ∧ Wr (x_1.2 ++ (List.getD
  x.1.2.2.2.1 (Int.toNat x_1.1) (0 : Int), (-1 : Int), x.2.2.1, ()) :: nilL (Int × Int × Int × Unit) = x_1.2 ++ (List.getD x.1.2.2.2.1 (Int.toNat x_1.1) (0 : Int), (-1 : Int),
  x.2.2.1, ()) :: nilL (Int × Int × Int × Unit)) ∧ Wr (x.1.1.1 = x.1.1.1) ∧ Wr (x.1.1.2.1 = x.1.1.2.1) ∧ Wr (x.1.1.2.2.1 = x.1.1.2.2.1) ∧ Wr (x.1.1.2.2.2.1
  = x.1.1.2.2.2.1) ∧ Wr (x.1.1.2.2.2.2.1 = x.1.1.2.2.2.2.1) ∧ Wr (x.1.1.2.2.2.2.2.1 = x.1.1.2.2.2.2.2.1) ∧ Wr (x.1.1.2.2.2.2.2.2.1
  = x.1.1.2.2.2.2.2.2.1) ∧ Wr (x.1.1.2.2.2.2.2.2.2.1 = x.1.1.2.2.2.2.2.2.2.1) ∧ Wr (x.1.1.2.2.2.2.2.2.2.2.1 =
  x.1.1.2.2.2.2.2.2.2.2.1) ∧ Wr (x.1.2.1 = x.1.2.1) ∧ Wr (x.1.2.2.1 = x.1.2.2.1) ∧ Wr (x.1.2.2.2.1 = x.1.2.2.2.1) ∧ Wr (x.1.2.2.2.2.1.1 =
  x.1.2.2.2.2.1.1) ∧ Wr (x.1.2.2.2.2.1.2.1 = x.1.2.2.2.2.1.2.1) ∧ Wr (x.1.2.2.2.2.1.2.2.1 = x.1.2.2.2.2.1.2.2.1) ∧ Wr
  (x.1.2.2.2.2.2.1 = x.1.2.2.2.2.2.1) ∧ Wr (x.1.2.2.2.2.2.2.1 = x.1.2.2.2.2.2.2.1) ∧ Wr (Bool.false = Bool.false) ∧ Wr (Bool.false = Bool.false) ∧ Wr ((0 : Int)
  = (0 : Int)) ∧ Wr ((0 : Int) = (0 : Int)) ∧ Wr ((0 : Int) = (0 : Int)) ∧ Wr ((0 : Int) = (0 : Int)) ∧ Wr ((0 : Int) = (0 : Int)) ∧ Wr ((0 : Int) = (0 : Int)) ∧ Wr ((0 : Int) = (0 : Int)) ∧ Wr ((0 : Int) = (0 : Int)) ∧
  Wr ((0 : Int) = (0 : Int)) ∧ Wr ((0 : Int) = (0 : Int)) ∧ Wr (Bool.false = Bool.false) ∧ Wr ((0 : Int) = (0 : Int)) ∧ Wr (Bool.false = Bool.false) ∧ Wr (x.1.1.1 = x.1.1.1) ∧ Wr (x.1.1.2.1 =
  x.1.1.2.1) ∧ Wr (x.1.1.2.2.1 = x.1.1.2.2.1) ∧ Wr (x.1.1.2.2.2.1 = x.1.1.2.2.2.1) ∧ Wr (x.1.1.2.2.2.2.1 = x.1.1.2.2.2.2.1) ∧ Wr
  (x.1.1.2.2.2.2.2.1 = x.1.1.2.2.2.2.2.1) ∧ Wr (x.1.1.2.2.2.2.2.2.1 = x.1.1.2.2.2.2.2.2.1) ∧ Wr (x.1.1.2.2.2.2.2.2.2.1 =
  x.1.1.2.2.2.2.2.2.2.1) ∧ Wr (x.1.1.2.2.2.2.2.2.2.2.1 = x.1.1.2.2.2.2.2.2.2.2.1) ∧ Wr (x.1.2.1 = x.1.2.1) ∧ Wr (x.1.2.2.1 =
  x.1.2.2.1) ∧ Wr (x.1.2.2.2.1 = x.1.2.2.2.1) ∧ Wr (x.1.2.2.2.2.1.1 = x.1.2.2.2.2.1.1) ∧ Wr (x.1.2.2.2.2.1.2.1 = x.1.2.2.2.2.1.2.1) ∧
  Wr (x.1.2.2.2.2.1.2.2.1 = x.1.2.2.2.2.1.2.2.1) ∧ Wr (x.1.2.2.2.2.2.1 = x.1.2.2.2.2.2.1) ∧ Wr (x.1.2.2.2.2.2.2.1 =
  x.1.2.2.2.2.2.2.1)) (Wr (Bool.true = Bool.true) ∧ Wr ((!x.1.2.2.2.2.2.2.1) = Bool.true → Bool.true = Bool.true) ∧ ((x.1.1, x.1.2.1, x.1.2.2.1, nilL Int, partF (endF
  x.1.2.2.2.2.1) (↑(List.length x.1.2.2.2.1) : Int), noteS x.1.2.2.2.2.2.1, x.1.2.2.2.2.2.2), (x_1.2, nilL Int, !x.1.2.2.2.2.2.2.1 && startsF (partF
  (endF x.1.2.2.2.2.1) (↑(List.length x.1.2.2.2.1) : Int)), Bool.false || partC (endF x.1.2.2.2.2.1) (↑(List.length x.1.2.2.2.1) : Int), ()), ()) = (outB (toldD x.1 x.2.1
  x.2.2.1 x.2.2.2.2.1 x.2.2.2.2.2.1), outT (toldD x.1 x.2.1 x.2.2.1 x.2.2.2.2.1 x.2.2.2.2.2.1), ()))) (Wr ((!x.1.2.2.2.2.2.2.1) = Bool.true →
  Bool.true = Bool.true) ∧ ((x.1.1, x.1.2.1, x.1.2.2.1, x.1.2.2.2.1, endF x.1.2.2.2.2.1, noteS x.1.2.2.2.2.2.1, x.1.2.2.2.2.2.2), (nilL (Int × Int × Int
  × Unit), nilL Int, !x.1.2.2.2.2.2.2.1 && startsF (endF x.1.2.2.2.2.1), Bool.false, ()), ()) = (outB (toldD x.1 x.2.1 x.2.2.1 x.2.2.2.2.1 x.2.2.2.2.2.1), outT
  (toldD x.1 x.2.1 x.2.2.1 x.2.2.2.2.1 x.2.2.2.2.2.1), ()))))) (Wr (List.length (x.2.1 :: nilL Int) * (8 : Nat) ≤ (140737488355328 : Nat)) ∧ Wr ((!x.1.2.2.2.2.2.2.1) =
  Bool.true → Bool.true = Bool.true) ∧ ((x.1.1, x.1.2.1, x.1.2.2.1, x.1.2.2.2.1, endF x.1.2.2.2.2.1, noteS x.1.2.2.2.2.2.1, x.1.2.2.2.2.2.2), (nilL (Int
  × Int × Int × Unit), x.2.1 :: nilL Int, !x.1.2.2.2.2.2.2.1 && startsF (endF x.1.2.2.2.2.1), Bool.false, ()), ()) = (outB (toldD x.1 x.2.1 x.2.2.1 x.2.2.2.2.1
  x.2.2.2.2.2.1), outT (toldD x.1 x.2.1 x.2.2.1 x.2.2.2.2.1 x.2.2.2.2.2.1), ()))) (bcase (Decidable.decide (x.2.2.1 = (0 : Int))) (bcase (Decidable.decide
  ((↑(List.length x.1.2.2.2.1) : Int) > (0 : Int))) (Wr ((0 : Int) ≤ (0 : Int)) ∧ Wr ((0 : Int) < (↑(List.length x.1.2.2.2.1) : Int)) ∧ Wr (Bool.true = Bool.true) ∧ Wr ((0 : Int) ≤ (1 : Int)) ∧ Wr ((1
  : Int) ≤ (↑(List.length x.1.2.2.2.1) : Int)) ∧ Wr ((↑(List.length x.1.2.2.2.1) : Int) ≤ (↑(List.length x.1.2.2.2.1) : Int)) ∧ Wr (Decidable.decide (List.length (List.drop (Int.toNat (1 :
  Int)) (List.take (Int.toNat (↑(List.length x.1.2.2.2.1) : Int)) x.1.2.2.2.1)) * (8 : Nat) ≤ (140737488355328 : Nat)) = Bool.true) ∧ Wr True ∧ Wr ((List.length x.1.2.2.1 + List.length
  (x.2.1 :: nilL Int)) * (8 : Nat) ≤ (140737488355328 : Nat)) ∧ Wr ((0 : Nat) < List.length (x.2.1 :: nilL Int)) ∧ Wr (List.length ((List.getD x.1.2.2.2.1 (Int.toNat (0 : Int)) (0 : Int), x.2.1, (0 :
  Int), ()) :: nilL (Int × Int × Int × Unit)) * (24 : Nat) ≤ (140737488355328 : Nat)) ∧ Wr (Bool.true = Bool.true) ∧ Wr ((!x.1.2.2.2.2.2.2.1) = Bool.true → Bool.true = Bool.true) ∧ ((x.1.1,
  x.1.2.1, x.1.2.2.1 ++ x.2.1 :: nilL Int, List.drop (Int.toNat (1 : Int)) (List.take (Int.toNat (↑(List.length x.1.2.2.2.1) : Int)) x.1.2.2.2.1), partF (endF
  x.1.2.2.2.2.1) (1 : Int), noteS x.1.2.2.2.2.2.1, x.1.2.2.2.2.2.2), ((List.getD x.1.2.2.2.1 (Int.toNat (0 : Int)) (0 : Int), x.2.1, (0 : Int), ()) :: nilL (Int × Int
  × Int × Unit), nilL Int, !x.1.2.2.2.2.2.2.1 && startsF (partF (endF x.1.2.2.2.2.1) (1 : Int)), Bool.false || partC (endF x.1.2.2.2.2.1) (1 : Int), ()), ()) = (outB (toldD x.1
  x.2.1 x.2.2.1 x.2.2.2.2.1 x.2.2.2.2.2.1), outT (toldD x.1 x.2.1 x.2.2.1 x.2.2.2.2.1 x.2.2.2.2.2.1), ())) (bcase (Decidable.decide ((↑(List.length
  x.1.2.1) : Int) < x.1.1.2.1)) (Wr True ∧ Wr ((List.length x.1.2.1 + List.length ((x.2.1, x.2.2.2.2.1, ()) :: nilL (Int × Int × Unit))) * (16 : Nat) ≤ (140737488355328 : Nat)) ∧ Wr ((0 :
  Nat) < List.length ((x.2.1, x.2.2.2.2.1, ()) :: nilL (Int × Int × Unit))) ∧ Wr ((!x.1.2.2.2.2.2.2.1) = Bool.true → Bool.true = Bool.true) ∧ ((x.1.1, x.1.2.1 ++ (x.2.1,
  x.2.2.2.2.1, ()) :: nilL (Int × Int × Unit), x.1.2.2.1, x.1.2.2.2.1, endF x.1.2.2.2.2.1, noteS x.1.2.2.2.2.2.1, x.1.2.2.2.2.2.2), (nilL (Int × Int ×
  Int × Unit), nilL Int, !x.1.2.2.2.2.2.2.1 && startsF (endF x.1.2.2.2.2.1), Bool.false, ()), ()) = (outB (toldD x.1 x.2.1 x.2.2.1 x.2.2.2.2.1 x.2.2.2.2.2.1),
  outT (toldD x.1 x.2.1 x.2.2.1 x.2.2.2.2.1 x.2.2.2.2.2.1), ())) (Wr (List.length (x.2.1 :: nilL Int) * (8 : Nat) ≤ (140737488355328 : Nat)) ∧ Wr ((!x.1.2.2.2.2.2.2.1)
  = Bool.true → Bool.true = Bool.true) ∧ ((x.1.1, x.1.2.1, x.1.2.2.1, x.1.2.2.2.1, endF x.1.2.2.2.2.1, noteS x.1.2.2.2.2.2.1, x.1.2.2.2.2.2.2), (nilL
  (Int × Int × Int × Unit), x.2.1 :: nilL Int, !x.1.2.2.2.2.2.2.1 && startsF (endF x.1.2.2.2.2.1), Bool.false, ()), ()) = (outB (toldD x.1 x.2.1 x.2.2.1 x.2.2.2.2.1
  x.2.2.2.2.2.1), outT (toldD x.1 x.2.1 x.2.2.1 x.2.2.2.2.1 x.2.2.2.2.2.1), ())))) (bcase (!Decidable.decide (x.2.2.1 = (191 : Int))) ((Wr (AlI x.1.2.2.2.1
  x.2.2.1 (0 : Int) (nilL (Int × Int × Int × Unit))) ∧ Wr ((0 : Int) = (0 : Int)) ∧ Wr (x.2.2.1 = x.2.2.1) ∧ Wr (x.1.2.2.2.1 = x.1.2.2.2.1) ∧ Wr ((↑(List.length x.1.2.2.2.1)
  : Int) = (↑(List.length x.1.2.2.2.1) : Int)) ∧ Wr (x.1.1.1 = x.1.1.1) ∧ Wr (x.1.1.2.1 = x.1.1.2.1) ∧ Wr (x.1.1.2.2.1 = x.1.1.2.2.1) ∧ Wr
  (x.1.1.2.2.2.1 = x.1.1.2.2.2.1) ∧ Wr (x.1.1.2.2.2.2.1 = x.1.1.2.2.2.2.1) ∧ Wr (x.1.1.2.2.2.2.2.1 = x.1.1.2.2.2.2.2.1) ∧ Wr
  (x.1.1.2.2.2.2.2.2.1 = x.1.1.2.2.2.2.2.2.1) ∧ Wr (x.1.1.2.2.2.2.2.2.2.1 = x.1.1.2.2.2.2.2.2.2.1) ∧ Wr
  (x.1.1.2.2.2.2.2.2.2.2.1 = x.1.1.2.2.2.2.2.2.2.2.1) ∧ Wr (x.1.2.1 = x.1.2.1) ∧ Wr (x.1.2.2.1 = x.1.2.2.1) ∧ Wr (x.1.2.2.2.1 =
  x.1.2.2.2.1) ∧ Wr ((endF x.1.2.2.2.2.1).1 = (endF x.1.2.2.2.2.1).1) ∧ Wr ((endF x.1.2.2.2.2.1).2.1 = (endF x.1.2.2.2.2.1).2.1) ∧ Wr ((endF
  x.1.2.2.2.2.1).2.2.1 = (endF x.1.2.2.2.2.1).2.2.1) ∧ Wr (noteS x.1.2.2.2.2.2.1 = noteS x.1.2.2.2.2.2.1) ∧ Wr (x.1.2.2.2.2.2.2.1 =
  x.1.2.2.2.2.2.2.1) ∧ Wr (Bool.false = Bool.false) ∧ Wr (Bool.false = Bool.false) ∧ Wr (x.2.2.2.2.1 = x.2.2.2.2.1) ∧ Wr (x.2.2.2.2.2.1 = x.2.2.2.2.2.1) ∧ Wr
  (nilL (Int × Int × Int × Unit) = nilL (Int × Int × Int × Unit)) ∧ Wr (x.1.1.1 = x.1.1.1) ∧ Wr (x.1.1.2.1 = x.1.1.2.1) ∧ Wr (x.1.1.2.2.1 = x.1.1.2.2.1) ∧ Wr
  (x.1.1.2.2.2.1 = x.1.1.2.2.2.1) ∧ Wr (x.1.1.2.2.2.2.1 = x.1.1.2.2.2.2.1) ∧ Wr (x.1.1.2.2.2.2.2.1 = x.1.1.2.2.2.2.2.1) ∧ Wr
  (x.1.1.2.2.2.2.2.2.1 = x.1.1.2.2.2.2.2.2.1) ∧ Wr (x.1.1.2.2.2.2.2.2.2.1 = x.1.1.2.2.2.2.2.2.2.1) ∧ Wr
  (x.1.1.2.2.2.2.2.2.2.2.1 = x.1.1.2.2.2.2.2.2.2.2.1) ∧ Wr (x.1.2.1 = x.1.2.1) ∧ Wr (x.1.2.2.1 = x.1.2.2.1) ∧ Wr (x.1.2.2.2.1 =
  x.1.2.2.2.1) ∧ Wr (x.1.2.2.2.2.1.1 = x.1.2.2.2.2.1.1) ∧ Wr (x.1.2.2.2.2.1.2.1 = x.1.2.2.2.2.1.2.1) ∧ Wr (x.1.2.2.2.2.1.2.2.1 =
  x.1.2.2.2.2.1.2.2.1) ∧ Wr (x.1.2.2.2.2.2.1 = x.1.2.2.2.2.2.1) ∧ Wr (x.1.2.2.2.2.2.2.1 = x.1.2.2.2.2.2.2.1) ∧ Wr (Bool.false = Bool.false) ∧
  Wr (Bool.false = Bool.false) ∧ Wr ((0 : Int) = (0 : Int)) ∧ Wr ((0 : Int) = (0 : Int)) ∧ Wr ((0 : Int) = (0 : Int)) ∧ Wr ((0 : Int) = (0 : Int)) ∧ Wr ((0 : Int) = (0 : Int)) ∧ Wr ((0 : Int) = (0 : Int)) ∧ Wr ((0 : Int)
  = (0 : Int)) ∧ Wr ((0 : Int) = (0 : Int)) ∧ Wr ((0 : Int) = (0 : Int)) ∧ Wr ((0 : Int) = (0 : Int)) ∧ Wr (Bool.false = Bool.false) ∧ Wr ((0 : Int) = (0 : Int)) ∧ Wr (Bool.false = Bool.false) ∧ Wr (x.1.1.1 =
  x.1.1.1) ∧ Wr (x.1.1.2.1 = x.1.1.2.1) ∧ Wr (x.1.1.2.2.1 = x.1.1.2.2.1) ∧ Wr (x.1.1.2.2.2.1 = x.1.1.2.2.2.1) ∧ Wr (x.1.1.2.2.2.2.1 =
  x.1.1.2.2.2.2.1) ∧ Wr (x.1.1.2.2.2.2.2.1 = x.1.1.2.2.2.2.2.1) ∧ Wr (x.1.1.2.2.2.2.2.2.1 = x.1.1.2.2.2.2.2.2.1) ∧ Wr
  (x.1.1.2.2.2.2.2.2.2.1 = x.1.1.2.2.2.2.2.2.2.1) ∧ Wr (x.1.1.2.2.2.2.2.2.2.2.1 = x.1.1.2.2.2.2.2.2.2.2.1) ∧ Wr (x.1.2.1 =
  x.1.2.1) ∧ Wr (x.1.2.2.1 = x.1.2.2.1) ∧ Wr (x.1.2.2.2.1 = x.1.2.2.2.1) ∧ Wr (x.1.2.2.2.2.1.1 = x.1.2.2.2.2.1.1) ∧ Wr
  (x.1.2.2.2.2.1.2.1 = x.1.2.2.2.2.1.2.1) ∧ Wr (x.1.2.2.2.2.1.2.2.1 = x.1.2.2.2.2.1.2.2.1) ∧ Wr (x.1.2.2.2.2.2.1 =
  x.1.2.2.2.2.2.1) ∧ Wr (x.1.2.2.2.2.2.2.1 = x.1.2.2.2.2.2.2.1)) ∧ ∀ (x_1 : Int × List (Int × Int × Int × Unit)), Wr (AlI x.1.2.2.2.1 x.2.2.1 x_1.1 x_1.2)
  → bcase (Decidable.decide (x_1.1 < (↑(List.length x.1.2.2.2.1) : Int))) (Wr ((0 : Int) ≤ x_1.1) ∧ Wr (x_1.1 < (↑(List.length x.1.2.2.2.1) : Int)) ∧ Wr (Bool.true = Bool.true) ∧ Wr ((List.length
  x_1.2 + List.length ((List.getD x.1.2.2.2.1 (Int.toNat x_1.1) (0 : Int), (-1 : Int), x.2.2.1, ()) :: nilL (Int × Int × Int × Unit))) * (24 : Nat) ≤ (140737488355328 : Nat)) ∧ Wr (AlI
  x.1.2.2.2.1 x.2.2.1 (IntKind.wrap IntKind.i64 (x_1.1 + (1 : Int))) (x_1.2 ++ (List.getD x.1.2.2.2.1 (Int.toNat x_1.1) (0 : Int), (-1 : Int), x.2.2.1, ()) :: nilL (Int × Int × Int ×
  Unit))) ∧ Wr (List.length x.1.2.2.2.1 - Int.toNat (IntKind.wrap IntKind.i64 (x_1.1 + (1 : Int))) < List.length x.1.2.2.2.1 - Int.toNat x_1.1) ∧ Wr (IntKind.wrap IntKind.i64 (x_1.1 + (1 : Int))
  = IntKind.wrap IntKind.i64 (x_1.1 + (1 : Int))) ∧ Wr (x.2.2.1 = x.2.2.1) ∧ Wr (x.1.2.2.2.1 = x.1.2.2.2.1) ∧ Wr ((↑(List.length x.1.2.2.2.1) : Int) = (↑(List.length
  x.1.2.2.2.1) : Int)) ∧ Wr (x.1.1.1 = x.1.1.1) ∧ Wr (x.1.1.2.1 = x.1.1.2.1) ∧ Wr (x.1.1.2.2.1 = x.1.1.2.2.1) ∧ Wr (x.1.1.2.2.2.1 =
  x.1.1.2.2.2.1) ∧ Wr (x.1.1.2.2.2.2.1 = x.1.1.2.2.2.2.1) ∧ Wr (x.1.1.2.2.2.2.2.1 = x.1.1.2.2.2.2.2.1) ∧ Wr (x.1.1.2.2.2.2.2.2.1 =
  x.1.1.2.2.2.2.2.2.1) ∧ Wr (x.1.1.2.2.2.2.2.2.2.1 = x.1.1.2.2.2.2.2.2.2.1) ∧ Wr (x.1.1.2.2.2.2.2.2.2.2.1 =
  x.1.1.2.2.2.2.2.2.2.2.1) ∧ Wr (x.1.2.1 = x.1.2.1) ∧ Wr (x.1.2.2.1 = x.1.2.2.1) ∧ Wr (x.1.2.2.2.1 = x.1.2.2.2.1) ∧ Wr ((endF
  x.1.2.2.2.2.1).1 = (endF x.1.2.2.2.2.1).1) ∧ Wr ((endF x.1.2.2.2.2.1).2.1 = (endF x.1.2.2.2.2.1).2.1) ∧ Wr ((endF x.1.2.2.2.2.1).2.2.1 =
  (endF x.1.2.2.2.2.1).2.2.1) ∧ Wr (noteS x.1.2.2.2.2.2.1 = noteS x.1.2.2.2.2.2.1) ∧ Wr (x.1.2.2.2.2.2.2.1 = x.1.2.2.2.2.2.2.1) ∧ Wr
  (Bool.false = Bool.false) ∧ Wr (Bool.false = Bool.false) ∧ Wr (x.2.2.2.2.1 = x.2.2.2.2.1) ∧ Wr (x.2.2.2.2.2.1 = x.2.2.2.2.2.1) ∧ Wr (x_1.2 ++ (List.getD
  x.1.2.2.2.1 (Int.toNat x_1.1) (0 : Int), (-1 : Int), x.2.2.1, ()) :: nilL (Int × Int × Int × Unit) = x_1.2 ++ (List.getD x.1.2.2.2.1 (Int.toNat x_1.1) (0 : Int), (-1 : Int),
  x.2.2.1, ()) :: nilL (Int × Int × Int × Unit)) ∧ Wr (x.1.1.1 = x.1.1.1) ∧ Wr (x.1.1.2.1 = x.1.1.2.1) ∧ Wr (x.1.1.2.2.1 = x.1.1.2.2.1) ∧ Wr (x.1.1.2.2.2.1
  = x.1.1.2.2.2.1) ∧ Wr (x.1.1.2.2.2.2.1 = x.1.1.2.2.2.2.1) ∧ Wr (x.1.1.2.2.2.2.2.1 = x.1.1.2.2.2.2.2.1) ∧ Wr (x.1.1.2.2.2.2.2.2.1
  = x.1.1.2.2.2.2.2.2.1) ∧ Wr (x.1.1.2.2.2.2.2.2.2.1 = x.1.1.2.2.2.2.2.2.2.1) ∧ Wr (x.1.1.2.2.2.2.2.2.2.2.1 =
  x.1.1.2.2.2.2.2.2.2.2.1) ∧ Wr (x.1.2.1 = x.1.2.1) ∧ Wr (x.1.2.2.1 = x.1.2.2.1) ∧ Wr (x.1.2.2.2.1 = x.1.2.2.2.1) ∧ Wr (x.1.2.2.2.2.1.1 =
  x.1.2.2.2.2.1.1) ∧ Wr (x.1.2.2.2.2.1.2.1 = x.1.2.2.2.2.1.2.1) ∧ Wr (x.1.2.2.2.2.1.2.2.1 = x.1.2.2.2.2.1.2.2.1) ∧ Wr
  (x.1.2.2.2.2.2.1 = x.1.2.2.2.2.2.1) ∧ Wr (x.1.2.2.2.2.2.2.1 = x.1.2.2.2.2.2.2.1) ∧ Wr (Bool.false = Bool.false) ∧ Wr (Bool.false = Bool.false) ∧ Wr ((0 : Int)
  = (0 : Int)) ∧ Wr ((0 : Int) = (0 : Int)) ∧ Wr ((0 : Int) = (0 : Int)) ∧ Wr ((0 : Int) = (0 : Int)) ∧ Wr ((0 : Int) = (0 : Int)) ∧ Wr ((0 : Int) = (0 : Int)) ∧ Wr ((0 : Int) = (0 : Int)) ∧ Wr ((0 : Int) = (0 : Int)) ∧
  Wr ((0 : Int) = (0 : Int)) ∧ Wr ((0 : Int) = (0 : Int)) ∧ Wr (Bool.false = Bool.false) ∧ Wr ((0 : Int) = (0 : Int)) ∧ Wr (Bool.false = Bool.false) ∧ Wr (x.1.1.1 = x.1.1.1) ∧ Wr (x.1.1.2.1 =
  x.1.1.2.1) ∧ Wr (x.1.1.2.2.1 = x.1.1.2.2.1) ∧ Wr (x.1.1.2.2.2.1 = x.1.1.2.2.2.1) ∧ Wr (x.1.1.2.2.2.2.1 = x.1.1.2.2.2.2.1) ∧ Wr
  (x.1.1.2.2.2.2.2.1 = x.1.1.2.2.2.2.2.1) ∧ Wr (x.1.1.2.2.2.2.2.2.1 = x.1.1.2.2.2.2.2.2.1) ∧ Wr (x.1.1.2.2.2.2.2.2.2.1 =
  x.1.1.2.2.2.2.2.2.2.1) ∧ Wr (x.1.1.2.2.2.2.2.2.2.2.1 = x.1.1.2.2.2.2.2.2.2.2.1) ∧ Wr (x.1.2.1 = x.1.2.1) ∧ Wr (x.1.2.2.1 =
  x.1.2.2.1) ∧ Wr (x.1.2.2.2.1 = x.1.2.2.2.1) ∧ Wr (x.1.2.2.2.2.1.1 = x.1.2.2.2.2.1.1) ∧ Wr (x.1.2.2.2.2.1.2.1 = x.1.2.2.2.2.1.2.1) ∧
  Wr (x.1.2.2.2.2.1.2.2.1 = x.1.2.2.2.2.1.2.2.1) ∧ Wr (x.1.2.2.2.2.2.1 = x.1.2.2.2.2.2.1) ∧ Wr (x.1.2.2.2.2.2.2.1 =
  x.1.2.2.2.2.2.2.1)) (Wr (Bool.true = Bool.true) ∧ Wr ((!x.1.2.2.2.2.2.2.1) = Bool.true → Bool.true = Bool.true) ∧ ((x.1.1, x.1.2.1, x.1.2.2.1, nilL Int, partF (endF
  x.1.2.2.2.2.1) (↑(List.length x.1.2.2.2.1) : Int), noteS x.1.2.2.2.2.2.1, x.1.2.2.2.2.2.2), (x_1.2, nilL Int, !x.1.2.2.2.2.2.2.1 && startsF (partF
  (endF x.1.2.2.2.2.1) (↑(List.length x.1.2.2.2.1) : Int)), Bool.false || partC (endF x.1.2.2.2.2.1) (↑(List.length x.1.2.2.2.1) : Int), ()), ()) = (outB (toldD x.1 x.2.1
  x.2.2.1 x.2.2.2.2.1 x.2.2.2.2.2.1), outT (toldD x.1 x.2.1 x.2.2.1 x.2.2.2.2.1 x.2.2.2.2.2.1), ()))) (Wr ((!x.1.2.2.2.2.2.2.1) = Bool.true →
  Bool.true = Bool.true) ∧ ((x.1.1, x.1.2.1, x.1.2.2.1, x.1.2.2.2.1, endF x.1.2.2.2.2.1, noteS x.1.2.2.2.2.2.1, x.1.2.2.2.2.2.2), (nilL (Int × Int × Int
  × Unit), nilL Int, !x.1.2.2.2.2.2.2.1 && startsF (endF x.1.2.2.2.2.1), Bool.false, ()), ()) = (outB (toldD x.1 x.2.1 x.2.2.1 x.2.2.2.2.1 x.2.2.2.2.2.1), outT
  (toldD x.1 x.2.1 x.2.2.1 x.2.2.2.2.1 x.2.2.2.2.2.1), ()))))) := by kernel_rfl
theorem v58_eq : vcFn g58 300 Tryz.f58 cClose = ( ∀ (x : ((Int × Int × Int × Int × Int × Int × Int × Int × Int × Unit) × List (Int × Int × Unit) × List Int × List Int × (Int × Bool × Int × Unit) × List ((Int × (Int × Int × Int × Int × Int × Int × Int × Int × Unit) × Int
  × Unit) × Int × Unit) × Bool × Unit) × Int × Unit), Wr (szB x.1 = Bool.true) → bcase x.1.2.2.2.2.2.2.1 (Wr (List.length ((x.2.1, (-1 : Int), (240 : Int), ()) :: nilL (Int × Int × Int × Unit)) * (24
  : Nat) ≤ (140737488355328 : Nat)) ∧ Wr ((!x.1.2.2.2.2.2.2.1) = Bool.true → Bool.true = Bool.true) ∧ (x.1, ((x.2.1, (-1 : Int), (240 : Int), ()) :: nilL (Int × Int × Int × Unit), nilL Int,
  !x.1.2.2.2.2.2.2.1 && startsF x.1.2.2.2.2.1, Bool.false, ()), ()) = (outB (closeD x.1 x.2.1), outT (closeD x.1 x.2.1), ())) ((Wr (AlI x.1.2.2.2.1 (240 : Int) (0 : Int)
  (nilL (Int × Int × Int × Unit))) ∧ Wr ((0 : Int) = (0 : Int)) ∧ Wr ((240 : Int) = (240 : Int)) ∧ Wr (x.1.2.2.2.1 = x.1.2.2.2.1) ∧ Wr ((↑(List.length x.1.2.2.2.1) : Int) = (↑(List.length
  x.1.2.2.2.1) : Int)) ∧ Wr (x.1.1.1 = x.1.1.1) ∧ Wr (x.1.1.2.1 = x.1.1.2.1) ∧ Wr (x.1.1.2.2.1 = x.1.1.2.2.1) ∧ Wr (x.1.1.2.2.2.1 =
  x.1.1.2.2.2.1) ∧ Wr (x.1.1.2.2.2.2.1 = x.1.1.2.2.2.2.1) ∧ Wr (x.1.1.2.2.2.2.2.1 = x.1.1.2.2.2.2.2.1) ∧ Wr (x.1.1.2.2.2.2.2.2.1 =
  x.1.1.2.2.2.2.2.2.1) ∧ Wr (x.1.1.2.2.2.2.2.2.2.1 = x.1.1.2.2.2.2.2.2.2.1) ∧ Wr (x.1.1.2.2.2.2.2.2.2.2.1 =
  x.1.1.2.2.2.2.2.2.2.2.1) ∧ Wr (x.1.2.1 = x.1.2.1) ∧ Wr (x.1.2.2.1 = x.1.2.2.1) ∧ Wr (x.1.2.2.2.1 = x.1.2.2.2.1) ∧ Wr (x.1.2.2.2.2.1.1 =
  x.1.2.2.2.2.1.1) ∧ Wr (x.1.2.2.2.2.1.2.1 = x.1.2.2.2.2.1.2.1) ∧ Wr (x.1.2.2.2.2.1.2.2.1 = x.1.2.2.2.2.1.2.2.1) ∧ Wr
  (x.1.2.2.2.2.2.1 = x.1.2.2.2.2.2.1) ∧ Wr (x.1.2.2.2.2.2.2.1 = x.1.2.2.2.2.2.2.1) ∧ Wr (Bool.false = Bool.false) ∧ Wr (Bool.false = Bool.false) ∧ Wr ((0 : Int)
  = (0 : Int)) ∧ Wr (nilL (Int × Int × Int × Unit) = nilL (Int × Int × Int × Unit)) ∧ Wr (x.1.1.1 = x.1.1.1) ∧ Wr (x.1.1.2.1 = x.1.1.2.1) ∧ Wr (x.1.1.2.2.1 = x.1.1.2.2.1) ∧
  Wr (x.1.1.2.2.2.1 = x.1.1.2.2.2.1) ∧ Wr (x.1.1.2.2.2.2.1 = x.1.1.2.2.2.2.1) ∧ Wr (x.1.1.2.2.2.2.2.1 = x.1.1.2.2.2.2.2.1) ∧ Wr
  (x.1.1.2.2.2.2.2.2.1 = x.1.1.2.2.2.2.2.2.1) ∧ Wr (x.1.1.2.2.2.2.2.2.2.1 = x.1.1.2.2.2.2.2.2.2.1) ∧ Wr
  (x.1.1.2.2.2.2.2.2.2.2.1 = x.1.1.2.2.2.2.2.2.2.2.1) ∧ Wr (x.1.2.1 = x.1.2.1) ∧ Wr (x.1.2.2.1 = x.1.2.2.1) ∧ Wr (x.1.2.2.2.1 =
  x.1.2.2.2.1) ∧ Wr (x.1.2.2.2.2.1.1 = x.1.2.2.2.2.1.1) ∧ Wr (x.1.2.2.2.2.1.2.1 = x.1.2.2.2.2.1.2.1) ∧ Wr (x.1.2.2.2.2.1.2.2.1 =
  x.1.2.2.2.2.1.2.2.1) ∧ Wr (x.1.2.2.2.2.2.1 = x.1.2.2.2.2.2.1) ∧ Wr (x.1.2.2.2.2.2.2.1 = x.1.2.2.2.2.2.2.1) ∧ Wr (Bool.false = Bool.false) ∧
  Wr (Bool.false = Bool.false) ∧ Wr ((0 : Int) = (0 : Int)) ∧ Wr ((0 : Int) = (0 : Int)) ∧ Wr ((0 : Int) = (0 : Int)) ∧ Wr ((0 : Int) = (0 : Int)) ∧ Wr ((0 : Int) = (0 : Int)) ∧ Wr ((0 : Int) = (0 : Int)) ∧ Wr ((0 : Int)
  = (0 : Int)) ∧ Wr ((0 : Int) = (0 : Int)) ∧ Wr ((0 : Int) = (0 : Int)) ∧ Wr ((0 : Int) = (0 : Int)) ∧ Wr (Bool.false = Bool.false) ∧ Wr ((0 : Int) = (0 : Int)) ∧ Wr (Bool.false = Bool.false) ∧ Wr (x.1.1.1 =
  x.1.1.1) ∧ Wr (x.1.1.2.1 = x.1.1.2.1) ∧ Wr (x.1.1.2.2.1 = x.1.1.2.2.1) ∧ Wr (x.1.1.2.2.2.1 = x.1.1.2.2.2.1) ∧ Wr (x.1.1.2.2.2.2.1 =
  x.1.1.2.2.2.2.1) ∧ Wr (x.1.1.2.2.2.2.2.1 = x.1.1.2.2.2.2.2.1) ∧ Wr (x.1.1.2.2.2.2.2.2.1 = x.1.1.2.2.2.2.2.2.1) ∧ Wr
  (x.1.1.2.2.2.2.2.2.2.1 = x.1.1.2.2.2.2.2.2.2.1) ∧ Wr (x.1.1.2.2.2.2.2.2.2.2.1 = x.1.1.2.2.2.2.2.2.2.2.1) ∧ Wr (x.1.2.1 =
  x.1.2.1) ∧ Wr (x.1.2.2.1 = x.1.2.2.1) ∧ Wr (x.1.2.2.2.1 = x.1.2.2.2.1) ∧ Wr (x.1.2.2.2.2.1.1 = x.1.2.2.2.2.1.1) ∧ Wr
  (x.1.2.2.2.2.1.2.1 = x.1.2.2.2.2.1.2.1) ∧ Wr (x.1.2.2.2.2.1.2.2.1 = x.1.2.2.2.2.1.2.2.1) ∧ Wr (x.1.2.2.2.2.2.1 =
  x.1.2.2.2.2.2.1) ∧ Wr (x.1.2.2.2.2.2.2.1 = x.1.2.2.2.2.2.2.1)) ∧ ∀ (x_1 : Int × List (Int × Int × Int × Unit)), Wr (AlI x.1.2.2.2.1 (240 : Int) x_1.1 x_1.2) →
  bcase (Decidable.decide (x_1.1 < (↑(List.length x.1.2.2.2.1) : Int))) (Wr ((0 : Int) ≤ x_1.1) ∧ Wr (x_1.1 < (↑(List.length x.1.2.2.2.1) : Int)) ∧ Wr (Bool.true = Bool.true) ∧ Wr ((List.length
  x_1.2 + List.length ((List.getD x.1.2.2.2.1 (Int.toNat x_1.1) (0 : Int), (-1 : Int), (240 : Int), ()) :: nilL (Int × Int × Int × Unit))) * (24 : Nat) ≤ (140737488355328 : Nat)) ∧ Wr (AlI
  x.1.2.2.2.1 (240 : Int) (IntKind.wrap IntKind.i64 (x_1.1 + (1 : Int))) (x_1.2 ++ (List.getD x.1.2.2.2.1 (Int.toNat x_1.1) (0 : Int), (-1 : Int), (240 : Int), ()) :: nilL (Int × Int × Int ×
  Unit))) ∧ Wr (List.length x.1.2.2.2.1 - Int.toNat (IntKind.wrap IntKind.i64 (x_1.1 + (1 : Int))) < List.length x.1.2.2.2.1 - Int.toNat x_1.1) ∧ Wr (IntKind.wrap IntKind.i64 (x_1.1 + (1 : Int))
  = IntKind.wrap IntKind.i64 (x_1.1 + (1 : Int))) ∧ Wr ((240 : Int) = (240 : Int)) ∧ Wr (x.1.2.2.2.1 = x.1.2.2.2.1) ∧ Wr ((↑(List.length x.1.2.2.2.1) : Int) = (↑(List.length
  x.1.2.2.2.1) : Int)) ∧ Wr (x.1.1.1 = x.1.1.1) ∧ Wr (x.1.1.2.1 = x.1.1.2.1) ∧ Wr (x.1.1.2.2.1 = x.1.1.2.2.1) ∧ Wr (x.1.1.2.2.2.1 =
  x.1.1.2.2.2.1) ∧ Wr (x.1.1.2.2.2.2.1 = x.1.1.2.2.2.2.1) ∧ Wr (x.1.1.2.2.2.2.2.1 = x.1.1.2.2.2.2.2.1) ∧ Wr (x.1.1.2.2.2.2.2.2.1 =
  x.1.1.2.2.2.2.2.2.1) ∧ Wr (x.1.1.2.2.2.2.2.2.2.1 = x.1.1.2.2.2.2.2.2.2.1) ∧ Wr (x.1.1.2.2.2.2.2.2.2.2.1 =
  x.1.1.2.2.2.2.2.2.2.2.1) ∧ Wr (x.1.2.1 = x.1.2.1) ∧ Wr (x.1.2.2.1 = x.1.2.2.1) ∧ Wr (x.1.2.2.2.1 = x.1.2.2.2.1) ∧ Wr (x.1.2.2.2.2.1.1 =
  x.1.2.2.2.2.1.1) ∧ Wr (x.1.2.2.2.2.1.2.1 = x.1.2.2.2.2.1.2.1) ∧ Wr (x.1.2.2.2.2.1.2.2.1 = x.1.2.2.2.2.1.2.2.1) ∧ Wr
  (x.1.2.2.2.2.2.1 = x.1.2.2.2.2.2.1) ∧ Wr (x.1.2.2.2.2.2.2.1 = x.1.2.2.2.2.2.2.1) ∧ Wr (Bool.false = Bool.false) ∧ Wr (Bool.false = Bool.false) ∧ Wr ((0 : Int)
  = (0 : Int)) ∧ Wr (x_1.2 ++ (List.getD x.1.2.2.2.1 (Int.toNat x_1.1) (0 : Int), (-1 : Int), (240 : Int), ()) :: nilL (Int × Int × Int × Unit) = x_1.2 ++ (List.getD x.1.2.2.2.1 (Int.toNat
  x_1.1) (0 : Int), (-1 : Int), (240 : Int), ()) :: nilL (Int × Int × Int × Unit)) ∧ Wr (x.1.1.1 = x.1.1.1) ∧ Wr (x.1.1.2.1 = x.1.1.2.1) ∧ Wr (x.1.1.2.2.1 = x.1.1.2.2.1) ∧
  Wr (x.1.1.2.2.2.1 = x.1.1.2.2.2.1) ∧ Wr (x.1.1.2.2.2.2.1 = x.1.1.2.2.2.2.1) ∧ Wr (x.1.1.2.2.2.2.2.1 = x.1.1.2.2.2.2.2.1) ∧ Wr
  (x.1.1.2.2.2.2.2.2.1 = x.1.1.2.2.2.2.2.2.1) ∧ Wr (x.1.1.2.2.2.2.2.2.2.1 = x.1.1.2.2.2.2.2.2.2.1) ∧ Wr
  (x.1.1.2.2.2.2.2.2.2.2.1 = x.1.1.2.2.2.2.2.2.2.2.1) ∧ Wr (x.1.2.1 = x.1.2.1) ∧ Wr (x.1.2.2.1 = x.1.2.2.1) ∧ Wr (x.1.2.2.2.1 =
  x.1.2.2.2.1) ∧ Wr (x.1.2.2.2.2.1.1 = x.1.2.2.2.2.1.1) ∧ Wr (x.1.2.2.2.2.1.2.1 = x.1.2.2.2.2.1.2.1) ∧ Wr (x.1.2.2.2.2.1.2.2.1 =
  x.1.2.2.2.2.1.2.2.1) ∧ Wr (x.1.2.2.2.2.2.1 = x.1.2.2.2.2.2.1) ∧ Wr (x.1.2.2.2.2.2.2.1 = x.1.2.2.2.2.2.2.1) ∧ Wr (Bool.false = Bool.false) ∧
  Wr (Bool.false = Bool.false) ∧ Wr ((0 : Int) = (0 : Int)) ∧ Wr ((0 : Int) = (0 : Int)) ∧ Wr ((0 : Int) = (0 : Int)) ∧ Wr ((0 : Int) = (0 : Int)) ∧ Wr ((0 : Int) = (0 : Int)) ∧ Wr ((0 : Int) = (0 : Int)) ∧ Wr ((0 : Int)
  = (0 : Int)) ∧ Wr ((0 : Int) = (0 : Int)) ∧ Wr ((0 : Int) = (0 : Int)) ∧ Wr ((0 : Int) = (0 : Int)) ∧ Wr (Bool.false = Bool.false) ∧ Wr ((0 : Int) = (0 : Int)) ∧ Wr (Bool.false = Bool.false) ∧ Wr (x.1.1.1 =
  x.1.1.1) ∧ Wr (x.1.1.2.1 = x.1.1.2.1) ∧ Wr (x.1.1.2.2.1 = x.1.1.2.2.1) ∧ Wr (x.1.1.2.2.2.1 = x.1.1.2.2.2.1) ∧ Wr (x.1.1.2.2.2.2.1 =
  x.1.1.2.2.2.2.1) ∧ Wr (x.1.1.2.2.2.2.2.1 = x.1.1.2.2.2.2.2.1) ∧ Wr (x.1.1.2.2.2.2.2.2.1 = x.1.1.2.2.2.2.2.2.1) ∧ Wr
  (x.1.1.2.2.2.2.2.2.2.1 = x.1.1.2.2.2.2.2.2.2.1) ∧ Wr (x.1.1.2.2.2.2.2.2.2.2.1 = x.1.1.2.2.2.2.2.2.2.2.1) ∧ Wr (x.1.2.1 =
  x.1.2.1) ∧ Wr (x.1.2.2.1 = x.1.2.2.1) ∧ Wr (x.1.2.2.2.1 = x.1.2.2.2.1) ∧ Wr (x.1.2.2.2.2.1.1 = x.1.2.2.2.2.1.1) ∧ Wr
  (x.1.2.2.2.2.1.2.1 = x.1.2.2.2.2.1.2.1) ∧ Wr (x.1.2.2.2.2.1.2.2.1 = x.1.2.2.2.2.1.2.2.1) ∧ Wr (x.1.2.2.2.2.2.1 =
  x.1.2.2.2.2.2.1) ∧ Wr (x.1.2.2.2.2.2.2.1 = x.1.2.2.2.2.2.2.1)) (Wr (Bool.true = Bool.true) ∧ Wr (szB (x.1.1, x.1.2.1, x.1.2.2.1, nilL Int, partF
  x.1.2.2.2.2.1 (↑(List.length x.1.2.2.2.1) : Int), x.1.2.2.2.2.2) = Bool.true) ∧ Wr (List.length (ownsL (x.1.1, x.1.2.1, x.1.2.2.1, nilL Int, partF
  x.1.2.2.2.2.1 (↑(List.length x.1.2.2.2.1) : Int), x.1.2.2.2.2.2)) * (8 : Nat) ≤ (140737488355328 : Nat)) ∧ Wr ((List.length x_1.2 + List.length ((x.2.1, (-1 : Int), (0 : Int), ())
  :: nilL (Int × Int × Int × Unit))) * (24 : Nat) ≤ (140737488355328 : Nat)) ∧ Wr ((!Bool.true) = Bool.true → Bool.true = Bool.true) ∧ ((x.1.1, nilL (Int × Int × Unit), nilL Int, nilL Int, partF
  x.1.2.2.2.2.1 (↑(List.length x.1.2.2.2.1) : Int), x.1.2.2.2.2.2.1, Bool.true, ()), (x_1.2 ++ (x.2.1, (-1 : Int), (0 : Int), ()) :: nilL (Int × Int × Int × Unit), ownsL
  (x.1.1, x.1.2.1, x.1.2.2.1, nilL Int, partF x.1.2.2.2.2.1 (↑(List.length x.1.2.2.2.1) : Int), x.1.2.2.2.2.2), !Bool.true && startsF (partF x.1.2.2.2.2.1
  (↑(List.length x.1.2.2.2.1) : Int)), Bool.false || partC x.1.2.2.2.2.1 (↑(List.length x.1.2.2.2.1) : Int), ()), ()) = (outB (closeD x.1 x.2.1), outT (closeD x.1 x.2.1), ())))) := by kernel_rfl
end Go.Proofs.YtdkcgcgefgeooaaGreatDoor.Ow
set_option linter.all false
namespace Go.Proofs.YtdkcgcgefgeooaaGreatDoor.Ow
open Go Go.Eng Go.RowKit
set_option maxRecDepth 100000
set_option maxHeartbeats 16000000
theorem AlI.zero (l : List Int) (e : Int) : AlI l e 0 [] := ⟨by omega, by omega, rfl⟩
theorem AlI.succ {l : List Int} {e i : Int} {o : List Rp} (h : AlI l e i o) (hl : l.length ≤ 1000000) (hi : i < l.length) :
    AlI l e (IntKind.wrap .i64 (i + 1)) (o ++ [(l.getD i.toNat 0, -1, e, ())]) ∧ l.length - (IntKind.wrap .i64 (i + 1)).toNat < l.length - i.toNat := by
  have h0 := h.i0
  have ew : IntKind.wrap .i64 (i + 1) = i + 1 := wrap_id (by omega) (by omega)
  rw [ew]
  refine ⟨⟨by omega, by omega, ?_⟩, by omega⟩
  rw [take_succ l i 0 h0 hi, failL, List.map_append, h.a]
  rfl
theorem AlI.len {l : List Int} {e i : Int} {o : List Rp} (h : AlI l e i o) : o.length ≤ l.length := by rw [h.a, failL, List.length_map, List.length_take]; omega
theorem AlI.done {l : List Int} {e i : Int} {o : List Rp} (h : AlI l e i o) (hi : ¬ i < l.length) : o = failL l e := by
  rw [h.a, List.take_of_length_le (by have := h.i0; omega)]
theorem v49 : Vc g49 300 Tryz.f49 cTold := by
  constructor
  rw [v49_eq]
  simp only [Wr_iff, bcase_iff, true_and, and_true, decide_eq_true_eq, decide_eq_false_iff_not, Bool.and_eq_true, Bool.and_eq_false_iff, Bool.or_eq_true, Bool.or_eq_false_iff, Bool.not_eq_true', Bool.not_eq_false', Option.map_some, Option.getD_some, Option.isSome_some, Option.isSome_map, imp_self, nilL, noneO]
  rintro ⟨⟨cf, id, le, wa, fl, sc, cl, ⟨⟩⟩, sock, er, bad, now, dead, ⟨⟩⟩ hb
  dsimp only at *
  obtain ⟨⟨hs, hd⟩, hbad⟩ := hb
  rw [szB_iff] at hs
  dsimp only at hs
  simp only [szI, decide_eq_true_eq] at hd
  refine ⟨⟨by omega, hbad⟩, ?_⟩
  refine ⟨fun h0 => ⟨fun hc => ⟨fun hh => ⟨by simp, fun _ => trivial, ?_⟩, fun hh => ⟨fun _ => ⟨fun hw => ?_, fun hw => ⟨fun hcp => ⟨by simp; omega, by simp, fun _ => trivial, ?_⟩, fun hcp => ⟨by simp, fun _ => trivial, ?_⟩⟩⟩, fun hn => absurd h0 hn⟩⟩, fun hc => ⟨by simp, fun _ => trivial, ?_⟩⟩, fun h0 => ⟨fun hz => absurd hz h0, fun _ => ⟨fun h1 => ⟨AlI.zero _ _, fun ⟨k, o⟩ hu => ⟨fun hi => ⟨hu.i0, hi, ?_, hu.succ hs.2.2.1 hi⟩, fun hi => ⟨fun _ => trivial, ?_⟩⟩⟩, fun h1 => ⟨fun _ => trivial, ?_⟩⟩⟩⟩
  · subst h0; subst hc
    have hh2 : hasN dead sock = true := hh.resolve_left (by decide)
    have e : toldD (cf, id, le, wa, fl, sc, false, ()) sock 0 now dead = (mkB cf id le wa (endF fl) (noteS sc) false, [], [sock], false) := by unfold toldD; dsimp only; rw [hh2]; rfl
    rw [e]; rfl
  · subst h0; subst hc
    have hh2 : hasN dead sock = false := hh.resolve_left (by decide)
    have e : toldD (cf, id, le, wa, fl, sc, false, ()) sock 0 now dead = fileD (mkB cf id le wa (endF fl) (noteS sc) false) [] [] sock now := by unfold toldD; dsimp only; rw [hh2]; rfl
    rw [e]
    cases wa with
    | nil => exact absurd hw (by simp)
    | cons w ws =>
      simp only [List.length_cons] at hs hw ⊢
      refine ⟨by omega, by omega, by omega, by omega, by omega, by simp; omega, by simp; omega, by simp, by simp, fun _ => trivial, ?_⟩
      rw [fileW]
      simp [outB, outT, endsB, mkB]
  · subst h0; subst hc
    have hh2 : hasN dead sock = false := hh.resolve_left (by decide)
    have e : toldD (cf, id, le, wa, fl, sc, false, ()) sock 0 now dead = fileD (mkB cf id le wa (endF fl) (noteS sc) false) [] [] sock now := by unfold toldD; dsimp only; rw [hh2]; rfl
    rw [e]
    have hw0 : wa = [] := List.length_eq_zero_iff.1 (by omega)
    subst hw0
    rw [fileI hcp]; rfl
  · subst h0; subst hc
    have hh2 : hasN dead sock = false := hh.resolve_left (by decide)
    have e : toldD (cf, id, le, wa, fl, sc, false, ()) sock 0 now dead = fileD (mkB cf id le wa (endF fl) (noteS sc) false) [] [] sock now := by unfold toldD; dsimp only; rw [hh2]; rfl
    rw [e]
    have hw0 : wa = [] := List.length_eq_zero_iff.1 (by omega)
    subst hw0
    rw [fileS hcp]; rfl
  · subst h0; subst hc
    have e : toldD (cf, id, le, wa, fl, sc, true, ()) sock 0 now dead = (mkB cf id le wa (endF fl) (noteS sc) true, [], [sock], false) := by unfold toldD; dsimp only; rw [Bool.true_or]; rfl
    rw [e]; rfl
  · have := hu.len
    simp only [List.length_cons, List.length_nil]
    dsimp only at this ⊢
    omega
  · have ho := hu.done hi
    dsimp only at ho
    subst ho
    have e : toldD (cf, id, le, wa, fl, sc, cl, ()) sock er now dead = (mkB cf id le [] (partF (endF fl) (wa.length : Int)) (noteS sc) cl, failL wa er, [], partC (endF fl) (wa.length : Int)) := by
      unfold toldD; rw [decide_eq_false h0, decide_eq_true (show er ≠ 191 from h1), Bool.false_and]; rfl
    rw [e]; rfl
  · have e : toldD (cf, id, le, wa, fl, sc, cl, ()) sock er now dead = (mkB cf id le wa (endF fl) (noteS sc) cl, [], [], false) := by
      unfold toldD; rw [decide_eq_false h0, decide_eq_false (show ¬ er ≠ 191 from fun h => h h1), Bool.false_and]; rfl
    rw [e]; rfl
theorem v58 : Vc g58 300 Tryz.f58 cClose := by
  constructor
  rw [v58_eq]
  simp only [Wr_iff, bcase_iff, true_and, and_true, decide_eq_true_eq, decide_eq_false_iff_not, Bool.and_eq_true, Bool.and_eq_false_iff, Bool.or_eq_true, Bool.or_eq_false_iff, Bool.not_eq_true', Bool.not_eq_false', Option.map_some, Option.getD_some, Option.isSome_some, Option.isSome_map, imp_self, nilL, noneO]
  rintro ⟨⟨cf, id, le, wa, fl, sc, cl, ⟨⟩⟩, c, ⟨⟩⟩ hb
  dsimp only at *
  have hs := hb
  rw [szB_iff] at hs
  dsimp only at hs
  refine ⟨fun hc => ⟨by simp, fun _ => trivial, ?_⟩, fun hc => ⟨AlI.zero _ _, fun ⟨k, o⟩ hu => ⟨fun hi => ⟨hu.i0, hi, ?_, hu.succ hs.2.2.1 hi⟩, fun hi => ?_⟩⟩⟩
  · subst hc; rfl
  · have := hu.len
    simp only [List.length_cons, List.length_nil]
    dsimp only at this ⊢
    omega
  · subst hc
    have hl := hu.len
    have ho := hu.done hi
    dsimp only at ho hl ⊢
    have hpl : (partF fl (wa.length : Int)).2.2.1 ≤ 1152921504606846976 := by simp only [partF, partN]; omega
    refine ⟨(szB_iff _).2 ⟨hs.1, hs.2.1, by simp, hs.2.2.2.1, hpl⟩, ?_, ?_, ?_⟩
    · rw [owns_len]
      dsimp only
      omega
    · simp only [List.length_cons, List.length_nil]; omega
    · exact ⟨fun _ => trivial, by subst ho; rfl⟩
end Go.Proofs.YtdkcgcgefgeooaaGreatDoor.Ow
namespace Go.Proofs.YtdkcgcgefgeooaaGreatDoor.Ow
open Go Go.Eng 
set_option maxRecDepth 100000
theorem val49 : Valid Tryz.prog GW 49 cTold := mkValid gws To.mix To.tab_ok To.eqs_ok g49 rfl (allV_cons val80 (allV_cons val81 (allV_cons val86 (allV_cons val90 (allV_cons val94 (allV_cons val105 (allV_cons val106 (allV_cons val111 allV_nil)))))))) (allI_cons Tryz.func61 (by kernel_rfl) (allI_cons Tryz.func62 (by kernel_rfl) (allI_cons Tryz.func63 (by kernel_rfl) (allI_cons Tryz.func68 (by kernel_rfl) (allI_cons Tryz.func69 (by kernel_rfl) (allI_cons Tryz.func82 (by kernel_rfl) (allI_cons Tryz.func83 (by kernel_rfl) (allI_cons Tryz.func84 (by kernel_rfl) (allI_cons Tryz.func87 (by kernel_rfl) (allI_cons Tryz.func89 (by kernel_rfl) (allI_cons Tryz.func95 (by kernel_rfl) (allI_cons Tryz.func96 (by kernel_rfl) allI_nil)))))))))))) Tryz.func49 (by kernel_rfl) v49
theorem val58 : Valid Tryz.prog GW 58 cClose := mkValid gws To.mix To.tab_ok To.eqs_ok g58 rfl (allV_cons val86 (allV_cons val97 (allV_cons val111 allV_nil))) (allI_cons Tryz.func61 (by kernel_rfl) (allI_cons Tryz.func63 (by kernel_rfl) (allI_cons Tryz.func68 (by kernel_rfl) (allI_cons Tryz.func69 (by kernel_rfl) (allI_cons Tryz.func74 (by kernel_rfl) (allI_cons Tryz.func84 (by kernel_rfl) (allI_cons Tryz.func87 (by kernel_rfl) (allI_cons Tryz.func95 (by kernel_rfl) (allI_cons Tryz.func96 (by kernel_rfl) allI_nil))))))))) Tryz.func58 (by kernel_rfl) v58
end Go.Proofs.YtdkcgcgefgeooaaGreatDoor.Ow
set_option maxRecDepth 100000
namespace Go.Proofs.YtdkcgcgefgeooaaGreatDoor.Ow
open Go Go.Eng
abbrev E {α : Type} (a : α) : Prop := Wr (a = a)
theorem E_iff {α : Type} (a : α) : E a ↔ True := ⟨fun _ => trivial, fun _ => ⟨rfl⟩⟩
abbrev NamerT : Ty := (.cons (.int .i64) (.cons (.cons (.int .i64) (.cons (.int .i64) (.cons (.int .i64) (.cons (.int .i64) (.cons (.int .i64) (.cons (.int .i64) (.cons (.int .i64) (.cons (.int .i64) (.cons (.int .i64) .unit))))))))) (.cons (.sl (.cons .str (.cons .str (.cons (.int .i64) (.cons (.int .i64) .unit))))) (.cons (.sl (.cons .str (.cons (.int .i64) (.cons (.sl (.int .i64)) .unit)))) (.cons .bool .unit)))))
abbrev CallerT : Ty := (.cons (.int .i64) (.cons (.int .i64) (.cons (.int .i8) (.cons (.int .i64) (.cons (.int .i64) (.cons (.sl (.int .i64)) (.cons (.int .i8) (.cons (.int .i64) (.cons (.cons (.int .i64) (.cons (.int .i64) (.cons (.int .i64) .unit))) .unit)))))))))
abbrev AttT : Ty := (.cons (.int .i64) (.cons (.int .i64) (.cons (.int .i64) (.cons (.int .i64) (.cons (.cons (.int .i8) (.cons (.arr 8 (.int .u16)) (.cons (.int .i64) .unit))) (.cons (.int .i8) (.cons (.int .i64) .unit)))))))
abbrev SeekT : Ty := (.cons (.int .i64) (.cons (.int .i64) (.cons .str (.cons (.int .i8) (.cons (.cons (.int .i8) (.cons (.int .i64) (.cons (.int .i64) (.cons (.int .i64) (.cons .str (.cons (.int .i64) .unit)))))) .unit)))))
abbrev HeatT : Ty := (.cons (.sl (.cons (.int .i8) (.cons (.arr 8 (.int .u16)) (.cons (.int .i64) .unit)))) (.cons (.int .i64) (.cons (.int .i64) (.cons (.sl (.int .i64)) (.cons (.int .i64) (.cons .bool .unit))))))
abbrev LetT : Ty := .cons (.int .i8) (.cons I64 (.cons I64 (.cons I64 (.cons .str (.cons I64 .unit)))))
abbrev OwnT : Ty := .cons I64 (.cons I64 (.cons .str (.cons I64 (.cons BookT .unit))))
abbrev RaceT : Ty := .cons I64 (.cons I64 (.cons I64 (.cons ConfT (.cons .str (.cons I64 (.cons (.sl ScT) (.cons (.int .i8) (.cons HeatT .unit))))))))
abbrev ProcT : Ty := .cons (.int .i8) (.cons NamerT (.cons OwnT (.cons CallerT (.cons RaceT (.cons AttT (.cons SeekT .unit))))))
abbrev OffT : Ty := .cons (.int .i8) (.cons I64 (.cons LetT (.cons I64 .unit)))
abbrev OneT : Ty := .cons OffT (.cons .fp .unit)
abbrev DeedT : Ty := .cons (.int .i8) (.cons I64 (.cons LetT (.cons AdT (.cons (.ptr ProcT) .unit))))
abbrev Lt := Int × Int × Int × Int × ByteArray × Int × Unit
abbrev Ow := Int × Int × ByteArray × Int × Bk × Unit
abbrev Of := Int × Int × Lt × Int × Unit
abbrev On := Of × Option FuncId × Unit
abbrev Ht := List Ad × Int × Int × List Int × Int × Bool × Unit
abbrev Rc := Int × Int × Int × Cf × ByteArray × Int × List Sc × Int × Ht × Unit
abbrev Nm := Int × Cf × List (ByteArray × ByteArray × Int × Int × Unit) × List (ByteArray × Int × List Int × Unit) × Bool × Unit
abbrev Cl := Int × Int × Int × Int × Int × List Int × Int × Int × Rp × Unit
abbrev At := Int × Int × Int × Int × Ad × Int × Int × Unit
abbrev Se := Int × Int × ByteArray × Int × Lt × Unit
abbrev Pr := Int × Nm × Ow × Cl × Rc × At × Se × Unit
abbrev Dd := Int × Int × Lt × Ad × Option Pr × Unit
def ltz : Lt := (0, 0, 0, 0, ByteArray.empty, 0, ())
def dOf (p w : Int) : Int := bif decide (p < 0) || (decide (w < 0) || decide (5 ≤ w)) then -1 else IntKind.wrap .i64 (IntKind.wrap .i64 (p * 5) + w)
def cOf : Contract := conD (.cons I64 (.cons I64 .unit)) (.cons I64 .unit) (fun _ => true) fun x => (dOf x.1 x.2.1, ())
def laterF (t n : Int) : Int := bif decide (clT t = 1073741824) then 1073741824 else clT (clT t + clT n)
def fstS (l : List Int) : Nat → Int × Int
  | 0 => (-1, 0)
  | k + 1 => bif decide ((fstS l k).1 < 0) || decide (clT (l.getD k 0) < (fstS l k).2) then ((k : Int), clT (l.getD k 0)) else fstS l k
structure FsI (l : List Int) (i : Int) (p : Int × Int) : Prop where
  i0 : 0 ≤ i
  i1 : i ≤ l.length
  a : p = fstS l i.toNat
def cFirst : Contract := conD (.cons IL .unit) (.cons I64 (.cons I64 .unit)) (fun _ => true) fun x => ((fstS x.1 (List.length (α := Int) x.1)).1, ((fstS x.1 (List.length (α := Int) x.1)).2, ()))
def fsA : LoopAnn where
  α := Int × Int × Int
  keep := [0, 7, 8]
  okeep := []
  nxt := 500
  env := fun _ x => [(9, .dat I64 x.1), (2, .dat I64 x.2.1), (3, .dat I64 x.2.2)]
  own := fun _ _ => []
  inv := fun s x => FsI (bDat IL s 0).out x.1 (x.2.1, x.2.2)
  mu := fun s x => List.length (α := Int) (bDat IL s 0).out - x.1.toNat
  pick := some fun _ s => ((bDat I64 s 9).out, (bDat I64 s 2).out, (bDat I64 s 3).out)
def endS (l : List Rs) (most : Int) : Nat → List Int
  | 0 => List.replicate l.length 0
  | k + 1 => (endS l most k).set k (laterF (l.getD k (0, 0, ())).2.1 most)
def whenF (l : List Rs) (most : Int) : Int := (fstS (endS l most l.length) (endS l most l.length).length).2
structure WhI (l : List Rs) (most : Int) (i : Int) (e : List Int) : Prop where
  i0 : 0 ≤ i
  i1 : i ≤ l.length
  a : e = endS l most i.toNat
def cWhen : Contract := conD (.cons (.sl RestT) (.cons I64 .unit)) (.cons I64 (.cons .bool .unit)) (fun x => topOk x.1) fun x => (whenF x.1 x.2.1, (decide (0 < List.length (α := Rs) x.1), ()))
def whA : LoopAnn where
  α := Int × List Int
  keep := [0, 1, 4, 5, 12, 13]
  okeep := []
  nxt := 2500
  env := fun _ x => [(14, .dat I64 x.1), (6, .own 2000)]
  own := fun _ x => [(2000, .row 3 I64 x.2)]
  inv := fun s x => WhI (bDat (.sl RestT) s 0).out (bDat I64 s 1).out x.1 x.2
  mu := fun s x => List.length (α := Rs) (bDat (.sl RestT) s 0).out - x.1.toNat
  pick := some fun _ s => ((bDat I64 s 14).out, (bRow I64 s 6).out)
def cRead : Contract := conD (.cons .str .unit) (.cons (.sl AdT) (.cons I64 .unit)) (fun x => decide (x.1 = ByteArray.empty)) fun _ => ([], (0, ()))
def heatZ : Ht := ([], 0, 0, [], 0, false, ())
def raceF (id ow na : Int) (cf : Cf) (nm : ByteArray) (po : Int) (sc : List Sc) : Rc := (id, ow, na, cf, nm, po, sc, 0, heatZ, ())
def cRace : Contract := conD (.cons I64 (.cons I64 (.cons I64 (.cons ConfT (.cons .str (.cons I64 (.cons (.sl ScT) .unit))))))) (.cons RaceT .unit) (fun x => decide (List.length (α := Sc) x.2.2.2.2.2.2.1 ≤ 1000000)) fun x => (raceF x.1 x.2.1 x.2.2.1 x.2.2.2.1 x.2.2.2.2.1 x.2.2.2.2.2.1 x.2.2.2.2.2.2.1, ())
def newO (id na : Int) (nm : ByteArray) (po : Int) (cf : Cf) : Ow := (id, na, nm, po, mkB cf [] [] [] noneF [] false, ())
def cBeginO : Contract := conD (.cons I64 (.cons I64 (.cons .str (.cons I64 (.cons ConfT .unit))))) (.cons OwnT .unit) (fun _ => true) fun x => (newO x.1 x.2.1 x.2.2.1 x.2.2.2.1 x.2.2.2.2.1, ())
def bkO (o : Ow) : Bk := o.2.2.2.2.1
def ovB (b : Bk) : Bool := b.2.2.2.2.2.2.1 && !onF b.2.2.2.2.1
def overO (o : Ow) : Bool := ovB (bkO o)
def allOv (l : List Ow) : Bool := l.all overO
def cOverO : Contract := conD (.cons (.sl OwnT) .unit) (.cons .bool .unit) (fun _ => true) fun x => (allOv x.1, ())
structure OvI (l : List Ow) (i : Int) : Prop where
  i0 : 0 ≤ i
  i1 : i ≤ l.length
  a : (l.take i.toNat).all overO = true
def ovA : LoopAnn where
  α := Int
  keep := [0, 1, 6, 7]
  okeep := []
  nxt := 500
  env := fun _ x => [(8, .dat I64 x)]
  own := fun _ _ => []
  inv := fun s x => OvI (bDat (.sl OwnT) s 0).out x
  mu := fun s x => List.length (α := Ow) (bDat (.sl OwnT) s 0).out - x.toNat
  pick := some fun _ s => (bDat I64 s 8).out
def caseI (id : Int) : On := ((1, dOf id 0, ltz, 0, ()), some 30, ())
def caseR (race : Int) : On := ((1, dOf race 2, ltz, 0, ()), some 33, ())
def caseU (t : Int) : On := ((2, 0, ltz, t, ()), some 36, ())
def casesL (o : Ow) : List On := bif overO o then [] else
  caseI o.1 :: ((bif onF (bkO o).2.2.2.2.1 then [caseR (bkO o).2.2.2.2.1.1] else []) ++
    (bif decide (0 < (bkO o).2.1.length) then [caseU (whenF (bkO o).2.1 (bkO o).1.2.2.2.2.2.1)] else []))
def offL (l : List On) : List Of := l.map fun c => c.1
def cOffers : Contract := conD (.cons OwnT .unit) (.cons (.sl OffT) .unit) (fun x => szB (bkO x.1)) fun x => (offL (casesL x.1), ())
def ptO (s : St) (k : Nat) : Nat := match Go.Eng.look s.env k with
  | .pt o _ => o
  | _ => 99999
def keepO (s : St) (ks : List Nat) : Go.Eng.Own := ks.map fun k => (ptO s k, lookO s.own (ptO s k))
def rowO (s : St) (k : Nat) : Nat := match Go.Eng.look s.env k with
  | .own o => o
  | _ => 99999
def caO : LoopAnn where
  α := List On
  keep := [1, 2]
  okeep := [0]
  nxt := 2500
  env := fun _ x => [(8, .own 2000), (9, .dat I64 (List.length (α := On) x : Int)), (10, .dat I64 (0 : Int))]
  own := fun _ x => [(2000, .row 102 OneT x)]
  inv := fun s x => x = casesL (cDat OwnT s 1 0).out
  mu := fun _ _ => 0
  pick := some fun _ s => (bRow OneT s 8).out
structure OfI (l : List On) (i : Int) (o : List Of) : Prop where
  i0 : 0 ≤ i
  i1 : i ≤ l.length
  a : o = offL (l.take i.toNat)
def ofA : LoopAnn where
  α := Int × List Of
  keep := [8, 9]
  okeep := []
  nxt := 9500
  env := fun _ x => [(10, .dat I64 x.1), (2, .own 9000)]
  own := fun s x => [(rowO s 8, lookO s.own (rowO s 8)), (9000, .row 53 OffT x.2)]
  inv := fun s x => OfI (bRow OneT s 8).out x.1 x.2
  mu := fun s x => List.length (α := On) (bRow OneT s 8).out - x.1.toNat
  pick := some fun _ s => ((bDat I64 s 10).out, (bRow OffT s 2).out)
def greatO (o : Ow) (m : Lt) (d : List Int) : Bool := greatB (bkO o) || decide ((o.2.2.1.size : Int) > 400) || decide ((m.2.2.2.2.1.size : Int) > 2000) || decide ((d.length : Int) > 100) || decide (o.1 > 1099511627776) || decide ((bkO o).2.2.2.2.1.1 > 1099511627776) || decide (m.2.1 > 1099511627776)
def cGreatO : Contract := conD (.cons OwnT (.cons LetT (.cons IL .unit))) (.cons .bool .unit) (fun _ => true) fun x => (greatO x.1 x.2.1 x.2.2.1, ())
def actF (k : Int) : Option FuncId := Option.getD (bif decide (k = 4) then some (some 45) else bif decide (k = 3) then some (some 44) else bif decide (k = 2) then some (some 43) else bif decide (k = 1) then some (some 42) else none) none
def letD (a : Option FuncId) (b : Bk) (m : Lt) (clock : Int) (dead : List Int) : Bk × Tn :=
  bif decide (a = some 42) then (outB (askD b m.2.1 clock dead), outT (askD b m.2.1 clock dead)) else
  bif decide (a = some 43) then (outB (backD b m.2.1 m.2.2.2.1 (decide (m.2.2.1 = 1)) clock dead), outT (backD b m.2.1 m.2.2.2.1 (decide (m.2.2.1 = 1)) clock dead)) else
  bif decide (a = some 44) then (quitB b m.2.1, quitT b m.2.1) else
  bif decide (a = some 45) then (outB (closeD b m.2.1), outT (closeD b m.2.1)) else (b, ([], [], false, false, ()))
def doesF (e : Option FuncId) (b : Bk) (m : Lt) (clock : Int) (dead : List Int) : Bk × Tn :=
  bif decide (e = some 30) then letD (actF m.1) b m clock dead else
  bif decide (e = some 33) then (bif decide (m.1 = 10) then (outB (toldD b m.2.2.2.1 m.2.2.2.2.2.1 clock dead), outT (toldD b m.2.2.2.1 m.2.2.2.2.2.1 clock dead)) else (b, ([], [], false, false, ()))) else
  bif decide (e = some 36) then (outB (oldD b clock dead), outT (oldD b clock dead)) else (b, ([], [], false, false, ()))
def lookF (l : List On) (i : Int) : Option FuncId := (l.getD i.toNat (OneT.zero)).2.1
def adZ : Ad := (0, (0, 0, 0, 0, 0, 0, 0, 0, ()), 0, ())
def noP : Option Pr := none
def putD (id : Int) (r : Rp) : Dd := (2, dOf r.1 2, (5, id, 0, r.2.1, ByteArray.empty, r.2.2.1, ()), adZ, noP, ())
def shutD (s : Int) : Dd := (6, s, ltz, adZ, noP, ())
def gateD (id : Int) : Dd := (3, dOf id 4, ltz, adZ, noP, ())
def cutD (race : Int) : Dd := (1, dOf race 1, ltz, adZ, noP, ())
def procR (r : Rc) : Pr := (3, NamerT.zero, OwnT.zero, CallerT.zero, r, AttT.zero, SeekT.zero, ())
def spawnD (r : Rc) : Dd := (0, 0, ltz, adZ, some (procR r), ())
def repL (id : Int) (l : List Rp) : List Dd := l.map (putD id)
def shuL (id : Int) (l : List Int) : List Dd := l.flatMap fun s => [shutD s, gateD id]
def withB (o : Ow) (b : Bk) : Ow := (o.1, o.2.1, o.2.2.1, o.2.2.2.1, b, ())
def rcO (o : Ow) (b : Bk) (next : Int) : Rc := raceF next o.1 o.2.1 b.1 o.2.2.1 o.2.2.2.1 b.2.2.2.2.2.1
def turnL (o : Ow) (b : Bk) (t : Tn) (next : Int) : List Dd := repL o.1 t.1 ++ (shuL o.1 t.2.1 ++ ((bif t.2.2.2.1 then [cutD b.2.2.2.2.1.1] else []) ++ (bif t.2.2.1 then [spawnD (rcO o b next)] else [])))
def turnB (b : Bk) (t : Tn) (next : Int) : Bk := bif t.2.2.1 then startB b next else b
def inL (o : Ow) (i : Int) : Bool := decide (0 ≤ i) && decide (i < (casesL o).length)
def takeX (o : Ow) (i : Int) (m : Lt) (clock : Int) (dead : List Int) : Bk × Tn := doesF (lookF (casesL o) i) (bkO o) m clock dead
def takeO (o : Ow) (i : Int) (m : Lt) (clock next : Int) (dead : List Int) : Ow := bif inL o i then withB o (turnB (takeX o i m clock dead).1 (takeX o i m clock dead).2 next) else o
def takeD (o : Ow) (i : Int) (m : Lt) (clock next : Int) (dead : List Int) : List Dd := bif inL o i then turnL o (takeX o i m clock dead).1 (takeX o i m clock dead).2 next else []
def takeOk (o : Ow) (m : Lt) (dead : List Int) : Bool := askOk (bkO o) dead && decide (m.2.2.2.2.1 = ByteArray.empty)
def cTake : Contract := conD (.cons OwnT (.cons I64 (.cons LetT (.cons I64 (.cons I64 (.cons IL .unit)))))) (.cons OwnT (.cons (.sl DeedT) .unit)) (fun x => takeOk x.1 x.2.2.1 x.2.2.2.2.2.1) fun x =>
  (takeO x.1 x.2.1 x.2.2.1 x.2.2.2.1 x.2.2.2.2.1 x.2.2.2.2.2.1, (takeD x.1 x.2.1 x.2.2.1 x.2.2.2.1 x.2.2.2.2.1 x.2.2.2.2.2.1, ()))
def qLet : QCon := { T := 119, kt := .int .i8, vt := .fp, n := 4, f := fun k => bif decide (k = 4) then some (some 45) else bif decide (k = 3) then some (some 44) else bif decide (k = 2) then some (some 43) else bif decide (k = 1) then some (some 42) else none }
def caT : LoopAnn where
  α := List On
  keep := [1, 3, 4, 5, 6, 8, 12, 13, 14]
  okeep := [0, 1, 2, 3]
  nxt := 2500
  env := fun _ x => [(15, .own 2000)]
  own := fun _ x => [(2000, .row 102 OneT x)]
  inv := fun s x => x = casesL (cDat OwnT s 6 0).out
  mu := fun _ _ => 0
  pick := some fun _ s => (bRow OneT s 15).out
def cellsO (s : St) (k : Nat) : List D := match lookO s.own (ptO s k) with
  | .cells _ ds => ds
  | _ => []
def doT : LoopAnn where
  α := Bk × Tn
  keep := [12, 13, 14, 16]
  okeep := [2]
  nxt := 4500
  env := fun _ _ => []
  own := fun s x => [(ptO s 14, .cells 98 ((cellsO s 14).take 4 ++ leaves BookT x.1 ++ (cellsO s 14).drop 21)), (ptO s 16, .cells 112 (.pt (ptO s 14) 0 :: leaves TurnT x.2))]
  inv := fun s x => x = doesF (lookF (bRow OneT s 15).out (bDat I64 s 1).out) (cDat OwnT s 6 0).out.2.2.2.2.1 (cDat LetT s 8 0).out (cDat I64 s 14 22).out (cDat IL s 14 24).out
  mu := fun _ _ => 0
  pick := some fun _ s => ((cDat BookT s 14 4).out, (cDat TurnT s 16 1).out)
structure ReI (id : Int) (l : List Rp) (i : Int) (o : List Dd) : Prop where
  i0 : 0 ≤ i
  i1 : i ≤ l.length
  a : o = repL id (l.take i.toNat)
def reA : LoopAnn where
  α := Int × List Dd
  keep := [0, 3, 12, 13]
  okeep := []
  nxt := 9500
  env := fun _ x => [(14, .dat I64 x.1)]
  own := fun s x => [(ptO s 0, .cells 98 ((cellsO s 0).set 21 (.own 9000))), (ptO s 3, lookO s.own (ptO s 3)), (9000, .row 69 DeedT x.2)]
  inv := fun s x => ReI (cDat I64 s 0 0).out (cDat TurnT s 3 0).out.1 x.1 x.2
  mu := fun s x => List.length (α := Rp) (cDat TurnT s 3 0).out.1 - x.1.toNat
  pick := some fun _ s => ((bDat I64 s 14).out, (cRow DeedT s 0 21).out)
structure ShI (id : Int) (d : List Dd) (l : List Int) (i : Int) (o : List Dd) : Prop where
  i0 : 0 ≤ i
  i1 : i ≤ l.length
  a : o = d ++ shuL id (l.take i.toNat)
def shA : LoopAnn where
  α := Int × List Dd
  keep := [0, 3, 37, 38]
  okeep := []
  nxt := 9700
  env := fun _ x => [(39, .dat I64 x.1)]
  own := fun s x => [(ptO s 0, .cells 98 ((cellsO s 0).set 21 (.own 9600))), (ptO s 3, lookO s.own (ptO s 3)), (9600, .row 69 DeedT x.2)]
  inv := fun s x => ShI (cDat I64 s 0 0).out (cRow DeedT s 0 21).out (cDat TurnT s 3 0).out.2.1 x.1 x.2
  mu := fun s x => List.length (α := Int) (cDat TurnT s 3 0).out.2.1 - x.1.toNat
  pick := some fun _ s => ((bDat I64 s 39).out, (cRow DeedT s 0 21).out)
end Go.Proofs.YtdkcgcgefgeooaaGreatDoor.Ow
namespace Go.Proofs.YtdkcgcgefgeooaaGreatDoor.Ow
open Go Go.Eng 
set_option maxRecDepth 100000
noncomputable def g29 : Cfg := { tab := To.tab, cons := [], inls := [], loops := [], cuts := [], unroll := false, arrs := [], keys := [] }
noncomputable def g11 : Cfg := { tab := To.tab, cons := [], inls := [], loops := [], cuts := [], unroll := false, arrs := [], keys := [] }
noncomputable def g51 : Cfg := { tab := To.tab, cons := [], inls := [(64, Tryz.f64), (66, Tryz.f66)], loops := [(3, fsA)], cuts := [], unroll := false, arrs := [], keys := [] }
noncomputable def g35 : Cfg := { tab := To.tab, cons := [(51, cFirst)], inls := [(50, Tryz.f50), (64, Tryz.f64), (65, Tryz.f65)], loops := [(3, whA)], cuts := [], unroll := true, arrs := [], keys := [] }
noncomputable def g47 : Cfg := { tab := To.tab, cons := [], inls := [], loops := [], cuts := [], unroll := false, arrs := [], keys := [] }
noncomputable def g39 : Cfg := { tab := To.tab, cons := [(53, (cClone 142 40 ScT))], inls := [], loops := [], cuts := [], unroll := false, arrs := [], keys := [] }
noncomputable def g7 : Cfg := { tab := To.tab, cons := [(18, cNew)], inls := [], loops := [], cuts := [], unroll := false, arrs := [], keys := [] }
noncomputable def g14 : Cfg := { tab := To.tab, cons := [(25, cGreat)], inls := [], loops := [], cuts := [], unroll := false, arrs := [], keys := [] }
noncomputable def g9 : Cfg := { tab := To.tab, cons := [(22, cOver)], inls := [(20, Tryz.f20), (21, Tryz.f21), (37, Tryz.f37)], loops := [(380002, ovA)], cuts := [], unroll := false, arrs := [], keys := [] }
noncomputable def g8 : Cfg := { tab := To.tab, cons := [(22, cOver), (29, cOf), (32, cOn), (35, cWhen)], inls := [(19, Tryz.f19)], loops := [(2, ofA)], cuts := [(2, caO)], unroll := false, arrs := [], keys := [] }
end Go.Proofs.YtdkcgcgefgeooaaGreatDoor.Ow
namespace Go.Proofs.YtdkcgcgefgeooaaGreatDoor.Ow
open Go Go.Eng 
set_option maxRecDepth 100000
theorem v29_eq : vcFn g29 300 Tryz.f29 cOf = ( ∀ (x : Int × Int × Unit), E true → bcase (decide (x.1 < (0 : Int)) || decide (x.2.1 < (0 : Int)) || decide (x.2.1 ≥ (5 : Int))) (((-1 : Int), ()) = (dOf x.1 x.2.1, ())) ((IntKind.wrap IntKind.i64 (IntKind.wrap
  IntKind.i64 (x.1 * (5 : Int)) + x.2.1), ()) = (dOf x.1 x.2.1, ()))) := by kernel_rfl
theorem v11_eq : vcFn g11 300 Tryz.f11 cOf = ( ∀ (x : Int × Int × Unit), E true → bcase (decide (x.1 < (0 : Int)) || decide (x.2.1 < (0 : Int)) || decide (x.2.1 ≥ (5 : Int))) (((-1 : Int), ()) = (dOf x.1 x.2.1, ())) ((IntKind.wrap IntKind.i64 (IntKind.wrap
  IntKind.i64 ((5 : Int) * x.1) + x.2.1), ()) = (dOf x.1 x.2.1, ()))) := by kernel_rfl
theorem v51_eq : vcFn g51 300 Tryz.f51 cFirst.T = ( ∀ (x : List Int × Unit), Wr (typedB (Ty.cons IL Ty.unit) x = true ∧ true = true) → (Wr (FsI x.1 (0 : Int) ((-1 : Int), (0 : Int))) ∧ E ((0 : Int)) ∧ E ((-1 : Int)) ∧ E ((0 : Int)) ∧ E x.1 ∧ E x.1 ∧ E ((↑(List.length x.1)
  : Int))) ∧ ∀ (x_1 : Int × Int × Int), Wr (FsI x.1 x_1.1 x_1.2) → bcase (decide (x_1.1 < (↑(List.length x.1) : Int))) (Wr ((0 : Int) ≤ x_1.1) ∧ Wr (x_1.1 < (↑(List.length x.1) : Int)) ∧ E true ∧ bcase (decide (x_1.2.1 <
  (0 : Int)) || decide (Min.min (Max.max (List.getD x.1 (Int.toNat x_1.1) (0 : Int)) (0 : Int)) (1073741824 : Int) < x_1.2.2)) (Wr (FsI x.1 (IntKind.wrap IntKind.i64 (x_1.1 + (1 : Int))) (x_1.1, Min.min (Max.max
  (List.getD x.1 (Int.toNat x_1.1) (0 : Int)) (0 : Int)) (1073741824 : Int))) ∧ Wr (List.length x.1 - Int.toNat (IntKind.wrap IntKind.i64 (x_1.1 + (1 : Int))) < List.length x.1 - Int.toNat x_1.1) ∧ E (IntKind.wrap
  IntKind.i64 (x_1.1 + (1 : Int))) ∧ E x_1.1 ∧ E (Min.min (Max.max (List.getD x.1 (Int.toNat x_1.1) (0 : Int)) (0 : Int)) (1073741824 : Int)) ∧ E x.1 ∧ E x.1 ∧ E ((↑(List.length x.1) : Int))) (Wr (FsI x.1 (IntKind.wrap
  IntKind.i64 (x_1.1 + (1 : Int))) x_1.2) ∧ Wr (List.length x.1 - Int.toNat (IntKind.wrap IntKind.i64 (x_1.1 + (1 : Int))) < List.length x.1 - Int.toNat x_1.1) ∧ E (IntKind.wrap IntKind.i64 (x_1.1 + (1 : Int))) ∧ E
  x_1.2.1 ∧ E x_1.2.2 ∧ E x.1 ∧ E x.1 ∧ E ((↑(List.length x.1) : Int)))) ((x_1.2.1, x_1.2.2, ()) = ((fstS x.1 (List.length x.1)).1, (fstS x.1 (List.length x.1)).2, ()))) := by kernel_rfl
theorem v35_eq : vcFn g35 300 Tryz.f35 cWhen = ( ∀ (x : List Rs × Int × Unit), Wr (topOk x.1 = true) → Wr ((0 : Int) ≤ (↑(List.length x.1) : Int)) ∧ Wr ((↑(List.length x.1) : Int) ≤ (↑(List.length x.1) : Int)) ∧ Wr ((↑(8 : Nat) : Int) * (↑(List.length x.1) : Int) ≤
  (281474976710656 : Int)) ∧ Wr ((↑(List.length x.1) : Int) ≤ (9223372036854775807 : Int)) ∧ (Wr (WhI x.1 x.2.1 (0 : Int) (List.replicate (Int.toNat (↑(List.length x.1) : Int)) (0 : Int))) ∧ E ((0 : Int)) ∧ E x.1 ∧ E
  x.2.1 ∧ E ((0 : Int)) ∧ E false ∧ E x.1 ∧ E ((↑(List.length x.1) : Int)) ∧ E (List.replicate (Int.toNat (↑(List.length x.1) : Int)) (0 : Int))) ∧ ∀ (x_1 : Int × List Int), Wr (WhI x.1 x.2.1 x_1.1 x_1.2) → bcase (decide
  (x_1.1 < (↑(List.length x.1) : Int))) (Wr ((0 : Int) ≤ x_1.1) ∧ Wr (x_1.1 < (↑(List.length x.1) : Int)) ∧ E true ∧ Wr ((0 : Int) ≤ (0 : Int)) ∧ Wr ((0 : Int) < (↑(List.length (x.2.1 :: nilL Int)) : Int)) ∧ bcase (decide
  (Min.min (Max.max (List.getD x.1 (Int.toNat x_1.1) (Ty.zero RestT)).2.1 (0 : Int)) (1073741824 : Int) = (1073741824 : Int))) (Wr ((0 : Int) ≤ x_1.1) ∧ Wr (x_1.1 < (↑(List.length x_1.2) : Int)) ∧ Wr (WhI x.1 x.2.1
  (IntKind.wrap IntKind.i64 (x_1.1 + (1 : Int))) (List.set x_1.2 (Int.toNat x_1.1) (Min.min (Max.max (List.getD x.1 (Int.toNat x_1.1) (Ty.zero RestT)).2.1 (0 : Int)) (1073741824 : Int)))) ∧ Wr (List.length x.1 - Int.toNat
  (IntKind.wrap IntKind.i64 (x_1.1 + (1 : Int))) < List.length x.1 - Int.toNat x_1.1) ∧ E (IntKind.wrap IntKind.i64 (x_1.1 + (1 : Int))) ∧ E x.1 ∧ E x.2.1 ∧ E ((0 : Int)) ∧ E false ∧ E x.1 ∧ E ((↑(List.length x.1) : Int))
  ∧ E (List.set x_1.2 (Int.toNat x_1.1) (Min.min (Max.max (List.getD x.1 (Int.toNat x_1.1) (Ty.zero RestT)).2.1 (0 : Int)) (1073741824 : Int)))) (Wr ((0 : Int) ≤ x_1.1) ∧ Wr (x_1.1 < (↑(List.length x_1.2) : Int)) ∧ Wr
  (WhI x.1 x.2.1 (IntKind.wrap IntKind.i64 (x_1.1 + (1 : Int))) (List.set x_1.2 (Int.toNat x_1.1) (Min.min (Max.max (IntKind.wrap IntKind.i64 (Min.min (Max.max (List.getD x.1 (Int.toNat x_1.1) (Ty.zero RestT)).2.1 (0 :
  Int)) (1073741824 : Int) + Min.min (Max.max (List.getD (x.2.1 :: nilL Int) (Int.toNat (0 : Int)) (0 : Int)) (0 : Int)) (1073741824 : Int))) (0 : Int)) (1073741824 : Int)))) ∧ Wr (List.length x.1 - Int.toNat
  (IntKind.wrap IntKind.i64 (x_1.1 + (1 : Int))) < List.length x.1 - Int.toNat x_1.1) ∧ E (IntKind.wrap IntKind.i64 (x_1.1 + (1 : Int))) ∧ E x.1 ∧ E x.2.1 ∧ E ((0 : Int)) ∧ E false ∧ E x.1 ∧ E ((↑(List.length x.1) : Int))
  ∧ E (List.set x_1.2 (Int.toNat x_1.1) (Min.min (Max.max (IntKind.wrap IntKind.i64 (Min.min (Max.max (List.getD x.1 (Int.toNat x_1.1) (Ty.zero RestT)).2.1 (0 : Int)) (1073741824 : Int) + Min.min (Max.max (List.getD
  (x.2.1 :: nilL Int) (Int.toNat (0 : Int)) (0 : Int)) (0 : Int)) (1073741824 : Int))) (0 : Int)) (1073741824 : Int))))) (E true ∧ ((fstS x_1.2 (List.length x_1.2)).2, decide ((↑(List.length x.1) : Int) > (0 : Int)), ())
  = (whenF x.1 x.2.1, decide ((0 : Nat) < List.length x.1), ()))) := by kernel_rfl
theorem v47_eq : vcFn g47 300 Tryz.f47 cRead = ( ∀ (x : ByteArray × Unit), Wr (decide (x.1 = ByteArray.empty) = true) → bcase (decide (x.1 = ByteArray.empty)) ((nilL Ad, (0 : Int), ()) = (nilL Ad, (0 : Ty.El I64), ())) (Fail (nat_lit 15) (nat_lit 12))) := by kernel_rfl
theorem v39_eq : vcFn g39 300 Tryz.f39 cRace = ( ∀ (x : Int × Int × Int × Cf × ByteArray × Int × List Sc × Unit), Wr (decide (List.length x.2.2.2.2.2.2.1 ≤ (1000000 : Nat)) = true) → Wr (decide (List.length x.2.2.2.2.2.2.1 * (40 : Nat) ≤ (140737488355328 : Nat)) =
  true) ∧ ((x.1, x.2.1, x.2.2.1, x.2.2.2.1, x.2.2.2.2.1, x.2.2.2.2.2.1, x.2.2.2.2.2.2.1, (0 : Int), (nilL Ad, (0 : Int), (0 : Int), nilL Int, (0 : Int), false, ()), ()), ()) = (raceF x.1 x.2.1 x.2.2.1 x.2.2.2.1
  x.2.2.2.2.1 x.2.2.2.2.2.1 x.2.2.2.2.2.2.1, ())) := by kernel_rfl
theorem v7_eq : vcFn g7 300 Tryz.f7 cBeginO = ( ∀ (x : Int × Int × ByteArray × Int × Cf × Unit), E true → E true ∧ ((x.1, x.2.1, x.2.2.1, x.2.2.2.1, mkB x.2.2.2.2.1 (nilL Rs) (nilL Int) (nilL Int) noneF (nilL Sc) false, ()), ()) = (newO x.1 x.2.1 x.2.2.1 x.2.2.2.1
  x.2.2.2.2.1, ())) := by kernel_rfl
theorem v14_eq : vcFn g14 300 Tryz.f14 cGreatO = ( ∀ (x : Ow × Lt × List Int × Unit), E true → E true ∧ (greatB x.1.2.2.2.2.1 || decide ((↑(ByteArray.size x.1.2.2.1) : Int) > (400 : Int)) || decide ((↑(ByteArray.size x.2.1.2.2.2.2.1) : Int) > (2000 : Int)) || decide
  ((↑(List.length x.2.2.1) : Int) > (100 : Int)) || decide (x.1.1 > (1099511627776 : Int)) || decide (x.1.2.2.2.2.1.2.2.2.2.1.1 > (1099511627776 : Int)) || decide (x.2.1.2.1 > (1099511627776 : Int)), ()) = (greatO x.1
  x.2.1 x.2.2.1, ())) := by kernel_rfl
theorem v9_eq : vcFn g9 300 Tryz.f9 cOverO.T = ( ∀ (x : List Ow × Unit), Wr (typedB (Ty.cons (Ty.sl OwnT) Ty.unit) x = true ∧ true = true) → (Wr (OvI x.1 (0 : Int)) ∧ E ((0 : Int)) ∧ E x.1 ∧ E x.1 ∧ E ((↑(List.length x.1) : Int))) ∧ ∀ (x_1 : Int), Wr (OvI x.1 x_1) →
  bcase (decide (x_1 < (↑(List.length x.1) : Int))) (Wr ((0 : Int) ≤ x_1) ∧ Wr (x_1 < (↑(List.length x.1) : Int)) ∧ E true ∧ E true ∧ bcase (!((List.getD x.1 (Int.toNat x_1) (Ty.zero OwnT)).2.2.2.2.1.2.2.2.2.2.2.1 && !onF
  (List.getD x.1 (Int.toNat x_1) (Ty.zero OwnT)).2.2.2.2.1.2.2.2.2.1)) ((!decide (x_1 ≥ (0 : Int)), ()) = (allOv x.1, ())) (Wr (OvI x.1 (IntKind.wrap IntKind.i64 (x_1 + (1 : Int)))) ∧ Wr (List.length x.1 - Int.toNat
  (IntKind.wrap IntKind.i64 (x_1 + (1 : Int))) < List.length x.1 - Int.toNat x_1) ∧ E (IntKind.wrap IntKind.i64 (x_1 + (1 : Int))) ∧ E x.1 ∧ E x.1 ∧ E ((↑(List.length x.1) : Int)))) ((!decide ((-1 : Int) ≥ (0 : Int)), ())
  = (allOv x.1, ()))) := by kernel_rfl
theorem v8_eq : vcFn g8 300 Tryz.f8 cOffers = ( ∀ (x : Ow × Unit), Wr (szB (bkO x.1) = true) → (E true ∧ bcase (x.1.2.2.2.2.1.2.2.2.2.2.2.1 && !onF x.1.2.2.2.2.1.2.2.2.2.1) (Wr (nilL On = casesL x.1) ∧ Wr ((0 : Int) = (↑(List.length (nilL On)) : Int)) ∧ E ((0 : Int))
  ∧ E (nilL On) ∧ E x.1.1 ∧ E x.1.2.1 ∧ E x.1.2.2.1 ∧ E x.1.2.2.2.1 ∧ E x.1.2.2.2.2.1.1.1 ∧ E x.1.2.2.2.2.1.1.2.1 ∧ E x.1.2.2.2.2.1.1.2.2.1 ∧ E x.1.2.2.2.2.1.1.2.2.2.1 ∧ E x.1.2.2.2.2.1.1.2.2.2.2.1 ∧ E
  x.1.2.2.2.2.1.1.2.2.2.2.2.1 ∧ E x.1.2.2.2.2.1.1.2.2.2.2.2.2.1 ∧ E x.1.2.2.2.2.1.1.2.2.2.2.2.2.2.1 ∧ E x.1.2.2.2.2.1.1.2.2.2.2.2.2.2.2.1 ∧ E x.1.2.2.2.2.1.2.1 ∧ E x.1.2.2.2.2.1.2.2.1 ∧ E x.1.2.2.2.2.1.2.2.2.1 ∧ E
  x.1.2.2.2.2.1.2.2.2.2.1.1 ∧ E x.1.2.2.2.2.1.2.2.2.2.1.2.1 ∧ E x.1.2.2.2.2.1.2.2.2.2.1.2.2.1 ∧ E x.1.2.2.2.2.1.2.2.2.2.2.1 ∧ E x.1.2.2.2.2.1.2.2.2.2.2.2.1) (E true ∧ E true ∧ bcase (onF x.1.2.2.2.2.1.2.2.2.2.1) (E true ∧
  Wr ((List.length ((((1 : Int), dOf x.1.1 (0 : Int), ltz, (0 : Int), ()), some (30 : Nat), ()) :: nilL On) + List.length ((((1 : Int), dOf x.1.2.2.2.2.1.2.2.2.2.1.1 (2 : Int), ltz, (0 : Int), ()), some (33 : Nat), ()) ::
  nilL On)) * (88 : Nat) ≤ (140737488355328 : Nat)) ∧ Wr (topOk x.1.2.2.2.2.1.2.1 = true) ∧ bcase (decide ((0 : Nat) < List.length x.1.2.2.2.2.1.2.1)) (Wr ((List.length ((((1 : Int), dOf x.1.1 (0 : Int), ltz, (0 : Int),
  ()), some (30 : Nat), ()) :: nilL On ++ (((1 : Int), dOf x.1.2.2.2.2.1.2.2.2.2.1.1 (2 : Int), ltz, (0 : Int), ()), some (33 : Nat), ()) :: nilL On) + List.length ((((2 : Int), (0 : Int), ltz, whenF x.1.2.2.2.2.1.2.1
  x.1.2.2.2.2.1.1.2.2.2.2.2.1, ()), some (36 : Nat), ()) :: nilL On)) * (88 : Nat) ≤ (140737488355328 : Nat)) ∧ Wr ((((1 : Int), dOf x.1.1 (0 : Int), ltz, (0 : Int), ()), some (30 : Nat), ()) :: nilL On ++ (((1 : Int),
  dOf x.1.2.2.2.2.1.2.2.2.2.1.1 (2 : Int), ltz, (0 : Int), ()), some (33 : Nat), ()) :: nilL On ++ (((2 : Int), (0 : Int), ltz, whenF x.1.2.2.2.2.1.2.1 x.1.2.2.2.2.1.1.2.2.2.2.2.1, ()), some (36 : Nat), ()) :: nilL On =
  casesL x.1) ∧ E ((↑(List.length ((((1 : Int), dOf x.1.1 (0 : Int), ltz, (0 : Int), ()), some (30 : Nat), ()) :: nilL On ++ (((1 : Int), dOf x.1.2.2.2.2.1.2.2.2.2.1.1 (2 : Int), ltz, (0 : Int), ()), some (33 : Nat), ())
  :: nilL On ++ (((2 : Int), (0 : Int), ltz, whenF x.1.2.2.2.2.1.2.1 x.1.2.2.2.2.1.1.2.2.2.2.2.1, ()), some (36 : Nat), ()) :: nilL On)) : Int)) ∧ E ((0 : Int)) ∧ E ((((1 : Int), dOf x.1.1 (0 : Int), ltz, (0 : Int), ()),
  some (30 : Nat), ()) :: nilL On ++ (((1 : Int), dOf x.1.2.2.2.2.1.2.2.2.2.1.1 (2 : Int), ltz, (0 : Int), ()), some (33 : Nat), ()) :: nilL On ++ (((2 : Int), (0 : Int), ltz, whenF x.1.2.2.2.2.1.2.1
  x.1.2.2.2.2.1.1.2.2.2.2.2.1, ()), some (36 : Nat), ()) :: nilL On) ∧ E x.1.1 ∧ E x.1.2.1 ∧ E x.1.2.2.1 ∧ E x.1.2.2.2.1 ∧ E x.1.2.2.2.2.1.1.1 ∧ E x.1.2.2.2.2.1.1.2.1 ∧ E x.1.2.2.2.2.1.1.2.2.1 ∧ E x.1.2.2.2.2.1.1.2.2.2.1
  ∧ E x.1.2.2.2.2.1.1.2.2.2.2.1 ∧ E x.1.2.2.2.2.1.1.2.2.2.2.2.1 ∧ E x.1.2.2.2.2.1.1.2.2.2.2.2.2.1 ∧ E x.1.2.2.2.2.1.1.2.2.2.2.2.2.2.1 ∧ E x.1.2.2.2.2.1.1.2.2.2.2.2.2.2.2.1 ∧ E x.1.2.2.2.2.1.2.1 ∧ E x.1.2.2.2.2.1.2.2.1 ∧ E
  x.1.2.2.2.2.1.2.2.2.1 ∧ E x.1.2.2.2.2.1.2.2.2.2.1.1 ∧ E x.1.2.2.2.2.1.2.2.2.2.1.2.1 ∧ E x.1.2.2.2.2.1.2.2.2.2.1.2.2.1 ∧ E x.1.2.2.2.2.1.2.2.2.2.2.1 ∧ E x.1.2.2.2.2.1.2.2.2.2.2.2.1) (Wr ((((1 : Int), dOf x.1.1 (0 : Int),
  ltz, (0 : Int), ()), some (30 : Nat), ()) :: nilL On ++ (((1 : Int), dOf x.1.2.2.2.2.1.2.2.2.2.1.1 (2 : Int), ltz, (0 : Int), ()), some (33 : Nat), ()) :: nilL On = casesL x.1) ∧ E ((↑(List.length ((((1 : Int), dOf
  x.1.1 (0 : Int), ltz, (0 : Int), ()), some (30 : Nat), ()) :: nilL On ++ (((1 : Int), dOf x.1.2.2.2.2.1.2.2.2.2.1.1 (2 : Int), ltz, (0 : Int), ()), some (33 : Nat), ()) :: nilL On)) : Int)) ∧ E ((0 : Int)) ∧ E ((((1 :
  Int), dOf x.1.1 (0 : Int), ltz, (0 : Int), ()), some (30 : Nat), ()) :: nilL On ++ (((1 : Int), dOf x.1.2.2.2.2.1.2.2.2.2.1.1 (2 : Int), ltz, (0 : Int), ()), some (33 : Nat), ()) :: nilL On) ∧ E x.1.1 ∧ E x.1.2.1 ∧ E
  x.1.2.2.1 ∧ E x.1.2.2.2.1 ∧ E x.1.2.2.2.2.1.1.1 ∧ E x.1.2.2.2.2.1.1.2.1 ∧ E x.1.2.2.2.2.1.1.2.2.1 ∧ E x.1.2.2.2.2.1.1.2.2.2.1 ∧ E x.1.2.2.2.2.1.1.2.2.2.2.1 ∧ E x.1.2.2.2.2.1.1.2.2.2.2.2.1 ∧ E
  x.1.2.2.2.2.1.1.2.2.2.2.2.2.1 ∧ E x.1.2.2.2.2.1.1.2.2.2.2.2.2.2.1 ∧ E x.1.2.2.2.2.1.1.2.2.2.2.2.2.2.2.1 ∧ E x.1.2.2.2.2.1.2.1 ∧ E x.1.2.2.2.2.1.2.2.1 ∧ E x.1.2.2.2.2.1.2.2.2.1 ∧ E x.1.2.2.2.2.1.2.2.2.2.1.1 ∧ E
  x.1.2.2.2.2.1.2.2.2.2.1.2.1 ∧ E x.1.2.2.2.2.1.2.2.2.2.1.2.2.1 ∧ E x.1.2.2.2.2.1.2.2.2.2.2.1 ∧ E x.1.2.2.2.2.1.2.2.2.2.2.2.1)) (Wr (topOk x.1.2.2.2.2.1.2.1 = true) ∧ bcase (decide ((0 : Nat) < List.length
  x.1.2.2.2.2.1.2.1)) (Wr ((List.length ((((1 : Int), dOf x.1.1 (0 : Int), ltz, (0 : Int), ()), some (30 : Nat), ()) :: nilL On) + List.length ((((2 : Int), (0 : Int), ltz, whenF x.1.2.2.2.2.1.2.1
  x.1.2.2.2.2.1.1.2.2.2.2.2.1, ()), some (36 : Nat), ()) :: nilL On)) * (88 : Nat) ≤ (140737488355328 : Nat)) ∧ Wr ((((1 : Int), dOf x.1.1 (0 : Int), ltz, (0 : Int), ()), some (30 : Nat), ()) :: nilL On ++ (((2 : Int), (0
  : Int), ltz, whenF x.1.2.2.2.2.1.2.1 x.1.2.2.2.2.1.1.2.2.2.2.2.1, ()), some (36 : Nat), ()) :: nilL On = casesL x.1) ∧ E ((↑(List.length ((((1 : Int), dOf x.1.1 (0 : Int), ltz, (0 : Int), ()), some (30 : Nat), ()) ::
  nilL On ++ (((2 : Int), (0 : Int), ltz, whenF x.1.2.2.2.2.1.2.1 x.1.2.2.2.2.1.1.2.2.2.2.2.1, ()), some (36 : Nat), ()) :: nilL On)) : Int)) ∧ E ((0 : Int)) ∧ E ((((1 : Int), dOf x.1.1 (0 : Int), ltz, (0 : Int), ()),
  some (30 : Nat), ()) :: nilL On ++ (((2 : Int), (0 : Int), ltz, whenF x.1.2.2.2.2.1.2.1 x.1.2.2.2.2.1.1.2.2.2.2.2.1, ()), some (36 : Nat), ()) :: nilL On) ∧ E x.1.1 ∧ E x.1.2.1 ∧ E x.1.2.2.1 ∧ E x.1.2.2.2.1 ∧ E
  x.1.2.2.2.2.1.1.1 ∧ E x.1.2.2.2.2.1.1.2.1 ∧ E x.1.2.2.2.2.1.1.2.2.1 ∧ E x.1.2.2.2.2.1.1.2.2.2.1 ∧ E x.1.2.2.2.2.1.1.2.2.2.2.1 ∧ E x.1.2.2.2.2.1.1.2.2.2.2.2.1 ∧ E x.1.2.2.2.2.1.1.2.2.2.2.2.2.1 ∧ E
  x.1.2.2.2.2.1.1.2.2.2.2.2.2.2.1 ∧ E x.1.2.2.2.2.1.1.2.2.2.2.2.2.2.2.1 ∧ E x.1.2.2.2.2.1.2.1 ∧ E x.1.2.2.2.2.1.2.2.1 ∧ E x.1.2.2.2.2.1.2.2.2.1 ∧ E x.1.2.2.2.2.1.2.2.2.2.1.1 ∧ E x.1.2.2.2.2.1.2.2.2.2.1.2.1 ∧ E
  x.1.2.2.2.2.1.2.2.2.2.1.2.2.1 ∧ E x.1.2.2.2.2.1.2.2.2.2.2.1 ∧ E x.1.2.2.2.2.1.2.2.2.2.2.2.1) (Wr ((((1 : Int), dOf x.1.1 (0 : Int), ltz, (0 : Int), ()), some (30 : Nat), ()) :: nilL On = casesL x.1) ∧ E ((↑(List.length
  ((((1 : Int), dOf x.1.1 (0 : Int), ltz, (0 : Int), ()), some (30 : Nat), ()) :: nilL On)) : Int)) ∧ E ((0 : Int)) ∧ E ((((1 : Int), dOf x.1.1 (0 : Int), ltz, (0 : Int), ()), some (30 : Nat), ()) :: nilL On) ∧ E x.1.1 ∧
  E x.1.2.1 ∧ E x.1.2.2.1 ∧ E x.1.2.2.2.1 ∧ E x.1.2.2.2.2.1.1.1 ∧ E x.1.2.2.2.2.1.1.2.1 ∧ E x.1.2.2.2.2.1.1.2.2.1 ∧ E x.1.2.2.2.2.1.1.2.2.2.1 ∧ E x.1.2.2.2.2.1.1.2.2.2.2.1 ∧ E x.1.2.2.2.2.1.1.2.2.2.2.2.1 ∧ E
  x.1.2.2.2.2.1.1.2.2.2.2.2.2.1 ∧ E x.1.2.2.2.2.1.1.2.2.2.2.2.2.2.1 ∧ E x.1.2.2.2.2.1.1.2.2.2.2.2.2.2.2.1 ∧ E x.1.2.2.2.2.1.2.1 ∧ E x.1.2.2.2.2.1.2.2.1 ∧ E x.1.2.2.2.2.1.2.2.2.1 ∧ E x.1.2.2.2.2.1.2.2.2.2.1.1 ∧ E
  x.1.2.2.2.2.1.2.2.2.2.1.2.1 ∧ E x.1.2.2.2.2.1.2.2.2.2.1.2.2.1 ∧ E x.1.2.2.2.2.1.2.2.2.2.2.1 ∧ E x.1.2.2.2.2.1.2.2.2.2.2.2.1)))) ∧ ∀ (x_1 : List On), Wr (x_1 = casesL x.1) → (Wr (OfI x_1 (0 : Int) (nilL Of)) ∧ E ((0 :
  Int)) ∧ E ((↑(List.length x_1) : Int)) ∧ E x_1 ∧ E (nilL Of)) ∧ ∀ (x_2 : Int × List Of), Wr (OfI x_1 x_2.1 x_2.2) → bcase (decide (x_2.1 < (↑(List.length x_1) : Int))) (Wr ((0 : Int) ≤ x_2.1) ∧ Wr (x_2.1 <
  (↑(List.length x_1) : Int)) ∧ Wr ((List.length x_2.2 + List.length ((List.getD x_1 (Int.toNat x_2.1) (Ty.zero OneT)).1 :: nilL Of)) * (80 : Nat) ≤ (140737488355328 : Nat)) ∧ Wr (OfI x_1 (IntKind.wrap IntKind.i64 (x_2.1
  + (1 : Int))) (x_2.2 ++ (List.getD x_1 (Int.toNat x_2.1) (Ty.zero OneT)).1 :: nilL Of)) ∧ Wr (List.length x_1 - Int.toNat (IntKind.wrap IntKind.i64 (x_2.1 + (1 : Int))) < List.length x_1 - Int.toNat x_2.1) ∧ E
  (IntKind.wrap IntKind.i64 (x_2.1 + (1 : Int))) ∧ E ((↑(List.length x_1) : Int)) ∧ E x_1 ∧ E (x_2.2 ++ (List.getD x_1 (Int.toNat x_2.1) (Ty.zero OneT)).1 :: nilL Of)) ((x_2.2, ()) = (offL (casesL x.1), ()))) := by kernel_rfl
end Go.Proofs.YtdkcgcgefgeooaaGreatDoor.Ow
set_option linter.all false
namespace Go.Proofs.YtdkcgcgefgeooaaGreatDoor.Ow
open Go Go.Eng Go.RowKit
set_option maxRecDepth 100000
theorem getD_get {α : Type} {l : List α} {i : Nat} {d : α} (h : i < l.length) : l.getD i d = l[i] := by simp [List.getD, h]
theorem dOf_no {p w : Int} (h : (p < 0 ∨ w < 0) ∨ 5 ≤ w) : dOf p w = -1 := by
  unfold dOf; rcases h with (h | h) | h <;> simp [h]
theorem dOf_is {p w : Int} (h1 : 0 ≤ p) (h2 : 0 ≤ w) (h3 : w < 5) : dOf p w = IntKind.wrap .i64 (IntKind.wrap .i64 (p * 5) + w) := by
  unfold dOf
  rw [decide_eq_false (by omega : ¬ p < 0), decide_eq_false (by omega : ¬ w < 0), decide_eq_false (by omega : ¬ 5 ≤ w)]; rfl
theorem v29 : Vc g29 300 Tryz.f29 cOf := by
  constructor
  rw [v29_eq]
  simp only [Wr_iff, E_iff, bcase_iff, true_and, and_true, decide_eq_true_eq, decide_eq_false_iff_not, Bool.and_eq_true, Bool.and_eq_false_iff, Bool.or_eq_true, Bool.or_eq_false_iff, Bool.not_eq_true', Bool.not_eq_false', Option.map_some, Option.getD_some, Option.isSome_some, Option.isSome_map, imp_self, nilL, noneO]
  rintro ⟨p, w, ⟨⟩⟩ -
  dsimp only
  refine ⟨fun h => ?_, fun h => ?_⟩
  · rw [dOf_no h]
  · rw [dOf_is (by omega) (by omega) (by omega)]
theorem v11 : Vc g11 300 Tryz.f11 cOf := by
  constructor
  rw [v11_eq]
  simp only [Wr_iff, E_iff, bcase_iff, true_and, and_true, decide_eq_true_eq, decide_eq_false_iff_not, Bool.and_eq_true, Bool.and_eq_false_iff, Bool.or_eq_true, Bool.or_eq_false_iff, Bool.not_eq_true', Bool.not_eq_false', Option.map_some, Option.getD_some, Option.isSome_some, Option.isSome_map, imp_self, nilL, noneO]
  rintro ⟨p, w, ⟨⟩⟩ -
  dsimp only
  refine ⟨fun h => ?_, fun h => ?_⟩
  · rw [dOf_no h]
  · rw [dOf_is (by omega) (by omega) (by omega), Int.mul_comm]
theorem FsI.zero (l : List Int) : FsI l 0 (-1, 0) := ⟨by omega, by omega, rfl⟩
theorem toNat_wrap {i : Int} {n : Nat} (h0 : 0 ≤ i) (hn : n ≤ 9223372036854775807) (hi : i < n) : IntKind.wrap .i64 (i + 1) = i + 1 ∧ (i + 1).toNat = i.toNat + 1 := ⟨wrap_id (by omega) (by omega), by omega⟩
theorem FsI.yes {l : List Int} {i : Int} {p : Int × Int} (h : FsI l i p) (hl : l.length ≤ 9223372036854775807) (hi : i < l.length) (hc : p.1 < 0 ∨ clT (l.getD i.toNat 0) < p.2) :
    FsI l (IntKind.wrap .i64 (i + 1)) (i, clT (l.getD i.toNat 0)) ∧ l.length - (IntKind.wrap .i64 (i + 1)).toNat < l.length - i.toNat := by
  obtain ⟨e1, e2⟩ := toNat_wrap h.i0 hl hi
  have h0 := h.i0
  rw [e1]
  refine ⟨⟨by omega, by omega, ?_⟩, by omega⟩
  rw [e2]
  show _ = bif decide ((fstS l i.toNat).1 < 0) || decide (clT (l.getD i.toNat 0) < (fstS l i.toNat).2) then _ else _
  rw [← h.a]
  rw [show ((i.toNat : Nat) : Int) = i by omega]
  rcases hc with hc | hc <;> rw [decide_eq_true hc] <;> simp only [Bool.true_or, Bool.or_true, cond_true]
theorem FsI.no {l : List Int} {i : Int} {p : Int × Int} (h : FsI l i p) (hl : l.length ≤ 9223372036854775807) (hi : i < l.length) (hc : ¬ p.1 < 0 ∧ ¬ clT (l.getD i.toNat 0) < p.2) :
    FsI l (IntKind.wrap .i64 (i + 1)) p ∧ l.length - (IntKind.wrap .i64 (i + 1)).toNat < l.length - i.toNat := by
  obtain ⟨e1, e2⟩ := toNat_wrap h.i0 hl hi
  have h0 := h.i0
  rw [e1]
  refine ⟨⟨by omega, by omega, ?_⟩, by omega⟩
  rw [e2]
  show _ = bif decide ((fstS l i.toNat).1 < 0) || decide (clT (l.getD i.toNat 0) < (fstS l i.toNat).2) then _ else _
  rw [← h.a, decide_eq_false hc.1, decide_eq_false hc.2]; rfl
theorem FsI.done {l : List Int} {i : Int} {p : Int × Int} (h : FsI l i p) (hi : ¬ i < l.length) : p = fstS l l.length := by
  have := h.i0; have := h.i1
  rw [h.a, show i.toNat = l.length by omega]
theorem v51 : Vc g51 300 Tryz.f51 cFirst.T := by
  constructor
  rw [v51_eq]
  simp only [Wr_iff, E_iff, bcase_iff, true_and, and_true, decide_eq_true_eq, decide_eq_false_iff_not, Bool.and_eq_true, Bool.and_eq_false_iff, Bool.or_eq_true, Bool.or_eq_false_iff, Bool.not_eq_true', Bool.not_eq_false', Option.map_some, Option.getD_some, Option.isSome_some, Option.isSome_map, imp_self, nilL, noneO]
  rintro ⟨l, ⟨⟩⟩ ht
  have hl : l.length ≤ 9223372036854775807 := by
    simp only [typedB, Bool.and_eq_true, decide_eq_true_eq] at ht
    exact ht.1.1
  dsimp only
  refine ⟨FsI.zero _, fun x hx => ⟨fun hi => ⟨hx.i0, hi, fun hc => hx.yes hl hi hc, fun hc => hx.no hl hi hc⟩, fun hi => ?_⟩⟩
  have e := hx.done hi
  rw [← e]
theorem endS_len (l : List Rs) (m : Int) : ∀ k, (endS l m k).length = l.length
  | 0 => by simp [endS]
  | k + 1 => by simp [endS, endS_len l m k]
theorem WhI.zero (l : List Rs) (m : Int) : WhI l m 0 (List.replicate l.length 0) := ⟨by omega, by omega, rfl⟩
theorem WhI.succ {l : List Rs} {m i : Int} {e : List Int} (h : WhI l m i e) (hl : l.length ≤ 1000000) (hi : i < l.length) :
    WhI l m (IntKind.wrap .i64 (i + 1)) (e.set i.toNat (laterF (l.getD i.toNat (0, 0, ())).2.1 m)) ∧ l.length - (IntKind.wrap .i64 (i + 1)).toNat < l.length - i.toNat := by
  obtain ⟨e1, e2⟩ := toNat_wrap h.i0 (by omega) hi
  have h0 := h.i0
  rw [e1]
  refine ⟨⟨by omega, by omega, ?_⟩, by omega⟩
  rw [e2, h.a]; rfl
theorem WhI.len {l : List Rs} {m i : Int} {e : List Int} (h : WhI l m i e) : e.length = l.length := by rw [h.a, endS_len]
theorem WhI.done {l : List Rs} {m i : Int} {e : List Int} (h : WhI l m i e) (hi : ¬ i < l.length) : e = endS l m l.length := by
  have := h.i0; have := h.i1
  rw [h.a, show i.toNat = l.length by omega]
theorem later_yes {t n : Int} (h : min (max t 0) 1073741824 = 1073741824) : laterF t n = min (max t 0) 1073741824 := by
  unfold laterF clT; rw [h]; rfl
theorem later_no {t n : Int} (h : ¬ min (max t 0) 1073741824 = 1073741824) : laterF t n = min (max (IntKind.wrap .i64 (min (max t 0) 1073741824 + min (max n 0) 1073741824)) 0) 1073741824 := by
  unfold laterF clT
  rw [decide_eq_false h, wrap_id (by omega) (by omega)]; rfl
theorem v35 : Vc g35 300 Tryz.f35 cWhen := by
  constructor
  rw [v35_eq]
  simp only [Wr_iff, E_iff, bcase_iff, true_and, and_true, decide_eq_true_eq, decide_eq_false_iff_not, Bool.and_eq_true, Bool.and_eq_false_iff, Bool.or_eq_true, Bool.or_eq_false_iff, Bool.not_eq_true', Bool.not_eq_false', Option.map_some, Option.getD_some, Option.isSome_some, Option.isSome_map, imp_self, nilL, noneO]
  rintro ⟨l, m, ⟨⟩⟩ ht
  dsimp only at *
  have hl : l.length ≤ 1000000 := of_decide_eq_true ht
  refine ⟨by omega, Int.le_refl _, by omega, by omega, ?_, fun x hx => ⟨fun hi => ⟨hx.i0, hi, Int.le_refl _, by simp, fun hc => ⟨hx.i0, by rw [hx.len]; exact hi, ?_⟩, fun hc => ⟨hx.i0, by rw [hx.len]; exact hi, ?_⟩⟩, fun hi => ?_⟩⟩
  · exact WhI.zero l m
  · have this : WhI l m _ (x.2.set x.1.toNat (laterF (l.getD x.1.toNat RestT.zero).2.1 m)) ∧ _ := hx.succ hl hi
    rwa [later_yes hc] at this
  · have this : WhI l m _ (x.2.set x.1.toNat (laterF (l.getD x.1.toNat RestT.zero).2.1 m)) ∧ _ := hx.succ hl hi
    rwa [later_no hc] at this
  · have e := hx.done hi
    rw [e]
    exact Prod.ext rfl (Prod.ext (decide_eq_decide.2 (by omega)) rfl)
theorem v47 : Vc g47 300 Tryz.f47 cRead := by
  constructor
  rw [v47_eq]
  simp only [Wr_iff, E_iff, bcase_iff, true_and, and_true, decide_eq_true_eq, decide_eq_false_iff_not, Bool.and_eq_true, Bool.and_eq_false_iff, Bool.or_eq_true, Bool.or_eq_false_iff, Bool.not_eq_true', Bool.not_eq_false', Option.map_some, Option.getD_some, Option.isSome_some, Option.isSome_map, imp_self, nilL, noneO]
  rintro ⟨s, ⟨⟩⟩ h
  dsimp only at *
  exact ⟨fun _ => trivial, fun hn => absurd h hn⟩
theorem v39 : Vc g39 300 Tryz.f39 cRace := by
  constructor
  rw [v39_eq]
  simp only [Wr_iff, E_iff, bcase_iff, true_and, and_true, decide_eq_true_eq, decide_eq_false_iff_not, Bool.and_eq_true, Bool.and_eq_false_iff, Bool.or_eq_true, Bool.or_eq_false_iff, Bool.not_eq_true', Bool.not_eq_false', Option.map_some, Option.getD_some, Option.isSome_some, Option.isSome_map, imp_self, nilL, noneO]
  intro x h
  exact ⟨by omega, rfl⟩
theorem v7 : Vc g7 300 Tryz.f7 cBeginO := by
  constructor
  rw [v7_eq]
  simp only [Wr_iff, E_iff, bcase_iff, true_and, and_true, decide_eq_true_eq, decide_eq_false_iff_not, Bool.and_eq_true, Bool.and_eq_false_iff, Bool.or_eq_true, Bool.or_eq_false_iff, Bool.not_eq_true', Bool.not_eq_false', Option.map_some, Option.getD_some, Option.isSome_some, Option.isSome_map, imp_self, nilL, noneO]
  intro x _
  rfl
theorem v14 : Vc g14 300 Tryz.f14 cGreatO := by
  constructor
  rw [v14_eq]
  simp only [Wr_iff, E_iff, bcase_iff, true_and, and_true, decide_eq_true_eq, decide_eq_false_iff_not, Bool.and_eq_true, Bool.and_eq_false_iff, Bool.or_eq_true, Bool.or_eq_false_iff, Bool.not_eq_true', Bool.not_eq_false', Option.map_some, Option.getD_some, Option.isSome_some, Option.isSome_map, imp_self, nilL, noneO]
  intro x _
  rfl
theorem OvI.zero (l : List Ow) : OvI l 0 := ⟨by omega, by omega, rfl⟩
theorem OvI.succ {l : List Ow} {i : Int} (h : OvI l i) (hl : l.length ≤ 9223372036854775807) (hi : i < l.length) (hx : overO (l.getD i.toNat OwnT.zero) = true) : OvI l (IntKind.wrap .i64 (i + 1)) ∧ l.length - (IntKind.wrap .i64 (i + 1)).toNat < l.length - i.toNat := by
  obtain ⟨e1, e2⟩ := toNat_wrap h.i0 hl hi
  have h0 := h.i0
  rw [e1]
  refine ⟨⟨by omega, by omega, ?_⟩, by omega⟩
  have hlt : i.toNat < l.length := by omega
  rw [e2, List.take_add_one, List.getElem?_eq_getElem hlt, List.all_append, h.a]
  have e3 : (l.getD i.toNat OwnT.zero : Ow) = l[i.toNat] := getD_get hlt
  replace hx : overO l[i.toNat] = true := e3 ▸ hx
  simp [hx]
theorem OvI.no {l : List Ow} {i : Int} (h : OvI l i) (hi : i < l.length) (hx : overO (l.getD i.toNat OwnT.zero) = false) : allOv l = false := by
  have h0 := h.i0
  have hlt : i.toNat < l.length := by omega
  have e3 : (l.getD i.toNat OwnT.zero : Ow) = l[i.toNat] := getD_get hlt
  replace hx : overO l[i.toNat] = false := e3 ▸ hx
  exact List.all_eq_false.2 ⟨_, List.getElem_mem hlt, by rw [hx]; simp⟩
theorem OvI.done {l : List Ow} {i : Int} (h : OvI l i) (hi : ¬ i < l.length) : allOv l = true := by
  have := h.a
  rwa [List.take_of_length_le (by omega)] at this
theorem v9 : Vc g9 300 Tryz.f9 cOverO.T := by
  constructor
  rw [v9_eq]
  simp only [Wr_iff, E_iff, bcase_iff, true_and, and_true, decide_eq_true_eq, decide_eq_false_iff_not, Bool.and_eq_true, Bool.and_eq_false_iff, Bool.or_eq_true, Bool.or_eq_false_iff, Bool.not_eq_true', Bool.not_eq_false', Option.map_some, Option.getD_some, Option.isSome_some, Option.isSome_map, imp_self, nilL, noneO]
  rintro ⟨l, ⟨⟩⟩ ht
  dsimp only at *
  have hl : l.length ≤ 9223372036854775807 := by
    simp only [typedB, Bool.and_eq_true, decide_eq_true_eq] at ht
    exact ht.1.1
  refine ⟨OvI.zero l, fun x hx => ⟨fun hi => ⟨hx.i0, hi, fun hc => ?_, fun hc => ?_⟩, fun hi => ?_⟩⟩
  · rw [hx.no hi (by unfold overO ovB bkO; rcases hc with hc | hc <;> simp only [hc, Bool.false_and, Bool.not_true, Bool.and_false]), decide_eq_true (show x ≥ 0 from hx.i0)]; rfl
  · exact hx.succ hl hi (by unfold overO ovB bkO; simp only [hc.1, hc.2, Bool.not_false, Bool.and_self])
  · rw [hx.done hi]; rfl
theorem cases_0 {o : Ow} (h : (bkO o).2.2.2.2.2.2.1 = true ∧ onF (bkO o).2.2.2.2.1 = false) : casesL o = [] := by
  unfold casesL overO ovB; rw [h.1, h.2]; rfl
theorem not_ov {o : Ow} (h : (bkO o).2.2.2.2.2.2.1 = false ∨ onF (bkO o).2.2.2.2.1 = true) : overO o = false := by
  unfold overO ovB; rcases h with h | h <;> rw [h] <;> simp
theorem cases_1 {o : Ow} (h : (bkO o).2.2.2.2.2.2.1 = false ∨ onF (bkO o).2.2.2.2.1 = true) (hf : onF (bkO o).2.2.2.2.1 = true) (hi : 0 < (bkO o).2.1.length) :
    casesL o = [caseI o.1, caseR (bkO o).2.2.2.2.1.1, caseU (whenF (bkO o).2.1 (bkO o).1.2.2.2.2.2.1)] := by
  unfold casesL; rw [not_ov h, hf, decide_eq_true hi]; rfl
theorem cases_2 {o : Ow} (h : (bkO o).2.2.2.2.2.2.1 = false ∨ onF (bkO o).2.2.2.2.1 = true) (hf : onF (bkO o).2.2.2.2.1 = true) (hi : ¬ 0 < (bkO o).2.1.length) :
    casesL o = [caseI o.1, caseR (bkO o).2.2.2.2.1.1] := by
  unfold casesL; rw [not_ov h, hf, decide_eq_false hi]; rfl
theorem cases_3 {o : Ow} (h : (bkO o).2.2.2.2.2.2.1 = false ∨ onF (bkO o).2.2.2.2.1 = true) (hf : onF (bkO o).2.2.2.2.1 = false) (hi : 0 < (bkO o).2.1.length) :
    casesL o = [caseI o.1, caseU (whenF (bkO o).2.1 (bkO o).1.2.2.2.2.2.1)] := by
  unfold casesL; rw [not_ov h, hf, decide_eq_true hi]; rfl
theorem cases_4 {o : Ow} (h : (bkO o).2.2.2.2.2.2.1 = false ∨ onF (bkO o).2.2.2.2.1 = true) (hf : onF (bkO o).2.2.2.2.1 = false) (hi : ¬ 0 < (bkO o).2.1.length) :
    casesL o = [caseI o.1] := by
  unfold casesL; rw [not_ov h, hf, decide_eq_false hi]; rfl
theorem cases_len (o : Ow) : (casesL o).length ≤ 3 := by
  unfold casesL
  cases overO o <;> cases onF (bkO o).2.2.2.2.1 <;> cases decide (0 < (bkO o).2.1.length) <;> simp
theorem OfI.zero (l : List On) : OfI l 0 [] := ⟨by omega, by omega, rfl⟩
theorem OfI.succ {l : List On} {i : Int} {o : List Of} (h : OfI l i o) (hl : l.length ≤ 1000000) (hi : i < l.length) : OfI l (IntKind.wrap .i64 (i + 1)) (o ++ [(l.getD i.toNat OneT.zero).1]) ∧ l.length - (IntKind.wrap .i64 (i + 1)).toNat < l.length - i.toNat := by
  obtain ⟨e1, e2⟩ := toNat_wrap h.i0 (by omega) hi
  have h0 := h.i0
  rw [e1]
  refine ⟨⟨by omega, by omega, ?_⟩, by omega⟩
  have hlt : i.toNat < l.length := by omega
  rw [e2, h.a, List.take_add_one, List.getElem?_eq_getElem hlt, getD_get hlt]
  unfold offL
  rw [List.map_append]; rfl
theorem OfI.len {l : List On} {i : Int} {o : List Of} (h : OfI l i o) : o.length ≤ l.length := by
  rw [h.a]; unfold offL; rw [List.length_map, List.length_take]; omega
theorem OfI.done {l : List On} {i : Int} {o : List Of} (h : OfI l i o) (hi : ¬ i < l.length) : o = offL l := by
  have := h.a
  rwa [List.take_of_length_le (by omega)] at this
theorem v8 : Vc g8 300 Tryz.f8 cOffers := by
  constructor
  rw [v8_eq]
  simp only [Wr_iff, E_iff, bcase_iff, true_and, and_true, decide_eq_true_eq, decide_eq_false_iff_not, Bool.and_eq_true, Bool.and_eq_false_iff, Bool.or_eq_true, Bool.or_eq_false_iff, Bool.not_eq_true', Bool.not_eq_false', Option.map_some, Option.getD_some, Option.isSome_some, Option.isSome_map, imp_self, nilL, noneO]
  rintro ⟨o, ⟨⟩⟩ ht
  dsimp only at *
  have hs := (szB_iff _).1 ht
  have hto : topOk (bkO o).2.1 = true := decide_eq_true hs.1
  refine ⟨⟨fun h => ⟨(cases_0 h).symm, rfl⟩, fun h => ⟨fun hf => ⟨by simp, hto, fun hi => ⟨by simp, (cases_1 h hf hi).symm⟩, fun hi => (cases_2 h hf hi).symm⟩, fun hf => ⟨hto, fun hi => ⟨by simp, (cases_3 h hf hi).symm⟩, fun hi => (cases_4 h hf hi).symm⟩⟩⟩, ?_⟩
  rintro l rfl
  have hl := cases_len o
  refine ⟨OfI.zero _, fun x hx => ⟨fun hi => ⟨hx.i0, hi, ?_, hx.succ (by omega) hi⟩, fun hi => ?_⟩⟩
  · have := hx.len
    simp; omega
  · rw [hx.done hi]
end Go.Proofs.YtdkcgcgefgeooaaGreatDoor.Ow
namespace Go.Proofs.YtdkcgcgefgeooaaGreatDoor.Ow
open Go Go.Eng 
set_option maxRecDepth 100000
theorem val29 : Valid Tryz.prog GW 29 cOf := mkValid gws To.mix To.tab_ok To.eqs_ok g29 rfl allV_nil allI_nil Tryz.func29 (by kernel_rfl) v29
theorem val11 : Valid Tryz.prog GW 11 cOf := mkValid gws To.mix To.tab_ok To.eqs_ok g11 rfl allV_nil allI_nil Tryz.func11 (by kernel_rfl) v11
theorem val51 : Valid Tryz.prog GW 51 cFirst := Valid.T (mkValid gws To.mix To.tab_ok To.eqs_ok g51 rfl allV_nil (allI_cons Tryz.func64 (by kernel_rfl) (allI_cons Tryz.func66 (by kernel_rfl) allI_nil)) Tryz.func51 (by kernel_rfl) v51)
theorem val35 : Valid Tryz.prog GW 35 cWhen := mkValid gws To.mix To.tab_ok To.eqs_ok g35 rfl (allV_cons val51 allV_nil) (allI_cons Tryz.func50 (by kernel_rfl) (allI_cons Tryz.func64 (by kernel_rfl) (allI_cons Tryz.func65 (by kernel_rfl) allI_nil))) Tryz.func35 (by kernel_rfl) v35
theorem val47 : Valid Tryz.prog GW 47 cRead := mkValid gws To.mix To.tab_ok To.eqs_ok g47 rfl allV_nil allI_nil Tryz.func47 (by kernel_rfl) v47
theorem val39 : Valid Tryz.prog GW 39 cRace := mkValid gws To.mix To.tab_ok To.eqs_ok g39 rfl (allV_cons val53 allV_nil) allI_nil Tryz.func39 (by kernel_rfl) v39
theorem val7 : Valid Tryz.prog GW 7 cBeginO := mkValid gws To.mix To.tab_ok To.eqs_ok g7 rfl (allV_cons val18 allV_nil) allI_nil Tryz.func7 (by kernel_rfl) v7
theorem val14 : Valid Tryz.prog GW 14 cGreatO := mkValid gws To.mix To.tab_ok To.eqs_ok g14 rfl (allV_cons val25 allV_nil) allI_nil Tryz.func14 (by kernel_rfl) v14
theorem val9 : Valid Tryz.prog GW 9 cOverO := Valid.T (mkValid gws To.mix To.tab_ok To.eqs_ok g9 rfl (allV_cons val22 allV_nil) (allI_cons Tryz.func20 (by kernel_rfl) (allI_cons Tryz.func21 (by kernel_rfl) (allI_cons Tryz.func37 (by kernel_rfl) allI_nil))) Tryz.func9 (by kernel_rfl) v9)
theorem val8 : Valid Tryz.prog GW 8 cOffers := mkValid gws To.mix To.tab_ok To.eqs_ok g8 rfl (allV_cons val22 (allV_cons val29 (allV_cons val32 (allV_cons val35 allV_nil)))) (allI_cons Tryz.func19 (by kernel_rfl) allI_nil) Tryz.func8 (by kernel_rfl) v8
end Go.Proofs.YtdkcgcgefgeooaaGreatDoor.Ow
namespace Go.Proofs.YtdkcgcgefgeooaaGreatDoor.Ow
open Go Go.Eng 
set_option maxRecDepth 100000
noncomputable def g12 : Cfg := { tab := To.tab, cons := [(22, cOver), (29, cOf), (32, cOn), (35, cWhen), (39, cRace), (40, cStarted), (47, cRead), (49, cTold), (52, cOld), (55, cAsk), (56, cBack), (57, cQuit), (58, cClose)], dyn := [(41, 30), (41, 33), (41, 36), (11, 42), (11, 43), (11, 44), (11, 45)], qcons := [(31, qLet)], inls := [(19, Tryz.f19), (23, Tryz.f23), (30, Tryz.f30), (33, Tryz.f33), (34, Tryz.f34), (36, Tryz.f36), (38, Tryz.f38), (42, Tryz.f42), (43, Tryz.f43), (44, Tryz.f44), (45, Tryz.f45), (48, Tryz.f48)], loops := [(240002, reA), (240007, shA)], cuts := [(3, caT), (7, doT)], unroll := false, arrs := [], keys := [] }
end Go.Proofs.YtdkcgcgefgeooaaGreatDoor.Ow
