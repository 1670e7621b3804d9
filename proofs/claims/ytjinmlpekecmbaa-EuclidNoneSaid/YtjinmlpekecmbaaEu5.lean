/- What a system's methods come to (euclid.run and what it calls), walked by hand: they answer as the plain functions of the same names do, wherever those answer; no condition but what stands in each theorem. Printed in part by programs of this session. -/
import Derived.Test.YtjinmlpekecmbaaEu3
import Derived.Test.YtjinmlpekecmbaaEu4
namespace Go.Proofs.Ytjinmlpekecmbaa.PEuclidNone
open Go.RowKit Go.Proofs.YtjinmlpekecmbaaW.PrintWords Go.Proofs.YtjinmlpekecmbaaW.PrintLast Go.Proofs.YtjinmlpekecmbaaW.PrintMore
open Go.Proofs.YtjinmlpekecmbaaW.PrintWords renaming blk_drewN → zN, blk_drew → zD, blk_alloc → zA, below_alloc → yA, pw_below_drewN → yN, below_drew1 → yD, below_set → yS, gate_callee → zC
open Go.Proofs.YtjinmlpekecmbaaW.PrintWords.Aside0 renaming mk → zK
attribute [local go_sem] max2_int min2_int max_two min_two max_three min_three max_four min_four   -- for this text's walks alone
set_option linter.unusedVariables false
set_option linter.unusedSimpArgs false
/-- A row of rows that lie apart. -/
def PSr {α : Type} (d : Kd α) (e base : Nat) (v : Value) (xs : List α) : (Nat → Prop) → World → Prop := fun N W => Kd.S d e W base (fun b => ¬ N b) v xs
theorem gPSr {α : Type} {d : Kd α} {e base : Nat} {v : Value} {xs : List α} : Good (PSr d e base v xs) :=
  ⟨fun h hN => h.elim (fun f h => ⟨f, (good_R (Kd.tag f d) e base v _).mono h hN⟩), fun h hs => h.elim (fun f h => ⟨f, (good_R (Kd.tag f d) e base v _).step h hs⟩)⟩
def TN : (Nat → Prop) → World → Prop := fun _ _ => True
theorem tTN {M : Nat → Prop} : Ts M TN := ts_true M
theorem gTN : Good TN := good_true
/-- What is read of elder rows alone. -/
def PVb {α : Type} (d : Kd α) (e bnd : Nat) (v : Value) (xs : List α) : (Nat → Prop) → World → Prop := fun N W => Kd.V d e W 0 (fun b => b < bnd ∧ ¬ N b) v xs
theorem gPVb {α : Type} {d : Kd α} {e bnd : Nat} {v : Value} {xs : List α} : Good (PVb d e bnd v xs) :=
  ⟨fun h hN => Kd.V_mono (Kd.V_bound h) (fun b hb => ⟨hb.1.1, fun hn => hb.1.2 (hN b hb.2 hn)⟩), fun h hs => Kd.V_step h (fun k hk hlt => hs.block k hlt hk.2)⟩
theorem PVb.all {α : Type} {d : Kd α} {e bnd : Nat} {v : Value} {xs : List α} {N : Nat → Prop} {W : World} (h : PVb d e bnd v xs N W) : Kd.V d e W 0 (fun b => ¬ N b) v xs := Kd.V_mono h (fun _ hb => hb.2)
/-- What is read between two equations: these, the forms, the pivots. -/
def PRn (b0 : Nat) (A0 : Option Addr) (c0 : Nat) (l0 : List S41) (cs : Array Value) (us : List S41) (v : Value) (ps : List S96) : (Nat → Prop) → World → Prop := PA (PVb k41 41 b0 (.slice A0 l0.length c0) l0) (PA (VE b0 cs us) (PR k96 96 b0 v ps))
section
variable {w W W' : World} {S M RB : Nat → Prop} {T P : (Nat → Prop) → World → Prop} {L : List (Nat × Array Value × Nat)}
/-- A row of what is read has been turned. -/
theorem Cx.grow (h : Cx w S M RB T P W L) {S' : Nat → Prop} {P' : (Nat → Prop) → World → Prop} (hF : Fs S' W W') (hS : ∀ b, S' b → w.heap.size ≤ b ∧ ¬ Nx M RB L b) (hp : P' (Nx M RB L) W') (gd : Good P') : Cx w S M RB T P' W' L :=
  ⟨fun x hx => ⟨(hF.block _ (blk_lt (h.lk x hx).1) (fun hs => (hS _ hs).2 (.inr (.inr ⟨x, hx, rfl⟩)))).trans (h.lk x hx).1, (h.lk x hx).2⟩, h.ld, fun b hb => Nat.lt_of_lt_of_le (h.mb b hb) hF.size, h.rb, h.mr,
    h.ts _ _ _ h.t hF.size (fun b hlt hb => hF.block b hlt (fun hs => (hS b hs).2 (hb.elim .inl (fun hb => .inr (.inl hb))))), h.ts, hp, gd, h.fs.trans hF (fun _ h _ => h) (fun b hs hlt => by have := (hS b hs).1; omega)⟩
/-- A block of one's own, and a row, are what is turned from here on. -/
theorem Cx.promote {gW tW gV : Nat} {cW : Array Value} (h : Cx w S (fun _ => False) RB T P W ((gW, cW, tW) :: L)) (hgV : gV = gW ∨ RB gV) {T' P' : (Nat → Prop) → World → Prop} (ht : T' (fun _ => False) W) (ts : Ts (fun b => b = gW ∨ b = gV) T') (hp : P' (Nx (fun b => b = gW ∨ b = gV) (fun _ => False) L) W) (gd : Good P') :
    Cx w S (fun b => b = gW ∨ b = gV) (fun _ => False) T' P' W L := by
  have hgW := h.lk (gW, cW, tW) (List.mem_cons_self ..)
  have hd := List.pairwise_cons.1 h.ld
  refine ⟨fun x hx => ⟨(h.lk x (List.mem_cons_of_mem _ hx)).1, (h.lk x (List.mem_cons_of_mem _ hx)).2.1, fun hm => ?_, fun e => e⟩, hd.2, fun b hb => ?_, fun b hb => hb.elim, fun _ _ e => e, ht, ts, hp, gd, h.fs⟩
  · have hne : gW ≠ x.1 := hd.1 x hx
    have hr := (h.lk x (List.mem_cons_of_mem _ hx)).2.2.2
    rcases hm with e | e
    · exact hne e.symm
    · rcases hgV with e2 | e2
      · exact hne (e2 ▸ e.symm)
      · exact hr (e ▸ e2)
  · rcases hb with (e | e) | hb
    · exact e ▸ blk_lt hgW.1
    · rcases hgV with e2 | e2
      · rw [e, e2]; exact blk_lt hgW.1
      · exact h.mb b (.inr (e ▸ e2))
    · exact hb.elim
theorem Cx.one {g t : Nat} {cs : Array Value} (h4 : W.heap[g]? = some (.cells cs t (0, 0))) (hg : w.heap.size ≤ g) (hf : Fs S w W) (hp : P (Nx (fun _ => False) (fun _ => False) [(g, cs, t)]) W) (gd : Good P) : Cx w S (fun _ => False) (fun _ => False) TN P W [(g, cs, t)] :=
  ⟨fun x hx => by rw [List.mem_singleton.1 hx]; exact ⟨h4, hg, fun e => e, fun e => e⟩, List.pairwise_singleton _ _, fun b hb => hb.elim (fun h => h.elim) (fun h => h.elim), fun b hb => hb.elim, fun _ _ e => e, trivial, ts_true _, hp, gd, hf⟩
end
theorem TF_told {n0 : Nat} {M Z RB RB' S' : Nat → Prop} {fl : List (Int × Value)} {fS : List S41} {W W' : World} {v : Value} {cur : List S44} (K : Int)
    (htf : TF n0 M Z fl fS RB W) (htr : Kd.R k44 44 W n0 RB v cur) (hz : ∀ b, v.ownBlock = some b → Z b) (hF : Fs S' W W') (hn : ∀ b, S' b → ∀ cells, W.heap[b]? ≠ some (.cells cells 44 (0, 0))) (hr : ∀ b, RB b → RB' b) :
    TF n0 M Z (fl ++ [(K, v)]) (fS ++ [⟨K, cur⟩]) RB' W' := by
  refine TF.snoc (kTF htf hF (fun b hs _ => hn b hs) hr) K v cur ?_
  have h1 := R44_ok (ok' := fun b => (M b ∨ RB b) ∧ Z b) htr (fun b hb => ⟨.inr (htr.1 b hb), hz b hb⟩)
  exact Kd.R_mono (Kd.R_step (R44_typed h1) (fun k hk hlt => hF.block k hlt (fun hs => hk.2.2.elim (fun cells hc => hn k hs cells hc)))) (fun k hk => ⟨hk.1.1.imp (fun h => h) (hr k), hk.1.2⟩)
theorem FD_snoc {n0 c0 : Nat} {M Z RB : Nat → Prop} {fl : List (Int × Value)} {fS : List S41} {W : World} {K : Int} {v : Value} (h : FD fl) (ht : TF n0 M Z fl fS RB W) (hc : W.heap.size ≤ c0) (hv : ∀ g, v.ownBlock = some g → c0 ≤ g) : FD (fl ++ [(K, v)]) := by
  have old : ∀ (i : Nat) (a : Int × Value), fl[i]? = some a → ∀ g, a.2.ownBlock = some g → g < W.heap.size := by
    intro i a ha g hg
    have hi : i < fS.length := by rw [← ht.1]; exact (List.getElem?_eq_some_iff.1 ha).1
    obtain ⟨u, h1, h2⟩ := ht.2 i hi
    rw [ha] at h1
    injection h1 with h1
    subst h1
    exact ((Kd.R_bound h2).1 g hg).2.2.1
  intro i j a b hij ha hb g hga hgb
  rcases Nat.lt_or_ge i fl.length with hi | hi <;> rcases Nat.lt_or_ge j fl.length with hj | hj
  · rw [List.getElem?_append_left hi] at ha
    rw [List.getElem?_append_left hj] at hb
    exact h i j a b hij ha hb g hga hgb
  · rw [List.getElem?_append_left hi] at ha
    have hlj := (List.getElem?_eq_some_iff.1 hb).1
    have e : j = fl.length := by simp at hlj; omega
    subst e
    rw [List.getElem?_concat_length] at hb
    injection hb with hb
    subst hb
    have h5 := old i a ha g hga
    have h6 := hv g hgb
    omega
  · rw [List.getElem?_append_left hj] at hb
    have hli := (List.getElem?_eq_some_iff.1 ha).1
    have e : i = fl.length := by simp at hli; omega
    subst e
    rw [List.getElem?_concat_length] at ha
    injection ha with ha
    subst ha
    have h5 := old j b hb g hgb
    have h6 := hv g hga
    omega
  · have hli := (List.getElem?_eq_some_iff.1 ha).1
    have hlj := (List.getElem?_eq_some_iff.1 hb).1
    simp at hli hlj
    omega
/-- The cells of a row of forms. -/
theorem run_cells {n0 g c : Nat} {RB : Nat → Prop} {fl : List (Int × Value)} {fS : List S41} {W : World} (h : Kd.R kraw 41 W n0 RB (.slice (some ⟨g, 0, none⟩) fl.length c) fl) (ht : TF n0 (fun _ => False) (fun _ => True) fl fS RB W) (hd : FD fl) :
    ∃ cs, W.heap[g]? = some (.cells cs 41 (0, 0)) ∧ VD cs fl.length ∧ ∀ (i : Nat) (hi : i < fS.length), ∃ s : Value, cs[i * 2]? = some (.int .i64 (fS[i]).f0) ∧ cs[i * 2 + 1]? = some s ∧ Kd.R k44 44 W n0 (fun b => RB b ∧ ∃ cells, W.heap[b]? = some (.cells cells 44 (0, 0))) s (fS[i]).f1 := by
  obtain ⟨cs, hb⟩ := Kd.R_typed h g rfl
  have key : ∀ (i : Nat) (a : Int × Value), fl[i]? = some a → cs[i * 2]? = some (.int .i64 a.1) ∧ cs[i * 2 + 1]? = some a.2 := by
    intro i a ha
    have hi := (List.getElem?_eq_some_iff.1 ha).1
    obtain ⟨c1, hl, hM, hc, _⟩ := Kd.R_elem h a (i : Int) (by omega) (by omega)
    have hg : fl.getD ((i : Int).toNat) a = a := by
      rw [List.getD_eq_getElem?_getD]
      show (fl[i]?).getD a = a
      rw [ha]; rfl
    rw [hg] at hM
    have e : c1 = [.int .i64 a.1, a.2] := hM.1
    subst e
    have h0 := hc 0 _ rfl
    have h1 := hc 1 _ rfl
    exact ⟨(blk_cell hb _).symm.trans h0, (blk_cell hb _).symm.trans h1⟩
  refine ⟨cs, hb, fun i j s t hi hj hij hs ht2 b hsb htb => ?_, fun i hi => ?_⟩
  · have h1 := (key i _ (List.getElem?_eq_getElem hi)).2
    have h2 := (key j _ (List.getElem?_eq_getElem hj)).2
    rw [hs] at h1
    rw [ht2] at h2
    injection h1 with h1
    injection h2 with h2
    exact hd i j _ _ hij (List.getElem?_eq_getElem hi) (List.getElem?_eq_getElem hj) b (h1 ▸ hsb) (h2 ▸ htb)
  · obtain ⟨v, h1, h2⟩ := ht.2 i hi
    exact ⟨v, (key i _ h1).1, (key i _ h1).2, Kd.R_mono (R44_typed h2) (fun b hb => ⟨hb.1.1.elim (fun h => h.elim) (fun h => h), hb.2.2⟩)⟩
theorem Rint_set {W : World} {base g n cap : Nat} {ok : Nat → Prop} {xs : List Int} (h : Kd.R (Kd.int .i64) 2 W base ok (.slice (some ⟨g, 0, none⟩) n cap) xs) (i : Int) (h0 : 0 ≤ i) (hi : i < n) (z : Int) :
    (∃ u, W.cell? ⟨g, i.toNat, none⟩ = some (.int .i64 u)) ∧ W.frozen? ⟨g, i.toNat, none⟩ = false ∧ Kd.R (Kd.int .i64) 2 (W.setCell ⟨g, i.toNat, none⟩ (.int .i64 z)) base ok (.slice (some ⟨g, 0, none⟩) n cap) (xs.set i.toNat z) := by
  obtain ⟨hn, _, _⟩ := Kd.R_reads' h
  subst hn
  have h1 := Kd.R_cell (0 : Int) h i h0 hi
  exact ⟨⟨_, h1.1⟩, h1.2, (Kd.R_put h i z).1⟩
theorem Rint_ok {W : World} {base : Nat} {ok ok' : Nat → Prop} {v : Value} {xs : List Int} (h : Kd.R (Kd.int .i64) 2 W base ok v xs) (h' : ∀ k, v.ownBlock = some k → ok' k) : Kd.R (Kd.int .i64) 2 W base ok' v xs := by
  obtain ⟨_, inner, ho, hr⟩ := h
  exact ⟨h', inner, ho, hr.imp_ (fun p c hp => hp)⟩
theorem VE_typed {n0 : Nat} {cs : Array Value} {xs : List S41} {N : Nat → Prop} {W : World} (h : VE n0 cs xs N W) : ∀ (i : Nat) (hi : i < xs.length), ∃ s : Value, cs[i * 2]? = some (.int .i64 (xs[i]).f0) ∧ cs[i * 2 + 1]? = some s ∧ Kd.R k44 44 W n0 (fun b => ¬ N b ∧ n0 ≤ b ∧ b < W.heap.size ∧ ∃ cells, W.heap[b]? = some (.cells cells 44 (0, 0))) s (xs[i]).f1 := fun i hi => by
  obtain ⟨s, h1, h2, h3⟩ := h i hi
  exact ⟨s, h1, h2, Kd.R_mono (Kd.R_bound (R44_typed h3)) (fun b hb => ⟨hb.1.1, hb.2.1, hb.2.2.1, hb.1.2.2⟩)⟩
/-- The forms stay while blocks are turned that hold none of their rows. -/
theorem VE_keep {n0 : Nat} {cs : Array Value} {xs : List S41} {N S' : Nat → Prop} {W W' : World} (h : VE n0 cs xs N W) (hF : Fs S' W W') (hn : ∀ b, S' b → ∀ cells, W.heap[b]? ≠ some (.cells cells 44 (0, 0))) : VE n0 cs xs N W' := fun i hi => by
  obtain ⟨s, h1, h2, h3⟩ := VE_typed h i hi
  exact ⟨s, h1, h2, Kd.R_mono (Kd.R_step h3 (fun k hk hlt => hF.block k hlt (fun hs => hk.2.2.2.elim (fun cells hc => hn k hs cells hc)))) (fun b hb => hb.1)⟩
theorem pivots_typed {n0 : Nat} {v : Value} {ps : List S96} {N : Nat → Prop} {W : World} (h : Kd.R k96 96 W n0 (fun b => ¬ N b) v ps) : Kd.R k96 96 W n0 (fun b => ¬ N b ∧ ∃ cells, W.heap[b]? = some (.cells cells 96 (0, 0)) ∨ W.heap[b]? = some (.cells cells 2 (0, 0))) v ps :=
  Kd.R_mono (Kd.R_bound h) (fun b hb => ⟨hb.1, by
    obtain ⟨q, hq, cells, hc⟩ := hb.2.2.2
    have e : q = 96 ∨ q = 2 := by simpa [k96, k88, Kd.iso, Kd.pair, Kd.int, Kd.bool, Kd.slice, Kd.scalar] using hq
    rcases e with rfl | rfl
    · exact ⟨cells, .inl hc⟩
    · exact ⟨cells, .inr hc⟩⟩)
/-! ### a system is solved -/
def euclid_vars (n : Nat) : List S41 := (List.range n).map (fun (i : Nat) => (⟨0, [⟨(i : Int), 1⟩]⟩ : S41))
theorem euclid_vars_succ (n : Nat) : euclid_vars n ++ [⟨0, [⟨(n : Int), 1⟩]⟩] = euclid_vars (n + 1) := by simp [euclid_vars, List.range_succ]
def euclid_run.l0 (k : Nat) (eqs : List S41) (n : Nat) : List S41 → Nat → List S41 → List S96 → Option (List S41 × Int × Bool × List Int × Int × Int)
  | [], _, xs, ps => euclid_para.f k xs ps 0 n
  | y :: rest, i, xs, ps =>
    (euclid_over.f k xs 0 y.f0 y.f1).bind fun o => (euclid_clear.f k ps o.2 o.1 ⟨(List.replicate eqs.length (0 : Int)).set i 1, 1, true⟩).bind fun c => (euclid_reduce.f k xs c.2.2 c.1).bind fun d =>
      if d.2.2 = 0 then
        (if (if d.1.f1.length = 1 then (rd_T44 d.1.f1 0).f1 else 0) = 0 then some d.1.f0 else (num_Mod.f d.1.f0 (if d.1.f1.length = 1 then (rd_T44 d.1.f1 0).f1 else 0)).bind fun m => some m.1).bind fun re =>
          if re = 0 then
            (if (if d.1.f1.length = 1 then (rd_T44 d.1.f1 0).f1 else 0) = 0 then euclid_run.l0 k eqs n rest (i + 1) d.2.1 ps else euclid_run.l0 k eqs n rest (i + 1) d.2.1 (ps ++ [⟨(rd_T44 d.1.f1 0).f0, (if d.1.f1.length = 1 then (rd_T44 d.1.f1 0).f1 else 0), d.1.f0, c.2.1⟩]))
          else (euclid_witness.f k c.2.1.f0 c.2.1.f1 c.2.1.f2 (if d.1.f1.length = 1 then (rd_T44 d.1.f1 0).f1 else 0) d.1.f0).bind fun wi => (if wi.2.2 = 0 then euclid_Check.f k eqs wi.1 wi.2.1 else some wi.2.2).bind fun e => if e = 0 then some ([], 0, false, wi.1, wi.2.1, 0) else some ([], 0, false, [], 0, 5)
      else some ([], 0, false, [], 0, d.2.2)
/-- The solutions: the forms, how many parameters, whether; or the numbers of a witness; the error. -/
def euclid_run.f (k : Nat) (l0 : List S41) (a1 : Int) : Option (List S41 × Int × Bool × List Int × Int × Int) :=
  (euclid_asked.f k l0 a1).bind fun e => if e = 0 then (if 0 ≤ a1 ∧ a1 ≤ 64 ∧ l0.length ≤ 64 then euclid_run.l0 k l0 a1.toNat l0 0 (euclid_vars a1.toNat) [] else none) else some ([], 0, false, [], 0, e)
theorem euclid_over.callsN (k : Nat) (n0 n : Nat) (M : Nat → Prop) (gW gV : Nat) (Av : Option Addr) (cv : Nat) (pv : Value) (err : Int) (cs : Array Value) (xs : List S41) (K0 : Int) (A0 : Option Addr) (c0 : Nat) (l : List S44) (r : S41) (er : Int) (w : World)
    (hM : ∀ b, M b → b < w.heap.size) (hMW : M gW) (hMV : M gV) (hne : 0 < n → gV ≠ gW) (hAv : 0 < n → Av = some ⟨gV, 0, none⟩) (hnn : xs.length = n)
    (hW : w.heap[gW]? = some (.cells #[.slice Av n cv, pv, .int .i64 err] 86 (0, 0))) (hV : 0 < n → w.heap[gV]? = some (.cells cs 41 (0, 0))) (hve : VE n0 cs xs M w)
    (hl : Kd.V k44 44 w 0 (fun b => ¬ M b) (.slice A0 l.length c0) l) (h : euclid_over.f k xs err K0 l = some (r, er)) :
    Calls Try.prog 41 #[.pointer (some ⟨gW, 0, none⟩), .agg #[.int .i64 K0, .slice A0 l.length c0]] w fun e w' => ∃ v, e = .returned (.agg #[.int .i64 r.f0, v]) ∧ Kd.R k44 44 w' w.heap.size (fun b => w.heap.size ≤ b) v r.f1 ∧ Fs (fun b => b = gW) w w' ∧ w'.heap[gW]? = some (.cells #[.slice Av n cv, pv, .int .i64 er] 86 (0, 0)) := by
  subst hnn
  exact euclid_over.calls k n0 M gW gV Av cv pv err cs xs K0 A0 c0 l r er w hM hMW hMV hne hAv hW hV hve hl h
/-- What the telling of the solutions may turn. -/
def euclid_Mp (n0 gW gV : Nat) (W : World) : Nat → Prop := fun b => n0 ≤ b ∧ b < W.heap.size ∧ (b = gW ∨ b = gV ∨ ∃ cells, W.heap[b]? = some (.cells cells 44 (0, 0)))
theorem run_para {n0 gW gV : Nat} {cs : Array Value} {us : List S41} {ps : List S96} {v : Value} {N : Nat → Prop} {W : World} (hve : VE n0 cs us N W) (hpp : Kd.R k96 96 W n0 (fun b => ¬ N b) v ps) (hN : N gW ∧ N gV) :
    TV n0 (euclid_Mp n0 gW gV W) cs 0 us (fun _ => False) W ∧ Kd.V k96 96 W 0 (fun b => ¬ euclid_Mp n0 gW gV W b) v ps := by
  refine ⟨fun j _ hj => ?_, ?_⟩
  · obtain ⟨s, h1, h2, h3⟩ := VE_typed hve j hj
    exact ⟨s, h1, h2, Kd.R_mono h3 (fun b hb => ⟨hb.2.1, hb.2.2.1, .inr (.inr hb.2.2.2)⟩)⟩
  · refine Kd.R_V (Kd.R_mono (pivots_typed hpp) (fun b hb hm => ?_))
    obtain ⟨_, _, hm⟩ := hm
    rcases hm with e | e | ⟨cells, hc⟩
    · exact hb.1 (e ▸ hN.1)
    · exact hb.1 (e ▸ hN.2)
    · obtain ⟨cells2, hc2⟩ := hb.2
      rcases hc2 with hc2 | hc2
      · exact typed_ne hc2 (by decide) hc
      · exact typed_ne hc2 (by decide) hc
theorem eu_u84 : Try.prog.underlying 84 = some (.slice 96) := by kernel_rfl
theorem eu_info96 : (Try.prog.info? 96).map (fun i => (i.zero, i.size, i.bytes)) = some (some (.agg #[.int .i64 0, .int .i64 0, .int .i64 0, .slice none 0 0, .int .i64 0, .bool false]), 6, 64) := by kernel_rfl
def euclid_run.T15 : Bool × List (List Nat × List Nat) := (true, [([], []), ([], []), ([], []), ([1, 2], [1, 2]), ([], []), ([0, 3, 4, 3], [0, 3, 4]), ([5], [5]), ([6], [6]), ([6], [6]), ([], []), ([9, 7, 5, 0, 1, 2, 3, 4, 5, 6, 7, 9], [7, 9]), ([8, 10, 0, 1, 2, 3, 4, 5, 6, 7, 8, 9, 10], [8])])
def euclid_run.B15 : List Nat := [0, 0, 0, 6, 0, 31, 63, 127, 127, 0, 767, 2047]
theorem euclid_run.tab15 : rtab .any (opsOf Try.f28 15) = euclid_run.T15 := by kernel_rfl
theorem euclid_run.bits15 : waitsOk euclid_run.T15.2 euclid_run.B15 = true := by kernel_rfl
def euclid_run.T18 : Bool × List (List Nat × List Nat) := (true, [([], []), ([], []), ([1], [1]), ([2], [2]), ([3], [3]), ([0, 0], [0]), ([5, 0, 5], []), ([6, 0, 5, 6], []), ([7, 0, 5, 6, 7], []), ([4, 8, 0, 1, 2, 3, 4, 5, 6, 7, 8], [4])])
def euclid_run.B18 : List Nat := [0, 0, 2, 6, 14, 1, 33, 97, 225, 511]
theorem euclid_run.tab18 : rtab .any (opsOf Try.f28 18) = euclid_run.T18 := by kernel_rfl
theorem euclid_run.bits18 : waitsOk euclid_run.T18.2 euclid_run.B18 = true := by kernel_rfl
def euclid_run.T33 : Bool × List (List Nat × List Nat) := (true, [([], []), ([], []), ([1], [1]), ([2], [2]), ([3], [3]), ([], []), ([5], [5]), ([6], [6]), ([7], [7]), ([8], [8]), ([], []), ([], []), ([11], [11]), ([], []), ([9, 10, 12, 13], [9, 10, 12, 13]), ([14], [14]), ([4, 15], [4, 15]), ([0, 0, 1, 2, 3, 4, 5, 6, 7, 8, 9, 10, 11, 12, 13, 14, 15, 16], [0]), ([17, 0, 1, 2, 3, 4, 5, 6, 7, 8, 9, 10, 11, 12, 13, 14, 15, 16], [17]), ([18, 16, 16, 0, 1, 2, 3, 4, 5, 6, 7, 8, 9, 10, 11, 12, 13, 14, 15, 16], [16, 18])])
def euclid_run.B33 : List Nat := [0, 0, 2, 6, 14, 0, 32, 96, 224, 480, 0, 0, 2048, 0, 16352, 32736, 65534, 131071, 262143, 524287]
theorem euclid_run.tab33 : rtab .any (opsOf Try.f28 33) = euclid_run.T33 := by kernel_rfl
theorem euclid_run.bits33 : waitsOk euclid_run.T33.2 euclid_run.B33 = true := by kernel_rfl
/-! ### euclid.run -/
set_option maxHeartbeats 16000000 in
set_option maxRecDepth 100000 in
theorem euclid_run.calls (k : Nat) (A0 : Option Addr) (c0 : Nat) (l0 : List S41) (a1 : Int) (r1 : List S41) (r2 : Int) (r3 : Bool) (r4 : List Int) (r5 r6 : Int) (w : World) (hr0 : Kd.C k41 w A0 l0.length l0) (hc0 : l0.length ≤ c0) (h : euclid_run.f k l0 a1 = some (r1, r2, r3, r4, r5, r6)) :
    Calls Try.prog 28 #[.slice A0 l0.length c0, .int .i64 a1] w fun e w' => ∃ v0_ v3_ : Value, e = .returned (.tuple #[.agg #[v0_, .int .i64 r2], .bool r3, v3_, .int .i64 r5, .int .i64 r6]) ∧ Kd.S k41 41 w' w.heap.size (fun _ => True) v0_ r1 ∧ Kd.R (Kd.int .i64) 2 w' w.heap.size (fun _ => True) v3_ r4 ∧ Below w.heap.size w w' := by
  have hu41 := Try.underlying41
  have hu44 := Try.underlying44
  have hu86 := Try.underlying86
  have hu88 := Try.underlying88
  have hu96 := Try.underlying96
  have hu32 := Try.underlying32
  have hu23 := Try.underlying23
  obtain ⟨e0, he0, h⟩ := Option.bind_eq_some_iff.1 h
  have HA := Aside0.mk he0
  have H := Aside0.mk h
  have HR0 := Aside0.mk hr0
  have HC0 := Aside0.mk hc0
  have CX := Aside0.mk (Cx.start (w := w) (S := (fun _ => False)) (M := (fun _ => False)) (T := TN) (P := (PVb k41 41 w.heap.size (.slice A0 l0.length c0) l0))
    (fun b hb => hb.elim) trivial tTN (Kd.V_mono (Kd.V_mk hc0 (Kd.C_F k41_heap hr0)) (fun b hb => ⟨hb, fun e => e⟩)) gPVb)
  clear h he0 hr0 hc0
  go_enter Try.func28, Try.ntmps28
  by_cases hee : e0 = 0
  case neg =>
    have hz1 : (e0 != 0) = true := bne_iff_ne.mpr hee
    have hh := H.out
    rw [if_neg hee] at hh
    simp only [Option.some.injEq, Prod.mk.injEq] at hh
    obtain ⟨rfl, rfl, rfl, rfl, rfl, rfl⟩ := hh
    clear H hee
    go_wp2_with (first
      | ((with_reducible refine gate_dst (N := 4) rfl ?_); refine boxA CX 32 #[.slice none 0 0, .int .i64 0] ?_; clear CX; intro g4 w1 CX)
      | ((go_at_call 39); refine (euclid_asked.calls k A0 c0 l0 a1 e0 w1 (Kd.V_reads' CX.out.p).2.2 HC0.out HA.out).mono ?_; rintro e w2 ⟨rfl, hb⟩; replace CX := Aside0.mk (CX.out.call hb); clear hb)
      | ((with_reducible refine gate_store (t := 32) (p := 4) rfl ?_); refine storeW CX (Cx.wh0n2) (st32 (CX.out.blk 0 rfl)) ?_; clear CX; intro w3 CX))
    refine bodyPost_ret (v := .tuple #[.agg #[.slice none 0 0, .int .i64 0], .bool false, .slice none 0 0, .int .i64 0, .int .i64 e0]) ?hres ?hdef ?_
    case hdef => rfl
    case hres => exact results_list (rs := [.cell 4 32, .tmp 5, .tmp 6, .tmp 7, .tmp 8]) (vs := [.agg #[.slice none 0 0, .int .i64 0], .bool false, .slice none 0 0, .int .i64 0, .int .i64 e0]) rfl (show (5 : Nat) ≠ 1 from by decide) (Vals.cell g4 32 #[.slice none 0 0, .int .i64 0] (0, 0) _ rfl (CX.out.blk 0 rfl) Try.underlying32 rfl (by kernel_rfl) (Vals.tmp (Vals.tmp (Vals.tmp (Vals.tmp .nil)))))
    refine ⟨_, _, rfl, Kd.S_nil _ _ _ _ _, Kd.R_nil _ _ _ _ _, CX.out.fs.below (fun _ h => h.elim)⟩
  case pos =>
    have hz1 : (e0 != 0) = false := by rw [hee]; rfl
    have hh := H.out
    rw [if_pos hee] at hh
    split at hh
    case isFalse => cases hh
    rename_i hb1
    obtain ⟨n, rfl⟩ : ∃ n : Nat, a1 = (n : Int) := ⟨a1.toNat, (Int.toNat_of_nonneg hb1.1).symm⟩
    rw [Int.toNat_natCast] at hh
    have HL := Aside0.mk hh
    have HB := Aside0.mk (show n ≤ 64 ∧ l0.length ≤ 64 from ⟨by have := hb1.2.1; omega, hb1.2.2⟩)
    clear H hee hh hb1
    go_wp2_with (first
      | ((with_reducible refine gate_dst (N := 4) rfl ?_); refine boxA CX 32 #[.slice none 0 0, .int .i64 0] ?_; clear CX; intro g4 w1 CX)
      | ((go_at_call 39); refine (euclid_asked.calls k A0 c0 l0 (n : Int) e0 w1 (Kd.V_reads' CX.out.p).2.2 HC0.out HA.out).mono ?_; rintro e w2 ⟨rfl, hb⟩; replace CX := Aside0.mk (CX.out.call hb); clear hb)
      | ((with_reducible refine gate_dst (N := 29) rfl ?_); refine boxA CX 86 #[.slice none 0 0, .slice none 0 0, .int .i64 0] ?_; clear CX; intro gW w3 CX))
    obtain ⟨RB, CX2⟩ : ∃ RB', Cx w (fun _ => False) (fun _ => False) RB' (TA (TR kraw 41 w.heap.size (.slice none 0 0) []) (TF w.heap.size (fun _ => False) (fun _ => True) [] (euclid_vars 0))) (PVb k41 41 w.heap.size (.slice A0 l0.length c0) l0) w3 [(gW, #[.slice none 0 0, .slice none 0 0, .int .i64 0], 86), (g4, #[.slice none 0 0, .int .i64 0], 32)] := ⟨_, CX.out.withT ⟨Kd.R_nil _ _ _ _ _, ⟨rfl, fun i hi => by simp [euclid_vars] at hi⟩⟩ (tTA tTR tTF)⟩
    replace CX := Aside0.mk CX2
    clear CX2
    go_loopg [31] n (fun gk v31 w' => ∃ (x : Int) (m : Nat) (fl : List (Int × Value)) (Ao : Option Addr) (co : Nat) (RB : Nat → Prop), v31 = .int .i64 x ∧ Aside0 (x = (m : Int) ∧ m + gk = n ∧ fl.length = m) ∧ Aside0 (FD fl) ∧ Aside0 (Cx w (fun _ => False) (fun _ => False) RB (TA (TR kraw 41 w.heap.size (.slice Ao fl.length co) fl) (TF w.heap.size (fun _ => False) (fun _ => True) fl (euclid_vars m))) (PVb k41 41 w.heap.size (.slice A0 l0.length c0) l0) w' [(gW, #[.slice Ao fl.length co, .slice none 0 0, .int .i64 0], 86), (g4, #[.slice none 0 0, .int .i64 0], 32)]))
    case atStart => exact ⟨0, 0, [], none, 0, RB, rfl, ⟨rfl, Nat.zero_add _, rfl⟩, ⟨fun i j a b _ ha => by simp at ha⟩, CX⟩
    case round =>
    clear CX
    obtain ⟨x, m, fl, Ao, co, RB, rfl, HI, HFD, CX⟩ := hrel
    cases gk with
    | succ gki =>
      have hx1 : x < (n : Int) := by have := HI.out.1; have := HI.out.2.1; omega
      have c1 : decide (x < (n : Int)) = true := decide_eq_true hx1
      clear hx1
      have hc_gW_0 := ze0 (CX.out.blk 0 rfl)
      go_wp2_with (first
        | ((with_reducible refine gate_dst (N := 41) rfl ?_); refine Kd.R_lit (w0 := wr) k44 _ 44 ?hg (N := 41) ?hd (xs := ([⟨x, 1⟩] : List S44)) (inner := [.int .i64 x, .int .i64 1]) (ok := fun _ => True) (okp := fun _ => True) ?hr ?hp (fun _ hk => hk) trivial (Below.refl _ _) (Nat.le_refl _) (by simp) ?_; (case hd => rfl); (case hg => rfl); (case hr => first | (go_simp; done) | (go_simp; rfl)); (case hp => exact (Reps.c2 (k44_mkM _ _ _ (⟨x, 1⟩ : S44)) (Reps.none _ _))); intro vt w4 ho hb hg_ hnew_; have HFD2 := Aside0.mk (FD_snoc (K := 0) (v := vt) HFD.out CX.out.t.2 (Nat.le_refl _) (fun g hg => hnew_.elim (fun b hb2 => by (have e := hb2.1; rw [hg] at e; exact Option.some.inj e ▸ hb2.2)))); obtain ⟨At, ct, et_⟩ := Kd.R_slice ho; replace et_ : vt = .slice At 1 ct := et_; subst et_; obtain ⟨RB1, CX2⟩ := CX.out.rows' (T' := (TA (TA (TR kraw 41 w.heap.size (.slice Ao fl.length co) fl) (TF w.heap.size (fun _ => False) (fun _ => True) fl (euclid_vars m))) (TR k44 44 w.heap.size (.slice At 1 ct) [⟨x, 1⟩]))) (Fs.of_below hb) (fun RB' r1 r2 => ⟨⟨mTR (Kd.R_below CX.out.t.1 hb) r1, (kTF CX.out.t.2 (Fs.of_below (S := fun _ => False) hb) (fun _ h => h.elim) r1)⟩, Kd.R_lower (Kd.R_mono (Kd.R_bound ho) (fun k hk => r2 k hk.2.1 hk.2.2.1)) CX.out.fs.size⟩) (tTA (tTA tTR tTF) tTR); replace CX := Aside0.mk CX2; clear CX2 ho hb hg_ hnew_; clear hc_gW_0; have hc_gW_0 := ze0 (CX.out.blk 0 rfl))
        | ((with_reducible refine gate_builtin (b := .append) (xs := #[.tmp 38, .tmp 43]) rfl ?_); at_builtin; refine Kd.R_append kraw (w0 := w4) w.heap.size rfl (.tmp 38) (.tmp 43) 22 41 (.agg #[(.int .i64 0), (.slice none 0 0)]) 32 rfl Try.underlying22 info41 rfl (by decide) (by omega) (.slice Ao fl.length co) fl (((0 : Int), Value.slice At 1 ct) : Int × Value) [.int .i64 0, .slice At 1 ct] (fun k_ => RB1 k_ ∨ w4.heap.size ≤ k_) (fun _ => False) rfl rfl ?aP (fun _ hk => hk.elim) (fun _ h => .inr h) ?aO (Below.refl _ _) CX.out.fs.size ?aL ?_; (case aP => exact (show Kd.M kraw _ _ _ (((0 : Int), Value.slice At 1 ct) : Int × Value) [.int .i64 0, .slice At 1 ct] from ⟨rfl, rfl⟩)); (case aO => exact Kd.R_mono CX.out.t.1.1 (fun _ h => .inl h)); (case aL => have h1 := HI.out.2.2; have h2 := HI.out.2.1; have h3 := HB.out.1; omega); intro vo w5 ho hb hg hat; obtain ⟨A1, c1_, ev⟩ := Kd.R_slice ho; subst ev; have hgf := Fs.grown hg; have hty := Kd.R_typed CX.out.t.1.1; have hFs := hgf.mono (S' := RB1) (fun b e _ => CX.out.t.1.1.1 b e); obtain ⟨RB4, CX4⟩ := CX.out.rows' (T' := (TA (TR kraw 41 w.heap.size (.slice A1 (fl ++ [((0 : Int), Value.slice At 1 ct)]).length c1_) (fl ++ [((0 : Int), Value.slice At 1 ct)])) (TF w.heap.size (fun _ => False) (fun _ => True) (fl ++ [((0 : Int), Value.slice At 1 ct)]) (euclid_vars m ++ [⟨0, [⟨x, 1⟩]⟩])))) hFs (fun RB' t1 t2 => ⟨Kd.R_mono (Kd.R_bound ho) (fun k hk => hk.1.elim (t1 k) (fun h => t2 k h hk.2.2.1)), TF_told 0 CX.out.t.1.2 CX.out.t.2 (fun _ _ => trivial) hgf (fun b e cells hc => by (obtain ⟨cells2, hc2⟩ := hty b e; exact typed_ne hc2 (by decide) hc)) t1⟩) (tTA tTR tTF); replace CX := Aside0.mk CX4; clear CX4 ho hb hg hat hgf hty hFs; clear hc_gW_0; have hc_gW_0 := ze0 (CX.out.blk 0 rfl); have hz_gW_0 := blk_frozen (CX.out.blk 0 rfl) 0)
        | ((with_reducible refine gate_store (t := 22) (p := 46) rfl ?_); refine storeW CX (Cx.fl0 0 _ #[.slice A1 (fl ++ [((0 : Int), Value.slice At 1 ct)]).length c1_, .slice none 0 0, .int .i64 0]) (st22w (CX.out.blk 0 rfl)) ?_; clear CX; intro w6 CX; clear hc_gW_0 hz_gW_0))
      go_roundg gki
      case measure => omega
      case rel =>
        refine ⟨_, m + 1, (fl ++ [((0 : Int), Value.slice At 1 ct)]), A1, c1_, RB4, rfl, ⟨?_, ?_, ?_⟩, HFD2, ?_⟩
        · have h1 := HI.out.1; have h2 := HI.out.2.1; have h3 := HB.out.1; unfold wrap64; omega
        · have h2 := HI.out.2.1; omega
        · rw [List.length_append, List.length_singleton, HI.out.2.2]
        · rw [← euclid_vars_succ, ← HI.out.1]
          exact CX
    | zero =>
      have c1 : decide (x < (n : Int)) = false := decide_eq_false (by have := HI.out.1; have := HI.out.2.1; omega)
      obtain rfl : n = m := by have := HI.out.2.1; omega
      have hfl := HI.out.2.2
      rw [hfl] at CX
      clear HI
      obtain ⟨gV, cs, hgV, hAo, hgV0, hVW, hcs, hvd, hve⟩ : ∃ (gV : Nat) (cs : Array Value), (gV = gW ∨ RB gV) ∧ (0 < n → Ao = some ⟨gV, 0, none⟩) ∧ w.heap.size ≤ gV ∧ (0 < n → gV ≠ gW) ∧ (0 < n → wr.heap[gV]? = some (.cells cs 41 (0, 0))) ∧ VD cs n ∧ (∀ (i : Nat) (hi : i < (euclid_vars n).length), ∃ s : Value, cs[i * 2]? = some (.int .i64 ((euclid_vars n)[i]).f0) ∧ cs[i * 2 + 1]? = some s ∧ Kd.R k44 44 wr w.heap.size (fun b => RB b ∧ ∃ cells, wr.heap[b]? = some (.cells cells 44 (0, 0))) s ((euclid_vars n)[i]).f1) := by
        rcases Nat.eq_zero_or_pos n with hn0 | hn0
        · exact ⟨gW, #[], .inl rfl, fun h => absurd h (by omega), (CX.out.lk _ (List.mem_cons_self ..)).2.1, fun h => absurd h (by omega), fun h => absurd h (by omega), fun i j s t hi => absurd hi (by omega), fun i hi => by simp [euclid_vars] at hi; omega⟩
        · obtain ⟨gV, cap, ev, hg0, hglt, _⟩ := Kd.R_form CX.out.t.1 (by omega)
          rw [hfl] at ev
          injection ev with ev1 ev2 ev3
          subst ev1
          subst ev3
          have ht1 : Kd.R kraw 41 wr w.heap.size RB (.slice (some ⟨gV, 0, none⟩) fl.length co) fl := by rw [hfl]; exact CX.out.t.1
          obtain ⟨cs, hb, hd, hc⟩ := run_cells ht1 CX.out.t.2 HFD.out
          rw [hfl] at hd
          have hRV : RB gV := CX.out.t.1.1 gV rfl
          exact ⟨gV, cs, .inr hRV, fun _ => rfl, hg0, fun _ e => (CX.out.lk _ (List.mem_cons_self ..)).2.2.2 (e ▸ hRV), fun _ => hb, hd, hc⟩
      have hgW0 : w.heap.size ≤ gW := (CX.out.lk _ (List.mem_cons_self ..)).2.1
      have HG := Aside0.mk (And.intro hgW0 (And.intro hgV0 (And.intro hVW hAo)))
      have HV := Aside0.mk (show VD cs n ∧ (euclid_vars n).length = n ∧ ([] : List S96).length ≤ ([] : List S41).length from ⟨hvd, by simp [euclid_vars], Nat.le_refl _⟩)
      have hbW := CX.out.blk 0 rfl
      have hb4 := CX.out.blk 1 rfl
      have CX2 := CX.out.promote (gV := gV) hgV (T' := (TA (TB gW (.cells #[.slice Ao n co, .slice none 0 0, .int .i64 0] 86 (0, 0))) (TI (0 < n) (TB gV (.cells cs 41 (0, 0)))))) (P' := (PA (PVb k41 41 w.heap.size (.slice A0 l0.length c0) l0) (PA (VE w.heap.size cs (euclid_vars n)) (PR k96 96 w.heap.size (.slice none 0 0) [])))) ⟨hbW, hcs⟩ (tTA (tTB (.inl rfl)) (tTI (tTB (.inr rfl)))) ⟨CX.out.gd.mono CX.out.p (fun b _ hb => by
          rcases hb with (hb | hb) | hb | hb
          · exact .inr (.inr ⟨_, List.mem_cons_self .., hb⟩)
          · rcases hgV with e | e
            · exact .inr (.inr ⟨_, List.mem_cons_self .., hb.trans e⟩)
            · exact .inr (.inl (hb ▸ e))
          · exact hb.elim
          · obtain ⟨x, hx, e⟩ := hb
            exact .inr (.inr ⟨x, List.mem_cons_of_mem _ hx, e⟩)), fun i hi => by
          obtain ⟨s, h1, h2, h3⟩ := hve i hi
          refine ⟨s, h1, h2, Kd.R_mono h3 (fun b hb hn => ?_)⟩
          obtain ⟨_, cells, hc⟩ := hb
          rcases hn with (hn | hn) | hn | ⟨x, hx, e⟩
          · subst hn
            exact typed_ne hbW (by decide) hc
          · subst hn
            rcases hgV with e | e
            · subst e
              exact typed_ne hbW (by decide) hc
            · have hpos : 0 < n := by have := hi; simp [euclid_vars] at this; omega
              exact typed_ne (hcs hpos) (by decide) hc
          · exact hn
          · rw [List.mem_singleton.1 hx] at e
            subst e
            exact typed_ne hb4 (by decide) hc, Kd.R_nil _ _ _ _ _⟩ (gPA gPVb (gPA (good_VE _ _ _) gPR))
      replace CX := Aside0.mk CX2
      clear CX2 hfl hgV hAo hgV0 hVW hcs hvd hve hgW0 hbW hb4 HFD
      go_wp2
      go_loopg [50] l0.length (fun gk v50 w' => ∃ (x : Int) (zs rest us : List S41) (ps : List S96) (cs : Array Value) (Ap : Option Addr) (cp : Nat), v50 = .int .i64 x ∧ Aside0 (x = (zs.length : Int) ∧ gk = rest.length ∧ zs ++ rest = l0) ∧ Aside0 (euclid_run.l0 k l0 n rest zs.length us ps = some (r1, r2, r3, r4, r5, r6)) ∧ Aside0 (VD cs n ∧ us.length = n ∧ ps.length ≤ zs.length) ∧ Aside0 (Cx w (fun _ => False) (fun b => b = gW ∨ b = gV) (fun _ => False) (TWk gW gV n Ao co (.slice Ap ps.length cp) (0) cs) (PRn w.heap.size A0 c0 l0 cs us (.slice Ap ps.length cp) ps) w' [(g4, #[.slice none 0 0, .int .i64 0], 32)]))
      case atStart => exact ⟨0, [], l0, euclid_vars n, [], cs, none, 0, rfl, ⟨rfl, rfl, rfl⟩, HL, HV, CX⟩
      case round =>
      clear CX HL HV
      obtain ⟨x, zs, rest, us, ps, cs, Ap, cp, rfl, HI, HL, HV, CX⟩ := hrel
      have hll : zs.length + rest.length = l0.length := by rw [← List.length_append, HI.out.2.2]
      have HLL := Aside0.mk hll
      clear hll
      cases rest with
      | nil =>
        have c1 : decide (x < (l0.length : Int)) = false := decide_eq_false (by have := HI.out.1; have h2 := HLL.out; rw [List.length_nil] at h2; omega)
        have hl := HL.out
        simp only [euclid_run.l0] at hl
        have HP := Aside0.mk hl
        clear hl HL
        go_wp2_with (first
          | ((go_at_call 45); refine (euclid_para.calls k w.heap.size n (euclid_Mp w.heap.size gW gV wr) gW gV Ao co Ap cp ps 0 cs us r1 r2 r3 r4 r5 r6 wr (fun b h => ⟨h.1, h.2.1⟩) ⟨HG.out.1, CX.out.lt gW (.inl (.inl rfl)), .inl rfl⟩ ⟨HG.out.2.1, CX.out.lt gV (.inl (.inr rfl)), .inr (.inl rfl)⟩ HG.out.2.2.1 HG.out.2.2.2 CX.out.fs.size HV.out.2.1 CX.out.t.1 CX.out.t.2 (run_para CX.out.p.2.1 CX.out.p.2.2 ⟨.inl (.inl rfl), .inl (.inr rfl)⟩).1 HV.out.1 (run_para CX.out.p.2.1 CX.out.p.2.2 ⟨.inl (.inl rfl), .inl (.inr rfl)⟩).2 HP.out).mono ?_; rintro e w7 ⟨v, rfl, rfl, hr, hf⟩; have hb4 := CX.out.blk 0 rfl; have hl4 := (CX.out.lk _ (List.mem_cons_self ..)); have hg4 := (hf.block g4 (blk_lt hb4) (fun hm => hm.2.2.elim (fun e => hl4.2.2.1 (.inl e)) (fun e => e.elim (fun e => hl4.2.2.1 (.inr e)) (fun e => e.elim (fun cells hc => typed_ne hb4 (by decide) hc))))).trans hb4; have hfs := CX.out.fs.trans hf (S'' := (fun _ => False)) (fun _ h _ => h) (fun b hb hlt => absurd hb.1 (by omega)); replace CX := Aside0.mk (Cx.one hg4 hl4.2.1 hfs (P := PSr k41 41 w.heap.size v r1) (Kd.S_mono (Kd.S_types hr hg4 (by decide)) (fun b hb hn => hn.elim (fun h => h) (fun hn => hn.elim (fun h => h) (fun hn => hn.elim (fun x_ hx => hb.2 (hx.2.trans (congrArg Prod.fst (List.mem_singleton.1 hx.1)))))))) gPSr); obtain ⟨Ax, cx_, ex⟩ := Kd.R_slice (Kd.S_R CX.out.p); subst ex; clear hb4 hl4 hg4 hfs hr hf)
          | ((with_reducible refine gate_store (t := 32) (p := 4) rfl ?_); refine storeW CX (Cx.wh0n2) (st32 (CX.out.blk 0 rfl)) ?_; clear CX; intro w8 CX))
        refine bodyPost_ret (v := .tuple #[.agg #[.slice Ax r1.length cx_, .int .i64 r2], .bool r3, .slice none 0 0, .int .i64 r5, .int .i64 r6]) ?hres ?hdef ?_
        case hdef => rfl
        case hres => exact results_list (rs := [.cell 4 32, .tmp 5, .tmp 6, .tmp 7, .tmp 8]) (vs := [.agg #[.slice Ax r1.length cx_, .int .i64 r2], .bool r3, .slice none 0 0, .int .i64 r5, .int .i64 r6]) rfl (show (5 : Nat) ≠ 1 from by decide) (Vals.cell g4 32 #[.slice Ax r1.length cx_, .int .i64 r2] (0, 0) _ rfl (CX.out.blk 0 rfl) Try.underlying32 rfl (by kernel_rfl) (Vals.tmp (Vals.tmp (Vals.tmp (Vals.tmp .nil)))))
        exact ⟨_, _, rfl, Kd.S_mono CX.out.p (fun _ _ => trivial), Kd.R_nil _ _ _ _ _, CX.out.fs.below (fun _ h => h.elim)⟩
      | cons y rest =>
        obtain ⟨gki, rfl⟩ : ∃ gki, gk = gki + 1 := ⟨gk - 1, by have := HI.out.2.1; rw [List.length_cons] at this; omega⟩
        have hl := HL.out
        simp only [euclid_run.l0] at hl
        obtain ⟨⟨O, oe⟩, ho, hl2⟩ := Option.bind_eq_some_iff.1 hl
        obtain ⟨⟨C, R, ce⟩, hc, hl3⟩ := Option.bind_eq_some_iff.1 hl2
        obtain ⟨⟨D, ys, de⟩, hd, hl4⟩ := Option.bind_eq_some_iff.1 hl3
        dsimp only at hc hd hl4
        obtain ⟨BY, hBY⟩ : ∃ BY : List Int, BY = (List.replicate l0.length (0 : Int)).set zs.length 1 := ⟨_, rfl⟩
        rw [← hBY] at hc
        have HO := Aside0.mk ho
        have HC := Aside0.mk hc
        have HD := Aside0.mk hd
        have HL4 := Aside0.mk hl4
        have hx0 : 0 ≤ x := by have := HI.out.1; omega
        have hx1 : x < (l0.length : Int) := by have := HI.out.1; have h2 := HLL.out; rw [List.length_cons] at h2; omega
        have HBY := Aside0.mk (show (List.replicate l0.length (0 : Int)).set x.toNat 1 = BY ∧ (List.replicate l0.length (0 : Int)).length = BY.length from ⟨by rw [hBY]; have := HI.out.1; congr 1; omega, by rw [hBY, List.length_set]⟩)
        have hxb : x < (BY.length : Int) := by rw [← HBY.out.2, List.length_replicate]; exact hx1
        have HX := Aside0.mk (And.intro hx0 (And.intro hx1 hxb))
        have c1 : decide (x < (l0.length : Int)) = true := decide_eq_true hx1
        obtain ⟨ad, cs41, e2, _, hK, hcell, _⟩ := Kd.F_get (Kd.V_F CX.out.p.1) z41 x hx0 hx1
        have hgp : l0.getD x.toNat z41 = y := by rw [← HI.out.2.2, HI.out.1]; simp
        rw [hgp] at hK
        obtain ⟨A1, c1_, rfl, hl1, hF1⟩ := k41_openF hK
        subst e2
        have hn0 : wr.cell? (ad.add (x.toNat * 2)) = some (.int .i64 y.f0) := hcell 0 _ rfl
        have hn1 : wr.cell? ⟨(ad.add (x.toNat * 2)).block, (ad.add (x.toNat * 2)).off + 1, none⟩ = some (.slice A1 y.f1.length c1_) := by rw [← add_field _ _ 1 (by omega)]; exact hcell 1 _ rfl
        replace CX := Aside0.mk (CX.out.withP (P' := PA (PRn w.heap.size (some ad) c0 l0 cs us (.slice Ap ps.length cp) ps) (PVb k44 44 w.heap.size (.slice A1 y.f1.length c1_) y.f1)) ⟨CX.out.p, Kd.V_mk hl1 hF1⟩ (gPA (gPA gPVb (gPA (good_VE _ _ _) gPR)) gPVb))
        clear hK hcell hl1 hF1 hgp hl hl2 hl3 hl4 ho hc hd hBY
        have hp1 := eq_true hx0
        have hp2 := eq_true hx1
        have hp3 := eq_true hxb
        clear hx0 hx1 hxb
        go_wp2_with (first
          | ((with_reducible refine gate_dst (N := 13) rfl ?_); refine boxB CX 41 #[.int .i64 0, .slice none 0 0] ?_; clear CX; intro g13 w7 CX hb_; replace hn0 := zcm hb_ hn0; replace hn1 := zcm hb_ hn1; clear hb_)
          | ((with_reducible refine gate_store (t := 41) (p := 13) rfl ?_); refine storeW CX (Cx.wh0n2) (st41 (CX.out.blk 0 rfl)) ?_; clear CX; intro w8 CX; clear hn0 hn1)
          | ((with_reducible refine gate_dst (N := 57) rfl ?_); refine Kd.R_make (w0 := w8) (Kd.int .i64) _ 2 ?hg (N := 57) ?hd 23 (.tmp 56) (.tmp 56) ?ho (l0.length : Int) ?hx ?hy Try.underlying23 (.int .i64 0) 8 info2 rfl (by decide) (by omega) (0 : Int) (ok := fun _ => True) (okp := fun _ => True) ?hz (fun _ h => h) trivial (by omega) ?hl (Below.refl _ _) (Nat.le_refl _) ?_; (case hd => rfl); (case hg => rfl); (case ho => rfl); (case hx => rfl); (case hy => rfl); (case hz => exact (show Kd.M (Kd.int .i64) _ _ _ (0 : Int) [.int .i64 0] from rfl)); (case hl => rw [Int.toNat_natCast]; have := HB.out.2; omega); intro vm w9 ho hb hg_ hnew_; rw [Int.toNat_natCast] at ho; obtain ⟨gb, cm, ev, _, _, _⟩ := Kd.R_form ho (by rw [HBY.out.2]; have h1 := HX.out.1; have h2 := HX.out.2.2; omega); rw [HBY.out.2] at ev; subst ev; obtain ⟨RB1, CX2⟩ := CX.out.rows' (T' := (TA (TWk gW gV n Ao co (.slice Ap ps.length cp) (0) cs) (TR (Kd.int .i64) 2 w.heap.size (.slice (some ⟨gb, 0, none⟩) BY.length cm) (List.replicate l0.length (0 : Int))))) (Fs.of_below hb) (fun RB' r1 r2 => ⟨⟨blk_below CX.out.t.1 hb, fun h0 => blk_below (CX.out.t.2 h0) hb⟩, Kd.R_lower (Kd.R_mono (Kd.R_bound ho) (fun k hk => r2 k hk.2.1 hk.2.2.1)) CX.out.fs.size⟩) (tTA (tTA (tTB (.inl rfl)) (tTI (tTB (.inr rfl)))) tTR); replace CX := Aside0.mk CX2; clear CX2 ho hb hg_ hnew_)
          | ((with_reducible refine gate_dst (N := 14) rfl ?_); refine boxA CX 88 #[.slice none 0 0, .int .i64 0, .bool false] ?_; clear CX; intro g14 w10 CX)
          | ((with_reducible refine gate_store (t := 88) (p := 14) rfl ?_); refine storeW CX (Cx.wh0n3) (st88 (CX.out.blk 0 rfl)) ?_; clear CX; intro w11 CX; have hc_g14_0 := ze0 (CX.out.blk 0 rfl); have hc_g14_1 := ze1 (CX.out.blk 0 rfl); have hc_g14_2 := ze2 (CX.out.blk 0 rfl))
          | ((with_reducible refine gate_store (t := 2) (p := 62) rfl ?_); obtain ⟨⟨u0, hq_0⟩, hz_0, hset⟩ := Rint_set CX.out.t.2 x HX.out.1 HX.out.2.2 1; refine store_event (t := 2) (p := 62) (v := ?vo_b) (w1 := (w11.setCell ⟨gb, x.toNat, none⟩ (.int .i64 1))) ?hg ?ho ?hn ?hr ?_; (case ho => rfl); (case hg => rfl); (case hn => rfl); (case hr => first | (go_simp; done) | (go_simp; rfl)); intro w12 hw; have hFs := (Fs.set w11 gb x.toNat (.int .i64 1)).mono (S' := RB1) (fun b e _ => e ▸ CX.out.t.2.1 gb rfl); rw [HBY.out.1] at hset; obtain ⟨RB2, CX2⟩ := CX.out.rows' (T' := (TA (TWk gW gV n Ao co (.slice Ap ps.length cp) (0) cs) (TR (Kd.int .i64) 2 w.heap.size (.slice (some ⟨gb, 0, none⟩) BY.length cm) BY))) hFs (fun RB' r1 r2 => ⟨⟨CX.out.keepM hFs (.inl rfl) CX.out.t.1.1, fun h0 => CX.out.keepM hFs (.inr rfl) (CX.out.t.1.2 h0)⟩, Kd.R_mono hset r1⟩) (tTA (tTA (tTB (.inl rfl)) (tTI (tTB (.inr rfl)))) tTR); rw [← hw] at CX2; replace CX := Aside0.mk (CX2.shrink (T' := (TWk gW gV n Ao co (.slice Ap ps.length cp) (0) cs)) (P' := (PA (PA (PRn w.heap.size (some ad) c0 l0 cs us (.slice Ap ps.length cp) ps) (PVb k44 44 w.heap.size (.slice A1 y.f1.length c1_) y.f1)) (PR (Kd.int .i64) 2 w.heap.size (.slice (some ⟨gb, 0, none⟩) BY.length cm) BY))) CX2.t.1 (tTA (tTB (.inl rfl)) (tTI (tTB (.inr rfl)))) (fun hp => ⟨hp, Kd.R_mono CX2.t.2 CX2.freed⟩) (gPA (gPA (gPA gPVb (gPA (good_VE _ _ _) gPR)) gPVb) gPR)); clear hw hq_0 hz_0 hset hFs CX2; clear hc_g14_0 hc_g14_1 hc_g14_2))
        try go_wp2
        replace CX := Aside0.mk CX.out.drew1
        refine start_ (n := 12) (S := fun w' => w'.cell? ⟨g13, 0, none⟩ = some (.int .i64 y.f0) ∧ w'.cell? ⟨g13, 1, none⟩ = some (.slice A1 y.f1.length c1_) ∧ w'.cell? ⟨g14, 0, none⟩ = some (.slice (some ⟨gb, 0, none⟩) BY.length cm) ∧ w'.cell? ⟨g14, 1, none⟩ = some (.int .i64 1) ∧ w'.cell? ⟨g14, 2, none⟩ = some (.bool true)) (ds := [11]) (lB 12 0) (by kernel_rfl) rfl (by kernel_rfl) ⟨CX.out.cell 1 0 rfl rfl, CX.out.cell 1 1 rfl rfl, CX.out.cell 0 0 rfl rfl, CX.out.cell 0 1 rfl rfl, CX.out.cell 0 2 rfl rfl⟩ (fun hHeld => ?_); refine with_tabW euclid_run.tab15 euclid_run.bits15 (fun HT_ HW_ => ?_)
        generalize w12.drew = w13 at CX hHeld ⊢
        refine pureA 0 64 (lB 12 1) ?_
        refine pureA 1 65 (lB 12 3) ?_
        refine takeA 2 66 (lB 12 7) ?_
        refine takeA 4 68 (lB 12 23) ?_
        refine join_ (σ := Value × Value × Value × Nat) 2 (lB 12 1023) (fun s => [(67, .agg #[.int .i64 O.f0, s.1]), (69, .tuple #[.agg #[.int .i64 C.f0, s.2.1], .agg #[s.2.2.1, .int .i64 R.f1, .bool R.f2]]), (15, .pointer (some ⟨s.2.2.2, 0, none⟩)), (63, .tuple #[.agg #[.int .i64 C.f0, s.2.1], .agg #[s.2.2.1, .int .i64 R.f1, .bool R.f2]]), (70, .agg #[.int .i64 C.f0, s.2.1]), (71, .agg #[s.2.2.1, .int .i64 R.f1, .bool R.f2])]) (fun s w' => Aside0 (Cx w (fun _ => False) (fun b => b = gW ∨ b = gV) (fun _ => False) (TWk gW gV n Ao co (.slice Ap ps.length cp) (ce) cs) (PA (PRn w.heap.size (some ad) c0 l0 cs us (.slice Ap ps.length cp) ps) (PA (PV k44 44 s.2.1 C.f1) (PR (Kd.int .i64) 2 w.heap.size s.2.2.1 R.f0))) w' [(s.2.2.2, #[.int .i64 0, .slice none 0 0], 41), (g14, #[.slice (some ⟨gb, 0, none⟩) BY.length cm, .int .i64 1, .bool true], 88), (g13, #[.int .i64 y.f0, .slice A1 y.f1.length c1_], 41), (g4, #[.slice none 0 0, .int .i64 0], 32)])) ?_ ?_
        rotate_left
        · intro hCont
          refine two_ (i := 3) (j := 9) (Ni := some 67) (Nj := some 15) (lB 12 31) (lB 12 535) rfl rfl rfl rfl (two_of HT_.out (by kernel_rfl)) (by decide) (by decide) (fun K hK => ?_) (fun K hK => ?_)
          ·skip
           refine call_ 41 #[.pointer (some ⟨gW, 0, none⟩), .agg #[.int .i64 y.f0, (.slice A1 y.f1.length c1_)]] (by rfl) rfl ?hrun_ ?_
           case hrun_ => first | (go_simp; done) | (go_simp; rfl)
           refine (euclid_over.callsN k w.heap.size n (Nx (fun b => b = gW ∨ b = gV) (fun _ => False) [(g14, #[.slice (some ⟨gb, 0, none⟩) BY.length cm, .int .i64 1, .bool true], 88), (g13, #[.int .i64 y.f0, .slice A1 y.f1.length c1_], 41), (g4, #[.slice none 0 0, .int .i64 0], 32)]) gW gV Ao co (.slice Ap ps.length cp) 0 cs us y.f0 A1 c1_ y.f1 O oe w13 CX.out.lt (.inl (.inl rfl)) (.inl (.inr rfl)) HG.out.2.2.1 HG.out.2.2.2 HV.out.2.1 CX.out.t.1 CX.out.t.2 CX.out.p.1.1.2.1 CX.out.p.1.2.all HO.out).mono ?_
           rintro e_ w14 ⟨v, rfl, hr, hf, hw⟩
           refine ⟨_, rfl, ?_⟩
           have HF := Aside0.mk (CX.out.fresh hf.size hr)
           replace CX := Aside0.mk (CX.out.turn hf (fun b e => .inl e) (fun b e hlt => absurd hlt (by have h1 := HG.out.1; have e : b = gW := e; omega)) (T' := (TWk gW gV n Ao co (.slice Ap ps.length cp) (oe) cs)) ⟨hw, fun h0 => kTB (RB' := (fun _ => False)) (CX.out.t.2 h0) hf (fun e => HG.out.2.2.1 h0 e)⟩ (tTA (tTB (.inl rfl)) (tTI (tTB (.inr rfl)))))
           obtain ⟨Aq, cq, eq_⟩ := Kd.R_slice HF.out
           subst eq_
           replace CX := Aside0.mk (CX.out.withP (P' := PA (PA (PA (PRn w.heap.size (some ad) c0 l0 cs us (.slice Ap ps.length cp) ps) (PVb k44 44 w.heap.size (.slice A1 y.f1.length c1_) y.f1)) (PR (Kd.int .i64) 2 w.heap.size (.slice (some ⟨gb, 0, none⟩) BY.length cm) BY)) (PR k44 44 w.heap.size (.slice Aq O.f1.length cq) O.f1)) ⟨CX.out.p, HF.out⟩ (gPA (gPA (gPA (gPA gPVb (gPA (good_VE _ _ _) gPR)) gPVb) gPR) gPR))
           clear hr hf hw HF
           refine hK.out _ _ ⟨CX.out.cell 1 0 rfl rfl, CX.out.cell 1 1 rfl rfl, CX.out.cell 0 0 rfl rfl, CX.out.cell 0 1 rfl rfl, CX.out.cell 0 2 rfl rfl⟩ (fun hHeld => ?_)
           clear hK K
           refine normA 67 ?_
           refine two_ (i := 5) (j := 9) (Ni := some 69) (Nj := some 15) (lB 12 63) (lB 12 543) rfl rfl rfl rfl (two_of HT_.out (by kernel_rfl)) (by decide) (by decide) (fun K hK => ?_) (fun K hK => ?_)
           ·skip
            refine call_ 40 #[.pointer (some ⟨gW, 0, none⟩), .agg #[.int .i64 O.f0, .slice Aq O.f1.length cq], .agg #[(.slice (some ⟨gb, 0, none⟩) BY.length cm), .int .i64 1, .bool true]] (by rfl) rfl ?hrun_ ?_
            case hrun_ => first | (go_simp; done) | (go_simp; rfl)
            refine (euclid_clear.calls k w.heap.size (Nx (fun b => b = gW ∨ b = gV) (fun _ => False) [(g14, #[.slice (some ⟨gb, 0, none⟩) BY.length cm, .int .i64 1, .bool true], 88), (g13, #[.int .i64 y.f0, .slice A1 y.f1.length c1_], 41), (g4, #[.slice none 0 0, .int .i64 0], 32)]) gW (.slice Ao n co) Ap cp ps oe O Aq cq ⟨BY, 1, true⟩ (some ⟨gb, 0, none⟩) cm C R ce w14 CX.out.lt (.inl (.inl rfl)) CX.out.fs.size CX.out.t.1 (Kd.R_V CX.out.p.1.1.1.2.2) (Kd.R_V CX.out.p.2) CX.out.p.1.2 HC.out).mono ?_
            rintro e_ w15 ⟨v, u, rfl, _, hv_, hu_, hf, hw⟩
            refine ⟨_, rfl, ?_⟩
            replace CX := Aside0.mk (CX.out.turn hf (fun b e => .inl e) (fun b e hlt => absurd hlt (by have h1 := HG.out.1; have e : b = gW := e; omega)) (T' := (TWk gW gV n Ao co (.slice Ap ps.length cp) (ce) cs)) ⟨hw, fun h0 => kTB (RB' := (fun _ => False)) (CX.out.t.2 h0) hf (fun e => HG.out.2.2.1 h0 e)⟩ (tTA (tTB (.inl rfl)) (tTI (tTB (.inr rfl)))))
            replace CX := Aside0.mk (CX.out.withP (P' := (PA (PRn w.heap.size (some ad) c0 l0 cs us (.slice Ap ps.length cp) ps) (PA (PV k44 44 v C.f1) (PR (Kd.int .i64) 2 w.heap.size u R.f0)))) ⟨CX.out.p.1.1.1, ⟨hv_, hu_⟩⟩ (gPA (gPA gPVb (gPA (good_VE _ _ _) gPR)) (gPA gPV gPR)))
            clear hv_ hu_ hf hw
            refine hK.out _ _ ⟨CX.out.cell 1 0 rfl rfl, CX.out.cell 1 1 rfl rfl, CX.out.cell 0 0 rfl rfl, CX.out.cell 0 1 rfl rfl, CX.out.cell 0 2 rfl rfl⟩ (fun hHeld => ?_)
            clear hK K
            refine normA 69 ?_
            refine pureA 6 63 (lB 12 127) ?_
            refine pureA 7 70 (lB 12 255) ?_
            refine pureA 8 71 (lB 12 511) ?_
            refine one_ (i := 9) (N := some 15) (lB 12 1023) rfl rfl (one_of HT_.out (by kernel_rfl)) (by decide) (fun K hK => ?_)
            refine value_ (v := .pointer (some ⟨w15.heap.size, 0, none⟩)) (w1 := w15.alloc (.cells #[.int .i64 0, .slice none 0 0] 41 (0, 0))) (by rfl) rfl ?hrun_ ?_
            case hrun_ => first | (go_simp; done) | (go_simp; rfl)
            obtain ⟨g15, hg15⟩ : ∃ g, g = w15.heap.size := ⟨_, rfl⟩
            have hb15 := CX.out.box (W' := w15.alloc (.cells #[.int .i64 0, .slice none 0 0] 41 (0, 0))) hg15 (hg15 ▸ blk_new w15 _) (below_alloc (Below.refl _ _) _)
            replace CX := Aside0.mk hb15
            rw [← hg15]
            clear hb15 hg15
            generalize w15.alloc (.cells #[.int .i64 0, .slice none 0 0] 41 (0, 0)) = w16 at CX ⊢
            refine hK.out _ _ ⟨CX.out.cell 2 0 rfl rfl, CX.out.cell 2 1 rfl rfl, CX.out.cell 1 0 rfl rfl, CX.out.cell 1 1 rfl rfl, CX.out.cell 1 2 rfl rfl⟩ (fun hHeld => ?_)
            clear hK K
            refine normA 15 ?_
            exact norm_ (by simp only [putAll, Act.put, List.setIfInBounds_toArray, List.set_cons_zero, List.set_cons_succ]) (hCont (.slice Aq O.f1.length cq, v, u, g15) _ CX)
           ·skip
            refine value_ (v := .pointer (some ⟨w14.heap.size, 0, none⟩)) (w1 := w14.alloc (.cells #[.int .i64 0, .slice none 0 0] 41 (0, 0))) (by rfl) rfl ?hrun_ ?_
            case hrun_ => first | (go_simp; done) | (go_simp; rfl)
            obtain ⟨g15, hg15⟩ : ∃ g, g = w14.heap.size := ⟨_, rfl⟩
            have hb15 := CX.out.box (W' := w14.alloc (.cells #[.int .i64 0, .slice none 0 0] 41 (0, 0))) hg15 (hg15 ▸ blk_new w14 _) (below_alloc (Below.refl _ _) _)
            replace CX := Aside0.mk hb15
            rw [← hg15]
            clear hb15 hg15
            generalize w14.alloc (.cells #[.int .i64 0, .slice none 0 0] 41 (0, 0)) = w15 at CX ⊢
            refine hK.out _ _ ⟨CX.out.cell 2 0 rfl rfl, CX.out.cell 2 1 rfl rfl, CX.out.cell 1 0 rfl rfl, CX.out.cell 1 1 rfl rfl, CX.out.cell 1 2 rfl rfl⟩ (fun hHeld => ?_)
            clear hK K
            refine normA 15 ?_
            refine one_ (i := 5) (N := some 69) (lB 12 575) rfl rfl (one_of HT_.out (by kernel_rfl)) (by decide) (fun K hK => ?_)
            refine call_ 40 #[.pointer (some ⟨gW, 0, none⟩), .agg #[.int .i64 O.f0, .slice Aq O.f1.length cq], .agg #[(.slice (some ⟨gb, 0, none⟩) BY.length cm), .int .i64 1, .bool true]] (by rfl) rfl ?hrun_ ?_
            case hrun_ => first | (go_simp; done) | (go_simp; rfl)
            refine (euclid_clear.calls k w.heap.size (Nx (fun b => b = gW ∨ b = gV) (fun _ => False) [(g15, #[.int .i64 0, .slice none 0 0], 41), (g14, #[.slice (some ⟨gb, 0, none⟩) BY.length cm, .int .i64 1, .bool true], 88), (g13, #[.int .i64 y.f0, .slice A1 y.f1.length c1_], 41), (g4, #[.slice none 0 0, .int .i64 0], 32)]) gW (.slice Ao n co) Ap cp ps oe O Aq cq ⟨BY, 1, true⟩ (some ⟨gb, 0, none⟩) cm C R ce w15 CX.out.lt (.inl (.inl rfl)) CX.out.fs.size CX.out.t.1 (Kd.R_V CX.out.p.1.1.1.2.2) (Kd.R_V CX.out.p.2) CX.out.p.1.2 HC.out).mono ?_
            rintro e_ w16 ⟨v, u, rfl, _, hv_, hu_, hf, hw⟩
            refine ⟨_, rfl, ?_⟩
            replace CX := Aside0.mk (CX.out.turn hf (fun b e => .inl e) (fun b e hlt => absurd hlt (by have h1 := HG.out.1; have e : b = gW := e; omega)) (T' := (TWk gW gV n Ao co (.slice Ap ps.length cp) (ce) cs)) ⟨hw, fun h0 => kTB (RB' := (fun _ => False)) (CX.out.t.2 h0) hf (fun e => HG.out.2.2.1 h0 e)⟩ (tTA (tTB (.inl rfl)) (tTI (tTB (.inr rfl)))))
            replace CX := Aside0.mk (CX.out.withP (P' := (PA (PRn w.heap.size (some ad) c0 l0 cs us (.slice Ap ps.length cp) ps) (PA (PV k44 44 v C.f1) (PR (Kd.int .i64) 2 w.heap.size u R.f0)))) ⟨CX.out.p.1.1.1, ⟨hv_, hu_⟩⟩ (gPA (gPA gPVb (gPA (good_VE _ _ _) gPR)) (gPA gPV gPR)))
            clear hv_ hu_ hf hw
            refine hK.out _ _ ⟨CX.out.cell 2 0 rfl rfl, CX.out.cell 2 1 rfl rfl, CX.out.cell 1 0 rfl rfl, CX.out.cell 1 1 rfl rfl, CX.out.cell 1 2 rfl rfl⟩ (fun hHeld => ?_)
            clear hK K
            refine normA 69 ?_
            refine pureA 6 63 (lB 12 639) ?_
            refine pureA 7 70 (lB 12 767) ?_
            refine pureA 8 71 (lB 12 1023) ?_
            exact norm_ (by simp only [putAll, Act.put, List.setIfInBounds_toArray, List.set_cons_zero, List.set_cons_succ]) (hCont (.slice Aq O.f1.length cq, v, u, g15) _ CX)
          ·skip
           refine value_ (v := .pointer (some ⟨w13.heap.size, 0, none⟩)) (w1 := w13.alloc (.cells #[.int .i64 0, .slice none 0 0] 41 (0, 0))) (by rfl) rfl ?hrun_ ?_
           case hrun_ => first | (go_simp; done) | (go_simp; rfl)
           obtain ⟨g15, hg15⟩ : ∃ g, g = w13.heap.size := ⟨_, rfl⟩
           have hb15 := CX.out.box (W' := w13.alloc (.cells #[.int .i64 0, .slice none 0 0] 41 (0, 0))) hg15 (hg15 ▸ blk_new w13 _) (below_alloc (Below.refl _ _) _)
           replace CX := Aside0.mk hb15
           rw [← hg15]
           clear hb15 hg15
           generalize w13.alloc (.cells #[.int .i64 0, .slice none 0 0] 41 (0, 0)) = w14 at CX ⊢
           refine hK.out _ _ ⟨CX.out.cell 2 0 rfl rfl, CX.out.cell 2 1 rfl rfl, CX.out.cell 1 0 rfl rfl, CX.out.cell 1 1 rfl rfl, CX.out.cell 1 2 rfl rfl⟩ (fun hHeld => ?_)
           clear hK K
           refine normA 15 ?_
           refine one_ (i := 3) (N := some 67) (lB 12 543) rfl rfl (one_of HT_.out (by kernel_rfl)) (by decide) (fun K hK => ?_)
           refine call_ 41 #[.pointer (some ⟨gW, 0, none⟩), .agg #[.int .i64 y.f0, (.slice A1 y.f1.length c1_)]] (by rfl) rfl ?hrun_ ?_
           case hrun_ => first | (go_simp; done) | (go_simp; rfl)
           refine (euclid_over.callsN k w.heap.size n (Nx (fun b => b = gW ∨ b = gV) (fun _ => False) [(g15, #[.int .i64 0, .slice none 0 0], 41), (g14, #[.slice (some ⟨gb, 0, none⟩) BY.length cm, .int .i64 1, .bool true], 88), (g13, #[.int .i64 y.f0, .slice A1 y.f1.length c1_], 41), (g4, #[.slice none 0 0, .int .i64 0], 32)]) gW gV Ao co (.slice Ap ps.length cp) 0 cs us y.f0 A1 c1_ y.f1 O oe w14 CX.out.lt (.inl (.inl rfl)) (.inl (.inr rfl)) HG.out.2.2.1 HG.out.2.2.2 HV.out.2.1 CX.out.t.1 CX.out.t.2 CX.out.p.1.1.2.1 CX.out.p.1.2.all HO.out).mono ?_
           rintro e_ w15 ⟨v, rfl, hr, hf, hw⟩
           refine ⟨_, rfl, ?_⟩
           have HF := Aside0.mk (CX.out.fresh hf.size hr)
           replace CX := Aside0.mk (CX.out.turn hf (fun b e => .inl e) (fun b e hlt => absurd hlt (by have h1 := HG.out.1; have e : b = gW := e; omega)) (T' := (TWk gW gV n Ao co (.slice Ap ps.length cp) (oe) cs)) ⟨hw, fun h0 => kTB (RB' := (fun _ => False)) (CX.out.t.2 h0) hf (fun e => HG.out.2.2.1 h0 e)⟩ (tTA (tTB (.inl rfl)) (tTI (tTB (.inr rfl)))))
           obtain ⟨Aq, cq, eq_⟩ := Kd.R_slice HF.out
           subst eq_
           replace CX := Aside0.mk (CX.out.withP (P' := PA (PA (PA (PRn w.heap.size (some ad) c0 l0 cs us (.slice Ap ps.length cp) ps) (PVb k44 44 w.heap.size (.slice A1 y.f1.length c1_) y.f1)) (PR (Kd.int .i64) 2 w.heap.size (.slice (some ⟨gb, 0, none⟩) BY.length cm) BY)) (PR k44 44 w.heap.size (.slice Aq O.f1.length cq) O.f1)) ⟨CX.out.p, HF.out⟩ (gPA (gPA (gPA (gPA gPVb (gPA (good_VE _ _ _) gPR)) gPVb) gPR) gPR))
           clear hr hf hw HF
           refine hK.out _ _ ⟨CX.out.cell 2 0 rfl rfl, CX.out.cell 2 1 rfl rfl, CX.out.cell 1 0 rfl rfl, CX.out.cell 1 1 rfl rfl, CX.out.cell 1 2 rfl rfl⟩ (fun hHeld => ?_)
           clear hK K
           refine normA 67 ?_
           refine one_ (i := 5) (N := some 69) (lB 12 575) rfl rfl (one_of HT_.out (by kernel_rfl)) (by decide) (fun K hK => ?_)
           refine call_ 40 #[.pointer (some ⟨gW, 0, none⟩), .agg #[.int .i64 O.f0, .slice Aq O.f1.length cq], .agg #[(.slice (some ⟨gb, 0, none⟩) BY.length cm), .int .i64 1, .bool true]] (by rfl) rfl ?hrun_ ?_
           case hrun_ => first | (go_simp; done) | (go_simp; rfl)
           refine (euclid_clear.calls k w.heap.size (Nx (fun b => b = gW ∨ b = gV) (fun _ => False) [(g15, #[.int .i64 0, .slice none 0 0], 41), (g14, #[.slice (some ⟨gb, 0, none⟩) BY.length cm, .int .i64 1, .bool true], 88), (g13, #[.int .i64 y.f0, .slice A1 y.f1.length c1_], 41), (g4, #[.slice none 0 0, .int .i64 0], 32)]) gW (.slice Ao n co) Ap cp ps oe O Aq cq ⟨BY, 1, true⟩ (some ⟨gb, 0, none⟩) cm C R ce w15 CX.out.lt (.inl (.inl rfl)) CX.out.fs.size CX.out.t.1 (Kd.R_V CX.out.p.1.1.1.2.2) (Kd.R_V CX.out.p.2) CX.out.p.1.2 HC.out).mono ?_
           rintro e_ w16 ⟨v, u, rfl, _, hv_, hu_, hf, hw⟩
           refine ⟨_, rfl, ?_⟩
           replace CX := Aside0.mk (CX.out.turn hf (fun b e => .inl e) (fun b e hlt => absurd hlt (by have h1 := HG.out.1; have e : b = gW := e; omega)) (T' := (TWk gW gV n Ao co (.slice Ap ps.length cp) (ce) cs)) ⟨hw, fun h0 => kTB (RB' := (fun _ => False)) (CX.out.t.2 h0) hf (fun e => HG.out.2.2.1 h0 e)⟩ (tTA (tTB (.inl rfl)) (tTI (tTB (.inr rfl)))))
           replace CX := Aside0.mk (CX.out.withP (P' := (PA (PRn w.heap.size (some ad) c0 l0 cs us (.slice Ap ps.length cp) ps) (PA (PV k44 44 v C.f1) (PR (Kd.int .i64) 2 w.heap.size u R.f0)))) ⟨CX.out.p.1.1.1, ⟨hv_, hu_⟩⟩ (gPA (gPA gPVb (gPA (good_VE _ _ _) gPR)) (gPA gPV gPR)))
           clear hv_ hu_ hf hw
           refine hK.out _ _ ⟨CX.out.cell 2 0 rfl rfl, CX.out.cell 2 1 rfl rfl, CX.out.cell 1 0 rfl rfl, CX.out.cell 1 1 rfl rfl, CX.out.cell 1 2 rfl rfl⟩ (fun hHeld => ?_)
           clear hK K
           refine normA 69 ?_
           refine pureA 6 63 (lB 12 639) ?_
           refine pureA 7 70 (lB 12 767) ?_
           refine pureA 8 71 (lB 12 1023) ?_
           exact norm_ (by simp only [putAll, Act.put, List.setIfInBounds_toArray, List.set_cons_zero, List.set_cons_succ]) (hCont (.slice Aq O.f1.length cq, v, u, g15) _ CX)
        rintro ⟨v67, v, u, g15⟩ wj CX
        obtain ⟨Ac, cc, ev⟩ := Kd.V_slice CX.out.p.2.1
        obtain ⟨Au, cu, eu⟩ := Kd.R_slice CX.out.p.2.2
        dsimp only at CX ev eu ⊢
        subst ev
        subst eu
        refine norm_ (a' := ?_) ?_ ?_
        rotate_left
        · simp only [putAll, Act.put, List.setIfInBounds_toArray, List.set_cons_zero, List.set_cons_succ]
          rfl
        refine one_ (i := 10) (N := none) (lB 12 2047) rfl rfl (one_of HT_.out (by kernel_rfl)) (by decide) (fun K hK => ?_)
        refine skipW CX Cx.wh0n2 (st41 (CX.out.blk 0 rfl)) ?_; clear CX; intro w14 CX
        refine hK.out _ _ ⟨CX.out.cell 2 0 rfl rfl, CX.out.cell 2 1 rfl rfl, CX.out.cell 1 0 rfl rfl, CX.out.cell 1 1 rfl rfl, CX.out.cell 1 2 rfl rfl⟩ (fun hHeld => ?_)
        clear hK K
        refine last_ (i := 11) (N := none) (lB 12 4095) rfl rfl (one_of HT_.out (by kernel_rfl)) (by decide) (fun K hK => ?_)
        refine skipW CX Cx.wh1n3 (st88 (CX.out.blk 1 rfl)) ?_; clear CX; intro w15 CX
        refine hK.out _ _ ?_
        clear hK K
        refine done_ (done_of HT_.out (by kernel_rfl)) ?_
        have hc_g15_0 := ze0 (CX.out.blk 0 rfl)
        have hc_g15_1 := ze1 (CX.out.blk 0 rfl)
        by_cases hde : de = 0
        case neg =>
          have hz2 : (de != 0) = true := bne_iff_ne.mpr hde
          have hl4 := HL4.out
          rw [if_neg hde] at hl4
          simp only [Option.some.injEq, Prod.mk.injEq] at hl4
          obtain ⟨rfl, rfl, rfl, rfl, rfl, rfl⟩ := hl4
          clear HL4 hde
          go_wp2_with (first
            | ((go_at_call 42); refine (euclid_reduce.calls k w.heap.size n (Nx (fun b => b = gW ∨ b = gV) (fun _ => False) [(g15, #[.int .i64 C.f0, .slice Ac C.f1.length cc], 41), (g14, #[.slice Au R.f0.length cu, .int .i64 R.f1, .bool R.f2], 88), (g13, #[.int .i64 y.f0, .slice A1 y.f1.length c1_], 41), (g4, #[.slice none 0 0, .int .i64 0], 32)]) gW gV Ao co (.slice Ap ps.length cp) ce cs us C Ac cc D ys de w15 CX.out.lt (.inl (.inl rfl)) (.inl (.inr rfl)) HG.out.2.2.1 HG.out.2.2.2 HB.out.1 CX.out.fs.size HV.out.2.1 CX.out.t.1 CX.out.t.2 CX.out.p.1.2.1 HV.out.1 CX.out.p.2.1 HD.out).mono ?_; rintro e w16 ⟨v, rfl, hv_, hf, hw, dn, hv, hve, hvd, hle⟩; replace CX := Aside0.mk (CX.out.turn hf (fun b e => e.elim .inl (fun e => .inr e.2)) (fun b e hlt => absurd hlt (by have h1 := HG.out.1; have h2 := HG.out.2.1; rcases e with e | e; omega; have e := e.2; omega)) (T' := (TWk gW gV n Ao co (.slice Ap ps.length cp) (de) dn)) ⟨hw, hv⟩ (tTA (tTB (.inl rfl)) (tTI (tTB (.inr rfl))))); obtain ⟨Ad, cd, ed⟩ := Kd.V_slice hv_; subst ed; replace CX := Aside0.mk (CX.out.withP (P' := (PA (PRn w.heap.size (some ad) c0 l0 dn ys (.slice Ap ps.length cp) ps) (PA (PV k44 44 (.slice Ad D.f1.length cd) D.f1) (PR (Kd.int .i64) 2 w.heap.size (.slice Au R.f0.length cu) R.f0)))) ⟨⟨CX.out.p.1.1, ⟨hve, CX.out.p.1.2.2⟩⟩, ⟨hv_, CX.out.p.2.2⟩⟩ (gPA (gPA gPVb (gPA (good_VE _ _ _) gPR)) (gPA gPV gPR))); replace HV := Aside0.mk (And.intro hvd (And.intro hle HV.out.2.2)); clear hv_ hf hw hv hve hvd hle; clear hc_g15_0 hc_g15_1)
            | ((with_reducible refine gate_store (t := 41) (p := 15) rfl ?_); refine storeW CX (Cx.wh0n2) (st41 (CX.out.blk 0 rfl)) ?_; clear CX; intro w17 CX; have hc_g15_0 := ze0 (CX.out.blk 0 rfl); have hc_g15_1 := ze1 (CX.out.blk 0 rfl); have hx_e : w17.cell? ⟨gW, 2, none⟩ = some (.int .i64 (de)) := (blk_cell CX.out.t.1 2).trans rfl))
          try go_wp2
          replace CX := Aside0.mk CX.out.drew1
          refine start_ (n := 10) (S := fun w' => w'.cell? ⟨gW, 2, none⟩ = some (.int .i64 de)) (ds := []) (lB 10 0) (by kernel_rfl) rfl (by kernel_rfl) (by exact (blk_cell CX.out.t.1 2).trans rfl) (fun hHeld => ?_); refine with_tabW euclid_run.tab18 euclid_run.bits18 (fun HT_ HW_ => ?_)
          generalize w17.drew = w18 at CX hHeld ⊢
          refine pureA 0 80 (lB 10 1) ?_
          refine pureA 1 81 (lB 10 3) ?_
          refine pureA 2 82 (lB 10 7) ?_
          refine pureA 3 83 (lB 10 15) ?_
          refine takeA 4 84 (lB 10 31) ?_
          refine one_ (i := 5) (N := none) (lB 10 63) rfl rfl (one_of HT_.out (by kernel_rfl)) (by decide) (fun K hK => ?_)
          refine skipW CX Cx.wh3n2 (st32 (CX.out.blk 3 rfl)) ?_; clear CX; intro w19 CX
          refine hK.out _ _ (by exact (blk_cell CX.out.t.1 2).trans rfl) (fun hHeld => ?_)
          clear hK K
          refine pureA 6 5 (lB 10 127) ?_
          refine pureA 7 6 (lB 10 255) ?_
          refine pureA 8 7 (lB 10 511) ?_
          refine pureA 9 8 (lB 10 1023) ?_
          refine done_ (done_of HT_.out (by kernel_rfl)) ?_
          go_wp2
          refine bodyPost_ret (v := .tuple #[.agg #[.slice none 0 0, .int .i64 0], .bool false, .slice none 0 0, .int .i64 0, .int .i64 de]) ?hres ?hdef ?_
          case hdef => rfl
          case hres => exact results_list (rs := [.cell 4 32, .tmp 5, .tmp 6, .tmp 7, .tmp 8]) (vs := [.agg #[.slice none 0 0, .int .i64 0], .bool false, .slice none 0 0, .int .i64 0, .int .i64 de]) rfl (show (5 : Nat) ≠ 1 from by decide) (Vals.cell g4 32 #[.slice none 0 0, .int .i64 0] (0, 0) _ rfl (CX.out.blk 3 rfl) Try.underlying32 rfl (by kernel_rfl) (Vals.tmp (Vals.tmp (Vals.tmp (Vals.tmp .nil)))))
          refine ⟨_, _, rfl, Kd.S_nil _ _ _ _ _, Kd.R_nil _ _ _ _ _, CX.out.fs.below (fun _ h => h.elim)⟩
        case pos =>
          have hz2 : (de != 0) = false := by rw [hde]; rfl
          have hl4 := HL4.out
          rw [if_pos hde] at hl4
          obtain ⟨aa, haa⟩ : ∃ aa, aa = (if D.f1.length = 1 then (rd_T44 D.f1 0).f1 else 0) := ⟨_, rfl⟩
          rw [← haa] at hl4
          obtain ⟨re, hre, hl5⟩ := Option.bind_eq_some_iff.1 hl4
          have HAA := Aside0.mk haa
          have HRE := Aside0.mk hre
          have HL5 := Aside0.mk hl5
          have HDE := Aside0.mk hde
          clear HL4 hl4 hl5 haa hre hde
          go_upto_if 88 with (first
            | ((go_at_call 42); refine (euclid_reduce.calls k w.heap.size n (Nx (fun b => b = gW ∨ b = gV) (fun _ => False) [(g15, #[.int .i64 C.f0, .slice Ac C.f1.length cc], 41), (g14, #[.slice Au R.f0.length cu, .int .i64 R.f1, .bool R.f2], 88), (g13, #[.int .i64 y.f0, .slice A1 y.f1.length c1_], 41), (g4, #[.slice none 0 0, .int .i64 0], 32)]) gW gV Ao co (.slice Ap ps.length cp) ce cs us C Ac cc D ys de w15 CX.out.lt (.inl (.inl rfl)) (.inl (.inr rfl)) HG.out.2.2.1 HG.out.2.2.2 HB.out.1 CX.out.fs.size HV.out.2.1 CX.out.t.1 CX.out.t.2 CX.out.p.1.2.1 HV.out.1 CX.out.p.2.1 HD.out).mono ?_; rintro e w16 ⟨v, rfl, hv_, hf, hw, dn, hv, hve, hvd, hle⟩; replace CX := Aside0.mk (CX.out.turn hf (fun b e => e.elim .inl (fun e => .inr e.2)) (fun b e hlt => absurd hlt (by have h1 := HG.out.1; have h2 := HG.out.2.1; rcases e with e | e; omega; have e := e.2; omega)) (T' := (TWk gW gV n Ao co (.slice Ap ps.length cp) (de) dn)) ⟨hw, hv⟩ (tTA (tTB (.inl rfl)) (tTI (tTB (.inr rfl))))); obtain ⟨Ad, cd, ed⟩ := Kd.V_slice hv_; subst ed; replace CX := Aside0.mk (CX.out.withP (P' := (PA (PRn w.heap.size (some ad) c0 l0 dn ys (.slice Ap ps.length cp) ps) (PA (PV k44 44 (.slice Ad D.f1.length cd) D.f1) (PR (Kd.int .i64) 2 w.heap.size (.slice Au R.f0.length cu) R.f0)))) ⟨⟨CX.out.p.1.1, ⟨hve, CX.out.p.1.2.2⟩⟩, ⟨hv_, CX.out.p.2.2⟩⟩ (gPA (gPA gPVb (gPA (good_VE _ _ _) gPR)) (gPA gPV gPR))); replace HV := Aside0.mk (And.intro hvd (And.intro hle HV.out.2.2)); clear hv_ hf hw hv hve hvd hle; clear hc_g15_0 hc_g15_1)
            | ((with_reducible refine gate_store (t := 41) (p := 15) rfl ?_); refine storeW CX (Cx.wh0n2) (st41 (CX.out.blk 0 rfl)) ?_; clear CX; intro w17 CX; have hc_g15_0 := ze0 (CX.out.blk 0 rfl); have hc_g15_1 := ze1 (CX.out.blk 0 rfl); have hx_e : w17.cell? ⟨gW, 2, none⟩ = some (.int .i64 (de)) := (blk_cell CX.out.t.1 2).trans rfl))
          go_cut [16] (fun v16 wc => v16 = .int .i64 aa ∧ wc = w17)
          case first =>
            by_cases hle : D.f1.length = 1
            · have hleb : ((D.f1.length : Int) == 1) = true := by rw [hle]; rfl
              have haa : aa = (rd_T44 D.f1 0).f1 := by have h := HAA.out; rw [if_pos hle] at h; exact h
              obtain ⟨adl, e2, hn0, hn1⟩ := at_T44 (Kd.V_reads' CX.out.p.2.1).2.2 0 (by decide) (by omega)
              subst e2
              replace hn1 : w17.cell? ⟨adl.block, adl.off + 1, none⟩ = some (.int .i64 (rd_T44 D.f1 0).f1) := hn1
              rw [← haa] at hn1
              have hp5 : (0 : Int) < (D.f1.length : Int) := by omega
              have hp4 := eq_true (Int.le_refl 0)
              have hp5 := eq_true hp5
              clear hle haa hn0
              go_wp2
              go_meet
              case rel => exact ⟨rfl, rfl⟩
            · have hleb : ((D.f1.length : Int) == 1) = false := beq_eq_false_iff_ne.mpr (by omega)
              have haa : aa = 0 := by have h := HAA.out; rw [if_neg hle] at h; exact h
              clear hle
              go_wp2
              go_meet
              case rel => exact ⟨by rw [haa], rfl⟩
          case rest =>
          obtain ⟨rfl, rfl⟩ := hcut
          go_upto_if 97 with (fail)
          go_cut [17] (fun v17 wc => v17 = .int .i64 re ∧ Aside0 (Cx w (fun _ => False) (fun b => b = gW ∨ b = gV) (fun _ => False) (TWk gW gV n Ao co (.slice Ap ps.length cp) (de) dn) (PA (PRn w.heap.size (some ad) c0 l0 dn ys (.slice Ap ps.length cp) ps) (PA (PV k44 44 (.slice Ad D.f1.length cd) D.f1) (PR (Kd.int .i64) 2 w.heap.size (.slice Au R.f0.length cu) R.f0))) wc [(g15, #[.int .i64 D.f0, .slice Ad D.f1.length cd], 41), (g14, #[.slice Au R.f0.length cu, .int .i64 R.f1, .bool R.f2], 88), (g13, #[.int .i64 y.f0, .slice A1 y.f1.length c1_], 41), (g4, #[.slice none 0 0, .int .i64 0], 32)]))
          case first =>
            by_cases ha : aa = 0
            · have hab : (aa != 0) = false := by rw [ha]; rfl
              have hre : D.f0 = re := by have h := HRE.out; rw [if_pos ha] at h; exact Option.some.inj h
              clear ha
              go_wp2
              go_meet
              case rel => exact ⟨by first | rfl | rw [hre], CX⟩
            · have hab : (aa != 0) = true := bne_iff_ne.mpr ha
              have hre := HRE.out
              rw [if_neg ha] at hre
              obtain ⟨⟨m1, m2⟩, hm, hm2⟩ := Option.bind_eq_some_iff.1 hre
              have HMd := Aside0.mk hm
              have hm3 : m1 = re := Option.some.inj hm2
              subst hm3
              clear ha hre hm hm2
              go_wp2_with (first
                | ((go_at_call 43); refine (num_Mod.calls D.f0 aa _ _ wc HMd.out).mono ?_; rintro e wm ⟨rfl, hb⟩; replace CX := Aside0.mk (CX.out.drawn hb); clear hb))
              go_meet
              case rel => exact ⟨rfl, CX⟩
          case rest =>
          clear CX hc_g15_0 hc_g15_1 hx_e
          obtain ⟨rfl, CX⟩ := hcut
          have hc_g15_0 := ze0 (CX.out.blk 0 rfl)
          have hc_g15_1 := ze1 (CX.out.blk 0 rfl)
          have hc_g14_0 := ze0 (CX.out.blk 1 rfl)
          have hc_g14_1 := ze1 (CX.out.blk 1 rfl)
          have hc_g14_2 := ze2 (CX.out.blk 1 rfl)
          by_cases hre0 : re = 0
          case neg =>
            have hrb : (re != 0) = true := bne_iff_ne.mpr hre0
            have hl5 := HL5.out
            rw [if_neg hre0] at hl5
            obtain ⟨⟨w1_, w2_, w3_⟩, hwi, hl6⟩ := Option.bind_eq_some_iff.1 hl5
            obtain ⟨ee, hee, hl7⟩ := Option.bind_eq_some_iff.1 hl6
            dsimp only at hee hl7
            have HWI := Aside0.mk hwi
            have HEE := Aside0.mk hee
            have HL7 := Aside0.mk hl7
            clear HL5 hl5 hl6 hl7 hwi hee hre0
            by_cases hw3 : w3_ = 0
            case neg =>
              have hwb : (w3_ == 0) = false := beq_eq_false_iff_ne.mpr hw3
              have hwc : (w3_ != 0) = true := bne_iff_ne.mpr hw3
              have hee := HEE.out
              rw [if_neg hw3] at hee
              obtain rfl : w3_ = ee := Option.some.inj hee
              have hl7 := HL7.out
              rw [if_neg hw3] at hl7
              simp only [Option.some.injEq, Prod.mk.injEq] at hl7
              obtain ⟨rfl, rfl, rfl, rfl, rfl, rfl⟩ := hl7
              clear HL7 HEE hee hw3
              go_wp2_with (first
                | ((go_at_call 44); refine (euclid_witness.calls k (fun b => (Value.slice Au R.f0.length cu).ownBlock = some b) (.slice Au R.f0.length cu) R.f0 R.f1 R.f2 aa D.f0 w1_ w2_ w3_ w wc (CX.out.fs.below (fun _ h => h.elim)) (Rint_ok CX.out.p.2.2 (fun k h => h)) HWI.out).mono ?_; rintro e w18 ⟨v, rfl, hr, hb0, hk⟩; have hbase := Kd.R_base CX.out.p.2.2; have hF : Fs (fun b => (Value.slice Au R.f0.length cu).ownBlock = some b) wc w18 := ⟨hb0.os.trans CX.out.fs.os.symm, hb0.tape.trans CX.out.fs.tape.symm, hb0.output.trans CX.out.fs.output.symm, hk.1, hk.2⟩; obtain ⟨Aw, cw, ew⟩ := Kd.R_slice hr; subst ew; replace CX := Aside0.mk (CX.out.grow hF (fun b hb => ⟨hbase b hb, CX.out.p.2.2.1 b hb⟩) (P' := (PA (PVb k41 41 w.heap.size (.slice (some ad) l0.length c0) l0) (PR (Kd.int .i64) 2 w.heap.size (.slice Aw w1_.length cw) w1_))) ⟨Kd.V_step CX.out.p.1.1 (fun b hb hlt => hk.2 b hlt (fun e => absurd (hbase b e) (by have := hb.1; omega))), Kd.R_mono (Kd.R_bound hr) (fun b hb => hb.1.elim (fun h => CX.out.p.2.2.1 b h) (fun h hn => absurd (CX.out.lt b hn) (by omega)))⟩ (gPA gPVb gPR)); clear hr hb0 hk hbase hF; clear hc_g15_0 hc_g15_1 hc_g14_0 hc_g14_1 hc_g14_2)
                | ((with_reducible refine gate_store (t := 32) (p := 4) rfl ?_); refine storeW CX (Cx.wh3n2) (st32 (CX.out.blk 3 rfl)) ?_; clear CX; intro w19 CX))
              refine bodyPost_ret (v := .tuple #[.agg #[.slice none 0 0, .int .i64 0], .bool false, .slice none 0 0, .int .i64 0, .int .i64 5]) ?hres ?hdef ?_
              case hdef => rfl
              case hres => exact results_list (rs := [.cell 4 32, .tmp 5, .tmp 6, .tmp 7, .tmp 8]) (vs := [.agg #[.slice none 0 0, .int .i64 0], .bool false, .slice none 0 0, .int .i64 0, .int .i64 5]) rfl (show (5 : Nat) ≠ 1 from by decide) (Vals.cell g4 32 #[.slice none 0 0, .int .i64 0] (0, 0) _ rfl (CX.out.blk 3 rfl) Try.underlying32 rfl (by kernel_rfl) (Vals.tmp (Vals.tmp (Vals.tmp (Vals.tmp .nil)))))
              refine ⟨_, _, rfl, Kd.S_nil _ _ _ _ _, Kd.R_nil _ _ _ _ _, CX.out.fs.below (fun _ h => h.elim)⟩
            case pos =>
              have hwb : (w3_ == 0) = true := beq_iff_eq.mpr hw3
              have hee := HEE.out
              rw [if_pos hw3] at hee
              have HEE2 := Aside0.mk hee
              clear HEE hee hw3
              by_cases hee0 : ee = 0
              · have heb : (ee != 0) = false := by rw [hee0]; rfl
                have hl7 := HL7.out
                rw [if_pos hee0] at hl7
                simp only [Option.some.injEq, Prod.mk.injEq] at hl7
                obtain ⟨rfl, rfl, rfl, rfl, rfl, rfl⟩ := hl7
                clear HL7 hee0
                go_wp2_with (first
                  | ((go_at_call 44); refine (euclid_witness.calls k (fun b => (Value.slice Au R.f0.length cu).ownBlock = some b) (.slice Au R.f0.length cu) R.f0 R.f1 R.f2 aa D.f0 w1_ w2_ w3_ w wc (CX.out.fs.below (fun _ h => h.elim)) (Rint_ok CX.out.p.2.2 (fun k h => h)) HWI.out).mono ?_; rintro e w18 ⟨v, rfl, hr, hb0, hk⟩; have hbase := Kd.R_base CX.out.p.2.2; have hF : Fs (fun b => (Value.slice Au R.f0.length cu).ownBlock = some b) wc w18 := ⟨hb0.os.trans CX.out.fs.os.symm, hb0.tape.trans CX.out.fs.tape.symm, hb0.output.trans CX.out.fs.output.symm, hk.1, hk.2⟩; obtain ⟨Aw, cw, ew⟩ := Kd.R_slice hr; subst ew; replace CX := Aside0.mk (CX.out.grow hF (fun b hb => ⟨hbase b hb, CX.out.p.2.2.1 b hb⟩) (P' := (PA (PVb k41 41 w.heap.size (.slice (some ad) l0.length c0) l0) (PR (Kd.int .i64) 2 w.heap.size (.slice Aw w1_.length cw) w1_))) ⟨Kd.V_step CX.out.p.1.1 (fun b hb hlt => hk.2 b hlt (fun e => absurd (hbase b e) (by have := hb.1; omega))), Kd.R_mono (Kd.R_bound hr) (fun b hb => hb.1.elim (fun h => CX.out.p.2.2.1 b h) (fun h hn => absurd (CX.out.lt b hn) (by omega)))⟩ (gPA gPVb gPR)); clear hr hb0 hk hbase hF; clear hc_g15_0 hc_g15_1 hc_g14_0 hc_g14_1 hc_g14_2)
                  | ((go_at_call 11); refine (euclid_Check.calls k (some ad) c0 l0 Aw cw w1_ w2_ ee w18 (Kd.V_reads' CX.out.p.1).2.2 HC0.out (Kd.R_reads' CX.out.p.2).2.2 (Kd.R_reads' CX.out.p.2).2.1 HEE2.out).mono ?_; rintro e w19 ⟨rfl, hb⟩; replace CX := Aside0.mk (CX.out.call hb); clear hb)
                  | ((with_reducible refine gate_store (t := 32) (p := 4) rfl ?_); refine storeW CX (Cx.wh3n2) (st32 (CX.out.blk 3 rfl)) ?_; clear CX; intro w20 CX))
                refine bodyPost_ret (v := .tuple #[.agg #[.slice none 0 0, .int .i64 0], .bool false, .slice Aw w1_.length cw, .int .i64 w2_, .int .i64 0]) ?hres ?hdef ?_
                case hdef => rfl
                case hres => exact results_list (rs := [.cell 4 32, .tmp 5, .tmp 6, .tmp 7, .tmp 8]) (vs := [.agg #[.slice none 0 0, .int .i64 0], .bool false, .slice Aw w1_.length cw, .int .i64 w2_, .int .i64 0]) rfl (show (5 : Nat) ≠ 1 from by decide) (Vals.cell g4 32 #[.slice none 0 0, .int .i64 0] (0, 0) _ rfl (CX.out.blk 3 rfl) Try.underlying32 rfl (by kernel_rfl) (Vals.tmp (Vals.tmp (Vals.tmp (Vals.tmp .nil)))))
                exact ⟨_, _, rfl, Kd.S_nil _ _ _ _ _, Kd.R_mono CX.out.p.2 (fun _ _ => trivial), CX.out.fs.below (fun _ h => h.elim)⟩
              · have heb : (ee != 0) = true := bne_iff_ne.mpr hee0
                have hl7 := HL7.out
                rw [if_neg hee0] at hl7
                simp only [Option.some.injEq, Prod.mk.injEq] at hl7
                obtain ⟨rfl, rfl, rfl, rfl, rfl, rfl⟩ := hl7
                clear HL7 hee0
                go_wp2_with (first
                  | ((go_at_call 44); refine (euclid_witness.calls k (fun b => (Value.slice Au R.f0.length cu).ownBlock = some b) (.slice Au R.f0.length cu) R.f0 R.f1 R.f2 aa D.f0 w1_ w2_ w3_ w wc (CX.out.fs.below (fun _ h => h.elim)) (Rint_ok CX.out.p.2.2 (fun k h => h)) HWI.out).mono ?_; rintro e w18 ⟨v, rfl, hr, hb0, hk⟩; have hbase := Kd.R_base CX.out.p.2.2; have hF : Fs (fun b => (Value.slice Au R.f0.length cu).ownBlock = some b) wc w18 := ⟨hb0.os.trans CX.out.fs.os.symm, hb0.tape.trans CX.out.fs.tape.symm, hb0.output.trans CX.out.fs.output.symm, hk.1, hk.2⟩; obtain ⟨Aw, cw, ew⟩ := Kd.R_slice hr; subst ew; replace CX := Aside0.mk (CX.out.grow hF (fun b hb => ⟨hbase b hb, CX.out.p.2.2.1 b hb⟩) (P' := (PA (PVb k41 41 w.heap.size (.slice (some ad) l0.length c0) l0) (PR (Kd.int .i64) 2 w.heap.size (.slice Aw w1_.length cw) w1_))) ⟨Kd.V_step CX.out.p.1.1 (fun b hb hlt => hk.2 b hlt (fun e => absurd (hbase b e) (by have := hb.1; omega))), Kd.R_mono (Kd.R_bound hr) (fun b hb => hb.1.elim (fun h => CX.out.p.2.2.1 b h) (fun h hn => absurd (CX.out.lt b hn) (by omega)))⟩ (gPA gPVb gPR)); clear hr hb0 hk hbase hF; clear hc_g15_0 hc_g15_1 hc_g14_0 hc_g14_1 hc_g14_2)
                  | ((go_at_call 11); refine (euclid_Check.calls k (some ad) c0 l0 Aw cw w1_ w2_ ee w18 (Kd.V_reads' CX.out.p.1).2.2 HC0.out (Kd.R_reads' CX.out.p.2).2.2 (Kd.R_reads' CX.out.p.2).2.1 HEE2.out).mono ?_; rintro e w19 ⟨rfl, hb⟩; replace CX := Aside0.mk (CX.out.call hb); clear hb)
                  | ((with_reducible refine gate_store (t := 32) (p := 4) rfl ?_); refine storeW CX (Cx.wh3n2) (st32 (CX.out.blk 3 rfl)) ?_; clear CX; intro w20 CX))
                refine bodyPost_ret (v := .tuple #[.agg #[.slice none 0 0, .int .i64 0], .bool false, .slice none 0 0, .int .i64 0, .int .i64 5]) ?hres ?hdef ?_
                case hdef => rfl
                case hres => exact results_list (rs := [.cell 4 32, .tmp 5, .tmp 6, .tmp 7, .tmp 8]) (vs := [.agg #[.slice none 0 0, .int .i64 0], .bool false, .slice none 0 0, .int .i64 0, .int .i64 5]) rfl (show (5 : Nat) ≠ 1 from by decide) (Vals.cell g4 32 #[.slice none 0 0, .int .i64 0] (0, 0) _ rfl (CX.out.blk 3 rfl) Try.underlying32 rfl (by kernel_rfl) (Vals.tmp (Vals.tmp (Vals.tmp (Vals.tmp .nil)))))
                refine ⟨_, _, rfl, Kd.S_nil _ _ _ _ _, Kd.R_nil _ _ _ _ _, CX.out.fs.below (fun _ h => h.elim)⟩
          case pos =>
            have hrb : (re != 0) = false := by rw [hre0]; rfl
            have hl5 := HL5.out
            rw [if_pos hre0] at hl5
            have HL6 := Aside0.mk hl5
            clear HL5 hl5 hre0
            by_cases ha : aa = 0
            case pos =>
              have hab : (aa != 0) = false := by rw [ha]; rfl
              have hl6 := HL6.out
              rw [if_pos ha] at hl6
              have HL8 := Aside0.mk (show euclid_run.l0 k l0 n rest (zs ++ [y]).length ys ps = some (r1, r2, r3, r4, r5, r6) by rw [List.length_append, List.length_singleton]; exact hl6)
              clear HL6 hl6 ha
              go_wp2
              go_roundg gki
              case measure => omega
              case rel =>
                refine ⟨_, zs ++ [y], rest, ys, ps, dn, Ap, cp, rfl, ⟨?_, ?_, ?_⟩, HL8, ⟨HV.out.1, HV.out.2.1, ?_⟩, ?_⟩
                · have h1 := HI.out.1; have h2 := HLL.out; have h3 := HB.out.2; rw [List.length_cons] at h2; rw [List.length_append, List.length_singleton]; unfold wrap64; omega
                · have h1 := HI.out.2.1; rw [List.length_cons] at h1; omega
                · rw [List.append_assoc]; exact HI.out.2.2
                · rw [List.length_append, List.length_singleton]; have := HV.out.2.2; omega
                · have hde := HDE.out
                  rw [hde] at CX
                  exact ⟨(CX.out.withP (P' := (PRn w.heap.size (some ad) c0 l0 dn ys (.slice Ap ps.length cp) ps)) CX.out.p.1 (gPA gPVb (gPA (good_VE _ _ _) gPR))).drop 3⟩
            case neg =>
              have hab : (aa != 0) = true := bne_iff_ne.mpr ha
              have hl6 := HL6.out
              rw [if_neg ha] at hl6
              have hle : D.f1.length = 1 := by
                rcases Decidable.em (D.f1.length = 1) with h | h
                · exact h
                · exact absurd (by have h2 := HAA.out; rw [if_neg h] at h2; exact h2) ha
              obtain ⟨pp, hpp⟩ : ∃ pp : S96, pp = ⟨(rd_T44 D.f1 0).f0, aa, D.f0, R⟩ := ⟨_, rfl⟩
              rw [← hpp] at hl6
              have HL8 := Aside0.mk (show euclid_run.l0 k l0 n rest (zs ++ [y]).length ys (ps ++ [pp]) = some (r1, r2, r3, r4, r5, r6) by rw [List.length_append, List.length_singleton]; exact hl6)
              obtain ⟨adl, e2, hn0, hn1⟩ := at_T44 (Kd.V_reads' CX.out.p.2.1).2.2 0 (by decide) (by omega)
              subst e2
              replace hn0 : wc.cell? adl = some (.int .i64 (rd_T44 D.f1 0).f0) := hn0
              obtain ⟨p0, hp0⟩ : ∃ p0, p0 = (rd_T44 D.f1 0).f0 := ⟨_, rfl⟩
              rw [← hp0] at hn0 hpp
              have HPP := Aside0.mk hpp
              have HN0 := Aside0.mk hn0
              have HADL := Aside0.mk (show ∀ W : World, Kd.V k44 44 W 0 (fun b => ¬ Nx (fun b => b = gW ∨ b = gV) (fun _ => False) [(g15, #[.int .i64 D.f0, .slice (some adl) D.f1.length cd], 41), (g14, #[.slice Au R.f0.length cu, .int .i64 R.f1, .bool R.f2], 88), (g13, #[.int .i64 y.f0, .slice A1 y.f1.length c1_], 41), (g4, #[.slice none 0 0, .int .i64 0], 32)] b) (.slice (some adl) D.f1.length cd) D.f1 → W.cell? adl = some (.int .i64 p0) from fun W hV => by
                obtain ⟨adl2, e3, h0, _⟩ := at_T44 (Kd.V_reads' hV).2.2 0 (by decide) (by omega)
                obtain rfl := Option.some.inj e3
                rw [hp0]
                exact h0)
              have hp5 : (0 : Int) < (D.f1.length : Int) := by omega
              have hp4 := eq_true (Int.le_refl 0)
              have hp5 := eq_true hp5
              have hp6 : (0 < D.f1.length) = True := eq_true (by omega)
              clear HL6 hl6 ha hle hn0 hn1 hpp hp0 hc_g15_0 hc_g15_1 hc_g14_0 hc_g14_1 hc_g14_2
              try go_wp2
              replace CX := Aside0.mk CX.out.drew1
              refine start_ (n := 20) (S := fun w' => w'.cell? ⟨gW, 1, none⟩ = some (.slice Ap ps.length cp) ∧ w'.cell? ⟨g15, 1, none⟩ = some (.slice (some adl) D.f1.length cd) ∧ w'.cell? adl = some (.int .i64 p0) ∧ w'.cell? ⟨g15, 0, none⟩ = some (.int .i64 D.f0) ∧ w'.cell? ⟨g14, 0, none⟩ = some (.slice Au R.f0.length cu) ∧ w'.cell? ⟨g14, 1, none⟩ = some (.int .i64 R.f1) ∧ w'.cell? ⟨g14, 2, none⟩ = some (.bool R.f2)) (ds := [16, 19]) (lB 20 0) (by kernel_rfl) rfl (by kernel_rfl) ⟨(blk_cell CX.out.t.1 1).trans rfl, CX.out.cell 0 1 rfl rfl, HADL.out _ CX.out.p.2.1, CX.out.cell 0 0 rfl rfl, CX.out.cell 1 0 rfl rfl, CX.out.cell 1 1 rfl rfl, CX.out.cell 1 2 rfl rfl⟩ (fun hHeld => ?_); refine with_tabW euclid_run.tab33 euclid_run.bits33 (fun HT_ HW_ => ?_)
              generalize wc.drew = w18 at CX hHeld ⊢
              refine pureA 0 130 (lB 20 1) ?_
              refine pureA 1 131 (lB 20 3) ?_
              refine pureA 2 132 (lB 20 7) ?_
              refine pureA 3 133 (lB 20 15) ?_
              refine takeA 4 134 (lB 20 31) ?_
              refine pureA 5 135 (lB 20 63) ?_
              refine takeA 6 136 (lB 20 127) ?_
              refine pureA 7 137 (lB 20 255) ?_
              refine pureA 8 138 (lB 20 511) ?_
              refine takeA 9 139 (lB 20 1023) ?_
              refine pureA 10 140 (lB 20 2047) ?_
              refine pureA 11 141 (lB 20 4095) ?_
              refine takeA 12 142 (lB 20 8191) ?_
              refine takeA 13 143 (lB 20 16383) ?_
              refine pureA 14 144 (lB 20 32767) ?_
              refine one_ (i := 15) (N := some 145) (lB 20 65535) rfl rfl (one_of HT_.out (by kernel_rfl)) (by decide) (fun K hK => ?_)
              refine value_ (v := .slice (some ⟨w18.heap.size, 0, none⟩) 1 1) (w1 := w18.alloc (.cells ([.int .i64 p0, .int .i64 aa, .int .i64 D.f0, .slice Au R.f0.length cu, .int .i64 R.f1, .bool R.f2] : List Value).toArray 96 (0, 0))) (by rfl) rfl ?hrun_ ?_
              case hrun_ => first | (go_simp; done) | (go_simp; rfl)
              have CXa := CX.out.call (W' := w18.alloc (.cells ([.int .i64 p0, .int .i64 aa, .int .i64 D.f0, .slice Au R.f0.length cu, .int .i64 R.f1, .bool R.f2] : List Value).toArray 96 (0, 0))) (below_alloc (Below.refl _ _) _)
              refine hK.out _ _ ⟨(blk_cell CXa.t.1 1).trans rfl, CXa.cell 0 1 rfl rfl, HADL.out _ CXa.p.2.1, CXa.cell 0 0 rfl rfl, CXa.cell 1 0 rfl rfl, CXa.cell 1 1 rfl rfl, CXa.cell 1 2 rfl rfl⟩ (fun hHeld => ?_)
              clear hK K
              refine normA 145 ?_
              clear CXa
              refine last_ (i := 16) (N := some 146) (lB 20 131071) rfl rfl (one_of HT_.out (by kernel_rfl)) (by decide) (fun K hK => ?_)
              refine Kd.R_append_step k96 (w0 := w18) w.heap.size (by rfl) (.tmp 134) (.tmp 145) 84 96 (.agg #[.int .i64 0, .int .i64 0, .int .i64 0, .slice none 0 0, .int .i64 0, .bool false]) 64 rfl eu_u84 eu_info96 rfl (by decide) (by omega) (.slice Ap ps.length cp) ps (⟨p0, aa, D.f0, R⟩ : S96) [.int .i64 p0, .int .i64 aa, .int .i64 D.f0, .slice Au R.f0.length cu, .int .i64 R.f1, .bool R.f2] (fun b => ¬ Nx (fun b => b = gW ∨ b = gV) (fun _ => False) [(g15, #[.int .i64 D.f0, .slice (some adl) D.f1.length cd], 41), (g14, #[.slice Au R.f0.length cu, .int .i64 R.f1, .bool R.f2], 88), (g13, #[.int .i64 y.f0, .slice A1 y.f1.length c1_], 41), (g4, #[.slice none 0 0, .int .i64 0], 32)] b ∨ w18.heap.size ≤ b) (fun b => (Value.slice Au R.f0.length cu).ownBlock = some b) rfl rfl ?aP ?aK (fun _ h => .inr h) ?aO (Below.refl _ _) CX.out.fs.size ?aL ?_
              (case aP => exact k96_mkM _ _ _ (⟨p0, aa, D.f0, R⟩ : S96) (Rint_ok CX.out.p.2.2 (fun k h => h)))
              (case aK => exact fun b hb => ⟨.inl (CX.out.p.2.2.1 b hb), fun e => by (obtain ⟨c1, h1⟩ := Kd.R_typed CX.out.p.2.2 b hb; obtain ⟨c2, h2⟩ := Kd.R_typed CX.out.p.1.2.2 b e.symm; exact typed_ne h1 (by decide) h2)⟩)
              (case aO => exact Kd.R_mono CX.out.p.1.2.2 (fun _ h => .inl h))
              (case aL => have h1 := HV.out.2.2; have h2 := HLL.out; have h3 := HB.out.2; omega)
              intro vp w19 ho hb hg hat
              rw [← HPP.out] at ho
              obtain ⟨Ap1, cp1, ev⟩ := Kd.R_slice ho
              subst ev
              have hgf := Fs.grown hg
              have hty := Kd.R_typed CX.out.p.1.2.2
              have hbase := Kd.R_base CX.out.p.1.2.2
              replace CX := Aside0.mk (CX.out.grow hgf (fun b hb => ⟨hbase b hb, CX.out.p.1.2.2.1 b hb⟩) (P' := (PRn w.heap.size (some ad) c0 l0 dn ys (.slice Ap1 (ps ++ [pp]).length cp1) (ps ++ [pp]))) ⟨Kd.V_step CX.out.p.1.1 (fun b hb hlt => hgf.block b hlt (fun e => absurd (hbase b e) (by have := hb.1; omega))), ⟨VE_keep CX.out.p.1.2.1 hgf (fun b e cells hc => by (obtain ⟨c2, h2⟩ := hty b e; exact typed_ne h2 (by decide) hc)), Kd.R_mono (Kd.R_bound ho) (fun b hb => hb.1.elim (fun h => h) (fun h hn => absurd (CX.out.lt b hn) (by omega)))⟩⟩ (gPA gPVb (gPA (good_VE _ _ _) gPR)))
              clear ho hb hg hat hgf hty hbase
              refine hK.out _ _ ?_
              clear hK K
              refine normA 146 ?_
              refine pureA 17 147 (lB 20 262143) ?_
              refine pureA 18 148 (lB 20 524287) ?_
              refine last_ (i := 19) (N := none) (lB 20 1048575) rfl rfl (one_of HT_.out (by kernel_rfl)) (by decide) (fun K hK => ?_)
              have hq_0 : w19.cell? ⟨gW, 1, none⟩ = some (.slice Ap ps.length cp) := (blk_cell CX.out.t.1 1).trans rfl
              have hz_0 : w19.frozen? ⟨gW, 1, none⟩ = false := blk_frozen CX.out.t.1 1
              refine skip_ (w1 := (w19.setCell ⟨gW, 1, none⟩ (.slice Ap1 (ps ++ [pp]).length cp1))) (by rfl) rfl ?hs_ ?_
              case hs_ => first | (go_simp; done) | (go_simp; rfl)
              have hfs := Fs.set w19 gW 1 (.slice Ap1 (ps ++ [pp]).length cp1)
              replace CX := Aside0.mk (CX.out.turn hfs (fun b e => .inl e) (fun b e hlt => absurd hlt (by have h1 := HG.out.1; have e : b = gW := e; omega)) (T' := (TWk gW gV n Ao co (.slice Ap1 (ps ++ [pp]).length cp1) (de) dn)) ⟨blk_put CX.out.t.1 1 _ rfl, fun h0 => kTB (RB' := (fun _ => False)) (CX.out.t.2 h0) hfs (fun e => HG.out.2.2.1 h0 e)⟩ (tTA (tTB (.inl rfl)) (tTI (tTB (.inr rfl)))))
              clear hq_0 hz_0 hfs
              generalize (w19.setCell ⟨gW, 1, none⟩ (.slice Ap1 (ps ++ [pp]).length cp1)) = w20 at CX ⊢
              refine hK.out _ _ ?_
              clear hK K
              refine done_ (done_of HT_.out (by kernel_rfl)) ?_
              try go_wp2
              go_roundg gki
              case measure => omega
              case rel =>
                refine ⟨_, zs ++ [y], rest, ys, ps ++ [pp], dn, Ap1, cp1, rfl, ⟨?_, ?_, ?_⟩, HL8, ⟨HV.out.1, HV.out.2.1, ?_⟩, ?_⟩
                · have h1 := HI.out.1; have h2 := HLL.out; have h3 := HB.out.2; rw [List.length_cons] at h2; rw [List.length_append, List.length_singleton]; unfold wrap64; omega
                · have h1 := HI.out.2.1; rw [List.length_cons] at h1; omega
                · rw [List.append_assoc]; exact HI.out.2.2
                · rw [List.length_append, List.length_append, List.length_singleton, List.length_singleton]; have := HV.out.2.2; omega
                · have hde := HDE.out
                  rw [hde] at CX
                  exact ⟨CX.out.drop 3⟩
/-! ### more rounds give no other answer -/
theorem euclid_put.mono0 (k : Nat) (p t0 : Int) (t1 : List S44) : ∀ (xs : List S41) (err : Int), LeO (euclid_put.l0 k p t0 t1 xs err) (euclid_put.l0 (k + 1) p t0 t1 xs err)
  | [], _ => LeO.refl _
  | x :: xs, err => LeO.bind (lin_Put.mono _ _ _ _ _ _) (fun _ => LeO.bind (euclid_put.mono0 k p t0 t1 xs _) (fun _ => LeO.refl _))
theorem euclid_put.mono (xs : List S41) (err f0 : Int) (f1 : List S44) (p t0 : Int) (t1 : List S44) (k : Nat) : LeO (euclid_put.f k xs err f0 f1 p t0 t1) (euclid_put.f (k + 1) xs err f0 f1 p t0 t1) :=
  LeO.bind (euclid_put.mono0 _ _ _ _ _ _) (fun _ => LeO.bind (lin_Put.mono _ _ _ _ _ _) (fun _ => LeO.refl _))
theorem euclid_over.mono (xs : List S41) (err K : Int) (l : List S44) (k : Nat) : LeO (euclid_over.f k xs err K l) (euclid_over.f (k + 1) xs err K l) := by
  unfold euclid_over.f
  exact LeO.ite (LeO.bind (LeO.refl _) (fun _ => LeO.bind (lin_Sum.mono _ _ _) (fun _ => LeO.refl _))) (LeO.none _)
theorem euclid_clear.mono0 (k : Nat) (err : Int) : ∀ (ps : List S96) (f : S41) (r : S88), LeO (euclid_clear.l0 k err ps f r) (euclid_clear.l0 (k + 1) err ps f r)
  | [], _, _ => LeO.refl _
  | p :: ps, f, r => LeO.bind (lin_By.mono _ _ _ _) (fun _ => LeO.ite (euclid_clear.mono0 k err ps _ _) (LeO.bind (LeO.refl _) (fun _ => LeO.bind (LeO.refl _) (fun _ => LeO.ite (LeO.bind (lin_Put.mono _ _ _ _ _ _) (fun _ => LeO.ite (LeO.bind (euclid_row_less.mono _ _ _ _ _ _ _ _ _) (fun _ => euclid_clear.mono0 k err ps _ _)) (LeO.refl _))) (LeO.refl _)))))
theorem euclid_clear.mono (ps : List S96) (err : Int) (f : S41) (r : S88) (k : Nat) : LeO (euclid_clear.f k ps err f r) (euclid_clear.f (k + 1) ps err f r) := by
  unfold euclid_clear.f
  exact LeO.ite (euclid_clear.mono0 _ _ _ _ _) (LeO.none _)
theorem euclid_reduce.mono2 (k : Nat) (b : S44) : ∀ (l : List S44) (f : S41) (xs : List S41) (e : Int), LeO (euclid_reduce.l2 k b l f xs e) (euclid_reduce.l2 (k + 1) b l f xs e)
  | [], _, _, _ => LeO.refl _
  | m :: l, f, xs, e => LeO.ite (euclid_reduce.mono2 k b l _ _ _) (LeO.bind (LeO.refl _) (fun _ => LeO.bind (LeO.refl _) (fun _ => LeO.ite (LeO.bind (euclid_put.mono _ _ _ _ _ _ _ _) (fun _ => LeO.ite (euclid_reduce.mono2 k b l _ _ _) (LeO.refl _))) (LeO.refl _))))
theorem euclid_reduce.mono0 (k : Nat) : ∀ (g : Nat) (f : S41) (xs : List S41) (e : Int), LeO (euclid_reduce.l0 k g f xs e) (euclid_reduce.l0 (k + 1) (g + 1) f xs e)
  | 0, _, _, _ => LeO.none _
  | g + 1, f, xs, e => by
    rw [euclid_reduce.l0, euclid_reduce.l0]
    exact LeO.ite (LeO.ite (LeO.bind (LeO.refl _) (fun _ => LeO.bind (euclid_reduce.mono2 _ _ _ _ _ _) (fun _ => LeO.ite (LeO.refl _) (euclid_reduce.mono0 k g _ _ _)))) (LeO.none _)) (LeO.refl _)
theorem euclid_reduce.mono (xs : List S41) (err : Int) (f : S41) (k : Nat) : LeO (euclid_reduce.f k xs err f) (euclid_reduce.f (k + 1) xs err f) := euclid_reduce.mono0 k k f xs err
theorem euclid_para.mono0 (k : Nat) (ps : List S96) (nm : Int → Int) : ∀ (xs : List S41) (err : Int) (out : List S41), LeO (euclid_para.l0 k ps nm xs err out) (euclid_para.l0 (k + 1) ps nm xs err out)
  | [], _, _ => LeO.refl _
  | x :: xs, err, out => LeO.bind (euclid_clear.mono _ _ _ _ _) (fun _ => LeO.ite (LeO.ite (euclid_para.mono0 k ps nm xs _ _) (LeO.none _)) (LeO.refl _))
theorem euclid_para.mono (xs : List S41) (ps : List S96) (err : Int) (n : Nat) (k : Nat) : LeO (euclid_para.f k xs ps err n) (euclid_para.f (k + 1) xs ps err n) := by
  unfold euclid_para.f
  exact LeO.ite (LeO.bind (euclid_para.mono0 _ _ _ _ _ _) (fun _ => LeO.refl _)) (LeO.none _)
theorem euclid_run.mono0 (k : Nat) (eqs : List S41) (n : Nat) : ∀ (rest : List S41) (i : Nat) (xs : List S41) (ps : List S96), LeO (euclid_run.l0 k eqs n rest i xs ps) (euclid_run.l0 (k + 1) eqs n rest i xs ps)
  | [], _, _, _ => euclid_para.mono _ _ _ _ _
  | y :: rest, i, xs, ps => LeO.bind (euclid_over.mono _ _ _ _ _) (fun _ => LeO.bind (euclid_clear.mono _ _ _ _ _) (fun _ => LeO.bind (euclid_reduce.mono _ _ _ _) (fun _ => LeO.ite (LeO.bind (LeO.refl _) (fun _ => LeO.ite (LeO.ite (euclid_run.mono0 k eqs n rest _ _ _) (euclid_run.mono0 k eqs n rest _ _ _)) (LeO.bind (euclid_witness.mono _ _ _ _ _ _) (fun _ => LeO.bind (LeO.ite (euclid_Check.mono _ _ _ _) (LeO.refl _)) (fun _ => LeO.refl _))))) (LeO.refl _))))
theorem euclid_run.mono : ∀ a0 a1 k, LeO (euclid_run.f k a0 a1) (euclid_run.f (k + 1) a0 a1) := by
  intro a0 a1 k
  unfold euclid_run.f
  exact LeO.bind (euclid_asked.mono _ _ _) (fun _ => LeO.ite (LeO.ite (euclid_run.mono0 _ _ _ _ _ _ _) (LeO.none _)) (LeO.refl _))

end Go.Proofs.Ytjinmlpekecmbaa.PEuclidNone
