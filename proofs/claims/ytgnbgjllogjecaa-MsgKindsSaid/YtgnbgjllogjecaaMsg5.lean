/- The walk of msg.Clean (layer 19). -/
import Derived.Test.YtgnbgjllogjecaaMsg4
import Derived.Test.YtgnbgjllogjecaaMsgClean
import Derived.Test.YtgnbgjllogjecaaIter
import Derived.Test.YtgnbgjllogjecaaRowKit
namespace Go.Proofs.Ytgnbgjllogjecaa
open Go.RowKit

set_option maxRecDepth 100000 in
set_option maxHeartbeats 2000000 in
theorem msg_clean_any (q : Rq) (w : World) : Calls Try.prog 49 #[.agg (rqCells q).toArray] w fun r w' => r = .returned (.agg (rqCells (rqClean q)).toArray) ∧ Below w.heap.size w w' := by
  simp only [rqCells]
  go_enter Try.func49, Try.ntmps49
  go_wp2_with (go_at_call 55; refine (msg_fields_any _ _).mono ?_; rintro r w1 ⟨rfl, hb1⟩)
  have hsz1 := hb1.size
  simp only [World.size_alloc] at hsz1
  have hq1 : Blk w1 w.heap.size (rqCells q).toArray 84 := Blk.below (Blk.alloc (Blk.alloc (Blk.new _ _ _) _) _) hb1 (by simp; omega)
  have hres1 : Blk w1 (w.heap.size + 1) (rqCells (rqBare 0)).toArray 84 := by
    have := Blk.alloc (Blk.new (w.alloc (.cells (rqCells q).toArray 84)) (rqCells (rqBare 0)).toArray 84) (.cells (rqCells (rqBare q.kind)).toArray 84)
    rw [World.size_alloc] at this
    exact Blk.below this hb1 (by simp)
  have ho1 : Blk w1 (w.heap.size + 1 + 1) (rqCells (rqBare q.kind)).toArray 84 := by
    have := Blk.new ((w.alloc (.cells (rqCells q).toArray 84)).alloc (.cells (rqCells (rqBare 0)).toArray 84)) (rqCells (rqBare q.kind)).toArray 84
    rw [World.size_alloc, World.size_alloc] at this
    exact Blk.below this hb1 (by simp)
  have hbw : Below w.heap.size w w1 := ((((Below.refl _ _).alloc (Nat.le_refl _) _).alloc (by simp) _).alloc (by simp; omega) _).trans (hb1.mono (by simp; omega))
  clear hb1
  have hfl := fieldsK_len q.kind
  have hsm := Lib.hid (fieldsK_small q.kind)
  generalize hF : fieldsK q.kind = F at *
  have HF := Lib.hid hF
  clear hF
  have hib := iter_new w1 (bs F)
  have hsi : (w1.iter (bs F) 0).heap.size = w1.heap.size + 1 := by unfold World.iter; simp
  have Hq1 := Lib.hid (Blk.alloc hq1 (.stringIter (bs F) 0))
  have Hr1 := Lib.hid (Blk.alloc hres1 (.stringIter (bs F) 0))
  have Ho1 := Lib.hid (Blk.alloc ho1 (.stringIter (bs F) 0))
  have Hbw := Lib.hid ((hbw.alloc (by omega) (.stringIter (bs F) 0)))
  have Hib := Lib.hid hib
  have Hsi := Lib.hid hsi
  clear hq1 hres1 ho1 hbw hib hsi
  go_loopw [5, 6, 7] (fun _ _ _ wr => ∃ (k : Nat) (o : Rq), k ≤ F.length ∧ o = (F.take k).foldl (rqTake q) (rqBare q.kind) ∧ IterAt wr w1.heap.size (bs F) k ∧ Blk wr w.heap.size (rqCells q).toArray 84 ∧
      Blk wr (w.heap.size + 1) (rqCells (rqBare 0)).toArray 84 ∧ Blk wr (w.heap.size + 1 + 1) (rqCells o).toArray 84 ∧ Below w.heap.size w wr) (fun _ _ _ wr => F.length - wr.iterPos w1.heap.size)
  case atStart => exact ⟨0, _, by omega, rfl, Hib.out, Hq1.out, Hr1.out, Ho1.out, Hbw.out⟩
  case round =>
    obtain ⟨k, o, hk, ho, hit, hq, hres, hob, hb⟩ := hrel
    have Ho := Lib.hid ho
    clear ho
    have hsz := hb.size
    have hbs := bs_size F
    by_cases hlt : k < F.length
    · have hlt' : k < (bs F).size := by rw [hbs]; exact hlt
      have hch : (bs F)[k]'hlt' = F[k] := rfl
      have hsmall : ((bs F)[k]'hlt').toNat < 128 := by rw [hch]; exact hsm.out k hlt
      have hnext := run_next_at (P := Try.prog) hit 0 hlt' hsmall
      rw [hch] at hnext
      have Hitx := Lib.hid (IterAt.step hit (k + 1))
      have Hqx := Lib.hid (Blk.setIter hq (show w.heap.size ≠ w1.heap.size by omega) (bs F) (k + 1))
      have Hrx := Lib.hid (Blk.setIter hres (show w.heap.size + 1 ≠ w1.heap.size by omega) (bs F) (k + 1))
      have Hox := Lib.hid (Blk.setIter hob (show w.heap.size + 1 + 1 ≠ w1.heap.size by omega) (bs F) (k + 1))
      have Hbx := Lib.hid (hb.trans ((Touch.setIter (S := fun k => k = w1.heap.size) (Touch.refl _ wr) w1.heap.size (bs F) (k + 1) (.inl rfl)).below (B := w.heap.size) hsz (fun x hx => by subst hx; omega)))
      generalize setIter wr w1.heap.size (bs F) (k + 1) = wx at *
      rcases htx : textIdx (F[k].toNat : Int) with _ | i
      rcases hnx : numIdx (F[k].toNat : Int) with _ | i
      · have hp1 : ∀ b, ptrAt b (textIdx (F[k].toNat : Int)) = .pointer none := fun b => by rw [htx]; rfl
        have hp2 : ∀ b, ptrAt b (numIdx (F[k].toNat : Int)) = .pointer none := fun b => by rw [hnx]; rfl
        have hcr := (Hqx.out.cell 16).trans (rqCells_flag q)
        have hco := (Hox.out.cell 16).trans (rqCells_flag o)
        have Htk := Lib.hid (rqTake_flag q o F[k] htx hnx)
        have Hset := Lib.hid (rqCells_setFlag o q.flag)
        clear hnx htx
        have hfr := Hox.out.free 16
        as_aux_lemma =>
          go_wp2_with (first
            | (go_at_call 72; refine (msg_text_any _ _ _).mono ?_; rintro r w2 ⟨rfl, rfl⟩)
            | (go_at_call 73; refine (msg_number_any _ _ _).mono ?_; rintro r w2 ⟨rfl, rfl⟩))
          go_roundw
          case rel =>
            refine ⟨k + 1, rqTake q o F[k], by omega, ?_, Hitx.out.setCell (by omega) _, Hqx.out.other (by omega) _ _, Hrx.out.other (by omega) _ _, ?_, Hbx.out.setCell (by simp; omega) _⟩
            · rw [List.take_succ_eq_append_getElem hlt, List.foldl_append, ← Ho.out]; rfl
            · rw [Htk.out, ← Hset.out]; exact Hox.out.set 16 _
          case measure =>
            rw [(Hitx.out.setCell (by omega) _).pos, hit.pos]; omega
      · obtain ⟨hi1, hi2⟩ := numIdx_bd _ _ hnx
        have hp1 : ∀ b, ptrAt b (textIdx (F[k].toNat : Int)) = .pointer none := fun b => by rw [htx]; rfl
        have hp2 : ∀ b, ptrAt b (numIdx (F[k].toNat : Int)) = .pointer (some ⟨b, i, none⟩) := fun b => by rw [hnx]; rfl
        have hcr := (Hqx.out.cell i).trans (rqCells_num q i hi1 hi2)
        have hco := (Hox.out.cell i).trans (rqCells_num o i hi1 hi2)
        have Htk := Lib.hid (rqTake_num q o F[k] i htx hnx)
        have Hset := Lib.hid (rqCells_setNum o i hi1 hi2 (q.nx i))
        clear hnx htx
        have hfr := Hox.out.free i
        as_aux_lemma =>
          go_wp2_with (first
            | (go_at_call 72; refine (msg_text_any _ _ _).mono ?_; rintro r w2 ⟨rfl, rfl⟩)
            | (go_at_call 73; refine (msg_number_any _ _ _).mono ?_; rintro r w2 ⟨rfl, rfl⟩))
          go_roundw
          case rel =>
            refine ⟨k + 1, rqTake q o F[k], by omega, ?_, Hitx.out.setCell (by omega) _, Hqx.out.other (by omega) _ _, Hrx.out.other (by omega) _ _, ?_, Hbx.out.setCell (by simp; omega) _⟩
            · rw [List.take_succ_eq_append_getElem hlt, List.foldl_append, ← Ho.out]; rfl
            · rw [Htk.out, ← Hset.out]; exact Hox.out.set i _
          case measure =>
            rw [(Hitx.out.setCell (by omega) _).pos, hit.pos]; omega
      · obtain ⟨hi1, hi2⟩ := textIdx_bd _ _ htx
        have hnx := textIdx_num _ _ htx
        have hp1 : ∀ b, ptrAt b (textIdx (F[k].toNat : Int)) = .pointer (some ⟨b, i, none⟩) := fun b => by rw [htx]; rfl
        have hp2 : ∀ b, ptrAt b (numIdx (F[k].toNat : Int)) = .pointer none := fun b => by rw [hnx]; rfl
        have hcr := (Hqx.out.cell i).trans (rqCells_text q i hi1 hi2)
        have hco := (Hox.out.cell i).trans (rqCells_text o i hi1 hi2)
        have Htk := Lib.hid (rqTake_text q o F[k] i htx)
        have Hset := Lib.hid (rqCells_setText o i hi1 hi2 (q.tx i))
        clear hnx htx
        have hfr := Hox.out.free i
        as_aux_lemma =>
          go_wp2_with (first
            | (go_at_call 72; refine (msg_text_any _ _ _).mono ?_; rintro r w2 ⟨rfl, rfl⟩)
            | (go_at_call 73; refine (msg_number_any _ _ _).mono ?_; rintro r w2 ⟨rfl, rfl⟩))
          go_roundw
          case rel =>
            refine ⟨k + 1, rqTake q o F[k], by omega, ?_, Hitx.out.setCell (by omega) _, Hqx.out.other (by omega) _ _, Hrx.out.other (by omega) _ _, ?_, Hbx.out.setCell (by simp; omega) _⟩
            · rw [List.take_succ_eq_append_getElem hlt, List.foldl_append, ← Ho.out]; rfl
            · rw [Htk.out, ← Hset.out]; exact Hox.out.set i _
          case measure =>
            rw [(Hitx.out.setCell (by omega) _).pos, hit.pos]; omega
    · have hnext := run_next_at_end (P := Try.prog) hit 0 (by rw [hbs]; exact hlt)
      have Hfin := Lib.hid (show o = rqClean q by rw [Ho.out, List.take_of_length_le (by omega), rqClean, HF.out])
      have Hst := Lib.hid (hres.setCells (rqCells o).toArray rfl)
      have Hbl := Lib.hid (below_setCells (B := w.heap.size) (w.heap.size + 1) (by omega) (rqCells o).toArray.toList 0 hb)
      have Hth := Lib.hid (hres.there (rqCells o).length (Nat.le_refl _))
      clear hres hq
      go_wp2_with (first
        | (refine wpList_load_row rfl 84 _ rfl (w.heap.size + 1 + 1) rfl _ (rqCells o).toArray _ _ hob Try.underlying84 rfl (by kernel_rfl) ?_)
        | (refine wpList_store_mid rfl 84 _ _ rfl (w.heap.size + 1) 0 (rqCells o).toArray rfl rfl ?there (by kernel_rfl) ?one ?_))
      case there => exact Hth.out
      case one => exact List.all_eq_true.1 (show (rqCells o).all (·.oneCell') = true from rfl)
      refine bodyPost_ret (results_cell_row Try.results49 _ _ (w.heap.size + 1) 84 (rqCells o).toArray (0, 0) _ rfl Hst.out Try.underlying84 rfl (by kernel_rfl)) rfl ⟨by rw [Hfin.out]; rfl, by simpa using Hbl.out⟩
end Go.Proofs.Ytgnbgjllogjecaa
