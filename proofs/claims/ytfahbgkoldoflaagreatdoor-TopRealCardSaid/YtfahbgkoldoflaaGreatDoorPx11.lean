/- By hand. Conditions: none beside the theorems' own. -/
import Derived.MapKept
import Derived.Test.YtfahbgkoldoflaaGreatDoorPx0
import Derived.Test.YtfahbgkoldoflaaGreatDoorPx7
import Derived.Test.YtfahbgkoldoflaaGreatDoorPx10
namespace Go.Proofs.YtfahbgkoldoflaaGreatDoor.Px
open Go.RowKit Go.Proofs.YtfahbgkoldoflaaGreatDoorW.PrintWords Go.Proofs.YtfahbgkoldoflaaGreatDoorW.PrintLast Go.Proofs.YtfahbgkoldoflaaGreatDoorW.PrintMore
attribute [local go_sem] max2_int min2_int max_two min_two max_three min_three max_four min_four   -- for this text's walks alone
set_option linter.unusedVariables false
set_option linter.unusedSimpArgs false

/-! ### top_event: function 27 -/
/-! top: by hand -/
/-! ### Maps of whole numbers that a function makes for itself: each 'insert' adds an entry behind; a lookup finds it -/
section
open Go.MapKept
def putMap (w : World) (r : Nat) (ob : Obj) : World := { w with heap := w.heap.setIfInBounds r ob }
variable {P : Program} {ops : Array Oper} {rest : List Oper} {o : Oper} {a : Act} {W : World} {Q : Exit → Act → World → Prop}
theorem map_made (hg : o.guard = none) (t : TypeId) (hop : o.op = .makeMap t none)
    (h : ∀ r, r = W.heap.size → ∀ w1, w1.heap[r]? = some (.map #[] 0) → Below W.heap.size W w1 → wpList P ops Q rest (a.put o.dst (.map (some r))) w1) : wpList P ops Q (o :: rest) a W := by
  refine wpList_plain hg fun K hK => ?_
  unfold Oper.wp
  simp only [execOp, hop, Option.map, Instr.makeMap, Sem.run_bind, Sem.run_pure, Result.andThen]
  exact hK _ _ (h _ rfl _ (blk_new W _) (below_alloc (Below.refl _ _) _))
theorem run_entry {t kt et : TypeId} {r n : Nat} {es : Array MapEntry} {k : Int} {v : Value} (ht : P.underlying t = some (.map kt et)) (hk : P.underlying kt = some (.int .i64)) (hr : W.heap[r]? = some (.map es n)) (hn : Instr.findNow (.int .i64) (.int .i64 k) es.toList 0 = some none) :
    (Instr.mapUpdate t (.map (some r)) (.int .i64 k) v).run P W = .ok () (putMap W r (.map (es.push { key := .int .i64 k, val := v, born := n }) (n + 1))) := by
  simp [Instr.mapUpdate, run_underlying ht, MapKept.run_getObj_map hr, MapKept.run_checkKey hk (k := .int .i64 k) rfl, MapKept.run_findKey hk hn, MapKept.run_setObj_map _ hr, Result.andThen, putMap]
theorem wr_putObj {g : Nat} {es : Array MapEntry} {n : Nat} (w : World) (ob : Obj) : WrB g w (putMap w g ob) :=
  ⟨rfl, rfl, rfl, by simp [putMap], fun k hk hne => by simp [putMap, Ne.symm hne]⟩
theorem map_entry (hg : o.guard = none) (t kt et : TypeId) (m x y : Operand) (hop : o.op = .insert t m x y) (hd : o.dst = none) (ht : P.underlying t = some (.map kt et)) (hk : P.underlying kt = some (.int .i64))
    (r n : Nat) (es : Array MapEntry) (k : Int) (hm : a.eval m = .map (some r)) (hx : a.eval x = .int .i64 k) (hr : W.heap[r]? = some (.map es n)) (hn : Instr.findNow (.int .i64) (.int .i64 k) es.toList 0 = some none)
    (h : ∀ w1, w1.heap[r]? = some (.map (es.push { key := .int .i64 k, val := a.eval y, born := n }) (n + 1)) → WrB r W w1 → wpList P ops Q rest a w1) : wpList P ops Q (o :: rest) a W := by
  refine wpList_plain hg fun K hK => ?_
  unfold Oper.wp
  simp only [execOp, hop, hm, hx, run_entry ht hk hr hn, Sem.run_bind, Sem.run_pure, Result.andThen]
  have q := hK a _ (h _ (heap_set hr).1 (wr_putObj (es := es) (n := n) W _))
  simp only [Oper.upon]
  rw [hd]
  exact q
theorem run_found {t kt et : TypeId} {r n i : Nat} {es : Array MapEntry} {k : Int} {v : Value} {ok : Bool} (ht : P.underlying t = some (.map kt et)) (hk : P.underlying kt = some (.int .i64)) (hr : W.heap[r]? = some (.map es n)) (hn : Instr.findNow (.int .i64) (.int .i64 k) es.toList 0 = some (some (i, v))) :
    (Instr.lookup t (.map (some r)) (.int .i64 k) ok).run P W = .ok (if ok = true then .tuple #[v, .bool true] else v) W := by
  cases ok <;> simp [Instr.lookup, run_underlying ht, MapKept.run_getObj_map hr, MapKept.run_checkKey hk (k := .int .i64 k) rfl, MapKept.run_findKey hk hn, Result.andThen]
theorem run_missed {t kt et : TypeId} {r n : Nat} {es : Array MapEntry} {k : Int} {z : Value} (ht : P.underlying t = some (.map kt et)) (hk : P.underlying kt = some (.int .i64)) (hr : W.heap[r]? = some (.map es n)) (hn : Instr.findNow (.int .i64) (.int .i64 k) es.toList 0 = some none) (hz : (zeroValue et).run P W = .ok z W) :
    (Instr.lookup t (.map (some r)) (.int .i64 k) true).run P W = .ok (.tuple #[z, .bool false]) W := by
  simp [Instr.lookup, run_underlying ht, MapKept.run_getObj_map hr, MapKept.run_checkKey hk (k := .int .i64 k) rfl, MapKept.run_findKey hk hn, Result.andThen, hz]
end
def kinds_map : Array MapEntry := #[⟨.int .i64 1, .func (.func 116) #[] #[], 0⟩, ⟨.int .i64 2, .func (.func 117) #[] #[], 1⟩, ⟨.int .i64 6, .func (.func 117) #[] #[], 2⟩, ⟨.int .i64 3, .func (.func 118) #[] #[], 3⟩, ⟨.int .i64 4, .func (.func 118) #[] #[], 4⟩, ⟨.int .i64 5, .func (.func 118) #[] #[], 5⟩, ⟨.int .i64 7, .func (.func 118) #[] #[], 6⟩]
set_option maxHeartbeats 2000000 in
theorem kinds_calls (w : World) : Calls Tryz.prog 60 #[] w fun e w' => ∃ r, e = .returned (.map (some r)) ∧ w'.heap[r]? = some (.map kinds_map 7) ∧ Below w.heap.size w w' := by
  have HB := Aside0.mk (Below.refl w.heap.size w)
  go_enter Tryz.func60, Tryz.ntmps60
  go_wp2_with (first
    | ((with_reducible refine gate_dst (N := 1) rfl ?_); refine map_made rfl 114 rfl ?_; intro r hr w1 hm hb; obtain ⟨GR, nHB⟩ := geA hr hb; replace HB := nHB; clear nHB hr hb; have BM := Aside0.mk hm; clear hm)
    | (refine map_entry rfl 114 3 112 (.tmp 1) (.const (.int .i64 _)) (.func _) rfl rfl Tryz.underlying114 Tryz.underlying3 r _ _ _ rfl rfl BM.out (by rfl) ?_; intro w2 hm hb; replace HB := Aside0.mk (hb.to_below HB.out GR.out HB.out.size); replace BM := Aside0.mk hm; clear hm hb)
    | fail)
  go_ret
  exact ⟨r, rfl, BM.out, HB.out⟩
set_option maxRecDepth 100000 in
set_option maxHeartbeats 2000000 in
theorem event_Check_ok (ek ea eb er : Int) (i cf : Nat) (hf : Aside0 (Instr.findNow (.int .i64) (.int .i64 ek) kinds_map.toList 0 = some (some (i, .func (.func cf) #[] #[])))) (hc : Aside0 (clock_Check.f ea = some true)) (hen : Aside0 (∀ (args : Array Value) (W : World), (callFunc cf args).run Tryz.prog W = .ok (.enter cf args) W)) (hr : Aside0 (∀ W : World, Calls Tryz.prog cf #[.agg #[.int .i64 ek, .int .i64 ea, .int .i64 eb, .int .i64 er]] W fun e w' => e = .returned (.bool true) ∧ Below W.heap.size W w')) (w : World) :
    Calls Tryz.prog 27 #[.agg #[.int .i64 ek, .int .i64 ea, .int .i64 eb, .int .i64 er]] w fun e w' => e = .returned (.int .i64 0) ∧ Below w.heap.size w w' := by
  have HB := Aside0.mk (Below.refl w.heap.size w)
  go_enter Tryz.func27, Tryz.ntmps27
  go_upto_region 1 with (first | ((with_reducible refine gate_dst (N := 1) rfl ?_); refine box_event ?hg (N := 1) ?hd (cs := #[.int .i64 ek, .int .i64 ea, .int .i64 eb, .int .i64 er]) (t := 52) ?hr ?_; (case hd => rfl); (case hg => rfl); (case hr => first | (go_simp; done) | (go_simp; rfl)); intro b1 hg wb hbox hb; have BE := Aside0.mk hbox; obtain ⟨GE, nHB⟩ := geA hg hb; replace HB := nHB; clear nHB hg hb hbox) | fail)
  replace BE := Aside0.mk (blk_drew BE.out)
  replace HB := Aside0.mk (below_drew1 HB.out)
  refine start_ (n := 9) (S := fun w' => w'.cell? ⟨b1, 0, none⟩ = some (.int .i64 ek)) (ds := []) #[N,N,N,N,N,N,N,N,N] (by kernel_rfl) rfl rfl (czZ BE 0 (.int .i64 ek)) (fun hHeld => ?_)
  generalize wb.drew = w1 at BE HB hHeld ⊢
  refine pureA_ (i := 1) (N := some 7) #[N,Y,N,N,N,N,N,N,N] rfl rfl (by kernel_rfl) ?_
  refine take_ (i := 2) (N := some 8) (v := ?_) (a' := ?_) #[N,Y,Y,N,N,N,N,N,N] rfl rfl (by kernel_rfl) (fun _ _ _ h => h) (Or.inl ⟨by rfl, ?_⟩) hHeld ?_ ?_; rotate_left
  · rintro w' s0; go_simp
    with_reducible rfl
  rotate_left
  · simp only [Act.put, sA, sB, sC, i64_w, i32_w]
    rfl
  refine one_ (i := 0) (N := some 6) #[Y,Y,Y,N,N,N,N,N,N] rfl rfl (by kernel_rfl) (by decide) (fun K hK => ?_)
  refine goesA_ Tryz.func60 rfl #[] (by rfl) rfl rfl ?_
  (with_reducible refine (kinds_calls _).mono ?_); rintro e w2 ⟨r, rfl, hm, hb⟩; refine ⟨_, rfl, ?_⟩; have BM := Aside0.mk hm; clear hm; replace BE := bbZ BE hb; replace HB := Aside0.mk (below_step HB.out hb); clear hb
  refine hK.out _ _ (czZ BE 0 (.int .i64 ek)) (fun hHeld => ?_); clear hK K; refine normA_ (some 6) ?_
  refine one_ (i := 3) (N := some 9) #[Y,Y,Y,Y,N,N,N,N,N] rfl rfl (by kernel_rfl) (by decide) (fun K hK => ?_)
  refine val_step (v := .tuple #[.func (.func cf) #[] #[], .bool true]) (w1 := w2) (by rfl) rfl (by simp [execOp, Act.eval, run_found (ok := true) Tryz.underlying114 Tryz.underlying3 BM.out hf.out, Result.andThen]) ?_
  refine hK.out _ _ (czZ BE 0 (.int .i64 ek)) (fun hHeld => ?_); clear hK K; refine normA_ (some 9) ?_
  refine pureA_ (i := 4) (N := some 5) #[Y,Y,Y,Y,Y,N,N,N,N] rfl rfl (by kernel_rfl) ?_
  refine pureA_ (i := 5) (N := some 10) #[Y,Y,Y,Y,Y,Y,N,N,N] rfl rfl (by kernel_rfl) ?_
  refine pureA_ (i := 6) (N := some 11) #[Y,Y,Y,Y,Y,Y,Y,N,N] rfl rfl (by kernel_rfl) ?_
  refine pureA_ (i := 7) (N := some 3) #[Y,Y,Y,Y,Y,Y,Y,Y,N] rfl rfl (by kernel_rfl) ?_
  refine pureA_ (i := 8) (N := some 4) #[Y,Y,Y,Y,Y,Y,Y,Y,Y] rfl rfl (by kernel_rfl) ?_
  refine done_ (by kernel_rfl) ?_
  clear hHeld
  have be_0 := czZ BE 0 (.int .i64 ek)
  have be_1 := czZ BE 1 (.int .i64 ea)
  have be_2 := czZ BE 2 (.int .i64 eb)
  have be_3 := czZ BE 3 (.int .i64 er)
  have hen1 := hen.out
  go_wp2_with (first | (go_at_call 61; (with_reducible refine (clock_Check.calls ea true _ hc.out).mono ?_); rintro e w' ⟨rfl, ⟨nd, rfl⟩⟩) | ((with_reducible refine (hr.out _).mono ?_); rintro e w9 ⟨rfl, hb9⟩; replace HB := Aside0.mk (below_step (W := World.drewN _ _) (pw_below_drewN HB.out _) hb9); clear hb9) | fail)
  go_ret
  exact ⟨rfl, HB.out⟩

end Go.Proofs.YtfahbgkoldoflaaGreatDoor.Px
