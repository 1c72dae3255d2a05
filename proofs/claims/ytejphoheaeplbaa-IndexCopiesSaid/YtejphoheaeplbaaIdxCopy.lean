/- A copy of an index, and the anchor of all its laws. -/
import Derived.Test.YtejphoheaeplbaaIdxWalk
namespace Go.Proofs.Ytejphoheaeplbaa
set_option linter.unusedVariables false
set_option linter.unusedSimpArgs false
open Go Go.SL

structure Good (l : List En) : Prop where
  srt : Srt l
  low : ∀ e ∈ l, e.1 < M128
theorem Good.nil : Good [] := ⟨List.Pairwise.nil, fun _ h => by cases h⟩
theorem Good.ins {l : List En} (h : Good l) {k : Nat} (hk : k < M128) (v : Int) : Good (ins k v l) := ⟨srt_ins h.srt, fun e he => by
  rcases mem_ins he with rfl | he
  · exact hk
  · exact h.low e he⟩
theorem Put_good {x key : Nat} {val : Int} {l : List En} (hk : key < M128) (h : Good l) (hl : l.length ≤ 1000000) :
    FSpec Try.prog 8 [ptr x, .agg (nc key).toArray, .int .i64 val] [Ix x l] (fun v As => v = .tuple #[] ∧ As = [Ix x (ins key val l)]) := Put_spec x key val l hk h.srt h.low hl
theorem ins_last {pre post : List En} {e : En} (h : Srt (pre ++ e :: post)) : ins e.1 e.2 pre = pre ++ [e] := by
  have h1 := (List.pairwise_append.1 h).2.2
  have := ins_low (k := e.1) (v := e.2) pre [] (fun a ha => h1 a ha e (by simp))
  rw [List.append_nil] at this
  rw [this]; rfl
theorem Good.pre {pre post : List En} (h : Good (pre ++ post)) : Good pre := ⟨(List.pairwise_append.1 h.srt).1, fun e he => h.low e (by simp [he])⟩
theorem unallI (Bs : List Asn) : Ent [AllP Bs] Bs := by have := Ent.unall Bs []; rwa [List.append_nil] at this
theorem allI (Bs : List Asn) : Ent Bs [AllP Bs] := by have := Ent.all Bs []; rwa [List.append_nil] at this
theorem Copy_spec (x : Nat) (l : List En) (h : Good l) (hl : l.length ≤ 1000000) : FSpec Try.prog 14 [ptr x] [Ix x l] (fun v As => ∃ y, v = ptr y ∧ As = [Ix x l, Ix y l]) := by
  refine FSpec.intro Try.func14 rfl 17 Try.ntmps14 (Nat.le_of_ble_eq_true rfl) fun w0 F => ?_
  show CW _ _ _ _ _ _ (_ :: F)
  repeat (first | refine CW.seq ?_ | refine PW.then_ ?_ | refine PW.then_to rfl ?_ | refine CW.block ?_ | refine CW.skip ?_ | refine CW.ret ?_ | refine PW.then_ret ?_ | refine PW.block_ret ?_ | refine Cut.ret ?_ | refine Rnd.ret ?_ | refine PW.block_normal ?_ | refine CW.exit ?_ | refine PW.then_exit ?_ | refine PW.block_hit ?_ | refine PW.block_miss rfl ?_ | refine Cut.exit ?_ | refine Rnd.exit ?_)
  refine CW.region ?_
  refine L1 (ps_assign rfl).os ?_
  refine LW.nil ?_
  repeat (first | refine CW.seq ?_ | refine PW.then_ ?_ | refine PW.then_to rfl ?_ | refine CW.block ?_ | refine CW.skip ?_ | refine CW.ret ?_ | refine PW.then_ret ?_ | refine PW.block_ret ?_ | refine Cut.ret ?_ | refine Rnd.ret ?_ | refine PW.block_normal ?_ | refine CW.exit ?_ | refine PW.then_exit ?_ | refine PW.block_hit ?_ | refine PW.block_miss rfl ?_ | refine Cut.exit ?_ | refine Rnd.exit ?_)
  refine CW.region ?_
  refine L1 (ps_build (by rfl) (T.bd26)).os ?_
  refine LE (os_box (vs := [.pointer none, .int .i64 0]) rfl (by rfl)) ?_
  rintro _ _ ⟨y, rfl, rfl⟩
  refine LE (os_alloc T.ti44) ?_
  rintro _ _ ⟨b3, rfl, rfl⟩
  refine L1 (os_store1 (b := b3) (by repeat (first | exact pk_head _ _ | apply pk_tail)) T.sz44 rfl rfl (by rfl) (Nat.le_of_ble_eq_true rfl)) ?_
  refine LW.nil ?_
  refine J.ent ((Ent.perm (Bs := cb y 26 [.pointer none, .int .i64 0] :: _) (by repeat (first | exact pk_head _ _ | apply pk_tail))).trans (Ix_new y _)) ?_
  repeat (first | refine CW.seq ?_ | refine PW.then_ ?_ | refine PW.then_to rfl ?_ | refine CW.block ?_ | refine CW.skip ?_ | refine CW.ret ?_ | refine PW.then_ret ?_ | refine PW.block_ret ?_ | refine Cut.ret ?_ | refine Rnd.ret ?_ | refine PW.block_normal ?_ | refine CW.exit ?_ | refine PW.then_exit ?_ | refine PW.block_hit ?_ | refine PW.block_miss rfl ?_ | refine Cut.exit ?_ | refine Rnd.exit ?_)
  refine CW.region ?_
  refine L1 (ps_move rfl).os ?_
  refine L1 (ps_func (va := #[ptr x]) (vb := #[]) (by simp only [List.map_toArray, List.map_cons, List.map_nil]; rfl) (by simp)).os ?_
  refine LW.nil ?_
  repeat (first | refine CW.seq ?_ | refine PW.then_ ?_)
  refine CW.rangeBlock (bound := [ptr x]) (caps := []) (fun Cs => Cs = Ix x l :: cb b3 44 [ptr y] :: Ix y l :: F) rfl Try.func9 (by decide +kernel) rfl ?_ ?_
  · intro fid D L rec hrec
    refine ((All_spec (total := l) (Inv := fun pre S => S = AllP [pt L (.loop (rec .ready none)), cb b3 44 [ptr y], Ix y pre]) (Stop := fun _ => False) ?_ x _ rfl).frame (pt D (.deferred (some [])) :: F)).mono ?_ ?_
    · rintro pre e post S hsp rfl
      have hg : Good (pre ++ e :: post) := hsp ▸ h
      have hlen : pre.length ≤ 1000000 := by rw [← hsp, List.length_append] at hl; omega
      have hput := Put_good (x := y) (key := e.1) (val := e.2) (h.low e (by rw [← hsp]; simp)) hg.pre hlen
      rw [ins_last hg.srt] at hput
      refine (YSpec.rnd2 (As := [cb b3 44 [ptr y], Ix y pre]) (post := fun b Bs => b = true ∧ Bs = [pt L (.loop (rec .ready none)), cb b3 44 [ptr y], Ix y (pre ++ [e])]) hrec ?_).mono (unallI _) ?_
      · intro hLR w0 G
        show CW _ _ _ _ _ _ (_ :: _ :: _ :: G)
        repeat (first | refine CW.seq ?_ | refine PW.then_ ?_ | refine PW.then_to rfl ?_ | refine CW.block ?_ | refine CW.skip ?_ | refine CW.ret ?_ | refine PW.then_ret ?_ | refine PW.block_ret ?_ | refine Cut.ret ?_ | refine Rnd.ret ?_ | refine PW.block_normal ?_ | refine CW.exit ?_ | refine PW.then_exit ?_ | refine PW.block_hit ?_ | refine PW.block_miss rfl ?_ | refine Cut.exit ?_ | refine Rnd.exit ?_)
        refine CW.region ?_
        refine LE (os_alloc T.ti29) ?_
        rintro _ _ ⟨b4, rfl, rfl⟩
        refine L1 (os_storeAll (b := b4) (vs := nc e.1) (by repeat (first | exact pk_head _ _ | apply pk_tail)) (by exact T.sz29) rfl rfl (nc_one _) (by rfl)) ?_
        refine LW.nil ?_
        repeat (first | refine CW.seq ?_ | refine PW.then_ ?_ | refine PW.then_to rfl ?_ | refine CW.block ?_ | refine CW.skip ?_ | refine CW.ret ?_ | refine PW.then_ret ?_ | refine PW.block_ret ?_ | refine Cut.ret ?_ | refine Rnd.ret ?_ | refine PW.block_normal ?_ | refine CW.exit ?_ | refine PW.then_exit ?_ | refine PW.block_hit ?_ | refine PW.block_miss rfl ?_ | refine Cut.exit ?_ | refine Rnd.exit ?_)
        refine CW.region ?_
        refine L1 (ps_assign rfl).os ?_
        refine LW.nil ?_
        refine RA.begin hLR (by repeat (first | exact pk_head _ _ | apply pk_tail)) ?_
        repeat (first | refine CW.seq ?_ | refine PW.then_ ?_ | refine PW.then_to rfl ?_ | refine CW.block ?_ | refine CW.skip ?_ | refine CW.ret ?_ | refine PW.then_ret ?_ | refine PW.block_ret ?_ | refine Cut.ret ?_ | refine Rnd.ret ?_ | refine PW.block_normal ?_ | refine CW.exit ?_ | refine PW.then_exit ?_ | refine PW.block_hit ?_ | refine PW.block_miss rfl ?_ | refine Cut.exit ?_ | refine Rnd.exit ?_)
        refine CW.region ?_
        refine L1 (os_load1 (b := b3) (v := ptr y) (by repeat (first | exact pk_head _ _ | apply pk_tail)) T.ag44 rfl rfl) ?_
        refine L1 (os_loadAll (b := b4) (cs := nc e.1) (by repeat (first | exact pk_head _ _ | apply pk_tail)) T.ag29 (by exact T.sz29) rfl) ?_
        refine L1 (ps_move rfl).os ?_
        refine L1 (os_call1 hput Try.func8 (by decide +kernel) rfl rfl (by repeat (first | exact pk_head _ _ | apply pk_tail))) ?_
        refine LW.nil ?_
        repeat (first | refine CW.seq ?_ | refine PW.then_ ?_ | refine PW.then_to rfl ?_ | refine CW.block ?_ | refine CW.skip ?_ | refine CW.ret ?_ | refine PW.then_ret ?_ | refine PW.block_ret ?_ | refine Cut.ret ?_ | refine Rnd.ret ?_ | refine PW.block_normal ?_ | refine CW.exit ?_ | refine PW.then_exit ?_ | refine PW.block_hit ?_ | refine PW.block_miss rfl ?_ | refine Cut.exit ?_ | refine Rnd.exit ?_)
        exact RQ.on hLR (by repeat (first | exact pk_head _ _ | apply pk_tail)) (by repeat (first | exact Ent.refl _ | (apply Ent.cons; · repeat (first | exact pk_head _ _ | apply pk_tail)) | apply Ent.skip)) ⟨rfl, rfl⟩
      · rintro b Bs ⟨rfl, rfl⟩
        exact ⟨_, ⟨_, Or.inl ⟨rfl, rfl⟩, rfl⟩, allI _⟩
    · exact Ent.trans (Bs := [pt L (.loop (rec .ready none)), cb b3 44 [ptr y], Ix y []] ++ Ix x l :: pt D (.deferred (some [])) :: F) (by repeat (first | exact Ent.refl _ | (apply Ent.cons; · repeat (first | exact pk_head _ _ | apply pk_tail)) | apply Ent.skip)) ((Ent.all _ _).trans (by repeat (first | exact Ent.refl _ | (apply Ent.cons; · repeat (first | exact pk_head _ _ | apply pk_tail)) | apply Ent.skip)))
    · rintro r As ⟨Cs, ⟨rfl, S', hS | hS, rfl⟩, rfl⟩
      · subst hS
        refine ⟨_, ⟨none, .ready, _, (fun h => by cases h), Or.inl rfl, rfl, rfl⟩, ?_⟩
        exact Ent.trans (Bs := AllP [pt L (.loop (rec .ready none)), cb b3 44 [ptr y], Ix y l] :: Ix x l :: pt D (.deferred (some [])) :: F) (by repeat (first | exact Ent.refl _ | (apply Ent.cons; · repeat (first | exact pk_head _ _ | apply pk_tail)) | apply Ent.skip)) ((Ent.unall _ _).trans (by repeat (first | exact Ent.refl _ | (apply Ent.cons; · repeat (first | exact pk_head _ _ | apply pk_tail)) | apply Ent.skip)))
      · exact absurd hS id
  · rintro D _ rfl
    repeat (first | refine CW.seq ?_ | refine PW.then_ ?_ | refine PW.then_to rfl ?_ | refine CW.block ?_ | refine CW.skip ?_ | refine CW.ret ?_ | refine PW.then_ret ?_ | refine PW.block_ret ?_ | refine Cut.ret ?_ | refine Rnd.ret ?_ | refine PW.block_normal ?_ | refine CW.exit ?_ | refine PW.then_exit ?_ | refine PW.block_hit ?_ | refine PW.block_miss rfl ?_ | refine Cut.exit ?_ | refine Rnd.exit ?_)
    refine CW.region ?_
    refine L1 (os_load1 (b := b3) (v := ptr y) (by repeat (first | exact pk_head _ _ | apply pk_tail)) T.ag44 rfl rfl) ?_
    refine L1 (ps_assign rfl).os ?_
    refine LW.nil ?_
    repeat (first | refine CW.seq ?_ | refine PW.then_ ?_ | refine PW.then_to rfl ?_ | refine CW.block ?_ | refine CW.skip ?_ | refine CW.ret ?_ | refine PW.then_ret ?_ | refine PW.block_ret ?_ | refine Cut.ret ?_ | refine Rnd.ret ?_ | refine PW.block_normal ?_ | refine CW.exit ?_ | refine PW.then_exit ?_ | refine PW.block_hit ?_ | refine PW.block_miss rfl ?_ | refine Cut.exit ?_ | refine Rnd.exit ?_)
    refine Fin.mark rfl (by repeat (first | exact pk_head _ _ | apply pk_tail)) ?_
    exact Fin.ret1 (v := ptr y) rfl [_, _] rfl ⟨y, rfl, rfl⟩ (by repeat (first | exact Ent.refl _ | (apply Ent.cons; · repeat (first | exact pk_head _ _ | apply pk_tail)) | apply Ent.skip))
theorem fit_spec : FSpec Try.prog 7 [] [] (fun v As => v = .bool true ∧ As = []) := by
  have hM := M128_eq
  have p1 := fun x => Put_good (x := x) (key := 2) (val := 7) (l := []) (by omega) Good.nil (by simp)
  have p2 := fun x => Put_good (x := x) (key := 1) (val := 8) (l := ins 2 7 []) (by omega) (Good.nil.ins (by omega) 7) (by simp [ins])
  rw [show ins 2 7 [] = [(2, 7)] from rfl] at p1 p2
  rw [show ins 1 8 [(2, 7)] = [(1, 8), (2, 7)] from rfl] at p2
  refine FSpec.intro Try.func7 rfl 22 Try.ntmps7 (Nat.le_of_ble_eq_true rfl) fun w0 F => ?_
  show CW _ _ _ _ _ _ (F)
  repeat (first | refine CW.seq ?_ | refine PW.then_ ?_ | refine PW.then_to rfl ?_ | refine CW.block ?_ | refine CW.skip ?_ | refine CW.ret ?_ | refine PW.then_ret ?_ | refine PW.block_ret ?_ | refine Cut.ret ?_ | refine Rnd.ret ?_ | refine PW.block_normal ?_ | refine CW.exit ?_ | refine PW.then_exit ?_ | refine PW.block_hit ?_ | refine PW.block_miss rfl ?_ | refine Cut.exit ?_ | refine Rnd.exit ?_)
  refine CW.region ?_
  refine L1 (ps_assign rfl).os ?_
  refine LW.nil ?_
  repeat (first | refine CW.seq ?_ | refine PW.then_ ?_ | refine PW.then_to rfl ?_ | refine CW.block ?_ | refine CW.skip ?_ | refine CW.ret ?_ | refine PW.then_ret ?_ | refine PW.block_ret ?_ | refine Cut.ret ?_ | refine Rnd.ret ?_ | refine PW.block_normal ?_ | refine CW.exit ?_ | refine PW.then_exit ?_ | refine PW.block_hit ?_ | refine PW.block_miss rfl ?_ | refine Cut.exit ?_ | refine Rnd.exit ?_)
  refine CW.region ?_
  refine LE (os_alloc T.ti26) ?_
  rintro _ _ ⟨x, rfl, rfl⟩
  refine LW.nil ?_
  refine J.ent (Ix_new x _) ?_
  repeat (first | refine CW.seq ?_ | refine PW.then_ ?_ | refine PW.then_to rfl ?_ | refine CW.block ?_ | refine CW.skip ?_ | refine CW.ret ?_ | refine PW.then_ret ?_ | refine PW.block_ret ?_ | refine Cut.ret ?_ | refine Rnd.ret ?_ | refine PW.block_normal ?_ | refine CW.exit ?_ | refine PW.then_exit ?_ | refine PW.block_hit ?_ | refine PW.block_miss rfl ?_ | refine Cut.exit ?_ | refine Rnd.exit ?_)
  refine CW.region ?_
  refine L1 (os_call0 (Of_spec 2 (by omega)) Try.func13 (by decide +kernel) rfl rfl) ?_
  refine L1 (os_call1 (p1 x) Try.func8 (by decide +kernel) rfl rfl (by repeat (first | exact pk_head _ _ | apply pk_tail))) ?_
  refine LW.nil ?_
  repeat (first | refine CW.seq ?_ | refine PW.then_ ?_ | refine PW.then_to rfl ?_ | refine CW.block ?_ | refine CW.skip ?_ | refine CW.ret ?_ | refine PW.then_ret ?_ | refine PW.block_ret ?_ | refine Cut.ret ?_ | refine Rnd.ret ?_ | refine PW.block_normal ?_ | refine CW.exit ?_ | refine PW.then_exit ?_ | refine PW.block_hit ?_ | refine PW.block_miss rfl ?_ | refine Cut.exit ?_ | refine Rnd.exit ?_)
  refine CW.region ?_
  refine L1 (os_call0 (Of_spec 1 (by omega)) Try.func13 (by decide +kernel) rfl rfl) ?_
  refine L1 (os_call1 (p2 x) Try.func8 (by decide +kernel) rfl rfl (by repeat (first | exact pk_head _ _ | apply pk_tail))) ?_
  refine LW.nil ?_
  repeat (first | refine CW.seq ?_ | refine PW.then_ ?_ | refine PW.then_to rfl ?_ | refine CW.block ?_ | refine CW.skip ?_ | refine CW.ret ?_ | refine PW.then_ret ?_ | refine PW.block_ret ?_ | refine Cut.ret ?_ | refine Rnd.ret ?_ | refine PW.block_normal ?_ | refine CW.exit ?_ | refine PW.then_exit ?_ | refine PW.block_hit ?_ | refine PW.block_miss rfl ?_ | refine Cut.exit ?_ | refine Rnd.exit ?_)
  refine CW.region ?_
  refine LE (os_alloc T.ti3) ?_
  rintro _ _ ⟨b2, rfl, rfl⟩
  refine L1 (os_store1 (b := b2) (by repeat (first | exact pk_head _ _ | apply pk_tail)) T.sz3 rfl rfl (by rfl) (Nat.le_of_ble_eq_true rfl)) ?_
  refine LW.nil ?_
  repeat (first | refine CW.seq ?_ | refine PW.then_ ?_ | refine PW.then_to rfl ?_ | refine CW.block ?_ | refine CW.skip ?_ | refine CW.ret ?_ | refine PW.then_ret ?_ | refine PW.block_ret ?_ | refine Cut.ret ?_ | refine Rnd.ret ?_ | refine PW.block_normal ?_ | refine CW.exit ?_ | refine PW.then_exit ?_ | refine PW.block_hit ?_ | refine PW.block_miss rfl ?_ | refine Cut.exit ?_ | refine Rnd.exit ?_)
  refine CW.region ?_
  refine L1 (ps_func (va := #[ptr x]) (vb := #[]) (by simp only [List.map_toArray, List.map_cons, List.map_nil]; rfl) (by simp)).os ?_
  refine LW.nil ?_
  repeat (first | refine CW.seq ?_ | refine PW.then_ ?_)
  refine CW.rangeBlock (bound := [ptr x]) (caps := []) (fun Cs => Cs = Ix x [(1, 8), (2, 7)] :: cb b2 3 [.int .i64 87] :: F) rfl Try.func9 (by decide +kernel) rfl ?_ ?_
  · intro fid D L rec hrec
    refine ((All_spec (total := [(1, 8), (2, 7)]) (Inv := fun pre S => S = AllP [pt L (.loop (rec .ready none)), cb b2 3 [.int .i64 (pre.foldl (fun s e => 10 * s + e.2) 0)]]) (Stop := fun _ => False) ?_ x _ rfl).frame (pt D (.deferred (some [])) :: F)).mono ?_ ?_
    · rintro pre e post S hsp rfl
      have hb : 0 ≤ pre.foldl (fun s e => 10 * s + e.2) 0 ∧ pre.foldl (fun s e => 10 * s + e.2) 0 ≤ 100 ∧ 0 ≤ e.2 ∧ e.2 ≤ 10 := by
        match pre, hsp with
        | [], h => simp only [List.nil_append, List.cons.injEq] at h; obtain ⟨rfl, _⟩ := h; simp
        | [a], h => simp only [List.cons_append, List.nil_append, List.cons.injEq] at h; obtain ⟨rfl, rfl, _⟩ := h; simp
        | a :: b :: r, h => simp at h
      have hfe : (pre ++ [e]).foldl (fun s e => 10 * s + e.2) 0 = 10 * pre.foldl (fun s e => 10 * s + e.2) 0 + e.2 := by rw [List.foldl_append]; rfl
      generalize pre.foldl (fun s e => 10 * s + e.2) 0 = s at *
      refine (YSpec.rnd2 (As := [cb b2 3 [.int .i64 s]]) (post := fun b Bs => b = true ∧ Bs = [pt L (.loop (rec .ready none)), cb b2 3 [.int .i64 (10 * s + e.2)]]) hrec ?_).mono (unallI _) ?_
      · intro hLR w0 G
        show CW _ _ _ _ _ _ (_ :: _ :: G)
        repeat (first | refine CW.seq ?_ | refine PW.then_ ?_ | refine PW.then_to rfl ?_ | refine CW.block ?_ | refine CW.skip ?_ | refine CW.ret ?_ | refine PW.then_ret ?_ | refine PW.block_ret ?_ | refine Cut.ret ?_ | refine Rnd.ret ?_ | refine PW.block_normal ?_ | refine CW.exit ?_ | refine PW.then_exit ?_ | refine PW.block_hit ?_ | refine PW.block_miss rfl ?_ | refine Cut.exit ?_ | refine Rnd.exit ?_)
        refine CW.region ?_
        refine L1 (ps_assign rfl).os ?_
        refine LW.nil ?_
        refine RA.begin hLR (by repeat (first | exact pk_head _ _ | apply pk_tail)) ?_
        repeat (first | refine CW.seq ?_ | refine PW.then_ ?_ | refine PW.then_to rfl ?_ | refine CW.block ?_ | refine CW.skip ?_ | refine CW.ret ?_ | refine PW.then_ret ?_ | refine PW.block_ret ?_ | refine Cut.ret ?_ | refine Rnd.ret ?_ | refine PW.block_normal ?_ | refine CW.exit ?_ | refine PW.then_exit ?_ | refine PW.block_hit ?_ | refine PW.block_miss rfl ?_ | refine Cut.exit ?_ | refine Rnd.exit ?_)
        refine CW.region ?_
        refine L1 (os_load1 (b := b2) (v := .int .i64 s) (by repeat (first | exact pk_head _ _ | apply pk_tail)) T.ag3 rfl rfl) ?_
        refine L1 (ps_mul_i64 rfl rfl (by omega) (by omega)).os ?_
        refine L1 (ps_move rfl).os ?_
        refine L1 (ps_add_i64 rfl rfl (by omega) (by omega)).os ?_
        refine L1 (os_store1 (b := b2) (by repeat (first | exact pk_head _ _ | apply pk_tail)) T.sz3 rfl rfl (by rfl) (Nat.le_of_ble_eq_true rfl)) ?_
        refine LW.nil ?_
        repeat (first | refine CW.seq ?_ | refine PW.then_ ?_ | refine PW.then_to rfl ?_ | refine CW.block ?_ | refine CW.skip ?_ | refine CW.ret ?_ | refine PW.then_ret ?_ | refine PW.block_ret ?_ | refine Cut.ret ?_ | refine Rnd.ret ?_ | refine PW.block_normal ?_ | refine CW.exit ?_ | refine PW.then_exit ?_ | refine PW.block_hit ?_ | refine PW.block_miss rfl ?_ | refine Cut.exit ?_ | refine Rnd.exit ?_)
        exact RQ.on hLR (by repeat (first | exact pk_head _ _ | apply pk_tail)) (by repeat (first | exact Ent.refl _ | (apply Ent.cons; · repeat (first | exact pk_head _ _ | apply pk_tail)) | apply Ent.skip)) ⟨rfl, rfl⟩
      · rintro b Bs ⟨rfl, rfl⟩
        exact ⟨_, ⟨_, Or.inl ⟨rfl, by dsimp only; rw [hfe]⟩, rfl⟩, allI _⟩
    · exact Ent.trans (Bs := [pt L (.loop (rec .ready none)), cb b2 3 [.int .i64 0]] ++ Ix x [(1, 8), (2, 7)] :: pt D (.deferred (some [])) :: F) (by repeat (first | exact Ent.refl _ | (apply Ent.cons; · repeat (first | exact pk_head _ _ | apply pk_tail)) | apply Ent.skip)) ((Ent.all _ _).trans (by repeat (first | exact Ent.refl _ | (apply Ent.cons; · repeat (first | exact pk_head _ _ | apply pk_tail)) | apply Ent.skip)))
    · rintro r As ⟨Cs, ⟨rfl, S', hS | hS, rfl⟩, rfl⟩
      · subst hS
        refine ⟨_, ⟨none, .ready, _, (fun h => by cases h), Or.inl rfl, rfl, rfl⟩, ?_⟩
        exact Ent.trans (Bs := AllP [pt L (.loop (rec .ready none)), cb b2 3 [.int .i64 87]] :: Ix x [(1, 8), (2, 7)] :: pt D (.deferred (some [])) :: F) (by repeat (first | exact Ent.refl _ | (apply Ent.cons; · repeat (first | exact pk_head _ _ | apply pk_tail)) | apply Ent.skip)) ((Ent.unall _ _).trans (by repeat (first | exact Ent.refl _ | (apply Ent.cons; · repeat (first | exact pk_head _ _ | apply pk_tail)) | apply Ent.skip)))
      · exact absurd hS id
  · rintro D _ rfl
    repeat (first | refine CW.seq ?_ | refine PW.then_ ?_ | refine PW.then_to rfl ?_ | refine CW.block ?_ | refine CW.skip ?_ | refine CW.ret ?_ | refine PW.then_ret ?_ | refine PW.block_ret ?_ | refine Cut.ret ?_ | refine Rnd.ret ?_ | refine PW.block_normal ?_ | refine CW.exit ?_ | refine PW.then_exit ?_ | refine PW.block_hit ?_ | refine PW.block_miss rfl ?_ | refine Cut.exit ?_ | refine Rnd.exit ?_)
    refine CW.region ?_
    refine L1 (os_load1 (b := b2) (v := .int .i64 87) (by repeat (first | exact pk_head _ _ | apply pk_tail)) T.ag3 rfl rfl) ?_
    refine L1 (ps_t (ps_eql rfl rfl) (rfl)).os ?_
    refine L1 (ps_move rfl).os ?_
    refine LG1 ?_ (os_call1 (Len_spec x [(1, 8), (2, 7)]) Try.func10 (by decide +kernel) rfl rfl (by repeat (first | exact pk_head _ _ | apply pk_tail))) ?_
    · exact rfl
    refine LG1 ?_ (ps_t (ps_eql rfl rfl) (rfl)).os ?_
    · exact rfl
    refine L1 (ps_pick_t rfl rfl).os ?_
    refine L1 (ps_assign rfl).os ?_
    refine LW.nil ?_
    repeat (first | refine CW.seq ?_ | refine PW.then_ ?_ | refine PW.then_to rfl ?_ | refine CW.block ?_ | refine CW.skip ?_ | refine CW.ret ?_ | refine PW.then_ret ?_ | refine PW.block_ret ?_ | refine Cut.ret ?_ | refine Rnd.ret ?_ | refine PW.block_normal ?_ | refine CW.exit ?_ | refine PW.then_exit ?_ | refine PW.block_hit ?_ | refine PW.block_miss rfl ?_ | refine Cut.exit ?_ | refine Rnd.exit ?_)
    refine Fin.mark rfl (by repeat (first | exact pk_head _ _ | apply pk_tail)) ?_
    exact Fin.ret1 (v := .bool true) rfl [] rfl ⟨rfl, rfl⟩ (by repeat (first | exact Ent.refl _ | (apply Ent.cons; · repeat (first | exact pk_head _ _ | apply pk_tail)) | apply Ent.skip))
end Go.Proofs.Ytejphoheaeplbaa
