import PyProof.Rows.All
import Wide.All
import OpenK.AllK
import Wide.FinOn
import PySem.Challenge.RW_np0009_01
open PySem PySem.W PyProof.Rows PySem.Calls
set_option Elab.async false
set_option maxRecDepth 100000
set_option linter.all false
set_option linter.unusedSimpArgs false
namespace Mine
set_option maxHeartbeats 8000000 in
open_top hd for PySem.Challenge.rw_np0009_01
section
noncomputable abbrev PRG : Program := PySem.Challenge.rw_np0009_01.row.prog
noncomputable abbrev KK (w : World) : Frag := hd.heap_39 w.params
noncomputable abbrev LSE : List Str := looseW hd.view_39 [] ++ List.map (fun x => x.name) (PyProof.Rows.recsOf hd.view_39) ++ List.map (fun x => x.fst) (PyProof.Rows.litsOf hd.view_39) ++ List.map (fun x => x.name) (PyProof.Rows.clssOf hd.view_39 (looseW hd.view_39 []))
section
variable {prog : Program} {w : World} {A : Around} {E : Value → Shared → Prop} {s : Shared} {a b : Addr} {xs ys : List Value} {n : Int} {ns ms : List Int} {Q : Value → Shared → Prop}
theorem ne_cons_nil (ha : s.heap.IsList a xs.toArray) (hb : s.heap.IsList b ys.toArray) (hi : IntsAre xs (n :: ns)) (hj : IntsAre ys []) (hu : A.units + 64 < cLine) (h : Q (.bool true) s) :
    wpAny (model prog w) A (compareOp .NotEq (.ref a) (.ref b)) Q E s := ke_ne_ints ha hb hi hj hu (by simpa using h)
theorem ne_nil_nil (ha : s.heap.IsList a xs.toArray) (hb : s.heap.IsList b ys.toArray) (hi : IntsAre xs []) (hj : IntsAre ys []) (hu : A.units + 64 < cLine) (h : Q (.bool false) s) :
    wpAny (model prog w) A (compareOp .NotEq (.ref a) (.ref b)) Q E s := ke_ne_ints ha hb hi hj hu (by simpa using h)
end
local macro_rules | `(tactic| k_all) => `(tactic| assumption)
local macro_rules | `(tactic| walk_at "compareOp NotEq ref ref") => `(tactic| (k_here; (with_reducible show wpAny _ _ (compareOp CmpOp.NotEq (Value.ref _) (Value.ref _)) _ _ _); k_dflt (first
  | refine ne_cons_nil (by is_list) (by is_list) (by l_ints) (by l_ints) (by ke_room) ?_
  | refine ne_nil_nil (by is_list) (by is_list) (by l_ints) (by l_ints) (by ke_room) ?_)))
section
variable {prog : Program} {w : World} {A : Around} {E : Value → Shared → Prop} {s : Shared} {h₀ : Heap} {L D : Addr} {m : Str → Option Value} {news news' : List (Addr × Obj)} {n : Nat} {u : Tok} {y : Value} {q : List Value}
theorem pop_first {Q : Value → Shared → Prop} (F : Fr h₀ L s.heap m) (N : News h₀ L s.heap news) (U : Upd D (listOf (y :: q).toArray n) (listOf q.toArray (n + 1)) news news')
    (hz : q.length + 1 ≤ sizeLine) (h : ∀ h', Fr h₀ L h' m → News h₀ L h' news' → Q y { s with heap := h' }) : wpAny (model prog w) A (call (.builtin "list.pop") [.ref D, .int 0 u]) Q E s :=
  kl_popAt (its := (y :: q).toArray) (p := []) (q := q) (k := 0) F N rfl (by simp [seqIndex?]) rfl U (by simpa using hz) h
end
local macro_rules | `(tactic| walk_at "call builtin:list.pop") => `(tactic| (k_here; k_dflt (refine' pop_first ?F ?N ?U ?z ?_; (case F => k_asm); (case N => k_asm); (case U => k_upd); (case z => assumption)); intro h' F' N'))
local macro_rules | `(tactic| k_steps) => `(tactic| repeat' (first | (k_unfold; (try dsimp only)) | (k_end; wrow_close) | (dsimp only; walk1) | walk1 | (leave1; walk_say "STEP leave1"; try dsimp only) | fail "no step"))
set_option maxHeartbeats 4000000 in
theorem draw_nil {w : World} {mean : ExcName → Option Value} {mg mb : Str → Option Value} {env : Env} {base h₀ : Heap} {L : Addr} {m : Str → Option Value} {rest : List (Addr × Obj)} {s : Shared} {Q E : Value → Shared → Prop}
    {D a b : Addr} {k many : Int} {tk tm : Tok} {nd na nb : Nat}  {ws : List Value} {cs : List Int}
    (B : Below callerA base [] h₀) (F : Fr h₀ L s.heap m) (X : (KK w).In h₀) (T : Top topProg LSE mean mg mb h₀) (hf : env.frame = some L) (hk : env.scope.kind = .function)
    (N : News h₀ L s.heap ((D, listOf #[.ref a, .ref b, .int k tk] nd) :: (a, listOf #[] na) :: (b, listOf ws.toArray nb) :: rest))
    (hDa : @Ne Nat D a) (hDb : @Ne Nat D b) (hab : @Ne Nat a b) (hD : ∀ p ∈ rest, p.1 ≠ D) (ha : ∀ p ∈ rest, p.1 ≠ a)
     (hw : IntsAre ws cs) (hcs : 0 < cs.length) (hcs2 : cs.length < 2 ^ 20) (hk0 : 0 ≤ k) (hk1 : k < 1000) (hm1 : 1 ≤ many) (hm2 : many ≤ 9)
    (ret : ∀ (r : Int) (t t' : Tok) (vs' : List Value) (ns' : List Int) (na' : Nat) (k' : Int) (h' : Heap) (tk' : Nat), 0 ≤ r → r < many → IntsAre vs' ns' → (∀ n ∈ ns', 0 ≤ n) → ns'.length < 2 ^ 20 → 0 ≤ k' → k' ≤ k + 1 → Fr h₀ L h' m →
      News h₀ L h' ((D, listOf #[.ref a, .ref b, .int k' t'] nd) :: (a, listOf vs'.toArray na') :: (b, listOf ws.toArray nb) :: rest) → Q (.int r t) { s with heap := h', toks := tk' }) :
    wpAny (model PRG w) (callerA.deeper env) (call (.ref 170) [.ref D, .int many tm]) Q E s := by
  unfold PRG
  unfold KK at X
  unfold LSE at T
  revert X
  k_fill
  intro X
  refine wpAny_call ?_
  k_dflt (refine' code_def ?k1 ?k2 ?k3 ?k4 ?k5 ?kA ?kF ?kK ?k6 ?k7 ?k8 ?k9 ?kB ?_ ?c2 ?c3 ?c4 ?c5; (case kA => exact rfl); (case kF => assumption); (case kK => assumption); (case k1 => k_asm); (case k2 => k_asm); (case k3 => k_asm); (case k4 => k_asm); (case k5 => k_asm); (case k6 => k_is); (case k7 => k_is); (case k8 => k_room); (case k9 => exact BindsTo.of_eq rfl); (case c5 => decide); (case kB => exact locs rfl); (case c2 => exact rfl); (case c3 => exact rfl); (case c4 => exact rfl); k_whole; intro g' L' h' FG' F' N' B' X' T'; (try dsimp only); (try k_fold))
  k_steps
  rename_i kF kN Tc kX
  exact ret _ _ _ [] [] na (k + 1) _ _ (Int.fmod_nonneg_of_pos _ (by omega)) (Int.fmod_lt_of_pos _ (by omega)) .nil (fun n hn => nomatch hn) (Nat.two_pow_pos _) (by omega) (by omega) kF (cb_drop kN fun p hp => List.Mem.tail _ hp)
set_option maxHeartbeats 4000000 in
theorem draw_cons {w : World} {mean : ExcName → Option Value} {mg mb : Str → Option Value} {env : Env} {base h₀ : Heap} {L : Addr} {m : Str → Option Value} {rest : List (Addr × Obj)} {s : Shared} {Q E : Value → Shared → Prop}
    {D a b : Addr} {k many : Int} {tk tm : Tok} {nd na nb : Nat} {n : Int} {tn : Tok} {vs : List Value} {ns : List Int} {ws : List Value} {cs : List Int}
    (B : Below callerA base [] h₀) (F : Fr h₀ L s.heap m) (X : (KK w).In h₀) (T : Top topProg LSE mean mg mb h₀) (hf : env.frame = some L) (hk : env.scope.kind = .function)
    (N : News h₀ L s.heap ((D, listOf #[.ref a, .ref b, .int k tk] nd) :: (a, listOf (Value.int n tn :: vs).toArray na) :: (b, listOf ws.toArray nb) :: rest))
    (hDa : @Ne Nat D a) (hDb : @Ne Nat D b) (hab : @Ne Nat a b) (hD : ∀ p ∈ rest, p.1 ≠ D) (ha : ∀ p ∈ rest, p.1 ≠ a)
    (hv : IntsAre vs ns) (hn : 0 ≤ n) (hns : ∀ n ∈ ns, 0 ≤ n) (hnl : ns.length < 2 ^ 20 - 1) (hw : IntsAre ws cs) (hcs : 0 < cs.length) (hcs2 : cs.length < 2 ^ 20) (hk0 : 0 ≤ k) (hk1 : k < 1000) (hm1 : 1 ≤ many) (hm2 : many ≤ 9)
    (ret : ∀ (r : Int) (t t' : Tok) (vs' : List Value) (ns' : List Int) (na' : Nat) (k' : Int) (h' : Heap) (tk' : Nat), 0 ≤ r → r < many → IntsAre vs' ns' → (∀ n ∈ ns', 0 ≤ n) → ns'.length < 2 ^ 20 → 0 ≤ k' → k' ≤ k + 1 → Fr h₀ L h' m →
      News h₀ L h' ((D, listOf #[.ref a, .ref b, .int k' t'] nd) :: (a, listOf vs'.toArray na') :: (b, listOf ws.toArray nb) :: rest) → Q (.int r t) { s with heap := h', toks := tk' }) :
    wpAny (model PRG w) (callerA.deeper env) (call (.ref 170) [.ref D, .int many tm]) Q E s := by
  unfold PRG
  unfold KK at X
  unfold LSE at T
  revert X
  k_fill
  intro X
  refine wpAny_call ?_
  k_dflt (refine' code_def ?k1 ?k2 ?k3 ?k4 ?k5 ?kA ?kF ?kK ?k6 ?k7 ?k8 ?k9 ?kB ?_ ?c2 ?c3 ?c4 ?c5; (case kA => exact rfl); (case kF => assumption); (case kK => assumption); (case k1 => k_asm); (case k2 => k_asm); (case k3 => k_asm); (case k4 => k_asm); (case k5 => k_asm); (case k6 => k_is); (case k7 => k_is); (case k8 => k_room); (case k9 => exact BindsTo.of_eq rfl); (case c5 => decide); (case kB => exact locs rfl); (case c2 => exact rfl); (case c3 => exact rfl); (case c4 => exact rfl); k_whole; intro g' L' h' FG' F' N' B' X' T'; (try dsimp only); (try k_fold))
  have hv9 := IntsAre.cons n tn hv
  have hv8 : vs.length + 1 ≤ sizeLine := by rw [sizeLine_eq, hv.length]; omega
  k_steps
  · rename_i kF kN Tc kX
    exact ret _ _ _ vs ns _ k _ _ (Int.fmod_nonneg_of_pos _ (by omega)) (Int.fmod_lt_of_pos _ (by omega)) hv hns (by omega) (by omega) (by omega) kF (cb_drop kN fun p hp => List.Mem.tail _ hp)
  · rename_i kF kN Tc kX
    have hq : 0 ≤ n.fdiv many := Int.fdiv_nonneg hn (by omega)
    refine ret _ _ _ _ (n.fdiv many :: ns) _ k _ _ (Int.fmod_nonneg_of_pos _ (by omega)) (Int.fmod_lt_of_pos _ (by omega)) (IntsAre.cons _ _ hv) (fun x hx => ?_) (by simp only [List.length_cons]; omega) (by omega) (by omega) kF (cb_drop kN fun p hp => List.Mem.tail _ hp)
    rcases List.mem_cons.mp hx with rfl | hx
    · exact hq
    · exact hns x hx
end
section
structure Stop (P : Prop) : Prop where
  out : P
theorem stop_here {P : Prop} (h : Stop P) : P := h.out
theorem mem_front {α : Type} {pre rest : List α} {x y z : α} : ∀ p ∈ x :: y :: z :: (pre ++ rest), p ∈ pre ++ x :: y :: z :: rest := by
  intro p hp
  simp only [List.mem_cons, List.mem_append] at hp ⊢
  rcases hp with h | h | h | h | h
  · exact .inr (.inl h)
  · exact .inr (.inr (.inl h))
  · exact .inr (.inr (.inr (.inl h)))
  · exact .inl h
  · exact .inr (.inr (.inr (.inr h)))
theorem mem_back {α : Type} {pre rest : List α} {x y z : α} : ∀ p ∈ pre ++ x :: y :: z :: rest, p ∈ x :: y :: z :: (pre ++ rest) := by
  intro p hp
  simp only [List.mem_cons, List.mem_append] at hp ⊢
  rcases hp with h | h | h | h | h
  · exact .inr (.inr (.inr (.inl h)))
  · exact .inl h
  · exact .inr (.inl h)
  · exact .inr (.inr (.inl h))
  · exact .inr (.inr (.inr (.inr h)))
theorem draw_spec {w : World} {mean : ExcName → Option Value} {mg mb : Str → Option Value} {env : Env} {base h₀ : Heap} {L : Addr} {m : Str → Option Value} (pre : List (Addr × Obj)) {rest : List (Addr × Obj)} {s : Shared} {Q E : Value → Shared → Prop}
    {D a b : Addr} {k many : Int} {tk tm : Tok} {nd na nb : Nat} {vs : List Value} {ns : List Int} {ws : List Value} {cs : List Int}
    (B : Below callerA base [] h₀) (F : Fr h₀ L s.heap m) (X : (KK w).In h₀) (T : Top topProg LSE mean mg mb h₀) (hf : env.frame = some L) (hk : env.scope.kind = .function)
    (N : News h₀ L s.heap (pre ++ (D, listOf #[.ref a, .ref b, .int k tk] nd) :: (a, listOf vs.toArray na) :: (b, listOf ws.toArray nb) :: rest))
    (hDa : @Ne Nat D a) (hDb : @Ne Nat D b) (hab : @Ne Nat a b) (hpD : ∀ p ∈ pre, p.1 ≠ D) (hpa : ∀ p ∈ pre, p.1 ≠ a) (hD : ∀ p ∈ rest, p.1 ≠ D) (ha : ∀ p ∈ rest, p.1 ≠ a)
    (hv : IntsAre vs ns) (hns : ∀ n ∈ ns, 0 ≤ n) (hnl : ns.length < 2 ^ 20) (hw : IntsAre ws cs) (hcs : 0 < cs.length) (hcs2 : cs.length < 2 ^ 20) (hk0 : 0 ≤ k) (hk1 : k < 1000) (hm1 : 1 ≤ many) (hm2 : many ≤ 9)
    (ret : ∀ (r : Int) (t t' : Tok) (vs' : List Value) (ns' : List Int) (na' : Nat) (k' : Int) (h' : Heap) (tk' : Nat), 0 ≤ r → r < many → IntsAre vs' ns' → (∀ n ∈ ns', 0 ≤ n) → ns'.length < 2 ^ 20 → 0 ≤ k' → k' ≤ k + 1 → Fr h₀ L h' m →
      News h₀ L h' (pre ++ (D, listOf #[.ref a, .ref b, .int k' t'] nd) :: (a, listOf vs'.toArray na') :: (b, listOf ws.toArray nb) :: rest) → Q (.int r t) { s with heap := h', toks := tk' }) :
    wpAny (model PRG w) (callerA.deeper env) (call (.ref 170) [.ref D, .int many tm]) Q E s := by
  have N1 := cb_drop N mem_front
  have hD1 : ∀ p ∈ pre ++ rest, p.1 ≠ D := fun p hp => (List.mem_append.mp hp).elim (hpD p) (hD p)
  have ha1 : ∀ p ∈ pre ++ rest, p.1 ≠ a := fun p hp => (List.mem_append.mp hp).elim (hpa p) (ha p)
  cases hv with
  | nil => exact draw_nil B F X T hf hk N1 hDa hDb hab hD1 ha1 hw hcs hcs2 hk0 hk1 hm1 hm2 fun r t t' vs' ns' na' k' h' tk' a1 a2 a3 a4 a5 a6 a7 a8 a9 => ret r t t' vs' ns' na' k' h' tk' a1 a2 a3 a4 a5 a6 a7 a8 (cb_drop a9 mem_back)
  | @cons vs ns n tn hv =>
    exact draw_cons B F X T hf hk N1 hDa hDb hab hD1 ha1 hv (hns _ (.head _)) (fun x hx => hns x (.tail _ hx)) (by simp only [List.length_cons] at hnl; omega) hw hcs hcs2 hk0 hk1 hm1 hm2 fun r t t' vs' ns' na' k' h' tk' a1 a2 a3 a4 a5 a6 a7 a8 a9 => ret r t t' vs' ns' na' k' h' tk' a1 a2 a3 a4 a5 a6 a7 a8 (cb_drop a9 mem_back)
end
section
noncomputable def lawStmt : Stmt := (PySem.Challenge.pw_np0009_01.main.body.drop 23).headD (.Pass default)
def LawIs (st0 st1 st2 : Stmt) (px : Pos) (it : Expr) (t1 t2 t3 t4 : Stmt) (fpos : Pos) (st4 : Stmt) (sc : Scope) : Prop :=
  ∃ nm ar dl rt tp ts bi ps, lawStmt = .FunctionDef nm ar [st0, st1, st2, .For (.Name "the_turn" px) it [t1, t2, t3, t4] [] fpos, st4] dl rt tp sc ts bi ps
set_option maxHeartbeats 4000000 in
theorem law_is {P : Prop} (h : ∀ st0 st1 st2 px it t1 t2 t3 t4 fpos st4 sc, LawIs st0 st1 st2 px it t1 t2 t3 t4 fpos st4 sc → P) : P := h _ _ _ _ _ _ _ _ _ _ _ _ ⟨_, _, _, _, _, _, _, _, rfl⟩
end
section
theorem beq_no {a b : Int} (h : a ≠ b) : ¬ ((a == b) = true) := by simpa using h
theorem bne_no {a b : Int} (h : a = b) : ¬ ((a != b) = true) := by simp [h]
theorem lt_tail {α : Type} {d : Nat} {f : α → Nat} {e : α} {l : List α} (h : ∀ p ∈ e :: l, f p < d) : ∀ p ∈ l, f p < d := fun p hp => h p (.tail _ hp)
theorem ne_more {α : Type} {d x : Nat} {f : α → Nat} {l : List α} (h : ∀ p ∈ l, f p < d) (hx : d < x) : ∀ p ∈ l, f p ≠ x := fun p hp => Nat.ne_of_lt (Nat.lt_trans (h p hp) hx)
theorem ne_tail {α : Type} {d : Nat} {f : α → Nat} {l : List α} (h : ∀ p ∈ l, f p < d) : ∀ p ∈ l, f p ≠ d := fun p hp => Nat.ne_of_lt (h p hp)
section
variable {prog : Program} {w : World} {A : Around} {E : Value → Shared → Prop} {s : Shared} {h₀ : Heap} {L l l2 : Addr} {m : Str → Option Value} {news : List (Addr × Obj)} {value slice : PySem.Expr} {us ws : List Value} {n n2 : Nat} {y : Int} {t : Tok} {Q : Value → Shared → Prop} {hp : Heap} {gs : Array GenState} {dr : Drawn} {tk : Nat} {os : OsState}
theorem pick_upto (us : List Value) {y : Int} (h0 : 0 ≤ y) : (slicePick us.toArray none (some y) none).toList = us.take y.toNat := by
  obtain ⟨k, rfl⟩ : ∃ k : Nat, y = k := ⟨y.toNat, by omega⟩
  rw [slicePick_upto', Int.toNat_natCast]
theorem pick_from (us : List Value) {y : Int} (h0 : 0 ≤ y) : (slicePick us.toArray (some y) none none).toList = us.drop y.toNat := by
  obtain ⟨k, rfl⟩ : ∃ k : Nat, y = k := ⟨y.toNat, by omega⟩
  rw [slicePick_from', Int.toNat_natCast]
theorem ls_upto (F : Fr h₀ L hp m) (N : News h₀ L hp news) (hm : (l, listOf us.toArray n) ∈ news) (h0 : 0 ≤ y) (hz : us.length ≤ 1000)
    (h : ∀ D h', Fr h₀ L h' m → News h₀ L h' ((D, listOf (us.take y.toNat).toArray 0) :: news) → (∀ p ∈ news, p.1 < D) → Q (.ref D) ⟨h', gs, dr, tk, os⟩)
    (hs : subscripted slice false (.ref l) (.ref hp.objs.size) = operate [.ref hp.objs.size, .ref l] (getItem (.ref l) (.ref hp.objs.size))) (ht : ∀ r, letTemporaryGo value (.ref l) r = pure ()) :
    wpAny (model prog w) A (subscriptTail value slice (.ref l) (.ref hp.objs.size)) Q E ⟨hp.push { cls := .type "slice", data := .fields #[.none, .int y t, .none] }, gs, dr, tk, os⟩ :=
  kmk_slice_lit (s := ⟨hp, gs, dr, tk, os⟩) F N (News.isList N hm) .none (.int y t) (pick_upto us h0) h hs ht (by rw [List.size_toArray, sizeLine_eq]; omega)
theorem ls_from (F : Fr h₀ L hp m) (N : News h₀ L hp news) (hm : (l, listOf us.toArray n) ∈ news) (h0 : 0 ≤ y) (hz : us.length ≤ 1000)
    (h : ∀ D h', Fr h₀ L h' m → News h₀ L h' ((D, listOf (us.drop y.toNat).toArray 0) :: news) → (∀ p ∈ news, p.1 < D) → Q (.ref D) ⟨h', gs, dr, tk, os⟩)
    (hs : subscripted slice false (.ref l) (.ref hp.objs.size) = operate [.ref hp.objs.size, .ref l] (getItem (.ref l) (.ref hp.objs.size))) (ht : ∀ r, letTemporaryGo value (.ref l) r = pure ()) :
    wpAny (model prog w) A (subscriptTail value slice (.ref l) (.ref hp.objs.size)) Q E ⟨hp.push { cls := .type "slice", data := .fields #[.int y t, .none, .none] }, gs, dr, tk, os⟩ :=
  kmk_slice_lit (s := ⟨hp, gs, dr, tk, os⟩) F N (News.isList N hm) (.int y t) .none (pick_from us h0) h hs ht (by rw [List.size_toArray, sizeLine_eq]; omega)
theorem ls_add (F : Fr h₀ L s.heap m) (N : News h₀ L s.heap news) (hm : (l, listOf us.toArray n) ∈ news) (hm2 : (l2, listOf ws.toArray n2) ∈ news) (hz : us.length ≤ 1000) (hz2 : ws.length ≤ 1000)
    (h : ∀ D h', Fr h₀ L h' m → News h₀ L h' ((D, listOf (us ++ ws).toArray 0) :: news) → (∀ p ∈ news, p.1 < D) → Q (.ref D) { s with heap := h' }) :
    wpAny (model prog w) A (binaryOp .Add (.ref l) (.ref l2)) Q E s :=
  add_lists (hsz := by rw [sizeLine_eq]; omega) F N (News.isList N hm) (News.isList N hm2) fun h' F' N' => h _ h' F' N' fun p hp => Heap.lt_size (N p hp).1
theorem ls_len (N : News h₀ L s.heap news) (hm : (l, listOf us.toArray n) ∈ news) (hz : us.length ≤ 1000)
    (h : Q (.int (us.length : Int) (s.toks + 1)) { s with toks := s.toks + 1 + 1 }) : wpAny (model prog w) A (call (.builtin "len") [.ref l]) Q E s := by
  have hl := News.isList N hm
  have e : us.toArray.size = us.length := by rw [List.size_toArray]
  exact len_list hl (by rw [e]; omega) (by rw [e]; exact h)
end
end
section
inductive ListsAll (tl : List (Addr × Obj)) : List Value → List (List Int) → Prop
  | nil : ListsAll tl [] []
  | cons {o : Addr} {ivs : List Value} {n : Nat} {cs : List Int} {vs : List Value} {css : List (List Int)} : (o, listOf ivs.toArray n) ∈ tl → IntsAre ivs cs → ListsAll tl vs css → ListsAll tl (.ref o :: vs) (cs :: css)
inductive PiecesAll (par : Params) (tl : List (Addr × Obj)) : List Value → List (List Int) → Prop
  | nil : PiecesAll par tl [] []
  | cons {x dx c r : Addr} {t1 t2 : Tok} {ivs : List Value} {n n2 : Nat} {cs : List Int} {vs : List Value} {css : List (List Int)} : (x, instObj 79 dx) ∈ tl →
      (dx, dictOf [⟨PyData.keyHash par "codes", .str "codes" t1, .ref c⟩, ⟨PyData.keyHash par "runs", .str "runs" t2, .ref r⟩] 2) ∈ tl → (c, listOf ivs.toArray n) ∈ tl → IntsAre ivs cs → (r, listOf #[] n2) ∈ tl →
      PiecesAll par tl vs css → PiecesAll par tl (.ref x :: vs) (cs :: css)
section
variable {tl tl' : List (Addr × Obj)} {vs ws : List Value} {css : List (List Int)} {par : Params}
theorem ListsAll.mono (hs : ∀ p ∈ tl, p ∈ tl') (h : ListsAll tl vs css) : ListsAll tl' vs css := by
  induction h with
  | nil => exact .nil
  | cons a b _ ih => exact .cons (hs _ a) b ih
theorem ListsAll.length (h : ListsAll tl vs css) : vs.length = css.length := by
  induction h with
  | nil => rfl
  | cons a b _ ih => simp [ih]
theorem ll_append {cs2 : List (List Int)} (h : ListsAll tl vs css) (k : ListsAll tl ws cs2) : ListsAll tl (vs ++ ws) (css ++ cs2) := by
  induction h with
  | nil => exact k
  | cons a b _ ih => exact .cons a b ih
theorem ListsAll.take (h : ListsAll tl vs css) : ∀ k : Nat, ListsAll tl (vs.take k) (css.take k) := by
  induction h with
  | nil => intro k; simpa using ListsAll.nil
  | cons a b _ ih => intro k; cases k with
    | zero => exact .nil
    | succ k => exact .cons a b (ih k)
theorem ListsAll.drop (h : ListsAll tl vs css) : ∀ k : Nat, ListsAll tl (vs.drop k) (css.drop k) := by
  induction h with
  | nil => intro k; simpa using ListsAll.nil
  | cons a b c ih => intro k; cases k with
    | zero => exact .cons a b c
    | succ k => exact ih k
theorem ListsAll.get (h : ListsAll tl vs css) : ∀ {k : Nat}, k < css.length → ∃ o ivs n cs, vs[k]? = some (.ref o) ∧ (o, listOf ivs.toArray n) ∈ tl ∧ IntsAre ivs cs ∧ css[k]? = some cs := by
  induction h with
  | nil => intro k hk; exact absurd hk (Nat.not_lt_zero _)
  | @cons o ivs n cs vs css a b _ ih => intro k hk; cases k with
    | zero => exact ⟨o, ivs, n, cs, rfl, a, b, rfl⟩
    | succ k => exact ih (Nat.lt_of_succ_lt_succ hk)
theorem PiecesAll.mono (hs : ∀ p ∈ tl, p ∈ tl') (h : PiecesAll par tl vs css) : PiecesAll par tl' vs css := by
  induction h with
  | nil => exact .nil
  | cons a b c d e _ ih => exact .cons (hs _ a) (hs _ b) (hs _ c) d (hs _ e) ih
theorem PiecesAll.length (h : PiecesAll par tl vs css) : vs.length = css.length := by
  induction h with
  | nil => rfl
  | cons a b c d e _ ih => simp [ih]
theorem PiecesAll.take (h : PiecesAll par tl vs css) : ∀ k : Nat, PiecesAll par tl (vs.take k) (css.take k) := by
  induction h with
  | nil => intro k; simpa using PiecesAll.nil
  | cons a b c d e _ ih => intro k; cases k with
    | zero => exact .nil
    | succ k => exact .cons a b c d e (ih k)
theorem PiecesAll.get (h : PiecesAll par tl vs css) : ∀ {k : Nat}, k < css.length → ∃ x dx c r t1 t2 ivs n n2 cs, vs[k]? = some (.ref x) ∧ (x, instObj 79 dx) ∈ tl ∧
    (dx, dictOf [⟨PyData.keyHash par "codes", .str "codes" t1, .ref c⟩, ⟨PyData.keyHash par "runs", .str "runs" t2, .ref r⟩] 2) ∈ tl ∧ (c, listOf ivs.toArray n) ∈ tl ∧ IntsAre ivs cs ∧ (r, listOf #[] n2) ∈ tl ∧ css[k]? = some cs := by
  induction h with
  | nil => intro k hk; exact absurd hk (Nat.not_lt_zero _)
  | @cons x dx c r t1 t2 ivs n n2 cs vs css a b c' d e _ ih => intro k hk; cases k with
    | zero => exact ⟨x, dx, c, r, t1, t2, ivs, n, n2, cs, rfl, a, b, c', d, e, rfl⟩
    | succ k => exact ih (Nat.lt_of_succ_lt_succ hk)
def toDat (cs : List Int) : Dat := .list (cs.map Dat.int)
theorem ints_dat {vs : List Value} {ns : List Int} (h : IntsAre vs ns) : DatAll tl vs (ns.map Dat.int) := by
  induction h with
  | nil => exact .nil
  | cons i t _ ih => exact .cons (.int i t) ih
theorem ListsAll.dat (h : ListsAll tl vs css) : DatAll tl vs (css.map toDat) := by
  induction h with
  | nil => exact .nil
  | cons a b _ ih => exact .cons (.list a (ints_dat b)) ih
theorem toDat_ok (css : List (List Int)) : ∀ d ∈ css.map toDat, kqdOk 8 d = true := by
  intro d hd
  obtain ⟨cs, _, rfl⟩ := List.mem_map.mp hd
  simp [toDat, kqdOk]
end
section
variable {prog : Program} {w : World} {A : Around} {E : Value → Shared → Prop} {s : Shared} {h₀ : Heap} {L a b : Addr} {news tl : List (Addr × Obj)} {xs ys : List Value} {ka kb : Nat} {css : List (List Int)} {cs : List Int} {Q : Value → Shared → Prop}
theorem ll_ne_same (N : News h₀ L s.heap news) (ma : (a, listOf xs.toArray ka) ∈ news) (mb : (b, listOf ys.toArray kb) ∈ news) (Da : ListsAll tl xs css) (Db : ListsAll tl ys css) (sb : ∀ p ∈ tl, p ∈ news) (hu : A.units + 64 < cLine) (h : Q (.bool false) s) :
    wpAny (model prog w) A (compareOp .NotEq (.ref a) (.ref b)) Q E s :=
  kqd_ne N ma rfl rfl Da.dat sb mb rfl rfl Db.dat sb (toDat_ok _) (toDat_ok _) hu (by simpa using h)
theorem ll_ne_cons (N : News h₀ L s.heap news) (ma : (a, listOf xs.toArray ka) ∈ news) (mb : (b, listOf #[] kb) ∈ news) (Da : ListsAll tl xs (cs :: css)) (sb : ∀ p ∈ tl, p ∈ news) (hu : A.units + 64 < cLine) (h : Q (.bool true) s) :
    wpAny (model prog w) A (compareOp .NotEq (.ref a) (.ref b)) Q E s :=
  kqd_ne N ma rfl rfl Da.dat sb mb rfl (ys := []) rfl .nil sb (toDat_ok _) (List.forall_mem_nil _) hu (by simpa using h)
theorem ll_ne_nil (N : News h₀ L s.heap news) (ma : (a, listOf #[] ka) ∈ news) (mb : (b, listOf #[] kb) ∈ news) (hu : A.units + 64 < cLine) (h : Q (.bool false) s) :
    wpAny (model prog w) A (compareOp .NotEq (.ref a) (.ref b)) Q E s :=
  kqd_ne (xs := []) (ys := []) (n₁ := []) (n₂ := []) N ma rfl rfl .nil (fun _ h => nomatch h) mb rfl rfl .nil (fun _ h => nomatch h) (List.forall_mem_nil _) (List.forall_mem_nil _) hu (by simpa using h)
theorem li_ne_same {ns : List Int} (N : News h₀ L s.heap news) (ma : (a, listOf xs.toArray ka) ∈ news) (mb : (b, listOf ys.toArray kb) ∈ news) (hi : IntsAre xs ns) (hj : IntsAre ys ns) (hu : A.units + 64 < cLine) (h : Q (.bool false) s) :
    wpAny (model prog w) A (compareOp .NotEq (.ref a) (.ref b)) Q E s := ke_ne_ints (News.isList N ma) (News.isList N mb) hi hj hu (by simpa using h)
end
def PcEl (news : List (Addr × Obj)) (c : Addr) (y : Value) (news' : List (Addr × Obj)) : Prop := news' = news ∧ y = .ref c
section
variable {prog : Program} {w : World} {A : Around} {h₀ : Heap} {L : Addr} {m : Str → Option Value} {env : Env} {elt : Expr} {x : Str} {scope : Scope} {cl : List (Str × Addr)} {s : Shared} {S : List (Addr × Obj) → Prop} {Fin : List Value → List (Addr × Obj) → Prop} {news tl : List (Addr × Obj)}
theorem pc_list {par : Params} {pvs : List Value} {css : List (List Int)} (hP : PiecesAll par tl pvs css)
    (turn : ∀ (xa dx c r : Addr) (t1 t2 : Tok) I oI C oC D m₂ ys h tk (E' : Value → Shared → Prop), (xa, instObj 79 dx) ∈ tl → (dx, dictOf [⟨PyData.keyHash par "codes", .str "codes" t1, .ref c⟩, ⟨PyData.keyHash par "runs", .str "runs" t2, .ref r⟩] 2) ∈ tl →
      LCg.NsObj oC m₂ → m₂ x = some (.ref xa) → Fr h₀ L h m → News h₀ L h ((I, oI) :: (C, oC) :: (D, LCg.lst ys) :: news) → LCg.Off3 I C D news → ((@Ne Nat I C) ∧ (@Ne Nat I D) ∧ (@Ne Nat C D)) →
      wpAny (model prog w) A (eval elt (compEnvC scope cl C env)) (LCg.CompEnd h₀ L m { s with heap := h, toks := tk } I oI C oC D (LCg.lst ys) S (fun y news' => PcEl news c y news')) E' { s with heap := h, toks := tk })
    (fin : ∀ ys, ListsAll tl ys css → Fin ys news) : LCg.CompRest prog w A h₀ L m env elt x scope cl s S (fun i v => pvs.toArray[i]? = some v) Fin pvs.toArray.size 0 [] news := by
  have hlen := hP.length
  have key : ∀ (j i : Nat) (ys : List Value), i + j = pvs.length → ListsAll tl ys (css.take i) → LCg.CompRest prog w A h₀ L m env elt x scope cl s S (fun i v => pvs.toArray[i]? = some v) Fin j i ys news := by
    intro j
    induction j with
    | zero =>
      intro i ys hi hy
      have e : css.take i = css := List.take_of_length_le (by omega)
      rw [e] at hy
      exact LCg.CompRest.zero (fin ys hy)
    | succ j ih =>
      intro i ys hi hy
      refine LCg.CompRest.succ ?_
      intro v I oI C oC D m₂ h tk E' hv hC hx F N off ne
      obtain ⟨xa, dx, c, r, t1, t2, ivs, n, n2, cs, e1, a1, a2, a3, a4, a5, e2⟩ := hP.get (k := i) (by omega)
      have hv' : v = .ref xa := by
        have q : pvs[i]? = some v := by simpa using hv
        rw [e1] at q
        exact (Option.some.inj q).symm
      rw [hv'] at hx
      refine wpAny_mono (turn xa dx c r t1 t2 I oI C oC D m₂ ys h tk E' a1 a2 hC hx F N off ne) (fun y s₂ hq => ?_) fun _ _ e => e
      obtain ⟨h', tk', nw, e, F', N', off', hS, hn, hy'⟩ := hq
      rw [hn] at N' off' hS
      refine ⟨h', tk', news, e, F', N', off', hS, ?_⟩
      rw [hy']
      refine ih (i + 1) _ (by omega) ?_
      have e3 : css.take (i + 1) = css.take i ++ [cs] := by rw [List.take_add_one, e2]; rfl
      rw [e3]
      exact ll_append hy (.cons a3 a4 .nil)
  rw [List.size_toArray]
  exact key pvs.length 0 [] (by omega) (by simpa using ListsAll.nil)
end
end
section
theorem mem_sub {α : Type} {p : α} {ml tl : List α} (hs : ∀ p ∈ ml, p ∈ tl) (h : p ∈ ml) : p ∈ tl := hs p h
section
variable {prog : Program} {w : World} {A : Around} {E : Value → Shared → Prop} {s : Shared} {h₀ : Heap} {L l : Addr} {news tl ml : List (Addr × Obj)} {value slice : PySem.Expr} {us : List Value} {n : Nat} {k : Int} {t : Tok} {css : List (List Int)} {Q : Value → Shared → Prop}
theorem own_at (N : News h₀ L s.heap news) (hm : (l, listOf us.toArray n) ∈ news) (hO : ListsAll ml us css) (sub : ∀ p ∈ ml, p ∈ tl) (h0 : 0 ≤ k) (h1 : k < (css.length : Int)) (hz : css.length ≤ 1000)
    (h : ∀ o ivs n cs, css[k.toNat]? = some cs → IntsAre ivs cs → (o, listOf ivs.toArray n) ∈ tl → Q (.ref o) s)
    (hs : subscripted slice false (.ref l) (.int k t) = operate [.ref l, .int k t] (getItem (.ref l) (.int k t))) :
    wpAny (model prog w) A (subscriptTail value slice (.ref l) (.int k t)) Q E s := by
  obtain ⟨o, ivs, n', cs, e1, a1, a2, e2⟩ := hO.get (k := k.toNat) (by omega)
  exact item_litK (News.isList N hm) h0 (by omega) e1 (h o ivs n' cs e2 a2 (sub _ a1)) hs
theorem piece_at {par : Params} (N : News h₀ L s.heap news) (hm : (l, listOf us.toArray n) ∈ news) (hP : PiecesAll par ml us css) (sub : ∀ p ∈ ml, p ∈ tl) (h0 : 0 ≤ k) (h1 : k < (css.length : Int)) (hz : css.length ≤ 1000)
    (h : ∀ x dx c r t1 t2 ivs n n2 cs, css[k.toNat]? = some cs → IntsAre ivs cs → (x, instObj 79 dx) ∈ tl → (dx, dictOf [⟨PyData.keyHash par "codes", .str "codes" t1, .ref c⟩, ⟨PyData.keyHash par "runs", .str "runs" t2, .ref r⟩] 2) ∈ tl →
      (c, listOf ivs.toArray n) ∈ tl → (r, listOf #[] n2) ∈ tl → Q (.ref x) s)
    (hs : subscripted slice false (.ref l) (.int k t) = operate [.ref l, .int k t] (getItem (.ref l) (.int k t))) :
    wpAny (model prog w) A (subscriptTail value slice (.ref l) (.int k t)) Q E s := by
  obtain ⟨x, dx, c, r, t1, t2, ivs, n', n2, cs, e1, a1, a2, a3, a4, a5, e2⟩ := hP.get (k := k.toNat) (by omega)
  exact item_litK (News.isList N hm) h0 (by omega) e1 (h x dx c r t1 t2 ivs n' n2 cs e2 a4 (sub _ a1) (sub _ a2) (sub _ a3) (sub _ a5)) hs
theorem ls_lenE (N : News h₀ L s.heap news) (hm : (l, listOf us.toArray n) ∈ news) (e : us.length = css.length) (hz : css.length ≤ 1000)
    (h : Q (.int (css.length : Int) (s.toks + 1)) { s with toks := s.toks + 1 + 1 }) : wpAny (model prog w) A (call (.builtin "len") [.ref l]) Q E s :=
  ls_len N hm (by omega) (by rw [e]; exact h)
theorem fm_lo {a b : Int} (h : 0 < b) : 0 ≤ a.fmod b := Int.fmod_nonneg_of_pos _ h
theorem fm_hi {a b : Int} (h : 0 < b) : a.fmod b < b := Int.fmod_lt_of_pos _ h
theorem fm_again {a b : Int} (h : 0 < b) : (a.fmod b + 0).fmod b = a.fmod b := by
  rw [Int.add_zero, Int.fmod_eq_emod_of_nonneg _ (Int.le_of_lt h), Int.fmod_eq_emod_of_nonneg _ (Int.le_of_lt h), Int.emod_emod_of_dvd _ (Int.dvd_refl b)]
theorem li_ne_at {a b : Addr} {xs ys : List Value} {ka kb : Nat} {c1 c2 : List Int} {k1 k2 : Int} (N : News h₀ L s.heap news) (ma : (a, listOf xs.toArray ka) ∈ news) (mb : (b, listOf ys.toArray kb) ∈ news) (hi : IntsAre xs c1) (hj : IntsAre ys c2) (e1 : css[k1.toNat]? = some c1) (e2 : css[k2.toNat]? = some c2) (hk : k1 = k2)
    (hu : A.units + 64 < cLine) (h : Q (.bool false) s) : wpAny (model prog w) A (compareOp .NotEq (.ref a) (.ref b)) Q E s := by
  subst hk
  rw [e1] at e2
  cases e2
  exact li_ne_same N ma mb hi hj hu h
end
end
section
open PySem.Spec
theorem mem_fr {env : Env} {L b : Addr} {outer : List Env} (hf : env.frame = some L) (hm : b ∈ (env :: outer).filterMap (·.frame)) : b = L ∨ b ∈ outer.filterMap (·.frame) := by
  obtain ⟨en, he, hb⟩ := List.mem_filterMap.mp hm
  rcases List.mem_cons.mp he with rfl | he
  · rw [hf] at hb
    exact .inl (Option.some.inj hb).symm
  · exact .inr (List.mem_filterMap.mpr ⟨en, he, hb⟩)
theorem push_any {A : Around} {base h₀ h : Heap} {outer : List Env} {L : Addr} {m : Str → Option Value} {env : Env} (K : Below A base outer h₀) (F : Fr h₀ L h m) (hf : env.frame = some L) (hk : env.scope.kind = .function) :
    Below (A.deeper env) base (env :: outer) h := by
  have hnew : base.get? L = none := by
    cases hq : base.get? L with
    | none => rfl
    | some o => exact absurd (Nat.lt_of_lt_of_le (Heap.lt_size (K.stays L o hq)) F.above) (Nat.lt_irrefl _)
  refine ⟨Around.frames_deeper K.stack, fun b o e => F.keep b o (K.stays b o e), ?_⟩
  exact .cons (by rw [hk]; decide) hf F.ns hnew (K.frames.of_keeps fun b o e _ => ⟨o, F.keep b o e, rfl⟩)
section
variable {M : Model} {A : Around} {E : Value → Shared → Prop} {s' : Shared} {base g g₂ : Heap} {outer : List Env} {L e : Addr} {m : Str → Option Value} {env : Env} {Q : Unit → Shared → Prop} {news nw : List (Addr × Obj)} {cls tp : Value} {ob : Obj}
theorem leave_own_new (K : Below A base outer g) (F : Fr g L s'.heap m) (N : News g L s'.heap news) (hm : (e, ob) ∈ news) (hc : ob.cls = cls) (hd : ob.data = .fields #[tp, .none, .none, .none, .bool false, .none])
    (hf : env.frame = some L) (hk : env.scope.kind = .function) (hs : ∀ q ∈ nw, q ∈ news) (hne : ∀ q ∈ nw, q.1 ≠ e)
    (hQ : ∀ h', RaisedSN base g outer e cls nw h' → g.UpToSlots h' → Q () { s' with heap := h' }) :
    wpAny M (A.deeper env) (leaving env (.ref e)) Q E s' := by
  have K' := push_any (env := env) K F hf hk
  have eg : g.get? e = none := (N _ hm).2.2
  have eb : base.get? e = none := fresh_of_stays K.stays eg
  have hin : ∀ en ∈ (env :: outer), ∀ b, en.frame = some b → b ∈ e :: (env :: outer).filterMap (·.frame) := fun en he b hb => .tail _ (List.mem_filterMap.mpr ⟨en, he, hb⟩)
  have st : base.StaysIn (hideAll s'.heap (e :: (env :: outer).filterMap (·.frame))) := fun b o q => hideAll_get _ (K'.stays b o q) fun hm' => by
    rcases List.mem_cons.mp hm' with z | z
    · rw [z, eb] at q; cases q
    · rw [(K'.frames.mem z).1] at q; cases q
  have sg : ∀ b o, g.get? b = some o → b ∉ outer.filterMap (·.frame) → (hideAll s'.heap (e :: (env :: outer).filterMap (·.frame))).get? b = some o := fun b o q nm => hideAll_get _ (F.keep b o q) fun hm' => by
    rcases List.mem_cons.mp hm' with z | z
    · rw [z, eg] at q; cases q
    · rcases mem_fr hf z with z | z
      · rw [z, kts_self F] at q; cases q
      · exact nm z
  have hl : ∀ q ∈ nw, (hideAll s'.heap (e :: (env :: outer).filterMap (·.frame))).get? q.1 = some q.2 ∧ g.get? q.1 = none ∧ base.get? q.1 = none := fun q hq => by
    have n := N q (hs q hq)
    refine ⟨hideAll_get _ n.1 fun hm' => ?_, n.2.2, fresh_of_stays K.stays n.2.2⟩
    rcases List.mem_cons.mp hm' with z | z
    · exact hne q hq z
    · rcases mem_fr hf z with z | z
      · exact n.2.1 z
      · obtain ⟨_, o, ho, _⟩ := K.frames.mem z
        rw [n.2.2] at ho; cases ho
  refine wpAny_leaving_firstW (a0 := tp) K'.stack (funFrames_hide K'.frames hin) hf (N _ hm).1 (fun b o hb => of_hideAll _ hb) (hideAll_none _ (.head _)) hd rfl rfl fun h' hL => ?_
  obtain ⟨k1, ⟨_, _, k2⟩, k3, k4⟩ := hL
  exact hQ h' ⟨_, tp, st, sg, hl, k1, hideAll_none _ (.head _), k2, by rw [← hc]; exact k3⟩ ((Heap.UpToSlots.of_keeps F.keep).trans k4)
theorem leave_own_on (K : Below A base outer g) (F : Fr g L g₂ m) (R : RaisedSN base g₂ (env :: outer) e cls news s'.heap) (hsm : g₂.UpToSlots s'.heap) (hf : env.frame = some L)
    (hQ : ∀ h', RaisedSN base g outer e cls news h' → g.UpToSlots h' → Q () { s' with heap := h' }) :
    wpAny M (A.deeper env) (leaving env (.ref e)) Q E s' := by
  obtain ⟨B, a0, hB, hBG, hl, hfl⟩ := R
  exact wpAny_leaves_onW (Around.frames_deeper K.stack) hf hfl fun h' x1 x2 =>
    hQ h' ⟨B, a0, hB, fun b o q nm => hBG b o (F.keep b o q) (fun hm => by
      rcases mem_fr hf hm with z | z
      · rw [z, kts_self F] at q
        cases q
      · exact nm z), fun q hq => ⟨(hl q hq).1, kts_none F.keep (hl q hq).2.1, (hl q hq).2.2⟩, x1⟩ ((Heap.UpToSlots.of_keeps F.keep).trans (hsm.trans x2))
end
section
variable {prog : Program} {w : World} {A₀ A : Around} {s : Shared} {base h₀ : Heap} {L : Addr} {m : Str → Option Value} {env : Env} {news : List (Addr × Obj)} {K : Frag} {p : Program} {loose : List Str} {mean : ExcName → Option Value} {mg mb : Str → Option Value}
    {R : Result → Shared → Prop} {name qual : Str} {params : Arguments} {body : List Stmt} {scope : Scope} {dV kV doc pm cdv ct oc : Value} {an od : Option Addr} {osl : Array (Option Value)} {f : Addr} {args : Args} {binds : List (Str × Value)}
theorem enter_any (B : Below A₀ base [] h₀) (F : Fr h₀ L s.heap m) (N : News h₀ L s.heap news) (hA : A.frames = some [env]) (hf : env.frame = some L) (hke : env.scope.kind = .function) :
    ∃ oL es ep, (hideAll s.heap (news.map (·.1))).get? L = some oL ∧ oL.data = .dict es ep ∧ (∀ h', h'.get? L = some oL → Heap.Ns h' L m) ∧ (∀ (sl : Array (Option Value)) h', h'.get? L = some { oL with slots := sl } → Heap.Ns h' L m) ∧
      h₀.StaysIn (hideAll s.heap (news.map (·.1))) ∧ Below A base [env] (hideAll s.heap (news.map (·.1))) := by
  have nm : ∀ b o, h₀.get? b = some o → b ∉ news.map (·.1) := fun b o e q => by
    obtain ⟨p, hp, rfl⟩ := List.mem_map.mp q
    rw [(N p hp).2.2] at e; cases e
  have st : h₀.StaysIn (hideAll s.heap (news.map (·.1))) := fun b o e => hideAll_get _ (F.keep b o e) (nm b o e)
  obtain ⟨oL, es, ep, hL, hLd, hLk, hLf⟩ := F.ns
  have nL : L ∉ news.map (·.1) := fun q => by
    obtain ⟨p, hp, e⟩ := List.mem_map.mp q
    exact (N p hp).2.1 e
  have hLg := hideAll_get (news.map (·.1)) hL nL
  have B₁ := push_any (env := env) B F hf hke
  exact ⟨oL, es, ep, hLg, hLd, fun h' e => ⟨oL, es, ep, e, hLd, hLk, hLf⟩, fun sl h' e => ⟨_, es, ep, e, hLd, hLk, hLf⟩, st, ⟨hA, fun b o e => st b o (B.stays b o e), funFrames_hideAll B₁.frames fun en he b hb hf' => by
    cases he with
    | head => exact nL ((Option.some.inj (hf.symm.trans hf') : L = b) ▸ hb)
    | tail _ he => cases he⟩⟩
theorem code_try (B : Below A₀ base [] h₀) (F : Fr h₀ L s.heap m) (X₀ : K.In h₀) (N : News h₀ L s.heap news) (T : Top p loose mean mg mb h₀) (hA : A.frames = some [env]) (hf : env.frame = some L) (hke : env.scope.kind = .function)
    (ho : K.lookup f = some ⟨oc, od, .func (fnOf name qual params body scope dV kV doc pm an cdv ct), osl⟩) (hcd : codeIn K cdv qual = true) (hroom : A.depth < recursionLimit)
    (hbind : BindsTo s (fnOf name qual params body scope dV kV doc pm an cdv ct) args binds) (hloc : ∀ y ∈ binds, scope.names.lookup y.1 = some .local)
    (h : ∀ g L' h₁, Fr h₀ L g m → Fr g L' h₁ (fun y => binds.reverse.lookup y) → News g L' h₁ news → Below A base [env] g → K.In g → Top p loose mean mg mb g → KtsDicts ([env].filterMap (·.frame)) g →
      wpAny (model prog w) (A.deeper (envOf qual scope L' f cdv)) (execs body (envOf qual scope L' f cdv))
        (fun fl s' => LeaveS0 ([env].filterMap (·.frame)) h₀ L m g R (match fl with | .ret v => v | _ => .none) s')
        (fun e s' => wpAny (model prog w) (A.deeper (envOf qual scope L' f cdv)) (leaving (envOf qual scope L' f cdv) e) (fun _ s'' => R (.error e) s'') (fun e' s'' => R (.error e') s'') s')
        { s with heap := h₁, toks := s.toks + binds.length })
    (hco : scope.isCoroutine = false) (hgen : scope.isGenerator = false) (hk : scope.kind = .function)
    (hcell : ∀ x ∈ scope.names, x.2 ≠ .cell) : codeAny (model prog w) A (.call (.ref f) args) R s := by
  have X := X₀.keeps F.keep
  refine codeAny_call_def (fd := fnOf name qual params body scope dV kV doc pm an cdv ct) (body := body) (binds := binds) hroom (X _ _ ho) rfl (T.nolimit.keeps F.keep) (codeRec_of X hcd) rfl hbind hcell hloc (fun h₁ hns hk₁ => ?_) hco hgen hk
  obtain ⟨oL, es, ep, hLg, hLd, hN, hNs, st, B₂⟩ := enter_any B F N hA hf hke
  refine wpAny_mono (h _ s.heap.objs.size h₁ ⟨hN _ hLg, st, F.above⟩ ⟨hns, fun b o e => hk₁ b o (of_hideAll _ e), Nat.le_of_eq (hideAll_size _ _)⟩
    (fun p hp => ⟨hk₁ _ _ (N p hp).1, Nat.ne_of_lt (Heap.lt_size (N p hp).1), hideAll_none _ (List.mem_map_of_mem hp)⟩) B₂ (X₀.keeps st) (T.keeps st) (fun b hb => by
      rcases mem_fr hf hb with rfl | z
      · exact ⟨oL, es, ep, hLg, hLd⟩
      · simp at z)) (fun fl s' hl => ?_) fun _ _ y => y
  obtain ⟨g', L', m', news', T', F', N', k⟩ := hl
  have nL₀ : h₀.get? L = none := kts_self F
  obtain ⟨sl, hs⟩ := T'.up hLg
  refine k ⟨hNs sl _ (F'.keep _ _ hs), fun b o e => F'.keep b o (T'.other b o (st b o e) (fun q => by
    rcases mem_fr hf q with z | z
    · rw [z, nL₀] at e
      cases e
    · simp at z)), F.above⟩ fun p hp => ⟨(N' p hp).1, fun q => ?_, ?_⟩
  · have := (N' p hp).2.2; rw [q, hs] at this; cases this
  · cases q : h₀.get? p.1 with
    | none => rfl
    | some o =>
      obtain ⟨sl', hs'⟩ := T'.up (st _ _ q)
      have := (N' p hp).2.2
      rw [hs'] at this
      cases this
end
end
section
open PySem.Spec Builtin Builtin.ObjectAttr
theorem ns_some_of {K : Frag} {h : Heap} {N : Addr} {mg : Str → Option Value} {n : Str} {v : Value} (X : K.In h) (G : h.Ns N mg) (e : nsIn K N n = some (some v)) : mg n = some v := by
  obtain ⟨o, es, ep, ho, hd, _, hf⟩ := G
  unfold nsIn at e
  split at e
  · rename_i c d es' n' sl q
    have := X _ _ q
    rw [ho] at this
    cases this
    cases hd
    split at e
    · rename_i en he
      cases e
      rw [← hf]
      unfold nsFind findBy
      rw [← Array.find?_toList, he]
      rfl
    · split at e <;> cases e
  · cases e
abbrev excObj (C t : Addr) (d : Option Addr) (sl : Array (Option Value)) : Obj := { cls := .ref C, dict := d, data := .fields #[.ref t, .none, .none, .none, .bool false, .none], slots := sl }
section
variable {prog : Program} {w : World} {A : Around} {E : Value → Shared → Prop} {s : Shared} {K : Frag} {C L : Addr} {h₀ : Heap} {m : Str → Option Value} {news : List (Addr × Obj)}
variable {nm q : Str} {N fI : Addr} {bs : List Value} {hdct : Bool} {sn : List Str} {sub : List Value} {ab : Bool} {col : Option Bool} {dd : Option Addr} {k0 k1 k2 k3 k5 : Option Value} {rest : List Value} {Q : Value → Shared → Prop} {od : Option Addr} {dt : Data} {osl : Array (Option Value)}
theorem exc_make (F : Fr h₀ L s.heap m) (X₀ : K.In h₀) (N' : News h₀ L s.heap news)
    (hC : K.lookup C = some (excClassObj nm q C N bs [.type "Exception", .type "BaseException", .type "object"] hdct sn sub ab col dd k0 k1 k2 k3 k5 "Exception.__new__"))
    (hok : nsOkIn K N = true) (hi : nsIn K N "__init__" = some (some (.ref fI))) (hfI : K.lookup fI = some ⟨.type "function", od, dt, osl⟩)
    (h : ∀ e t h', Fr h₀ L h' m → News h₀ L h' ((e, excObj C t none #[]) :: news) → (∀ p ∈ news, p.1 ≠ e) →
      wpAny (model prog w) (A.under (.builtin "type.__call__" ⟨.ref C :: rest, []⟩)) (call (.ref fI) (.ref e :: rest)) (fun r s' => r = .none ∧ Q (.ref e) s') E { s with heap := h' })
    (hrest : rest.length ≤ sizeLine) : wpAny (model prog w) A (call (.ref C) rest) Q E s := by
  obtain ⟨hp, g, d, tk, os⟩ := s
  have X := X₀.keeps F.keep
  refine wpAny_call_exc_init PySem.F.excBase_Exception (X _ _ hC) (.of_isNs (isNs_of_in X hok)) (ns_some_of X (.of_isNs (isNs_of_in X hok)) hi) (X _ _ hfI) rfl (fun h' e hm => ?_) hrest
  obtain ⟨hk, hn, t, he, _, _⟩ := hm
  obtain ⟨oL, es, ep, hL, r⟩ := F.ns
  have eL : e ≠ L := fun z => by rw [z, hL] at hn; cases hn
  have e0 : h₀.get? e = none := kts_none F.keep hn
  refine h e t h' ⟨⟨oL, es, ep, hk _ _ hL, r⟩, fun b o z => hk _ _ (F.keep b o z), F.above⟩ (fun p hp' => ?_) fun p hp' z => ?_
  · rcases List.mem_cons.mp hp' with rfl | hp'
    · exact ⟨he, eL, e0⟩
    · exact ⟨hk _ _ (N' p hp').1, (N' p hp').2⟩
  · have := (N' p hp').1
    rw [z, hn] at this
    cases this
theorem exc_open {R : Result → Shared → Prop} {x : Addr} {ox : Obj} {od : Option Obj} {name : Str} {tk : Tok} {v : Value} {cd : ClassData} (X : K.In s.heap) (I : InstAt s.heap x ox C od) (hc : clsIn K C = some cd) (hm : cd.mro = [.ref C, .type "Exception", .type "BaseException", .type "object"]) (ht : takerIn K C name = some none)
    (h : ∀ b, wpAny (model prog w) A.in1 (storeInOwnDict (.ref x) (.ref C) (.str name tk) name v b)
      (fun fin s' => match fin with | .done f => R (.ok f) s' | .again c' => c'.quiet = true ∧ codeAny (model prog w) A c' R s') (fun e s' => R (.error e) s') s) :
    codeAny (model prog w) A (.call (.builtin "object.__setattr__") ⟨[.ref x, .str name tk, v], []⟩) R s := by
  have SF := PySem.F.store_Exception
  have ne : cd.mro.isEmpty = false := by rw [hm]; rfl
  have sub : Looks (model prog w) s.heap (isInstance (.ref x) (.type "object")) true := I.type.andThen (looks_mroIn X (by unfold mroIn; rw [hc, Option.bind_some, if_neg (by rw [ne]; decide), hm]; simp))
  refine codeAny_call_builtin SF.slot.plain SF.entry (@check_slot (model prog w) _ _ s "object.__setattr__" "object" "__setattr__" (.ref x) [.str name tk, v] [] _ SF.kind SF.split sub (SF.args (.ref x) (.str name tk) v) ?_)
  obtain ⟨attr, ha, hr⟩ := Option.bind_eq_some_iff.mp ht
  have hm' : Looks (model prog w) s.heap (mroOf (.ref C)) cd.mro := (looks_clsIn X hc).andThen .now
  have L3 : Looks (model prog w) s.heap (storeTaker? attr) none := by
    cases attr with
    | none => exact .now
    | some a =>
      obtain ⟨b, hb, hz⟩ := Option.map_eq_some_iff.mp hr
      refine (looks_takesIn X hb).andThen ?_
      cases b
      · exact .now
      · cases hz
  rw [osa_eq, refuse_eq]
  refine wpAny_bind (wpAny_bind (I.type.here (wpAny_bind (hm'.here ?_))))
  rw [hm, refuseLoop_ref, SF.passes (.ref x)]
  refine wpAny_pure (wpAny_bind (I.type.here (wpAny_bind ((looks_findIn X ha).here (wpAny_bind (L3.here ?_))))))
  exact h _
theorem exc_set0 {x t : Addr} {sl : Array (Option Value)} {name : Str} {v : Value} {cd : ClassData} {Q : Unit → Shared → Prop} (F : Fr h₀ L s.heap m) (X₀ : K.In h₀) (N : News h₀ L s.heap ((x, excObj C t none sl) :: news)) (hx : ∀ p ∈ news, p.1 ≠ x)
    (hs : findIn K (.ref C) "__setattr__" = some (some (.builtin "object.__setattr__"))) (hc : clsIn K C = some cd) (hm : cd.mro = [.ref C, .type "Exception", .type "BaseException", .type "object"]) (hd : cd.hasDict = true) (ht : takerIn K C name = some none)
    (h : ∀ d h', Fr h₀ L h' m → News h₀ L h' ((x, excObj C t (some d) sl) :: (d, dictOf [⟨PyData.keyHash w.params name, .str name (s.toks + 1), v⟩] 1) :: news) → (∀ p ∈ news, p.1 ≠ d) → x ≠ d → Q () { s with heap := h', toks := s.toks + 2 }) :
    wpAny (model prog w) A (setAttr (.ref x) name v) Q E s := by
  have X := X₀.keeps F.keep
  have I : InstAt s.heap x (excObj C t none sl) C none := ⟨(N _ (.head _)).1, rfl, rfl, trivial⟩
  refine set_plain X I hs (exc_open (s := { s with toks := s.toks + 1 }) X I hc hm ht fun b => ?_)
  obtain ⟨hp, g, d, tk, os⟩ := s
  dsimp only at *
  have hxo := (N _ (.head _)).1
  have hxs : x ≠ hp.objs.size := Nat.ne_of_lt (Heap.lt_size hxo)
  have N1 := N.push F { cls := .type "dict", data := .dict #[] }
  have N2 : News h₀ L (hp.push { cls := .type "dict", data := .dict #[] }) (((hp.objs.size, { cls := .type "dict", data := .dict #[] }) :: []) ++ (x, excObj C t none sl) :: news) := N1
  obtain ⟨F3, N3⟩ := news_upd (o' := excObj C t (some hp.objs.size) sl) (f := fun o => { o with dict := some hp.objs.size }) (F.push _) N2 (fun p hp' => by rw [List.mem_singleton.mp hp']; exact fun z => hxs z.symm) hx rfl rfl
  have N4 : News h₀ L _ ([] ++ (hp.objs.size, { cls := .type "dict", data := .dict #[] }) :: (x, excObj C t (some hp.objs.size) sl) :: news) := N3
  have hnd : ∀ p ∈ news, p.1 ≠ hp.objs.size := fun p hp' => Nat.ne_of_lt (Heap.lt_size (N p (.tail _ hp')).1)
  obtain ⟨U1, U2⟩ := news_upd (o' := dictOf [⟨PyData.keyHash w.params name, .str name (tk + 1), v⟩] 1) (f := Obj.putName name (PyData.keyHash w.params name) (.str name (tk + 1)) v) F3 N4 (fun p hp' => nomatch hp')
    (fun p hp' => by rcases List.mem_cons.mp hp' with rfl | hp'; exact hxs; exact hnd p hp') (by rw [show ({ cls := .type "dict", data := .dict #[] } : Obj) = dictOf [] 0 from rfl, putName_dict]; rfl) rfl
  refine wpAny_bind (wpAny_pure (wpAny_bind (wpAny_bind (wpAny_loadPart hxo (wpAny_bind ((looks_clsIn X hc).here ?_))))))
  rw [hd]
  refine wpAny_bind (wpAny_alloc (wpAny_bind (wpAny_update (N1 (x, excObj C t none sl) (.tail _ (.head _))).1 (wpAny_pure ?_))))
  show wpAny _ _ (storeInDict hp.objs.size (.str name tk) name v) _ _ _
  unfold storeInDict newKeyGuard nsSet
  refine wpAny_bind (wpAny_pure (wpAny_bind (wpAny_bind (wpAny_bind (wpAny_askSetting (wpAny_pure (wpAny_bind (wpAny_mkText (wpAny_bind (wpAny_loadPart (N3 (hp.objs.size, { cls := .type "dict", data := .dict #[] }) (.head _)).1 ?_))))))))))
  dsimp only
  rw [aRefKeyMayBeTheName_at, show ((!(#[] : Array DictEntry).any (·.key.isStr name)) && (#[] : Array DictEntry).any (·.refKey)) = false from by simp]
  refine wpAny_updatePart (N3 (hp.objs.size, { cls := .type "dict", data := .dict #[] }) (.head _)).1 ?_
  refine wpAny_bind (wpAny_lookBehind (U2 (hp.objs.size, _) (.head _)).1 (pastItsLine_dict (by rw [List.size_toArray, sizeLine_eq]; exact Nat.le_of_ble_eq_true rfl)) ?_)
  exact wpAny_pure (h _ _ U1 (cb_drop U2 fun p hp' => by
    rcases List.mem_cons.mp hp' with rfl | hp'
    · exact .tail _ (.head _)
    · rcases List.mem_cons.mp hp' with rfl | hp'
      · exact .head _
      · exact .tail _ (.tail _ hp')) hnd hxs)
theorem exc_set1 {x t d : Addr} {sl : Array (Option Value)} {name n0 : Str} {v v0 : Value} {tk0 : Tok} {cd : ClassData} {Q : Unit → Shared → Prop} (F : Fr h₀ L s.heap m) (X₀ : K.In h₀)
    (N : News h₀ L s.heap ((x, excObj C t (some d) sl) :: (d, dictOf [⟨PyData.keyHash w.params n0, .str n0 tk0, v0⟩] 1) :: news)) (hx : ∀ p ∈ news, p.1 ≠ d) (hxd : x ≠ d)
    (hs : findIn K (.ref C) "__setattr__" = some (some (.builtin "object.__setattr__"))) (hc : clsIn K C = some cd) (hm : cd.mro = [.ref C, .type "Exception", .type "BaseException", .type "object"]) (hd : cd.hasDict = true) (ht : takerIn K C name = some none)
    (hne : (n0 == name) = false)
    (h : ∀ od h', Fr h₀ L h' m → News h₀ L h' ((x, excObj C t (some d) sl) :: (d, od) :: news) → Q () { s with heap := h', toks := s.toks + 2 }) :
    wpAny (model prog w) A (setAttr (.ref x) name v) Q E s := by
  have X := X₀.keeps F.keep
  have I : InstAt s.heap x (excObj C t (some d) sl) C (some (dictOf [⟨PyData.keyHash w.params n0, .str n0 tk0, v0⟩] 1)) := ⟨(N _ (.head _)).1, rfl, rfl, (N _ (.tail _ (.head _))).1⟩
  refine set_plain X I hs (exc_open (s := { s with toks := s.toks + 1 }) X I hc hm ht fun b => ?_)
  obtain ⟨hp, g, dr, tk, os⟩ := s
  dsimp only at *
  have hxo := (N _ (.head _)).1
  have N4 : News h₀ L hp ([(x, excObj C t (some d) sl)] ++ (d, dictOf [⟨PyData.keyHash w.params n0, .str n0 tk0, v0⟩] 1) :: news) := N
  obtain ⟨U1, U2⟩ := news_upd (f := Obj.putName name (PyData.keyHash w.params name) (.str name (tk + 1)) v) F N4 (fun p hp' => by rw [List.mem_singleton.mp hp']; exact hxd) hx (putName_dict ..) rfl
  have D := (N (d, _) (.tail _ (.head _))).1
  refine wpAny_bind (wpAny_pure (wpAny_bind (wpAny_bind (wpAny_loadPart hxo (wpAny_bind ((looks_clsIn X hc).here ?_))))))
  rw [hd]
  refine wpAny_pure (a := some d) ?_
  show wpAny _ _ (storeInDict d (.str name tk) name v) _ _ _
  unfold storeInDict newKeyGuard nsSet
  refine wpAny_bind (wpAny_pure (wpAny_bind (wpAny_bind (wpAny_bind (wpAny_askSetting (wpAny_pure (wpAny_bind (wpAny_mkText (wpAny_bind (wpAny_loadPart D ?_))))))))))
  dsimp only
  rw [aRefKeyMayBeTheName_at, show ((![(⟨PyData.keyHash w.params n0, .str n0 tk0, v0⟩ : DictEntry)].toArray.any (·.key.isStr name)) && [(⟨PyData.keyHash w.params n0, .str n0 tk0, v0⟩ : DictEntry)].toArray.any (·.refKey)) = false from by simp [DictEntry.refKey]]
  refine wpAny_updatePart D ?_
  refine wpAny_bind (wpAny_lookBehind (U2 (d, _) (.tail _ (.head _))).1 (pastItsLine_dict ?_) ?_)
  · rw [List.size_toArray, sizeLine_eq]
    unfold putL
    split <;> exact Nat.le_of_ble_eq_true rfl
  · exact wpAny_pure (h _ _ U1 U2)
end
section
variable {M : Model} {A : Around} {E : Value → Shared → Prop} {s : Shared} {env : Env} {Q : Flow → Shared → Prop}
variable {nm q : Str} {C N : Addr} {bs bm : List Value} {hdct : Bool} {sn : List Str} {sub : List Value} {ab : Bool} {col : Option Bool} {dd : Option Addr} {k0 k1 k2 k3 k5 : Option Value} {newId : String}
def RaiseOk (K : Frag) (E : Value → Shared → Prop) (v : Value) (s : Shared) : Prop :=
  ∃ e t d sl, v = .ref e ∧ K.In s.heap ∧ s.heap.get? e = some (excObj 31 t (some d) sl) ∧ E (.ref e) s
theorem raise_own {K : Frag} {h₀ : Heap} {ex : Expr} {pos : Pos} (_X : K.In h₀) (hC : K.lookup 31 = some (excClassObj nm q 31 N bs bm hdct sn sub ab col dd k0 k1 k2 k3 k5 newId)) (hbase : bm.contains (.type "BaseException") = true) (hh : A.handled = none)
    (h : wpAny M A (eval ex env) (RaiseOk K E) E s) : wpAny M A (exec (.Raise (some ex) none pos) env) Q E s := by
  have hcB : (Value.ref 31 :: bm).contains (.type "BaseException") = true := by rw [List.contains_cons, hbase, Bool.or_true]
  show wpAny M A (do standAt pos; raiseStmt env (some (do let v ← eval ex env; standAt pos; pure v)) none) Q E s
  refine wpAny_bind (wpAny_standAt ?_)
  unfold raiseStmt
  dsimp only
  refine wpAny_bind (wpAny_bind (wpAny_mono h (fun v s₁ h₁ => wpAny_bind (wpAny_standAt (wpAny_pure ?_))) fun _ _ x => x))
  obtain ⟨e, t, d, sl, rfl, X, he, hE⟩ := h₁
  have hC' := X _ _ hC
  obtain ⟨hp, g, dr, tk, os⟩ := s₁
  repeat (first | with_reducible refine wpAny_loadPart_at he ?_ | with_reducible refine wpAny_loadPart_at hC' ?_ | (with_reducible refine wpAny_isSubtype_exc hC' ?_; rw [hcB]) | wp_step)
  exact wpAny_raiseNew_none hh hE
end
section
variable {M : Model} {A : Around} {E : Value → Shared → Prop} {s' : Shared} {base g : Heap} {outer : List Env} {L e C t d : Addr} {sl : Array (Option Value)} {m : Str → Option Value} {env : Env} {Q : Unit → Shared → Prop} {nw : List (Addr × Obj)} {od : Obj}
theorem leave_exc (K : Below A base outer g) (F : Fr g L s'.heap m) (N : News g L s'.heap ((e, excObj C t (some d) sl) :: (d, od) :: nw)) (hne : ∀ q ∈ nw, q.1 ≠ e) (hf : env.frame = some L) (hk : env.scope.kind = .function)
    (hQ : ∀ h', RaisedSN base g outer e (.ref C) nw h' → g.UpToSlots h' → Q () { s' with heap := h' }) :
    wpAny M (A.deeper env) (leaving env (.ref e)) Q E s' :=
  leave_own_new K F N (.head _) rfl rfl hf hk (fun q hq => .tail _ (.tail _ hq)) hne hQ
end
end
section
abbrev lamQ : Str := Str.ofString "law" ++ Str.ofString ".<locals>." ++ Str.ofString "<lambda>"
def TabOk (pos : Pos) (qual : Str) (ps : Array Value) (tl : List (Addr × Obj)) : Prop :=
  ps = #[] ∨ ∃ c oc vs t, ps = #[rawInt pos.line, rawInt pos.col, .ref c] ∧ (c, oc) ∈ tl ∧ oc.data = .fields vs ∧ vs[1]? = some (.str qual t)
def OffAll (tl : List (Addr × Obj)) (bad : List Addr) : Prop := ∀ b ∈ bad, ∀ p ∈ tl, p.1 ≠ b
theorem TabOk.mono {pos : Pos} {qual : Str} {ps : Array Value} {tl tl' : List (Addr × Obj)} (h : TabOk pos qual ps tl) (hs : ∀ p ∈ tl, p ∈ tl') : TabOk pos qual ps tl' :=
  h.imp id fun ⟨c, oc, vs, t, a, b, d, e⟩ => ⟨c, oc, vs, t, a, hs _ b, d, e⟩
section
variable {M : Model} {A : Around} {E : Value → Shared → Prop} {s : Shared} {h₀ : Heap} {L a c P : Addr} {m mg mb : Str → Option Value} {cn : Str} {cs : Scope} {ccd : Value} {cl : List (Str × Addr)} {news tl ml : List (Addr × Obj)} {g : Obj → List (Addr × Obj)}
  {p : Program} {loose : List Str} {mean : ExcName → Option Value} {name qual : Str} {params : Arguments} {body : Expr} {scope : Scope} {ps : Array Value} {pos : Pos} {firstLine : Nat} {clos : List (Str × Addr)} {bad : List Addr}
theorem lam_any {Q : Value → Shared → Prop} (F : Fr h₀ L s.heap m) (N : News h₀ L s.heap news) (T : Top p loose mean mg mb h₀) (C : CodeHd h₀ c P) (hcd : ccd = .ref c) (U : UpdF P (tabObj ps) news g) (hps : TabOk pos qual ps ml) (sub : ∀ p ∈ ml, p ∈ tl) (sb : ∀ p ∈ tl, p ∈ news)
    (hb : OffAll tl bad) (hin : ∀ b ∈ bad, ∃ o, (b, o) ∈ news) (hcl : closureFor scope (envX cn cs L a ccd cl) = pure clos)
    (h : ∀ f c' oc vs t ctv h' tk ps' addc, Fr h₀ L h' m → News h₀ L h' ((f, kla_obj name qual params body scope clos ((mg "__name__").getD .none) c' ctv) :: (c', oc) :: g (tabObj ps')) →
      oc.data = .fields vs → vs[1]? = some (.str qual t) → (∀ q ∈ addc, q = (c', oc)) → TabOk pos qual ps' (addc ++ ml) → (∀ b ∈ bad, @Ne Nat b c') → (∀ q ∈ addc, ∀ b ∈ bad, @Ne Nat b q.1) → (∀ q ∈ addc, ∀ p ∈ tl, p.1 ≠ q.1) → (∀ q ∈ news, q.1 < f) → @Ne Nat c' f → Q (.ref f) { s with heap := h', toks := tk }) :
    wpAny M A (makeFunction name qual params (.expr body) scope (envX cn cs L a ccd cl) [] [] [] pos firstLine) Q E s := by
  rcases hps with rfl | ⟨c1, oc, vs, t, rfl, hm, hd, hv⟩
  · refine kla_nest F N T C hcd U trivial rfl hcl fun f c' oc vs t ctv h' tk F' N' d1 d2 l1 l2 => ?_
    refine h f c' oc vs t ctv h' tk _ [(c', oc)] F' N' d1 d2 (fun q hq => List.mem_singleton.mp hq) (.inr ⟨c', oc, vs, t, by simp, .head _, d1, d2⟩) (fun b hb' => ?_) (fun q hq b hb' => ?_) (fun q hq p hp => ?_) (fun q hq => Nat.lt_trans (l1 q hq) l2) (Nat.ne_of_lt l2)
    · obtain ⟨o, ho⟩ := hin b hb'
      exact Nat.ne_of_lt (l1 _ ho)
    · rw [List.mem_singleton.mp hq]
      obtain ⟨o, ho⟩ := hin b hb'
      exact Nat.ne_of_lt (l1 _ ho)
    · rw [List.mem_singleton.mp hq]
      exact Nat.ne_of_lt (l1 _ (sb p hp))
  · have U2 := U
    obtain ⟨own, rest, rfl, hgr, h1, h2⟩ := U.split
    refine kla_hit (c' := c1) F N T C hcd (List.mem_append_right _ (.head _)) (by simp [TriplesOk, rawInt]) (by simp [codeAmong, rawInt]) hcl fun f ctv h' tk F' N' l1 => ?_
    refine h f c1 oc vs t ctv h' tk _ [] F' (cb_drop N' fun q hq => ?_) hd hv (fun q hq => nomatch hq) (.inr ⟨c1, oc, vs, t, rfl, hm, hd, hv⟩) (fun b hb' => (hb b hb' _ (sub _ hm)).symm) (fun q hq => nomatch hq) (fun q hq => nomatch hq) l1 (Nat.ne_of_lt (l1 _ (sb _ (sub _ hm))))
    rcases List.mem_cons.mp hq with rfl | hq
    · exact .head _
    · rcases List.mem_cons.mp hq with rfl | hq
      · exact .tail _ (sb _ (sub _ hm))
      · rw [hgr] at hq
        exact .tail _ hq
end
structure Good2 (par : Params) (L D a b R dR : Addr) (most : Int) (Bd : Nat) (tl ml : List (Addr × Obj)) (P' O' : Addr) (pvs' ovs' : List Value) (css2 : List (List Int)) (last' : Int) (add : List (Addr × Obj)) (o1' : Obj) (ps' : Array Value) : Prop where
  o1 : ∃ v, o1'.data = .cell v
  tab : TabOk ⟨117, 25, 117, 65⟩ lamQ ps' (add ++ ml)
  pieces : PiecesAll par (add ++ ml) pvs' (css2.take most.toNat)
  lists : ListsAll (add ++ ml) ovs' css2
  bd : ∀ z ∈ css2, z.length ≤ Bd + 2
  len : css2.length ≤ 5
  l0 : 0 ≤ last'
  l1 : last' < ((css2.take most.toNat).length : Int) ∨ last' = 0
  offA : ∀ q ∈ add, ∀ X ∈ ([L + 1, L + 1 + 1, L + 1 + 1 + 1, 179, R, dR, P', O', D, a, b] : List Addr), @Ne Nat X q.1
  offT : ∀ q ∈ add, ∀ p ∈ tl, p.1 ≠ q.1
  offP : ∀ X ∈ ([L + 1, L + 1 + 1, L + 1 + 1 + 1, 179, R, dR, O', D, a, b] : List Addr), @Ne Nat X P'
  offO : ∀ X ∈ ([L + 1, L + 1 + 1, L + 1 + 1 + 1, 179, R, dR, D, a, b] : List Addr), @Ne Nat X O'
  tlP : ∀ p ∈ tl, p.1 ≠ P'
  tlO : ∀ p ∈ tl, p.1 ≠ O'
theorem pieces_tail {par : Params} {tl : List (Addr × Obj)} {v : Value} {vs : List Value} {z : List Int} {css : List (List Int)} (h : PiecesAll par tl (v :: vs) (z :: css)) : PiecesAll par tl vs css := by
  cases h
  assumption
theorem lists_tail {tl : List (Addr × Obj)} {v : Value} {vs : List Value} {z : List Int} {css : List (List Int)} (h : ListsAll tl (v :: vs) (z :: css)) : ListsAll tl vs css := by
  cases h
  assumption
theorem take_all {css : List (List Int)} {most : Int} (h : (css.length : Int) ≤ most) : css.take most.toNat = css := List.take_of_length_le (by omega)
section
variable {prog : Program} {w : World} {A : Around} {E : Value → Shared → Prop} {s : Shared} {h₀ : Heap} {L l : Addr} {news tl ml : List (Addr × Obj)} {value slice : PySem.Expr} {v0 : Value} {us : List Value} {n : Nat} {t : Tok} {g0 : List Int} {css : List (List Int)} {Q : Value → Shared → Prop} {Bd : Nat}
theorem own_head (N : News h₀ L s.heap news) (hm : (l, listOf (v0 :: us).toArray n) ∈ news) (hO : ListsAll ml (v0 :: us) (g0 :: css)) (sub : ∀ p ∈ ml, p ∈ tl) (hb : ∀ z ∈ g0 :: css, z.length ≤ Bd) (hb2 : Bd ≤ 100)
    (h : ∀ o ivs n, IntsAre ivs g0 → ivs.length ≤ 900 → (o, listOf ivs.toArray n) ∈ tl → Q (.ref o) s)
    (hs : subscripted slice false (.ref l) (.int 0 t) = operate [.ref l, .int 0 t] (getItem (.ref l) (.int 0 t))) :
    wpAny (model prog w) A (subscriptTail value slice (.ref l) (.int 0 t)) Q E s := by
  have hb3 := hb g0 (.head _)
  cases hO with
  | cons a b c => exact item_litK (News.isList N hm) (by decide) (by decide) rfl (h _ _ _ b (by rw [b.length]; omega) (sub _ a)) hs
theorem piece_head {par : Params} (N : News h₀ L s.heap news) (hm : (l, listOf (v0 :: us).toArray n) ∈ news) (hP : PiecesAll par ml (v0 :: us) (g0 :: css)) (sub : ∀ p ∈ ml, p ∈ tl) (hb : ∀ z ∈ g0 :: css, z.length ≤ Bd) (hb2 : Bd ≤ 100)
    (h : ∀ x dx c r t1 t2 ivs n n2, IntsAre ivs g0 → ivs.length ≤ 900 → (x, instObj 79 dx) ∈ tl → (dx, dictOf [⟨PyData.keyHash par "codes", .str "codes" t1, .ref c⟩, ⟨PyData.keyHash par "runs", .str "runs" t2, .ref r⟩] 2) ∈ tl →
      (c, listOf ivs.toArray n) ∈ tl → (r, listOf #[] n2) ∈ tl → Q (.ref x) s)
    (hs : subscripted slice false (.ref l) (.int 0 t) = operate [.ref l, .int 0 t] (getItem (.ref l) (.int 0 t))) :
    wpAny (model prog w) A (subscriptTail value slice (.ref l) (.int 0 t)) Q E s := by
  have hb3 := hb g0 (.head _)
  cases hP with
  | cons a b c d e f => exact item_litK (News.isList N hm) (by decide) (by decide) rfl (h _ _ _ _ _ _ _ _ _ d (by rw [d.length]; omega) (sub _ a) (sub _ b) (sub _ c) (sub _ e)) hs
end
end
section
open PySem.Spec
section
variable {prog : Program} {w : World} {A : Around} {E : Value → Shared → Prop} {s : Shared} {h₀ : Heap} {L : Addr} {m : Str → Option Value} {env : Env}
def EmptySrc (A : Around) (h₀ : Heap) (L : Addr) (m : Str → Option Value) (Q : Value → Shared → Prop) (v : Value) (s₁ : Shared) : Prop :=
  ∃ ax k news, v = .ref ax ∧ A.handled = none ∧ Fr h₀ L s₁.heap m ∧ News h₀ L s₁.heap news ∧ (ax, listOf #[] k) ∈ news ∧
    ∀ D h' tk, Fr h₀ L h' m → News h₀ L h' ((D, listOf #[] 0) :: news) → (∀ p ∈ news, p.1 < D) → Q (.ref D) { s₁ with heap := h', toks := tk }
set_option maxHeartbeats 2000000 in
theorem comp_none {elt iter : Expr} {elts : List Expr} {x1} {tp : Pos} {scope : Scope} {cl : List (Str × Addr)} {pos : Pos} {Q : Value → Shared → Prop} (_F₀ : Fr h₀ L s.heap m)
    (hclos : closureFor scope env = pure cl) (hcell : ∀ y ∈ scope.names, y.2 ≠ .cell) (hkind : scope.kind = .function) (hnames : ∀ y ∈ scope.names, y.2 = .local → scope.names.lookup y.1 = some .local)
    (h : wpAny (model prog w) A (eval iter env) (EmptySrc A h₀ L m Q) E s) (hs : ∀ x, foldedSetIterable iter env x = pure x) :
    wpAny (model prog w) A (eval (.ListComp elt [⟨.Tuple elts x1 tp, iter, [], 0⟩] scope pos) env) Q E s := by
  rw [eval_ListComp]
  refine wpAny_comprehension_free (use := none) rfl hs hclos hkind hnames (wpAny_mono h (fun xv s₁ h₁ => ?_) fun _ _ e => e)
  obtain ⟨ax, k, news, rfl, hh, F, N, hm, fin⟩ := h₁
  have ho := (N _ hm).1
  have hl : s₁.heap.IsList ax #[] := ⟨_, ho, rfl, k, rfl⟩
  have hlt : ax < s₁.heap.objs.size := Heap.lt_size ho
  refine wpAny_pyIter_list hl ?_
  have up : ∀ b o, s₁.heap.get? b = some o → (s₁.heap.push { cls := .type "list_iterator", data := .fields #[.ref ax, .int 0 0] }).get? b = some o := fun b o e => Heap.get?_push_of_some _ e
  have F1 := F.keeps up
  have N1 := N.grown up
  have W := Walks.list (prog := prog) (w := w) hh s₁.heap.objs.size ax (Nat.ne_of_lt hlt) #[]
  have hI0 : h₀.get? s₁.heap.objs.size = none := next_is_new F
  have hIget : (s₁.heap.push { cls := .type "list_iterator", data := .fields #[.ref ax, .int 0 0] }).get? s₁.heap.objs.size = some { cls := .type "list_iterator", data := .fields #[.ref ax, .int 0 0] } := Heap.get?_push_size _ rfl
  have hst : (s₁.heap.push { cls := .type "list_iterator", data := .fields #[.ref ax, .int 0 0] }).IsList ax #[] := hl.push _
  generalize hH1 : s₁.heap.push { cls := .type "list_iterator", data := .fields #[.ref ax, .int 0 0] } = H1 at *
  have hsz1 : H1.objs.size = s₁.heap.objs.size + 1 := by rw [← hH1, Heap.size_push]
  refine wpAny_newObj_type (wpAny_newFunctionEnv hcell (by intro y hy; simp at hy) (fun h₁ hns₁ hsb₁ => ?_) hkind)
  dsimp only at hns₁ hsb₁ ⊢
  have F2 := F1.push { cls := .type "list", data := .seq ([] : List Value).toArray }
  have N2 := N1.push F1 { cls := .type "list", data := .seq ([] : List Value).toArray }
  generalize hH2 : H1.push { cls := .type "list", dict := none, data := .seq ([] : List Value).toArray } = H2 at *
  have hsz2 : H2.objs.size = H1.objs.size + 1 := by rw [← hH2, Heap.size_push]
  have hC0 : h₀.get? H2.objs.size = none := next_is_new F2
  have hk : ∀ b o, H2.get? b = some o → h₁.get? b = some o := fun b o e => hsb₁.extBut b o (Nat.ne_of_lt (Heap.lt_size e)) (Heap.get?_push_of_some _ e)
  have F3 := F2.keeps hk
  have N3 := N2.grown hk
  have hLlt : @LT.lt Nat _ L s₁.heap.objs.size := F.ns.lt
  have hLC : @Ne Nat H2.objs.size L := by omega
  have hLI : @Ne Nat L s₁.heap.objs.size := by omega
  have hCI : @Ne Nat H2.objs.size s₁.heap.objs.size := by omega
  have hDI : @Ne Nat H1.objs.size s₁.heap.objs.size := by omega
  have hDC : @Ne Nat H1.objs.size H2.objs.size := by omega
  have hN : ∀ p ∈ news, @LT.lt Nat _ p.1 s₁.heap.objs.size := fun p hp => Heap.lt_size (N p hp).1
  have hI2 : H2.get? s₁.heap.objs.size = some { cls := .type "list_iterator", data := .fields #[.ref ax, .int 0 0] } := by rw [← hH2]; exact Heap.get?_push_of_some _ hIget
  have hst₁ := W.frame 0 _ _ ⟨⟨_, hIget, rfl, rfl⟩, hst⟩ fun b _ o e => hk b o (by rw [← hH2]; exact Heap.get?_push_of_some _ e)
  have loop : ∀ s₃ : Shared, s₃ = { s₁ with heap := h₁, toks := s₁.toks + ([] : List (Str × Value)).length } →
      codeAny (model prog w) A (.compLoop (.ListComp elt [⟨.Tuple elts x1 tp, iter, [], 0⟩] scope pos) 0 (.ref s₁.heap.objs.size) (.ref H1.objs.size) (compEnvC scope cl H2.objs.size env))
        (compPost (model prog w) A E none Q (.ref H1.objs.size) H2.objs.size) s₃ := by
    rintro s₃ rfl
    refine LCp.codeAny_compLoop_pair (fun j s' => s' = { s₁ with heap := h₁, toks := s₁.toks + ([] : List (Str × Value)).length }) ?_ 0 rfl
    rintro j s' rfl
    refine W.done _ _ _ hst₁ fun h₂ tk₂ hk₂ => ?_
    refine ⟨_, hns₁.at' fun o e => hk₂ _ o (by simpa using hCI) e, fun h'' hs'' => ?_⟩
    have F4 := LCg.fr_but F3 hk₂ hLI hI0
    have N4 := LCg.news_but N3 hk₂ fun p hp => by
      rcases List.mem_cons.mp hp with rfl | hp
      · exact hDI
      · exact Nat.ne_of_lt (hN p hp)
    refine fin _ h'' tk₂ (F4.change hs'' hLC hC0) (fun p hp => ⟨hs''.extBut _ _ ?_ (N4 p hp).1, (N4 p hp).2⟩) fun p hp => Nat.lt_of_lt_of_le (hN p hp) (by rw [hsz1]; exact Nat.le_succ _)
    rcases List.mem_cons.mp hp with rfl | hp
    · exact hDC
    · exact Nat.ne_of_lt (Nat.lt_trans (hN p hp) (by rw [hsz2, hsz1]; omega))
  exact codeAny_compStart_list (loop _ rfl) (W.self 0 _ _ _ hst₁ (loop _ rfl))
def EmptyFor (A : Around) (h₀ : Heap) (L : Addr) (Q : Flow → Shared → Prop) (v : Value) (s₁ : Shared) : Prop :=
  ∃ ax k news m₁, v = .ref ax ∧ A.handled = none ∧ Fr h₀ L s₁.heap m₁ ∧ News h₀ L s₁.heap news ∧ (ax, listOf #[] k) ∈ news ∧ ∀ h' tk, Fr h₀ L h' m₁ → News h₀ L h' news → Q .next { s₁ with heap := h', toks := tk }
theorem for_none {target iter : Expr} {body : List Stmt} {pos : Pos} {Q : Flow → Shared → Prop} (F : Fr h₀ env.locals s.heap m) (h : wpAny (model prog w) A (eval iter env) (EmptyFor A h₀ env.locals Q) E s)
    (hs : ∀ x, foldedSetIterable iter env x = pure x) (hE : PassesOwn (model prog w) A env E) : wpAny (model prog w) A (exec (.For target iter body [] pos) env) Q E s := by
  refine For_turns F (wpAny_mono h (fun xv s₁ h₁ => ?_) fun _ _ e => e) hs hE
  obtain ⟨ax, k, news, m₁, rfl, hh, F₁, N₁, hm, fin⟩ := h₁
  exact iter_listTurns (vs := []) hh F₁ N₁ hm rfl rfl fun I _ => ItemsRest.zero fun h' tk F' N' => fin h' tk F' N'
end
end
section
theorem ne_new {d y : Nat} {o : Obj} {l : List (Addr × Obj)} (h : ∀ p ∈ l, p.1 < d) (hm : ((y : Addr), o) ∈ l) : d ≠ y := Nat.ne_of_gt (h _ hm)
theorem ne_old {d y : Nat} {o : Obj} {l : List (Addr × Obj)} (h : ∀ p ∈ l, p.1 < d) (hm : ((y : Addr), o) ∈ l) : y ≠ d := Nat.ne_of_lt (h _ hm)
theorem ne_newS {d y : Nat} {o : Obj} {l : List (Addr × Obj)} (h : ∀ p ∈ l, p.1 < d) (hm : ((y : Addr), o) ∈ l) : d + 1 ≠ y := Nat.ne_of_gt (Nat.lt_succ_of_lt (h _ hm))
theorem ne_oldS {d y : Nat} {o : Obj} {l : List (Addr × Obj)} (h : ∀ p ∈ l, p.1 < d) (hm : ((y : Addr), o) ∈ l) : y ≠ d + 1 := Nat.ne_of_lt (Nat.lt_succ_of_lt (h _ hm))
theorem lt_sub {d : Nat} {l U : List (Addr × Obj)} (h : ∀ p ∈ l, p.1 < d) (hs : ∀ p ∈ U, p ∈ l) : ∀ p ∈ U, p.1 < d := fun p hp => h p (hs p hp)
theorem mem_pull {α : Type} (pre : List α) {x : α} {rest : List α} : ∀ p ∈ x :: (pre ++ rest), p ∈ pre ++ x :: rest := by
  intro p hp
  simp only [List.mem_cons, List.mem_append] at hp ⊢
  rcases hp with h | h | h
  · exact .inr (.inl h)
  · exact .inl h
  · exact .inr (.inr h)
theorem mem_pull2 {α : Type} (pre : List α) {x y : α} {rest : List α} : ∀ p ∈ x :: y :: (pre ++ rest), p ∈ pre ++ x :: y :: rest := by
  intro p hp
  simp only [List.mem_cons, List.mem_append] at hp ⊢
  rcases hp with h | h | h | h
  · exact .inr (.inl h)
  · exact .inr (.inr (.inl h))
  · exact .inl h
  · exact .inr (.inr (.inr h))
theorem app_all {α : Type} {β : α → Prop} {a b : List α} (h1 : ∀ p ∈ a, β p) (h2 : ∀ p ∈ b, β p) : ∀ p ∈ a ++ b, β p := fun p hp => (List.mem_append.mp hp).elim (h1 p) (h2 p)
theorem pieces_head {par : Params} {ml : List (Addr × Obj)} {v0 : Value} {us : List Value} {g0 : List Int} {css : List (List Int)} (hP : PiecesAll par ml (v0 :: us) (g0 :: css)) : ∃ x dx c r t1 t2 ivs n n2, v0 = .ref x ∧ IntsAre ivs g0 ∧ (x, instObj 79 dx) ∈ ml ∧ (dx, dictOf [⟨PyData.keyHash par "codes", .str "codes" t1, .ref c⟩, ⟨PyData.keyHash par "runs", .str "runs" t2, .ref r⟩] 2) ∈ ml ∧ (c, listOf ivs.toArray n) ∈ ml ∧ (r, listOf #[] n2) ∈ ml := by
  cases hP with
  | cons a b c d e f => exact ⟨_, _, _, _, _, _, _, _, _, rfl, d, a, b, c, e⟩
def CutP (s : Shared) (h₀ : Heap) (L : Addr) (m : Str → Option Value) (U : List (Addr × Obj)) (f : Flow) (s' : Shared) : Prop :=
  f = .next ∧ ∃ h' tk', s' = { s with heap := h', toks := tk' } ∧ Fr h₀ L h' m ∧ News h₀ L h' U
theorem cut_fr {M : Model} {A : Around} {c : Sem Flow} {Q : Flow → Shared → Prop} {E : Value → Shared → Prop} {s : Shared} {h₀ : Heap} {L : Addr} {m : Str → Option Value} {U : List (Addr × Obj)} (_F : Fr h₀ L s.heap m) (_N : News h₀ L s.heap U)
    (h1 : wpAny M A c (CutP s h₀ L m U) E s) (h2 : ∀ h' tk', Fr h₀ L h' m → News h₀ L h' U → Q .next { s with heap := h', toks := tk' }) : wpAny M A c Q E s :=
  wpAny_mono h1 (fun _ _ ⟨e, h', tk', e2, F', N'⟩ => by rw [e, e2]; exact h2 h' tk' F' N') fun _ _ x => x
theorem lt_more {d x : Nat} {l : List (Addr × Obj)} (h : ∀ p ∈ l, p.1 < d) (hx : d < x) : ∀ p ∈ l, p.1 < x := fun p hp => Nat.lt_trans (h p hp) hx
theorem ints_nil {vs : List Value} {ns : List Int} (h : IntsAre vs (ns ++ [])) : IntsAre vs ns := by rwa [List.append_nil] at h
theorem off8 {bt : List Addr} {T : List (Addr × Obj)} {x : Addr} (h : ∀ p ∈ T, p.1 ≠ x) (hb : ∀ X ∈ bt, ∃ o, (X, o) ∈ T) : ∀ X ∈ bt, @Ne Nat X x := fun X hX => (hb X hX).elim fun _ ho => h _ ho
theorem all8 {α : Type} {β : α → Prop} {a0 a1 a2 a3 a4 a5 a6 a7 : α} (h0 : β a0) (h1 : β a1) (h2 : β a2) (h3 : β a3) (h4 : β a4) (h5 : β a5) (h6 : β a6) (h7 : β a7) : ∀ q ∈ [a0, a1, a2, a3, a4, a5, a6, a7], β q := (List.forall_mem_cons.mpr ⟨h0, (List.forall_mem_cons.mpr ⟨h1, (List.forall_mem_cons.mpr ⟨h2, (List.forall_mem_cons.mpr ⟨h3, (List.forall_mem_cons.mpr ⟨h4, (List.forall_mem_cons.mpr ⟨h5, (List.forall_mem_cons.mpr ⟨h6, (List.forall_mem_cons.mpr ⟨h7, (List.forall_mem_nil _)⟩)⟩)⟩)⟩)⟩)⟩)⟩)⟩)
theorem all9 {α : Type} {β : α → Prop} {a0 a1 a2 a3 a4 a5 a6 a7 a8 : α} (h0 : β a0) (h1 : β a1) (h2 : β a2) (h3 : β a3) (h4 : β a4) (h5 : β a5) (h6 : β a6) (h7 : β a7) (h8 : β a8) : ∀ q ∈ [a0, a1, a2, a3, a4, a5, a6, a7, a8], β q := (List.forall_mem_cons.mpr ⟨h0, (List.forall_mem_cons.mpr ⟨h1, (List.forall_mem_cons.mpr ⟨h2, (List.forall_mem_cons.mpr ⟨h3, (List.forall_mem_cons.mpr ⟨h4, (List.forall_mem_cons.mpr ⟨h5, (List.forall_mem_cons.mpr ⟨h6, (List.forall_mem_cons.mpr ⟨h7, (List.forall_mem_cons.mpr ⟨h8, (List.forall_mem_nil _)⟩)⟩)⟩)⟩)⟩)⟩)⟩)⟩)⟩)
theorem all10 {α : Type} {β : α → Prop} {a0 a1 a2 a3 a4 a5 a6 a7 a8 a9 : α} (h0 : β a0) (h1 : β a1) (h2 : β a2) (h3 : β a3) (h4 : β a4) (h5 : β a5) (h6 : β a6) (h7 : β a7) (h8 : β a8) (h9 : β a9) : ∀ q ∈ [a0, a1, a2, a3, a4, a5, a6, a7, a8, a9], β q := (List.forall_mem_cons.mpr ⟨h0, (List.forall_mem_cons.mpr ⟨h1, (List.forall_mem_cons.mpr ⟨h2, (List.forall_mem_cons.mpr ⟨h3, (List.forall_mem_cons.mpr ⟨h4, (List.forall_mem_cons.mpr ⟨h5, (List.forall_mem_cons.mpr ⟨h6, (List.forall_mem_cons.mpr ⟨h7, (List.forall_mem_cons.mpr ⟨h8, (List.forall_mem_cons.mpr ⟨h9, (List.forall_mem_nil _)⟩)⟩)⟩)⟩)⟩)⟩)⟩)⟩)⟩)⟩)
theorem all11 {α : Type} {β : α → Prop} {a0 a1 a2 a3 a4 a5 a6 a7 a8 a9 a10 : α} (h0 : β a0) (h1 : β a1) (h2 : β a2) (h3 : β a3) (h4 : β a4) (h5 : β a5) (h6 : β a6) (h7 : β a7) (h8 : β a8) (h9 : β a9) (h10 : β a10) : ∀ q ∈ [a0, a1, a2, a3, a4, a5, a6, a7, a8, a9, a10], β q := (List.forall_mem_cons.mpr ⟨h0, (List.forall_mem_cons.mpr ⟨h1, (List.forall_mem_cons.mpr ⟨h2, (List.forall_mem_cons.mpr ⟨h3, (List.forall_mem_cons.mpr ⟨h4, (List.forall_mem_cons.mpr ⟨h5, (List.forall_mem_cons.mpr ⟨h6, (List.forall_mem_cons.mpr ⟨h7, (List.forall_mem_cons.mpr ⟨h8, (List.forall_mem_cons.mpr ⟨h9, (List.forall_mem_cons.mpr ⟨h10, (List.forall_mem_nil _)⟩)⟩)⟩)⟩)⟩)⟩)⟩)⟩)⟩)⟩)⟩)
theorem off8d {c1 c2 c3 t R D a b : Addr} {T : List (Addr × Obj)} {x : Addr} (h : ∀ p ∈ T, p.1 ≠ x) (hb : ∀ X ∈ ([c1, c2, c3, t, R, b] : List Addr), ∃ o, (X, o) ∈ T) (h1 : @Ne Nat D x) (h2 : @Ne Nat a x) : ∀ X ∈ ([c1, c2, c3, t, R, D, a, b] : List Addr), @Ne Nat X x := all8 (β := fun X => @Ne Nat X x) (off8 h hb _ (.head _)) (off8 h hb _ (.tail _ (.head _))) (off8 h hb _ (.tail _ (.tail _ (.head _)))) (off8 h hb _ (.tail _ (.tail _ (.tail _ (.head _))))) (off8 h hb _ (.tail _ (.tail _ (.tail _ (.tail _ (.head _)))))) h1 h2 (off8 h hb _ (.tail _ (.tail _ (.tail _ (.tail _ (.tail _ (.head _)))))))
theorem bad11 {c1 c2 c3 t R dR P O D a b x : Addr} (h : ∀ X ∈ ([c1, c2, c3, t, R, D, a, b] : List Addr), @Ne Nat X x) (h1 : @Ne Nat dR x) (h2 : @Ne Nat P x) (h3 : @Ne Nat O x) : ∀ X ∈ ([c1, c2, c3, t, R, dR, P, O, D, a, b] : List Addr), @Ne Nat X x := all11 (β := fun X => @Ne Nat X x) (h _ (.head _)) (h _ (.tail _ (.head _))) (h _ (.tail _ (.tail _ (.head _)))) (h _ (.tail _ (.tail _ (.tail _ (.head _))))) (h _ (.tail _ (.tail _ (.tail _ (.tail _ (.head _)))))) h1 h2 h3 (h _ (.tail _ (.tail _ (.tail _ (.tail _ (.tail _ (.head _))))))) (h _ (.tail _ (.tail _ (.tail _ (.tail _ (.tail _ (.tail _ (.head _)))))))) (h _ (.tail _ (.tail _ (.tail _ (.tail _ (.tail _ (.tail _ (.tail _ (.head _)))))))))
theorem bad10 {c1 c2 c3 t R dR O D a b x : Addr} (h : ∀ X ∈ ([c1, c2, c3, t, R, D, a, b] : List Addr), @Ne Nat X x) (h1 : @Ne Nat dR x) (h3 : @Ne Nat O x) : ∀ X ∈ ([c1, c2, c3, t, R, dR, O, D, a, b] : List Addr), @Ne Nat X x := all10 (β := fun X => @Ne Nat X x) (h _ (.head _)) (h _ (.tail _ (.head _))) (h _ (.tail _ (.tail _ (.head _)))) (h _ (.tail _ (.tail _ (.tail _ (.head _))))) (h _ (.tail _ (.tail _ (.tail _ (.tail _ (.head _)))))) h1 h3 (h _ (.tail _ (.tail _ (.tail _ (.tail _ (.tail _ (.head _))))))) (h _ (.tail _ (.tail _ (.tail _ (.tail _ (.tail _ (.tail _ (.head _)))))))) (h _ (.tail _ (.tail _ (.tail _ (.tail _ (.tail _ (.tail _ (.tail _ (.head _)))))))))
theorem bad9 {c1 c2 c3 t R dR D a b x : Addr} (h : ∀ X ∈ ([c1, c2, c3, t, R, D, a, b] : List Addr), @Ne Nat X x) (h1 : @Ne Nat dR x) : ∀ X ∈ ([c1, c2, c3, t, R, dR, D, a, b] : List Addr), @Ne Nat X x := all9 (β := fun X => @Ne Nat X x) (h _ (.head _)) (h _ (.tail _ (.head _))) (h _ (.tail _ (.tail _ (.head _)))) (h _ (.tail _ (.tail _ (.tail _ (.head _))))) (h _ (.tail _ (.tail _ (.tail _ (.tail _ (.head _)))))) h1 (h _ (.tail _ (.tail _ (.tail _ (.tail _ (.tail _ (.head _))))))) (h _ (.tail _ (.tail _ (.tail _ (.tail _ (.tail _ (.tail _ (.head _)))))))) (h _ (.tail _ (.tail _ (.tail _ (.tail _ (.tail _ (.tail _ (.tail _ (.head _)))))))))
theorem off5 {α : Type} {β : α → Prop} {a b c d e : α} (h1 : β a) (h2 : β b) (h3 : β c) (h4 : β d) (h5 : β e) : ∀ q ∈ [a, b, c, d, e], β q := by
  simp only [List.forall_mem_cons, h1, h2, h3, h4, h5, true_and]
  exact List.forall_mem_nil _
section
variable {prog : Program} {w : World} {A : Around} {E : Value → Shared → Prop} {s : Shared} {h₀ : Heap} {L l : Addr} {m : Str → Option Value} {news : List (Addr × Obj)} {us : List Value} {n : Nat} {Q : Value → Shared → Prop}
theorem ls_copy (F : Fr h₀ L s.heap m) (N : News h₀ L s.heap news) (hm : (l, listOf us.toArray n) ∈ news) (hz : us.length ≤ 1000)
    (h : ∀ D c h', Fr h₀ L h' m → News h₀ L h' ((D, listOf us.toArray c) :: news) → (∀ p ∈ news, p.1 < D) → Q (.ref D) { s with heap := h' }) : wpAny (model prog w) A (call (.type "list") [.ref l]) Q E s :=
  list_copyK F N (News.isList N hm) (fun D c h' F' N' l1 => h D c h' F' N' l1) (by rw [List.size_toArray, sizeLine_eq]; omega)
end
theorem draw_T {w : World} {mean : ExcName → Option Value} {mg mb : Str → Option Value} {env : Env} {base h₀ : Heap} {L : Addr} {m : Str → Option Value} (pre : List (Addr × Obj)) {rest : List (Addr × Obj)} {s : Shared} {Q E : Value → Shared → Prop}
    {D a b : Addr} {k many : Int} {tk tm : Tok} {nd na nb : Nat} {vs : List Value} {ns : List Int} {ws : List Value} {cs : List Int}
    (B : Below callerA base [] h₀) (F : Fr h₀ L s.heap m) (X : (KK w).In h₀) (T : Top topProg LSE mean mg mb h₀) (hf : env.frame = some L) (hk : env.scope.kind = .function)
    (N : News h₀ L s.heap (pre ++ (D, listOf #[.ref a, .ref b, .int k tk] nd) :: (a, listOf vs.toArray na) :: rest)) (hb : (b, listOf ws.toArray nb) ∈ rest)
    (hDa : @Ne Nat D a) (hpD : ∀ p ∈ pre, p.1 ≠ D) (hpa : ∀ p ∈ pre, p.1 ≠ a) (hD : ∀ p ∈ rest, p.1 ≠ D) (ha : ∀ p ∈ rest, p.1 ≠ a)
    (hv : IntsAre vs ns) (hns : ∀ n ∈ ns, 0 ≤ n) (hnl : ns.length < 2 ^ 20) (hw : IntsAre ws cs) (hcs : 0 < cs.length) (hcs2 : cs.length < 2 ^ 20) (hk0 : 0 ≤ k) (hk1 : k < 1000) (hm1 : 1 ≤ many) (hm2 : many ≤ 9)
    (ret : ∀ (r : Int) (t t' : Tok) (vs' : List Value) (ns' : List Int) (na' : Nat) (k' : Int) (h' : Heap) (tk' : Nat), 0 ≤ r → r < many → IntsAre vs' ns' → (∀ n ∈ ns', 0 ≤ n) → ns'.length < 2 ^ 20 → 0 ≤ k' → k' ≤ k + 1 → Fr h₀ L h' m →
      News h₀ L h' (pre ++ (D, listOf #[.ref a, .ref b, .int k' t'] nd) :: (a, listOf vs'.toArray na') :: rest) → Q (.int r t) { s with heap := h', toks := tk' }) :
    wpAny (model PRG w) (callerA.deeper env) (call (.ref 170) [.ref D, .int many tm]) Q E s := by
  refine draw_spec (k := k) (tk := tk) (nd := nd) (na := na) (nb := nb) pre B F X T hf hk (cb_drop N fun p hp => ?_) hDa (hD _ hb).symm (ha _ hb).symm hpD hpa hD ha hv hns hnl hw hcs hcs2 hk0 hk1 hm1 hm2 fun r t t' vs' ns' na' k' h' tk' a1 a2 a3 a4 a5 a6 a7 a8 a9 => ret r t t' vs' ns' na' k' h' tk' a1 a2 a3 a4 a5 a6 a7 a8 (cb_drop a9 fun p hp => ?_)
  · simp only [List.mem_append, List.mem_cons] at hp ⊢
    rcases hp with h | h | h | h | h
    · exact .inl h
    · exact .inr (.inl h)
    · exact .inr (.inr (.inl h))
    · exact .inr (.inr (.inr (h ▸ hb)))
    · exact .inr (.inr (.inr h))
  · simp only [List.mem_append, List.mem_cons] at hp ⊢
    rcases hp with h | h | h | h
    · exact .inl h
    · exact .inr (.inl h)
    · exact .inr (.inr (.inl h))
    · exact .inr (.inr (.inr (.inr h)))
end
section
local macro_rules | `(tactic| k_steps) => `(tactic| repeat' (first | (k_unfold; (try dsimp only)) | (k_end; wrow_close) | (dsimp only; walk1) | walk1 | (leave1; walk_say "STEP leave1"; try dsimp only) | fail "no step"))
local macro_rules | `(tactic| k_all) => `(tactic| assumption)
local macro_rules | `(tactic| k_ne) => `(tactic| ((refine neN ?_); (try dsimp only); first | with_reducible assumption | (refine Ne.symm ?_; with_reducible assumption) | exact ne_new (by assumption) (by k_mem) | exact ne_old (by assumption) (by k_mem) | exact ne_newS (by assumption) (by k_mem) | exact ne_oldS (by assumption) (by k_mem) | exact Nat.ne_of_lt (by assumption) | exact Nat.ne_of_gt (by assumption)))
local macro_rules | `(tactic| k_lt $h:ident) => `(tactic| (have hT9 := $h; (repeat replace hT9 := lt_tail hT9); replace hT9 := ne_tail hT9))
local macro_rules | `(tactic| k_lt2 $h:ident) => `(tactic| (have hT8 := lt_more (by assumption) $h; have hT9 := hT8; (repeat replace hT9 := lt_tail hT9); replace hT9 := ne_tail hT9))
local macro_rules | `(tactic| k_sub) => `(tactic| (intro p hp; repeat (first | exact hp | apply List.Mem.tail)))
local macro_rules | `(tactic| k_mem) => `(tactic| first | with_reducible assumption | assumption | (refine mem_sub ?_ (by assumption); assumption))
local macro_rules | `(tactic| walk_at "callWith ref") => `(tactic| (k_here; k_dflt (first | refine' callWith_K ?k1 ?k2 ?_; (case k1 => k_asm); (case k2 => k_is); k_whole | refine' callWith_K0 ?k1 ?k2 ?_; (case k1 => k_in); (case k2 => k_is); k_whole)))
local macro_rules | `(tactic| walk_at "compareOp NotEq ref ref") => `(tactic| (k_here; (with_reducible show wpAny _ _ (compareOp CmpOp.NotEq (Value.ref _) (Value.ref _)) _ _ _); k_dflt (first | (refine' ll_ne_nil ?N ?ma ?mb ?hu ?_; (case N => k_asm); (case ma => k_mem); (case mb => k_mem); (case hu => ke_room)) | (refine' ll_ne_cons ?N ?ma ?mb ?D ?sb ?hu ?_; (case N => k_asm); (case ma => k_mem); (case mb => k_mem); (case D => assumption); (case sb => (intro p hp; k_mem)); (case hu => ke_room)) | (refine' li_ne_at ?N ?ma ?mb ?hi ?hj ?e1 ?e2 ?hk ?hu ?_; (case N => k_asm); (case ma => k_mem); (case mb => k_mem); (case hi => assumption); (case hj => assumption); (case e1 => assumption); (case e2 => assumption); (case hk => first | rfl | assumption); (case hu => ke_room)))))
local macro_rules | `(tactic| walk_at "eval Lambda") => `(tactic| (k_here; kn_here; k_dflt (refine' kla_eval ?d0 ?_; (case d0 => exact rfl)); k_dflt (refine' lam_any ?F ?N ?T ?C ?cd ?U ?hps ?sub ?sb ?hb ?hin ?cl ?_; (case F => k_asm); (case N => k_asm); (case T => k_asm); (case cd => exact rfl); (case C => kn_code); (case U => k_updF); (case hps => assumption); (case sub => assumption); (case sb => (intro p hp; k_mem)); (case hb => assumption); (case hin => refine (List.forall_mem_cons.mpr ⟨?_, (List.forall_mem_cons.mpr ⟨?_, (List.forall_mem_cons.mpr ⟨?_, (List.forall_mem_cons.mpr ⟨?_, (List.forall_mem_cons.mpr ⟨?_, (List.forall_mem_cons.mpr ⟨?_, (List.forall_mem_cons.mpr ⟨?_, (List.forall_mem_cons.mpr ⟨?_, (List.forall_mem_cons.mpr ⟨?_, (List.forall_mem_cons.mpr ⟨?_, (List.forall_mem_cons.mpr ⟨?_, (List.forall_mem_nil _)⟩)⟩)⟩)⟩)⟩)⟩)⟩)⟩)⟩)⟩)⟩) <;> exact ⟨_, by k_mem⟩); (case cl => exact rfl); k_whole); intro f' c' oc' vs' t' ct' h' tk' ps' addc F' N' d1' d2' ha1 htab hc8 hA hT l1 l2; (try dsimp only at N'); (simp only [List.mem_cons, forall_eq_or_imp, List.not_mem_nil, false_imp_iff, implies_true, and_true, forall_const] at hc8); (try k_lt l1)))
set_option maxHeartbeats 4000000 in
theorem pp_c {w : World} {mean : ExcName → Option Value} {mg mb : Str → Option Value} {env : Env} {base h₀ : Heap} {L : Addr} {m : Str → Option Value} {s : Shared} {Q E : Value → Shared → Prop} {c : Addr} {ivs : List Value} {nc : Nat} {U : List (Addr × Obj)} (B : Below callerA base [] h₀) (F : Fr h₀ L s.heap m) (X : (KK w).In h₀) (T : Top topProg LSE mean mg mb h₀) (hf : env.frame = some L) (hk : env.scope.kind = .function)
    (N : News h₀ L s.heap U) (hm : (c, listOf ivs.toArray nc) ∈ U) (hil : ivs.length ≤ 900)
    (ret : ∀ (x d l D : Addr) (c' : Nat) (t1 t2 : Tok) (h' : Heap) (tk' : Nat), Fr h₀ L h' m → News h₀ L h' ((x, instObj 79 d) :: (d, dictOf [⟨PyData.keyHash w.params "codes", .str "codes" t1, .ref D⟩, ⟨PyData.keyHash w.params "runs", .str "runs" t2, .ref l⟩] 2) :: (l, listOf #[] 0) :: (D, listOf ivs.toArray c') :: U) →
      (∀ p ∈ U, p.1 < x) → (∀ p ∈ U, p.1 < d) → (∀ p ∈ U, p.1 < l) → (∀ p ∈ U, p.1 < D) → Q (.ref x) { s with heap := h', toks := tk' }) :
    wpAny (model PRG w) (callerA.deeper env) (call (.ref 102) [.ref c]) Q E s := by
  unfold PRG
  unfold KK at X
  unfold LSE at T
  revert X
  k_fill
  intro X
  refine wpAny_call ?_
  k_dflt (refine' code_def ?k1 ?k2 ?k3 ?k4 ?k5 ?kA ?kF ?kK ?k6 ?k7 ?k8 ?k9 ?kB ?_ ?c2 ?c3 ?c4 ?c5; (case kA => exact rfl); (case kF => assumption); (case kK => assumption); (case k1 => k_asm); (case k2 => k_asm); (case k3 => k_asm); (case k4 => k_asm); (case k5 => k_asm); (case k6 => k_is); (case k7 => k_is); (case k8 => k_room); (case k9 => exact BindsTo.of_eq rfl); (case c5 => decide); (case kB => exact locs rfl); (case c2 => exact rfl); (case c3 => exact rfl); (case c4 => exact rfl); k_whole; intro g' L' h' FG' F' N' B' X' T'; (try dsimp only); (try k_fold))
  k_with_none
  k_with "call type:list" => (k_here; (with_reducible show wpAny _ _ (call (Value.type _) [Value.ref _]) _ _ _); k_dflt (refine' ls_copy (by k_asm) (by k_asm) (by k_mem) (by omega) ?_); intro D' c' h' F' N' l1; (try k_lt l1); (try k_sweep))
  k_steps
  rename Fr _ _ _ _ => kF
  rename News _ _ _ _ => kN
  exact ret _ _ _ _ _ _ _ _ _ kF kN (lt_sub (by assumption) (by k_sub)) (lt_sub (by assumption) (by k_sub)) (lt_sub (by assumption) (by k_sub)) (lt_sub (by assumption) (by k_sub))
set_option maxHeartbeats 4000000 in
theorem kn0_c {w : World} {mean : ExcName → Option Value} {mg mb : Str → Option Value} {A₀ : Around} {env : Env} {outer : List Env} {base h₀ : Heap} {L : Addr} {m : Str → Option Value} {s : Shared} {Q E : Value → Shared → Prop} {R x P dR : Addr} {pvs : List Value} {np : Nat} {most last : Int} {ta tb tc td te : Tok} {U : List (Addr × Obj)} (B : Below A₀ base outer h₀) (hd : A₀.depth ≤ 500) (F : Fr h₀ L s.heap m) (X : (KK w).In h₀) (T : Top topProg LSE mean mg mb h₀) (hf : env.frame = some L) (hk : env.scope.kind = .function)
    (N : News h₀ L s.heap ((dR, dictOf [⟨PyData.keyHash w.params "most", .str "most" ta, .int most tb⟩, ⟨PyData.keyHash w.params "pieces", .str "pieces" tc, .ref P⟩, ⟨PyData.keyHash w.params "pointer", .str "pointer" td, .int last te⟩] 3) :: U)) (hm : (R, instObj 126 dR) ∈ U) (hp : (P, listOf pvs.toArray np) ∈ U) (hq : ∀ p ∈ U, p.1 ≠ dR) (hpl : pvs.length ≤ 900) (hm1 : 1 ≤ most)
    (ret : ∀ (P' : Addr) (np' : Nat) (te' : Tok) (h' : Heap) (tk' : Nat), Fr h₀ L h' m → News h₀ L h' ((P', listOf ((Value.ref x :: pvs).take most.toNat).toArray np') :: (dR, dictOf [⟨PyData.keyHash w.params "most", .str "most" ta, .int most tb⟩, ⟨PyData.keyHash w.params "pieces", .str "pieces" tc, .ref P'⟩, ⟨PyData.keyHash w.params "pointer", .str "pointer" td, .int 0 te'⟩] 3) :: U) →
      (∀ p ∈ (dR, dictOf [⟨PyData.keyHash w.params "most", .str "most" ta, .int most tb⟩, ⟨PyData.keyHash w.params "pieces", .str "pieces" tc, .ref P⟩, ⟨PyData.keyHash w.params "pointer", .str "pointer" td, .int last te⟩] 3) :: U, p.1 < P') → Q .none { s with heap := h', toks := tk' }) :
    wpAny (model PRG w) (A₀.deeper env) (call (.ref 137) [.ref R, .ref x, .bool false]) Q E s := by
  unfold PRG
  unfold KK at X
  unfold LSE at T
  revert X
  k_fill
  intro X
  refine wpAny_call ?_
  k_dflt (refine' code_def ?k1 ?k2 ?k3 ?k4 ?k5 ?kA ?kF ?kK ?k6 ?k7 ?k8 ?k9 ?kB ?_ ?c2 ?c3 ?c4 ?c5; (case kA => exact Around.frames_deeper B.stack); (case kF => assumption); (case kK => assumption); (case k1 => k_asm); (case k2 => k_asm); (case k3 => k_asm); (case k4 => k_asm); (case k5 => k_asm); (case k6 => k_is); (case k7 => k_is); (case k8 => exact Nat.lt_of_le_of_lt (Nat.succ_le_succ hd) (by decide)); (case k9 => exact BindsTo.of_eq rfl); (case c5 => decide); (case kB => exact locs rfl); (case c2 => exact rfl); (case c3 => exact rfl); (case c4 => exact rfl); k_whole; intro g' L' h' FG' F' N' B' X' T'; (try dsimp only); (try k_fold))
  k_with_none
  k_with "binaryOp Add ref ref" => (k_here; k_dflt (refine' ls_add (by k_asm) (by k_asm) (by k_mem) (by k_mem) (by (first | assumption | decide | omega | ((simp only [List.length_append, List.length_cons, List.length_nil, List.length_drop, List.length_take]); omega))) (by (first | assumption | decide | omega | ((simp only [List.length_append, List.length_cons, List.length_nil, List.length_drop, List.length_take]); omega))) ?_); intro D' h' F' N' l1; (try k_lt l1); (try k_sweep))
  k_with "subscriptTail" => (k_here; (with_reducible show wpAny _ _ (subscriptTail _ (PySem.Expr.Slice none (some _) none _) (Value.ref _) (Value.ref _)) _ _ _); k_dflt (refine' ls_upto (by k_asm) (by k_asm) (by k_mem) (by omega) (by (first | assumption | decide | omega | ((simp only [List.length_append, List.length_cons, List.length_nil, List.length_drop, List.length_take]); omega))) ?_ (by with_unfolding_all rfl) (by kmk_pure)); intro D' h' F' N' l1; (try k_lt l1); (try k_sweep))
  k_with "subscriptTail Name Slice ref ref" => (k_here; (with_reducible show wpAny _ _ (subscriptTail _ (PySem.Expr.Slice none (some _) none _) (Value.ref _) (Value.ref _)) _ _ _); k_dflt (refine' ls_upto (by k_asm) (by k_asm) (by k_mem) (by omega) (by (first | assumption | decide | omega | ((simp only [List.length_append, List.length_cons, List.length_nil, List.length_drop, List.length_take]); omega))) ?_ (by with_unfolding_all rfl) (by kmk_pure)); intro D' h' F' N' l1; (try k_lt l1); (try k_sweep))
  k_steps
  rename Fr _ _ _ _ => kF
  rename News _ _ _ _ => kN
  exact ret _ _ _ _ _ kF (cb_drop kN (List.forall_mem_cons.mpr ⟨.head _, List.forall_mem_cons.mpr ⟨.tail _ (.tail _ (.tail _ (.head _))), fun p hp => .tail _ (.tail _ (.tail _ (.tail _ hp)))⟩⟩)) (lt_sub (by assumption) (by k_sub))
set_option maxHeartbeats 4000000 in
theorem kn1_c {w : World} {mean : ExcName → Option Value} {mg mb : Str → Option Value} {A₀ : Around} {env : Env} {outer : List Env} {base h₀ : Heap} {L : Addr} {m : Str → Option Value} {s : Shared} {Q E : Value → Shared → Prop} {R x P dR : Addr} {np : Nat} {most last : Int} {ta tb tc td te : Tok} {U : List (Addr × Obj)} (B : Below A₀ base outer h₀) (hd : A₀.depth ≤ 500) (F : Fr h₀ L s.heap m) (X : (KK w).In h₀) (T : Top topProg LSE mean mg mb h₀) (hf : env.frame = some L) (hk : env.scope.kind = .function)
    (N : News h₀ L s.heap ((dR, dictOf [⟨PyData.keyHash w.params "most", .str "most" ta, .int most tb⟩, ⟨PyData.keyHash w.params "pieces", .str "pieces" tc, .ref P⟩, ⟨PyData.keyHash w.params "pointer", .str "pointer" td, .int last te⟩] 3) :: U)) (hm : (R, instObj 126 dR) ∈ U) (hp : (P, listOf #[] np) ∈ U) (hq : ∀ p ∈ U, p.1 ≠ dR) (hm1 : 1 ≤ most)
    (ret : ∀ (P' : Addr) (np' : Nat) (te' : Tok) (h' : Heap) (tk' : Nat), Fr h₀ L h' m → News h₀ L h' ((P', listOf ([Value.ref x].take most.toNat).toArray np') :: (dR, dictOf [⟨PyData.keyHash w.params "most", .str "most" ta, .int most tb⟩, ⟨PyData.keyHash w.params "pieces", .str "pieces" tc, .ref P'⟩, ⟨PyData.keyHash w.params "pointer", .str "pointer" td, .int 0 te'⟩] 3) :: U) →
      (∀ p ∈ (dR, dictOf [⟨PyData.keyHash w.params "most", .str "most" ta, .int most tb⟩, ⟨PyData.keyHash w.params "pieces", .str "pieces" tc, .ref P⟩, ⟨PyData.keyHash w.params "pointer", .str "pointer" td, .int last te⟩] 3) :: U, p.1 < P') → Q .none { s with heap := h', toks := tk' }) :
    wpAny (model PRG w) (A₀.deeper env) (call (.ref 137) [.ref R, .ref x, .bool true]) Q E s := by
  unfold PRG
  unfold KK at X
  unfold LSE at T
  revert X
  k_fill
  intro X
  refine wpAny_call ?_
  k_dflt (refine' code_def ?k1 ?k2 ?k3 ?k4 ?k5 ?kA ?kF ?kK ?k6 ?k7 ?k8 ?k9 ?kB ?_ ?c2 ?c3 ?c4 ?c5; (case kA => exact Around.frames_deeper B.stack); (case kF => assumption); (case kK => assumption); (case k1 => k_asm); (case k2 => k_asm); (case k3 => k_asm); (case k4 => k_asm); (case k5 => k_asm); (case k6 => k_is); (case k7 => k_is); (case k8 => exact Nat.lt_of_le_of_lt (Nat.succ_le_succ hd) (by decide)); (case k9 => exact BindsTo.of_eq rfl); (case c5 => decide); (case kB => exact locs rfl); (case c2 => exact rfl); (case c3 => exact rfl); (case c4 => exact rfl); k_whole; intro g' L' h' FG' F' N' B' X' T'; (try dsimp only); (try k_fold))
  k_with_none
  k_with "binaryOp Add ref ref" => (k_here; k_dflt (refine' ls_add (by k_asm) (by k_asm) (by k_mem) (by k_mem) (by (first | assumption | decide | omega | ((simp only [List.length_append, List.length_cons, List.length_nil, List.length_drop, List.length_take]); omega))) (by (first | assumption | decide | omega | ((simp only [List.length_append, List.length_cons, List.length_nil, List.length_drop, List.length_take]); omega))) ?_); intro D' h' F' N' l1; (try k_lt l1); (try k_sweep))
  k_with "call builtin:len" => (k_here; (with_reducible show wpAny _ _ (call (Value.builtin "len") [Value.ref _]) _ _ _); k_dflt (refine' ls_len (by k_asm) (by k_mem) (by (first | assumption | decide | omega | ((simp only [List.length_append, List.length_cons, List.length_nil, List.length_drop, List.length_take]); omega))) ?_))
  k_with "subscriptTail" => (k_here; (with_reducible show wpAny _ _ (subscriptTail _ (PySem.Expr.Slice none (some _) none _) (Value.ref _) (Value.ref _)) _ _ _); k_dflt (refine' ls_upto (by k_asm) (by k_asm) (by k_mem) (by omega) (by (first | assumption | decide | omega | ((simp only [List.length_append, List.length_cons, List.length_nil, List.length_drop, List.length_take]); omega))) ?_ (by with_unfolding_all rfl) (by kmk_pure)); intro D' h' F' N' l1; (try k_lt l1); (try k_sweep))
  k_with "subscriptTail Name Slice ref ref" => (k_here; (with_reducible show wpAny _ _ (subscriptTail _ (PySem.Expr.Slice none (some _) none _) (Value.ref _) (Value.ref _)) _ _ _); k_dflt (refine' ls_upto (by k_asm) (by k_asm) (by k_mem) (by omega) (by (first | assumption | decide | omega | ((simp only [List.length_append, List.length_cons, List.length_nil, List.length_drop, List.length_take]); omega))) ?_ (by with_unfolding_all rfl) (by kmk_pure)); intro D' h' F' N' l1; (try k_lt l1); (try k_sweep))
  k_steps
  rename Fr _ _ _ _ => kF
  rename News _ _ _ _ => kN
  exact ret _ _ _ _ _ kF (cb_drop kN (List.forall_mem_cons.mpr ⟨.head _, List.forall_mem_cons.mpr ⟨.tail _ (.tail _ (.tail _ (.head _))), fun p hp => .tail _ (.tail _ (.tail _ (.tail _ hp)))⟩⟩)) (lt_sub (by assumption) (by k_sub))
set_option maxHeartbeats 4000000 in
theorem knr_c {w : World} {mean : ExcName → Option Value} {mg mb : Str → Option Value} {A₀ : Around} {env : Env} {outer : List Env} {base h₀ : Heap} {L : Addr} {m : Str → Option Value} {s : Shared} {Q E : Value → Shared → Prop} {R x P dR : Addr} {p0 : Value} {pvs : List Value} {np : Nat} {most last : Int} {ta tb tc td te : Tok} {U : List (Addr × Obj)} (B : Below A₀ base outer h₀) (hd : A₀.depth ≤ 500) (F : Fr h₀ L s.heap m) (X : (KK w).In h₀) (T : Top topProg LSE mean mg mb h₀) (hf : env.frame = some L) (hk : env.scope.kind = .function)
    (N : News h₀ L s.heap ((dR, dictOf [⟨PyData.keyHash w.params "most", .str "most" ta, .int most tb⟩, ⟨PyData.keyHash w.params "pieces", .str "pieces" tc, .ref P⟩, ⟨PyData.keyHash w.params "pointer", .str "pointer" td, .int last te⟩] 3) :: (P, listOf (p0 :: pvs).toArray np) :: U)) (hm : (R, instObj 126 dR) ∈ U) (hq : ∀ p ∈ U, p.1 ≠ dR) (hqP : ∀ p ∈ U, p.1 ≠ P) (hdP : @Ne Nat dR P) (hpl : pvs.length ≤ 900)
    (ret : ∀ (te' : Tok) (h' : Heap) (tk' : Nat), Fr h₀ L h' m → News h₀ L h' ((dR, dictOf [⟨PyData.keyHash w.params "most", .str "most" ta, .int most tb⟩, ⟨PyData.keyHash w.params "pieces", .str "pieces" tc, .ref P⟩, ⟨PyData.keyHash w.params "pointer", .str "pointer" td, .int 0 te'⟩] 3) :: (P, listOf (Value.ref x :: pvs).toArray np) :: U) → Q .none { s with heap := h', toks := tk' }) :
    wpAny (model PRG w) (A₀.deeper env) (call (.ref 137) [.ref R, .ref x, .bool true]) Q E s := by
  unfold PRG
  unfold KK at X
  unfold LSE at T
  revert X
  k_fill
  intro X
  refine wpAny_call ?_
  k_dflt (refine' code_def ?k1 ?k2 ?k3 ?k4 ?k5 ?kA ?kF ?kK ?k6 ?k7 ?k8 ?k9 ?kB ?_ ?c2 ?c3 ?c4 ?c5; (case kA => exact Around.frames_deeper B.stack); (case kF => assumption); (case kK => assumption); (case k1 => k_asm); (case k2 => k_asm); (case k3 => k_asm); (case k4 => k_asm); (case k5 => k_asm); (case k6 => k_is); (case k7 => k_is); (case k8 => exact Nat.lt_of_le_of_lt (Nat.succ_le_succ hd) (by decide)); (case k9 => exact BindsTo.of_eq rfl); (case c5 => decide); (case kB => exact locs rfl); (case c2 => exact rfl); (case c3 => exact rfl); (case c4 => exact rfl); k_whole; intro g' L' h' FG' F' N' B' X' T'; (try dsimp only); (try k_fold))
  have hpos : 0 < (p0 :: pvs).length := Nat.succ_pos _
  k_with_none
  k_with "call builtin:len" => (k_here; (with_reducible show wpAny _ _ (call (Value.builtin "len") [Value.ref _]) _ _ _); k_dflt (refine' ls_len (by k_asm) (by k_mem) (by (first | assumption | decide | omega | ((simp only [List.length_append, List.length_cons, List.length_nil, List.length_drop, List.length_take]); omega))) ?_))
  k_steps
  rename Fr _ _ _ _ => kF
  rename News _ _ _ _ => kN
  exact ret _ _ _ kF kN
section
local macro_rules | `(tactic| walk_at "eval ListComp") => `(tactic| (k_here; (with_reducible show wpAny _ _ (eval (Expr.ListComp _ [⟨Expr.Tuple _ _ _, _, [], _⟩] _ _) _) _ _ _); k_dflt (refine comp_none (by k_asm) (by with_unfolding_all rfl) (by decide) (by rfl) (by decide) ?_ (by intro _; rfl))))
local macro_rules | `(tactic| walk_at "exec For") => `(tactic| (k_here; (with_reducible show wpAny _ _ (exec (Stmt.For (Expr.Tuple _ _ _) (Expr.Name _ _) _ [] _) _) _ _ _); (rename Fr _ _ _ _ => lF'); k_dflt (refine for_none lF' ?_ (by intro _; rfl) (by passes_own))))
local macro_rules | `(tactic| walk_at "EmptyFor") => `(tactic| (k_here; k_dflt (refine' ⟨_, _, _, _, rfl, rfl, ?F, ?N, ?m, ?_⟩; (case F => k_asm); (case N => k_asm); (case m => k_mem)); intro h' tk' F' N'; (try k_sweep)))
local macro_rules | `(tactic| walk_at "EmptySrc") => `(tactic| (k_here; k_dflt (refine' ⟨_, _, _, rfl, rfl, ?F, ?N, ?m, ?_⟩; (case F => k_asm); (case N => k_asm); (case m => k_mem)); intro D' h' tk' F' N' l1; (try k_lt l1); (try k_sweep)))
set_option maxHeartbeats 4000000 in
theorem pj_c {w : World} {mean : ExcName → Option Value} {mg mb : Str → Option Value} {env env1 : Env} {base h₀ : Heap} {L : Addr} {m : Str → Option Value} {s : Shared} {Q E : Value → Shared → Prop} {x1 d1 c1 r1 x2 d2 c2 r2 : Addr} {t1 u1 t2 u2 : Tok} {iv1 iv2 : List Value} {n1 k1 n2 k2 : Nat} {U : List (Addr × Obj)} (B : Below (callerA.deeper env1) base [env1] h₀) (F : Fr h₀ L s.heap m) (X : (KK w).In h₀) (T : Top topProg LSE mean mg mb h₀) (hf : env.frame = some L) (hk : env.scope.kind = .function)
    (N : News h₀ L s.heap U) (hx1 : (x1, instObj 79 d1) ∈ U) (hd1 : (d1, dictOf [⟨PyData.keyHash w.params "codes", .str "codes" t1, .ref c1⟩, ⟨PyData.keyHash w.params "runs", .str "runs" u1, .ref r1⟩] 2) ∈ U) (hc1 : (c1, listOf iv1.toArray n1) ∈ U) (hr1 : (r1, listOf #[] k1) ∈ U) (hx2 : (x2, instObj 79 d2) ∈ U) (hd2 : (d2, dictOf [⟨PyData.keyHash w.params "codes", .str "codes" t2, .ref c2⟩, ⟨PyData.keyHash w.params "runs", .str "runs" u2, .ref r2⟩] 2) ∈ U) (hc2 : (c2, listOf iv2.toArray n2) ∈ U) (hr2 : (r2, listOf #[] k2) ∈ U) (hi1 : iv1.length ≤ 900) (hi2 : iv2.length ≤ 900)
    (ret : ∀ (x d l D : Addr) (t1 t2 : Tok) (h' : Heap) (tk' : Nat), Fr h₀ L h' m → News h₀ L h' ((x, instObj 79 d) :: (d, dictOf [⟨PyData.keyHash w.params "codes", .str "codes" t1, .ref D⟩, ⟨PyData.keyHash w.params "runs", .str "runs" t2, .ref l⟩] 2) :: (l, listOf #[] 0) :: (D, listOf (iv1 ++ iv2).toArray 0) :: U) →
      (∀ p ∈ U, p.1 < x) → (∀ p ∈ U, p.1 < d) → (∀ p ∈ U, p.1 < l) → (∀ p ∈ U, p.1 < D) → Q (.ref x) { s with heap := h', toks := tk' }) :
    wpAny (model PRG w) ((callerA.deeper env1).deeper env) (call (.ref 109) [.ref x1, .ref x2]) Q E s := by
  unfold PRG
  unfold KK at X
  unfold LSE at T
  revert X
  k_fill
  intro X
  refine wpAny_call ?_
  k_dflt (refine' code_def ?k1 ?k2 ?k3 ?k4 ?k5 ?kA ?kF ?kK ?k6 ?k7 ?k8 ?k9 ?kB ?_ ?c2 ?c3 ?c4 ?c5; (case kA => exact rfl); (case kF => assumption); (case kK => assumption); (case k1 => k_asm); (case k2 => k_asm); (case k3 => k_asm); (case k4 => k_asm); (case k5 => k_asm); (case k6 => k_is); (case k7 => k_is); (case k8 => k_room); (case k9 => exact BindsTo.of_eq rfl); (case c5 => decide); (case kB => exact locs rfl); (case c2 => exact rfl); (case c3 => exact rfl); (case c4 => exact rfl); k_whole; intro g' L' h' FG' F' N' B' X' T'; (try dsimp only); (try k_fold))
  k_with_none
  k_with "binaryOp Add ref ref" => (k_here; k_dflt (refine' ls_add (by k_asm) (by k_asm) (by k_mem) (by k_mem) (by (first | assumption | decide | omega | ((simp only [List.length_append, List.length_cons, List.length_nil, List.length_drop, List.length_take]); omega))) (by (first | assumption | decide | omega | ((simp only [List.length_append, List.length_cons, List.length_nil, List.length_drop, List.length_take]); omega))) ?_); intro D' h' F' N' l1; (try k_lt l1); (try k_sweep))
  k_with "call builtin:len" => (k_here; (with_reducible show wpAny _ _ (call (Value.builtin "len") [Value.ref _]) _ _ _); k_dflt (refine' ls_len (by k_asm) (by k_mem) (by (first | assumption | decide | omega | ((simp only [List.length_append, List.length_cons, List.length_nil, List.length_drop, List.length_take]); omega))) ?_))
  k_steps
  rename Fr _ _ _ _ => kF
  rename News _ _ _ _ => kN
  exact ret _ _ _ _ _ _ _ _ kF (cb_drop kN (List.forall_mem_cons.mpr ⟨(.head _), List.forall_mem_cons.mpr ⟨(.tail _ (.head _)), List.forall_mem_cons.mpr ⟨(.tail _ (.tail _ (.head _))), List.forall_mem_cons.mpr ⟨(.tail _ (.tail _ (.tail _ (.tail _ (.tail _ (.tail _ (.head _))))))), (fun p hp => (.tail _ (.tail _ (.tail _ (.tail _ (.tail _ (.tail _ (.tail _ hp))))))))⟩⟩⟩⟩)) (lt_sub (by assumption) (by k_sub)) (lt_sub (by assumption) (by k_sub)) (lt_sub (by assumption) (by k_sub)) (lt_sub (by assumption) (by k_sub))
end
set_option maxHeartbeats 4000000 in
theorem kan_c {w : World} {mean : ExcName → Option Value} {mg mb : Str → Option Value} {env : Env} {base h₀ : Heap} {L : Addr} {m : Str → Option Value} {s : Shared} {Q E : Value → Shared → Prop} {R x P dR : Addr} {np : Nat} {most last : Int} {ta tb tc td te : Tok} {bb : Bool} {U : List (Addr × Obj)} (B : Below callerA base [] h₀) (F : Fr h₀ L s.heap m) (X : (KK w).In h₀) (T : Top topProg LSE mean mg mb h₀) (hf : env.frame = some L) (hk : env.scope.kind = .function)
    (N : News h₀ L s.heap ((dR, dictOf [⟨PyData.keyHash w.params "most", .str "most" ta, .int most tb⟩, ⟨PyData.keyHash w.params "pieces", .str "pieces" tc, .ref P⟩, ⟨PyData.keyHash w.params "pointer", .str "pointer" td, .int last te⟩] 3) :: U)) (hm : (R, instObj 126 dR) ∈ U) (hp : (P, listOf #[] np) ∈ U) (hq : ∀ p ∈ U, p.1 ≠ dR) (hm1 : 1 ≤ most)
    (ret : ∀ (P' : Addr) (np' : Nat) (te' : Tok) (h' : Heap) (tk' : Nat), Fr h₀ L h' m → News h₀ L h' ((P', listOf ([Value.ref x].take most.toNat).toArray np') :: (dR, dictOf [⟨PyData.keyHash w.params "most", .str "most" ta, .int most tb⟩, ⟨PyData.keyHash w.params "pieces", .str "pieces" tc, .ref P'⟩, ⟨PyData.keyHash w.params "pointer", .str "pointer" td, .int 0 te'⟩] 3) :: U) →
      (∀ p ∈ (dR, dictOf [⟨PyData.keyHash w.params "most", .str "most" ta, .int most tb⟩, ⟨PyData.keyHash w.params "pieces", .str "pieces" tc, .ref P⟩, ⟨PyData.keyHash w.params "pointer", .str "pointer" td, .int last te⟩] 3) :: U, p.1 < P') → Q .none { s with heap := h', toks := tk' }) :
    wpAny (model PRG w) (callerA.deeper env) (call (.ref 144) [.ref R, .ref x, .bool bb]) Q E s := by
  unfold PRG
  unfold KK at X
  unfold LSE at T
  revert X
  k_fill
  intro X
  refine wpAny_call ?_
  k_dflt (refine' code_def ?k1 ?k2 ?k3 ?k4 ?k5 ?kA ?kF ?kK ?k6 ?k7 ?k8 ?k9 ?kB ?_ ?c2 ?c3 ?c4 ?c5; (case kA => exact rfl); (case kF => assumption); (case kK => assumption); (case k1 => k_asm); (case k2 => k_asm); (case k3 => k_asm); (case k4 => k_asm); (case k5 => k_asm); (case k6 => k_is); (case k7 => k_is); (case k8 => k_room); (case k9 => exact BindsTo.of_eq rfl); (case c5 => decide); (case kB => exact locs rfl); (case c2 => exact rfl); (case c3 => exact rfl); (case c4 => exact rfl); k_whole; intro g' L' h' FG' F' N' B' X' T'; (try dsimp only); (try k_fold))
  k_with_none
  k_with "call builtin:len" => (k_here; (with_reducible show wpAny _ _ (call (Value.builtin "len") [Value.ref _]) _ _ _); k_dflt (refine' ls_len (by k_asm) (by k_mem) (by (first | assumption | decide | omega | ((simp only [List.length_append, List.length_cons, List.length_nil, List.length_drop, List.length_take]); omega))) ?_))
  k_with "call ref" => ((with_reducible show wpAny _ _ (call (.ref 137) _) _ _ _); k_dflt (refine' kn0_c (by k_asm) (by (try simp only [depth_deeper, depth_caller]); decide) (by k_asm) (by k_asm) (by k_asm) rfl rfl (by k_asm) (by k_mem) (by k_mem) (by assumption) (by simp) (by assumption) ?_); intro P9 n9 t9 h9 k9 F9 N9 y1; (try k_lt y1); (try dsimp only); (try k_fold); (try k_sweep))
  k_steps
  rename Fr _ _ _ _ => kF
  rename News _ _ _ _ => kN
  exact ret _ _ _ _ _ kF kN (lt_sub (by assumption) (by k_sub))
set_option maxHeartbeats 4000000 in
theorem kac_c {w : World} {mean : ExcName → Option Value} {mg mb : Str → Option Value} {env : Env} {base h₀ : Heap} {L : Addr} {m : Str → Option Value} {s : Shared} {Q E : Value → Shared → Prop} {R P dR : Addr} {pvs : List Value} {np : Nat} {most last : Int} {ta tb tc td te : Tok} {bb : Bool} {x1 d1 c1 r1 x2 d2 c2 r2 : Addr} {t1 u1 t2 u2 : Tok} {iv1 iv2 : List Value} {n1 k1 n2 k2 : Nat} {U : List (Addr × Obj)} (B : Below callerA base [] h₀) (F : Fr h₀ L s.heap m) (X : (KK w).In h₀) (T : Top topProg LSE mean mg mb h₀) (hf : env.frame = some L) (hk : env.scope.kind = .function)
    (N : News h₀ L s.heap ((dR, dictOf [⟨PyData.keyHash w.params "most", .str "most" ta, .int most tb⟩, ⟨PyData.keyHash w.params "pieces", .str "pieces" tc, .ref P⟩, ⟨PyData.keyHash w.params "pointer", .str "pointer" td, .int last te⟩] 3) :: (P, listOf (.ref x2 :: pvs).toArray np) :: U)) (hm : (R, instObj 126 dR) ∈ U) (hq : ∀ p ∈ U, p.1 ≠ dR) (hqP : ∀ p ∈ U, p.1 ≠ P) (hdP : @Ne Nat dR P) (hpl : pvs.length ≤ 900) (hx1 : (x1, instObj 79 d1) ∈ U) (hd1 : (d1, dictOf [⟨PyData.keyHash w.params "codes", .str "codes" t1, .ref c1⟩, ⟨PyData.keyHash w.params "runs", .str "runs" u1, .ref r1⟩] 2) ∈ U) (hc1 : (c1, listOf iv1.toArray n1) ∈ U) (hr1 : (r1, listOf #[] k1) ∈ U) (hx2 : (x2, instObj 79 d2) ∈ U) (hd2 : (d2, dictOf [⟨PyData.keyHash w.params "codes", .str "codes" t2, .ref c2⟩, ⟨PyData.keyHash w.params "runs", .str "runs" u2, .ref r2⟩] 2) ∈ U) (hc2 : (c2, listOf iv2.toArray n2) ∈ U) (hr2 : (r2, listOf #[] k2) ∈ U) (hi1 : iv1.length ≤ 900) (hi2 : iv2.length ≤ 900)
    (ret : ∀ (x d l D : Addr) (t1 t2 te' : Tok) (h' : Heap) (tk' : Nat), Fr h₀ L h' m → News h₀ L h' ((dR, dictOf [⟨PyData.keyHash w.params "most", .str "most" ta, .int most tb⟩, ⟨PyData.keyHash w.params "pieces", .str "pieces" tc, .ref P⟩, ⟨PyData.keyHash w.params "pointer", .str "pointer" td, .int 0 te'⟩] 3) :: (P, listOf (Value.ref x :: pvs).toArray np) :: (x, instObj 79 d) :: (d, dictOf [⟨PyData.keyHash w.params "codes", .str "codes" t1, .ref D⟩, ⟨PyData.keyHash w.params "runs", .str "runs" t2, .ref l⟩] 2) :: (l, listOf #[] 0) :: (D, listOf (if bb then iv1 ++ iv2 else iv2 ++ iv1).toArray 0) :: U) →
      (∀ p ∈ (dR, dictOf [⟨PyData.keyHash w.params "most", .str "most" ta, .int most tb⟩, ⟨PyData.keyHash w.params "pieces", .str "pieces" tc, .ref P⟩, ⟨PyData.keyHash w.params "pointer", .str "pointer" td, .int last te⟩] 3) :: (P, listOf (.ref x2 :: pvs).toArray np) :: U, p.1 < x) → (∀ p ∈ (dR, dictOf [⟨PyData.keyHash w.params "most", .str "most" ta, .int most tb⟩, ⟨PyData.keyHash w.params "pieces", .str "pieces" tc, .ref P⟩, ⟨PyData.keyHash w.params "pointer", .str "pointer" td, .int last te⟩] 3) :: (P, listOf (.ref x2 :: pvs).toArray np) :: U, p.1 < d) → (∀ p ∈ (dR, dictOf [⟨PyData.keyHash w.params "most", .str "most" ta, .int most tb⟩, ⟨PyData.keyHash w.params "pieces", .str "pieces" tc, .ref P⟩, ⟨PyData.keyHash w.params "pointer", .str "pointer" td, .int last te⟩] 3) :: (P, listOf (.ref x2 :: pvs).toArray np) :: U, p.1 < l) → (∀ p ∈ (dR, dictOf [⟨PyData.keyHash w.params "most", .str "most" ta, .int most tb⟩, ⟨PyData.keyHash w.params "pieces", .str "pieces" tc, .ref P⟩, ⟨PyData.keyHash w.params "pointer", .str "pointer" td, .int last te⟩] 3) :: (P, listOf (.ref x2 :: pvs).toArray np) :: U, p.1 < D) → Q .none { s with heap := h', toks := tk' }) :
    wpAny (model PRG w) (callerA.deeper env) (call (.ref 144) [.ref R, .ref x1, .bool bb]) Q E s := by
  unfold PRG
  unfold KK at X
  unfold LSE at T
  revert X
  k_fill
  intro X
  refine wpAny_call ?_
  k_dflt (refine' code_def ?k1 ?k2 ?k3 ?k4 ?k5 ?kA ?kF ?kK ?k6 ?k7 ?k8 ?k9 ?kB ?_ ?c2 ?c3 ?c4 ?c5; (case kA => exact rfl); (case kF => assumption); (case kK => assumption); (case k1 => k_asm); (case k2 => k_asm); (case k3 => k_asm); (case k4 => k_asm); (case k5 => k_asm); (case k6 => k_is); (case k7 => k_is); (case k8 => k_room); (case k9 => exact BindsTo.of_eq rfl); (case c5 => decide); (case kB => exact locs rfl); (case c2 => exact rfl); (case c3 => exact rfl); (case c4 => exact rfl); k_whole; intro g' L' h' FG' F' N' B' X' T'; (try dsimp only); (try k_fold))
  have hpos : 0 < (Value.ref x2 :: pvs).length := Nat.succ_pos _
  cases bb
  k_with_none
  k_with "call builtin:len" => (k_here; (with_reducible show wpAny _ _ (call (Value.builtin "len") [Value.ref _]) _ _ _); k_dflt (refine' ls_len (by k_asm) (by k_mem) (by (first | assumption | decide | omega | ((simp only [List.length_append, List.length_cons, List.length_nil, List.length_drop, List.length_take]); omega))) ?_))
  k_with "ite" => (k_here; k_openite; refine ite_neg (beq_no (by omega)) ?_)
  k_with "call ref" => ((with_reducible show wpAny _ _ (call (.ref 137) _) _ _ _); k_dflt (refine' knr_c (by k_asm) (by (try simp only [depth_deeper, depth_caller]); decide) (by k_asm) (by k_asm) (by k_asm) rfl rfl (cb_drop (by k_asm) (mem_pull2 [_, _, _, _])) (List.mem_append_right _ (by k_mem)) (app_all (List.forall_mem_cons.mpr ⟨by k_ne, List.forall_mem_cons.mpr ⟨by k_ne, List.forall_mem_cons.mpr ⟨by k_ne, List.forall_mem_cons.mpr ⟨by k_ne, List.forall_mem_nil _⟩⟩⟩⟩) (by assumption)) (app_all (List.forall_mem_cons.mpr ⟨by k_ne, List.forall_mem_cons.mpr ⟨by k_ne, List.forall_mem_cons.mpr ⟨by k_ne, List.forall_mem_cons.mpr ⟨by k_ne, List.forall_mem_nil _⟩⟩⟩⟩) (by assumption)) (by assumption) (by assumption) ?_); intro t9 h9 k9 F9 N9; (try dsimp only [List.cons_append, List.nil_append] at N9); (try dsimp only); (try k_fold); (try k_sweep))
  k_with "call ref" => ((with_reducible show wpAny _ _ (call (.ref 109) _) _ _ _); k_dflt (refine' pj_c (by k_asm) (by k_asm) (by k_asm) (by k_asm) rfl rfl (by k_asm) (by k_mem) (by k_mem) (by k_mem) (by k_mem) (by k_mem) (by k_mem) (by k_mem) (by k_mem) (by assumption) (by assumption) ?_); intro x9 d9 l9 D9 t9 u9 h9 k9 F9 N9 y1 y2 y3 y4; (try k_lt y1); (try k_lt y2); (try k_lt y3); (try k_lt y4); (try dsimp only); (try k_fold); (try k_sweep))
  all_goals k_steps
  · rename Fr _ _ _ _ => kF
    rename News _ _ _ _ => kN
    exact ret _ _ _ _ _ _ _ _ _ kF kN (lt_sub (by assumption) (by k_sub)) (lt_sub (by assumption) (by k_sub)) (lt_sub (by assumption) (by k_sub)) (lt_sub (by assumption) (by k_sub))
  · rename Fr _ _ _ _ => kF
    rename News _ _ _ _ => kN
    exact ret _ _ _ _ _ _ _ _ _ kF kN (lt_sub (by assumption) (by k_sub)) (lt_sub (by assumption) (by k_sub)) (lt_sub (by assumption) (by k_sub)) (lt_sub (by assumption) (by k_sub))
set_option maxHeartbeats 4000000 in
theorem ck1_c {w : World} {mean : ExcName → Option Value} {mg mb : Str → Option Value} {A₀ : Around} {env : Env} {outer : List Env} {base h₀ : Heap} {L : Addr} {m : Str → Option Value} {s : Shared} {Q E : Value → Shared → Prop} {R P dR : Addr} {pvs : List Value} {np : Nat} {most last by9 : Int} {ta tb tc td te tb9 : Tok} {css : List (List Int)} {ml U : List (Addr × Obj)} (B : Below A₀ base outer h₀) (hd : A₀.depth ≤ 500) (F : Fr h₀ L s.heap m) (X : (KK w).In h₀) (T : Top topProg LSE mean mg mb h₀) (hf : env.frame = some L) (hk : env.scope.kind = .function)
    (N : News h₀ L s.heap U) (hm : (R, instObj 126 dR) ∈ U) (hd9 : (dR, dictOf [⟨PyData.keyHash w.params "most", .str "most" ta, .int most tb⟩, ⟨PyData.keyHash w.params "pieces", .str "pieces" tc, .ref P⟩, ⟨PyData.keyHash w.params "pointer", .str "pointer" td, .int last te⟩] 3) ∈ U) (hp : (P, listOf pvs.toArray np) ∈ U) (hP : PiecesAll w.params ml pvs css) (hml : ∀ p ∈ ml, p ∈ U) (hpl : pvs.length = css.length) (hlen0 : 0 < css.length) (hlen1 : css.length ≤ 900)
    (ret : ∀ (x dx c r : Addr) (t1 t2 : Tok) (ivs : List Value) (n n2 : Nat) (cs : List Int) (h' : Heap) (tk' : Nat), css[((last + by9).fmod (css.length : Int)).toNat]? = some cs → IntsAre ivs cs → (x, instObj 79 dx) ∈ ml → (dx, dictOf [⟨PyData.keyHash w.params "codes", .str "codes" t1, .ref c⟩, ⟨PyData.keyHash w.params "runs", .str "runs" t2, .ref r⟩] 2) ∈ ml → (c, listOf ivs.toArray n) ∈ ml → (r, listOf #[] n2) ∈ ml → Fr h₀ L h' m → News h₀ L h' (U) → Q (.ref x) { s with heap := h', toks := tk' }) :
    wpAny (model PRG w) (A₀.deeper env) (call (.ref 151) [.ref R, .int by9 tb9, .bool true]) Q E s := by
  unfold PRG
  unfold KK at X
  unfold LSE at T
  revert X
  k_fill
  intro X
  refine wpAny_call ?_
  k_dflt (refine' code_def ?k1 ?k2 ?k3 ?k4 ?k5 ?kA ?kF ?kK ?k6 ?k7 ?k8 ?k9 ?kB ?_ ?c2 ?c3 ?c4 ?c5; (case kA => exact Around.frames_deeper B.stack); (case kF => assumption); (case kK => assumption); (case k1 => k_asm); (case k2 => k_asm); (case k3 => k_asm); (case k4 => k_asm); (case k5 => k_asm); (case k6 => k_is); (case k7 => k_is); (case k8 => exact Nat.lt_of_le_of_lt (Nat.succ_le_succ hd) (by decide)); (case k9 => exact BindsTo.of_eq rfl); (case c5 => decide); (case kB => exact locs rfl); (case c2 => exact rfl); (case c3 => exact rfl); (case c4 => exact rfl); k_whole; intro g' L' h' FG' F' N' B' X' T'; (try dsimp only); (try k_fold))
  k_with_none
  k_with "ite" => (k_here; k_openite; refine ite_neg (beq_no (by omega)) ?_)
  k_with "call builtin:len" => (k_here; (with_reducible show wpAny _ _ (call (Value.builtin "len") [Value.ref _]) _ _ _); k_dflt (refine' ls_lenE (by k_asm) (by k_mem) (by assumption) (by omega) ?_))
  k_with "subscriptTail" => (k_here; (with_reducible show wpAny _ _ (subscriptTail _ _ (Value.ref _) (Value.int _ _)) _ _ _); k_dflt (refine' piece_at (by k_asm) (by k_mem) hP (fun p hp => hp) (by first | omega | exact fm_lo (by omega)) (by first | omega | exact fm_hi (by omega)) (by omega) ?_ (by with_unfolding_all rfl); intro x' dx' c' r' t1' t2' iv' n' n2' cs' e' a' m1' m2' m3' m4'))
  k_with "binaryOp Mod int int" => (k_here; refine mod_int' (by omega) ?_)
  k_steps
  rename Fr _ _ _ _ => kF
  rename News _ _ _ _ => kN
  exact ret _ _ _ _ _ _ _ _ _ _ _ _ e' a' m1' m2' m3' m4' kF kN
set_option maxHeartbeats 4000000 in
theorem ck0_c {w : World} {mean : ExcName → Option Value} {mg mb : Str → Option Value} {A₀ : Around} {env : Env} {outer : List Env} {base h₀ : Heap} {L : Addr} {m : Str → Option Value} {s : Shared} {Q E : Value → Shared → Prop} {R P dR : Addr} {pvs : List Value} {np : Nat} {most last by9 : Int} {ta tb tc td te tb9 : Tok} {css : List (List Int)} {ml U : List (Addr × Obj)} (B : Below A₀ base outer h₀) (hd : A₀.depth ≤ 500) (F : Fr h₀ L s.heap m) (X : (KK w).In h₀) (T : Top topProg LSE mean mg mb h₀) (hf : env.frame = some L) (hk : env.scope.kind = .function)
    (N : News h₀ L s.heap ((dR, dictOf [⟨PyData.keyHash w.params "most", .str "most" ta, .int most tb⟩, ⟨PyData.keyHash w.params "pieces", .str "pieces" tc, .ref P⟩, ⟨PyData.keyHash w.params "pointer", .str "pointer" td, .int last te⟩] 3) :: U)) (hm : (R, instObj 126 dR) ∈ U) (hp : (P, listOf pvs.toArray np) ∈ U) (hq : ∀ p ∈ U, p.1 ≠ dR) (hP : PiecesAll w.params ml pvs css) (hml : ∀ p ∈ ml, p ∈ U) (hpl : pvs.length = css.length) (hlen0 : 0 < css.length) (hlen1 : css.length ≤ 900)
    (ret : ∀ (x dx c r : Addr) (t1 t2 : Tok) (ivs : List Value) (n n2 : Nat) (cs : List Int) (h' : Heap) (tk' : Nat) (te9 : Tok), css[((last + by9).fmod (css.length : Int)).toNat]? = some cs → IntsAre ivs cs → (x, instObj 79 dx) ∈ ml → (dx, dictOf [⟨PyData.keyHash w.params "codes", .str "codes" t1, .ref c⟩, ⟨PyData.keyHash w.params "runs", .str "runs" t2, .ref r⟩] 2) ∈ ml → (c, listOf ivs.toArray n) ∈ ml → (r, listOf #[] n2) ∈ ml → Fr h₀ L h' m → News h₀ L h' ((dR, dictOf [⟨PyData.keyHash w.params "most", .str "most" ta, .int most tb⟩, ⟨PyData.keyHash w.params "pieces", .str "pieces" tc, .ref P⟩, ⟨PyData.keyHash w.params "pointer", .str "pointer" td, .int ((last + by9).fmod (css.length : Int)) te9⟩] 3) :: U) → Q (.ref x) { s with heap := h', toks := tk' }) :
    wpAny (model PRG w) (A₀.deeper env) (call (.ref 151) [.ref R, .int by9 tb9, .bool false]) Q E s := by
  unfold PRG
  unfold KK at X
  unfold LSE at T
  revert X
  k_fill
  intro X
  refine wpAny_call ?_
  k_dflt (refine' code_def ?k1 ?k2 ?k3 ?k4 ?k5 ?kA ?kF ?kK ?k6 ?k7 ?k8 ?k9 ?kB ?_ ?c2 ?c3 ?c4 ?c5; (case kA => exact Around.frames_deeper B.stack); (case kF => assumption); (case kK => assumption); (case k1 => k_asm); (case k2 => k_asm); (case k3 => k_asm); (case k4 => k_asm); (case k5 => k_asm); (case k6 => k_is); (case k7 => k_is); (case k8 => exact Nat.lt_of_le_of_lt (Nat.succ_le_succ hd) (by decide)); (case k9 => exact BindsTo.of_eq rfl); (case c5 => decide); (case kB => exact locs rfl); (case c2 => exact rfl); (case c3 => exact rfl); (case c4 => exact rfl); k_whole; intro g' L' h' FG' F' N' B' X' T'; (try dsimp only); (try k_fold))
  k_with_none
  k_with "ite" => (k_here; k_openite; refine ite_neg (beq_no (by omega)) ?_)
  k_with "call builtin:len" => (k_here; (with_reducible show wpAny _ _ (call (Value.builtin "len") [Value.ref _]) _ _ _); k_dflt (refine' ls_lenE (by k_asm) (by k_mem) (by assumption) (by omega) ?_))
  k_with "subscriptTail" => (k_here; (with_reducible show wpAny _ _ (subscriptTail _ _ (Value.ref _) (Value.int _ _)) _ _ _); k_dflt (refine' piece_at (by k_asm) (by k_mem) hP (fun p hp => hp) (by first | omega | exact fm_lo (by omega)) (by first | omega | exact fm_hi (by omega)) (by omega) ?_ (by with_unfolding_all rfl); intro x' dx' c' r' t1' t2' iv' n' n2' cs' e' a' m1' m2' m3' m4'))
  k_with "binaryOp Mod int int" => (k_here; refine mod_int' (by omega) ?_)
  k_steps
  rename Fr _ _ _ _ => kF
  rename News _ _ _ _ => kN
  exact ret _ _ _ _ _ _ _ _ _ _ _ _ _ e' a' m1' m2' m3' m4' kF kN
set_option maxHeartbeats 16000000 in
theorem S2_0 {st0 st1 st2 : Stmt} {px : Pos} {it : Expr} {t1 t2 t3 t4 : Stmt} {fpos : Pos} {st4 : Stmt} {sc : Scope} (hl : LawIs st0 st1 st2 px it t1 t2 t3 t4 fpos st4 sc) {w : World} {mean : ExcName → Option Value} {mg mb : Str → Option Value} {fa : Addr} {h₀ : Heap} {L : Addr} {m : Str → Option Value} {s : Shared} {Q : Flow → Shared → Prop} {E : Value → Shared → Prop} (B : Below callerA h₀ [] h₀) (X : (KK w).In h₀) (TT : Top topProg LSE mean mg mb h₀) (C : CodeHd h₀ 181 179) {D R dR P O : Addr} {a b : Addr} {k : Int} {tk : Tok} {nd na nb : Nat} {vs ws : List Value} {ns cs : List Int} {most last : Int} {ta tb tc td te tlast tmost : Tok} {np no : Nat} {o1 o2 o3 : Obj} {ps : Array Value} {T tl ml : List (Addr × Obj)} {pvs ovs : List Value} {css : List (List Int)} {c : Addr} {ivs : List Value} {cods : List Int} {nc : Nat} {by9 : Int} {tw tb9 : Tok} {Bd : Nat}
    (F : Fr h₀ L s.heap (fun (y : Str) => if y = "codes" then some (.ref c) else (if y = "deck" then some (.ref D) else if y = "own" then some (.ref O) else if y = "last" then some (.int last tlast) else if y = "most" then some (.int most tmost) else m y)))
    (N : News h₀ L s.heap ((dR, dictOf [⟨PyData.keyHash w.params "most", .str "most" ta, .int most tb⟩, ⟨PyData.keyHash w.params "pieces", .str "pieces" tc, .ref P⟩, ⟨PyData.keyHash w.params "pointer", .str "pointer" td, .int last te⟩] 3) :: T)) (mc : (c, listOf ivs.toArray nc) ∈ T) (mD : (D, listOf #[.ref a, .ref b, .int k tk] nd) ∈ T) (ma : (a, listOf vs.toArray na) ∈ T) (mb : (b, listOf ws.toArray nb) ∈ T) (m1 : (L + 1, o1) ∈ T) (m2 : (L + 1 + 1, o2) ∈ T) (m3 : (L + 1 + 1 + 1, o3) ∈ T) (mt : (179, tabObj ps) ∈ T) (mR : (R, instObj 126 dR) ∈ T) (mP : (P, listOf (pvs).toArray np) ∈ T) (mO : (O, listOf (ovs).toArray no) ∈ T) (hsub : ∀ p ∈ tl, p ∈ T) (hbT : ∀ X ∈ ([L + 1, L + 1 + 1, L + 1 + 1 + 1, 179, R, D, a, b] : List Addr), ∃ o, (X, o) ∈ T)  (qd : ∀ p ∈ T, p.1 ≠ dR)
    (hv : IntsAre vs ns) (hns : ∀ n ∈ ns, 0 ≤ n) (hnl : ns.length < 2 ^ 20) (hw : IntsAre ws cs) (hcs : 0 < cs.length) (hcs2 : cs.length < 2 ^ 20) (hk0 : 0 ≤ k) (hk1 : k < 990)
    (hc1 : o1.data = .cell (some (.int by9 tb9))) (hc2 : o2.data = .cell (some (.ref R))) (hc3 : o3.data = .cell (some (.int 0 tw))) (hps : TabOk ⟨117, 25, 117, 65⟩ lamQ ps ml) (hmT : ∀ p ∈ ml, p ∈ T) (hml : ∀ p ∈ ml, p ∈ tl) (hbad : OffAll tl [L + 1, L + 1 + 1, L + 1 + 1 + 1, 179, R, dR, P, O, D, a, b])
    (hci : IntsAre ivs cods) (hcl1 : 1 ≤ cods.length) (hcl2 : cods.length ≤ 2) (hm1 : 1 ≤ most) (hm2 : most ≤ 4) (hb1 : -4 ≤ by9) (hb2 : by9 ≤ 4)
    (hP : PiecesAll w.params ml (pvs) (css)) (hO : ListsAll ml (ovs) (css)) (hpl : (pvs).length = (css).length) (hol : (ovs).length = (css).length) (hil : ivs.length ≤ 900) (hlen : ((css).length : Int) ≤ most) (hBd : ∀ z ∈ (css), z.length ≤ Bd) (hBd2 : Bd ≤ 100)
    (hl0 : 0 ≤ last) (hl2 : last < ((css).length : Int) ∨ last = 0)
    (hcA : ∀ X ∈ ([L + 1, L + 1 + 1, L + 1 + 1 + 1, 179, R, D, a, b] : List Addr), @Ne Nat X c) (hcd : @Ne Nat dR c) (hcP : @Ne Nat P c) (hcT : ∀ p ∈ tl, p.1 ≠ c)
    (hPd : @Ne Nat dR P) (hPA : ∀ X ∈ ([L + 1, L + 1 + 1, L + 1 + 1 + 1, 179, R, D, a, b] : List Addr), @Ne Nat X P) (hPT : ∀ p ∈ tl, p.1 ≠ P) (hOP : @Ne Nat O P) (hOd : @Ne Nat dR O) (hOA : ∀ X ∈ ([L + 1, L + 1 + 1, L + 1 + 1 + 1, 179, R, D, a, b] : List Addr), @Ne Nat X O) (hOT : ∀ p ∈ tl, p.1 ≠ O) 
    (ret : ∀ (m' : Str → Option Value) (h' : Heap) (tt : Nat) (P' O' : Addr) (np' no' : Nat) (pvs' ovs' : List Value) (css2 : List (List Int)) (last' : Int) (add : List (Addr × Obj)) (o1' : Obj) (ps' : Array Value) (te' tl' tk' : Tok) (vs' : List Value) (ns' : List Int) (na' : Nat) (k' : Int), Fr h₀ L h' m' → m' "own" = some (.ref O') → m' "last" = some (.int last' tl') → m' "deck" = some (.ref D) → m' "most" = some (.int most tmost) →
      News h₀ L h' ((D, listOf #[.ref a, .ref b, .int k' tk'] nd) :: (a, listOf vs'.toArray na') :: (b, listOf ws.toArray nb) :: (L + 1, o1') :: (L + 1 + 1, o2) :: (L + 1 + 1 + 1, o3) :: (179, tabObj ps') :: (R, instObj 126 dR) :: (dR, dictOf [⟨PyData.keyHash w.params "most", .str "most" ta, .int most tb⟩, ⟨PyData.keyHash w.params "pieces", .str "pieces" tc, .ref P'⟩, ⟨PyData.keyHash w.params "pointer", .str "pointer" td, .int last' te'⟩] 3) :: (P', listOf pvs'.toArray np') :: (O', listOf ovs'.toArray no') :: (add ++ tl)) →
      Good2 w.params L D a b R dR most Bd tl ml P' O' pvs' ovs' css2 last' add o1' ps' → IntsAre vs' ns' → (∀ n ∈ ns', 0 ≤ n) → ns'.length < 2 ^ 20 → 0 ≤ k' → k' ≤ k + 1 → True → Q .next { s with heap := h', toks := tt }) :
    wpAny (model PRG w) (callerA.deeper (envOfC (Str.ofString "law") sc L fa (.ref 181))) (exec t2 (envOfC (Str.ofString "law") sc L fa (.ref 181))) Q E s := by
  obtain ⟨_, _, _, _, _, _, _, _, hl⟩ := hl
  cases hl
  unfold PRG
  unfold KK at X
  unfold LSE at TT
  revert X
  k_fill
  intro X
  k_with_none
  k_with "ite" => (k_here; k_openite; refine ite_neg (beq_no (by omega)) ?_)
  k_with "call type:list" => (k_here; (with_reducible show wpAny _ _ (call (Value.type _) [Value.ref _]) _ _ _); k_dflt (refine' ls_copy (by k_asm) (by k_asm) (by k_mem) (by omega) ?_); intro D' c' h' F' N' l1; (try k_lt l1); (try k_sweep))
  k_with "subscriptTail" => (k_here; (with_reducible show wpAny _ _ (subscriptTail _ (PySem.Expr.Slice none (some _) none _) (Value.ref _) (Value.ref _)) _ _ _); k_dflt (refine' ls_upto (by k_asm) (by k_asm) (by k_mem) (by omega) (by first | assumption | decide | omega | ((simp only [List.length_append, List.length_cons, List.length_nil, List.length_drop, List.length_take]); omega)) ?_ (by with_unfolding_all rfl) (by kmk_pure)); intro D' h' F' N' l1; (try k_lt l1); (try k_sweep))
  k_with "subscriptTail Name Slice ref ref" => (k_here; (with_reducible show wpAny _ _ (subscriptTail _ (PySem.Expr.Slice none (some _) none _) (Value.ref _) (Value.ref _)) _ _ _); k_dflt (refine' ls_upto (by k_asm) (by k_asm) (by k_mem) (by omega) (by first | assumption | decide | omega | ((simp only [List.length_append, List.length_cons, List.length_nil, List.length_drop, List.length_take]); omega)) ?_ (by with_unfolding_all rfl) (by kmk_pure)); intro D' h' F' N' l1; (try k_lt l1); (try k_sweep))
  k_with "subscriptTail" => (k_here; (with_reducible show wpAny _ _ (subscriptTail _ (PySem.Expr.Slice (some _) none none _) (Value.ref _) (Value.ref _)) _ _ _); k_dflt (refine' ls_from (by k_asm) (by k_asm) (by k_mem) (by omega) (by first | assumption | decide | omega | ((simp only [List.length_append, List.length_cons, List.length_nil, List.length_drop, List.length_take]); omega)) ?_ (by with_unfolding_all rfl) (by kmk_pure)); intro D' h' F' N' l1; (try k_lt l1); (try k_sweep))
  k_with "subscriptTail Name Slice ref ref" => (k_here; (with_reducible show wpAny _ _ (subscriptTail _ (PySem.Expr.Slice (some _) none none _) (Value.ref _) (Value.ref _)) _ _ _); k_dflt (refine' ls_from (by k_asm) (by k_asm) (by k_mem) (by omega) (by first | assumption | decide | omega | ((simp only [List.length_append, List.length_cons, List.length_nil, List.length_drop, List.length_take]); omega)) ?_ (by with_unfolding_all rfl) (by kmk_pure)); intro D' h' F' N' l1; (try k_lt l1); (try k_sweep))
  k_with "binaryOp Add ref ref" => (k_here; k_dflt (refine' ls_add (by k_asm) (by k_asm) (by k_mem) (by k_mem) (by first | assumption | decide | omega | ((simp only [List.length_append, List.length_cons, List.length_nil, List.length_drop, List.length_take]); omega)) (by first | assumption | decide | omega | ((simp only [List.length_append, List.length_cons, List.length_nil, List.length_drop, List.length_take]); omega)) ?_); intro D' h' F' N' l1; (try k_lt l1); (try k_sweep))
  k_with "call builtin:len" => (k_here; (with_reducible show wpAny _ _ (call (Value.builtin "len") [Value.ref _]) _ _ _); k_dflt (refine' ls_len (by k_asm) (by k_mem) (by first | assumption | decide | omega | ((simp only [List.length_append, List.length_cons, List.length_nil, List.length_drop, List.length_take]); omega)) ?_))
  k_with "call ref" => ((with_reducible show wpAny _ _ (call (.ref 102) _) _ _ _); k_dflt (refine' pp_c (by k_asm) (by k_asm) (by k_asm) (by k_asm) rfl rfl (by k_asm) (by k_mem) (by assumption) ?_); intro x9 d9 l9 D9 c9 t9 u9 h9 k9 F9 N9 y1 y2 y3 y4; (try k_lt y1); (try k_lt y2); (try k_lt y3); (try k_lt y4); (try dsimp only); (try k_fold); (try k_sweep))
  k_with "call ref" => ((with_reducible show wpAny _ _ (call (.ref 137) _) _ _ _); k_dflt (refine' kn0_c (by k_asm) (by (try simp only [depth_deeper, depth_caller]); decide) (by k_asm) (by k_asm) (by k_asm) rfl rfl (cb_drop (by k_asm) (mem_pull [_, _, _, _])) (List.mem_append_right _ (by k_mem)) (List.mem_append_right _ (by k_mem)) (app_all (List.forall_mem_cons.mpr ⟨by k_ne, List.forall_mem_cons.mpr ⟨by k_ne, List.forall_mem_cons.mpr ⟨by k_ne, List.forall_mem_cons.mpr ⟨by k_ne, List.forall_mem_nil _⟩⟩⟩⟩) (by assumption)) (by omega) (by assumption) ?_); intro P9 n9 t9 h9 k9 F9 N9 y1; (try dsimp only [List.cons_append, List.nil_append] at y1); (try k_lt y1); (try dsimp only [List.cons_append, List.nil_append] at N9); (try dsimp only); (try k_fold); (try k_sweep))
  k_steps
  rename Fr _ _ _ _ => kF
  rename News _ _ _ _ => kN
  refine ret _ _ _ _ _ _ _ _ _ (cods :: css) 0 [_, _, _, _, _] o1 ps _ _ _ _ _ _ _ kF rfl rfl rfl rfl (cb_drop kN (List.forall_mem_cons.mpr ⟨(.tail _ (.tail _ (.tail _ (.tail _ (.tail _ (.tail _ (.tail _ (.tail _ (.tail _ (.tail _ mD)))))))))), (List.forall_mem_cons.mpr ⟨(.tail _ (.tail _ (.tail _ (.tail _ (.tail _ (.tail _ (.tail _ (.tail _ (.tail _ (.tail _ ma)))))))))), (List.forall_mem_cons.mpr ⟨(.tail _ (.tail _ (.tail _ (.tail _ (.tail _ (.tail _ (.tail _ (.tail _ (.tail _ (.tail _ mb)))))))))), (List.forall_mem_cons.mpr ⟨(.tail _ (.tail _ (.tail _ (.tail _ (.tail _ (.tail _ (.tail _ (.tail _ (.tail _ (.tail _ m1)))))))))), (List.forall_mem_cons.mpr ⟨(.tail _ (.tail _ (.tail _ (.tail _ (.tail _ (.tail _ (.tail _ (.tail _ (.tail _ (.tail _ m2)))))))))), (List.forall_mem_cons.mpr ⟨(.tail _ (.tail _ (.tail _ (.tail _ (.tail _ (.tail _ (.tail _ (.tail _ (.tail _ (.tail _ m3)))))))))), (List.forall_mem_cons.mpr ⟨(.tail _ (.tail _ (.tail _ (.tail _ (.tail _ (.tail _ (.tail _ (.tail _ (.tail _ (.tail _ mt)))))))))), (List.forall_mem_cons.mpr ⟨(.tail _ (.tail _ (.tail _ (.tail _ (.tail _ (.tail _ (.tail _ (.tail _ (.tail _ (.tail _ mR)))))))))), (List.forall_mem_cons.mpr ⟨(.tail _ (.tail _ (.tail _ (.tail _ (.tail _ (.head _)))))), (List.forall_mem_cons.mpr ⟨(.tail _ (.tail _ (.tail _ (.tail _ (.head _))))), (List.forall_mem_cons.mpr ⟨(.tail _ (.head _)), (List.forall_mem_cons.mpr ⟨(.tail _ (.tail _ (.tail _ (.tail _ (.tail _ (.tail _ (.head _))))))), (List.forall_mem_cons.mpr ⟨(.tail _ (.tail _ (.tail _ (.tail _ (.tail _ (.tail _ (.tail _ (.head _)))))))), (List.forall_mem_cons.mpr ⟨(.tail _ (.tail _ (.tail _ (.tail _ (.tail _ (.tail _ (.tail _ (.tail _ (.tail _ (.head _)))))))))), (List.forall_mem_cons.mpr ⟨(.tail _ (.tail _ (.tail _ (.tail _ (.tail _ (.tail _ (.tail _ (.tail _ (.head _))))))))), (List.forall_mem_cons.mpr ⟨(.tail _ (.tail _ (.tail _ (.tail _ (.tail _ (.tail _ (.tail _ (.tail _ (.tail _ (.tail _ mc)))))))))), (fun p hp => (.tail _ (.tail _ (.tail _ (.tail _ (.tail _ (.tail _ (.tail _ (.tail _ (.tail _ (.tail _ (hsub p hp))))))))))))⟩)⟩)⟩)⟩)⟩)⟩)⟩)⟩)⟩)⟩)⟩)⟩)⟩)⟩)⟩)⟩)) ?_ (by assumption) (by assumption) (by assumption) (by assumption) (by omega) trivial
  exact ⟨⟨_, hc1⟩, hps.mono (fun p hp => (.tail _ (.tail _ (.tail _ (.tail _ (.tail _ hp)))))), (PiecesAll.cons (.head _) (.tail _ (.head _)) (.tail _ (.tail _ (.head _))) hci (.tail _ (.tail _ (.tail _ (.head _)))) (hP.mono (fun p hp => (.tail _ (.tail _ (.tail _ (.tail _ (.tail _ hp)))))))).take _, .cons (.tail _ (.tail _ (.tail _ (.tail _ (.head _))))) hci (hO.mono (fun p hp => (.tail _ (.tail _ (.tail _ (.tail _ (.tail _ hp))))))), fun z hz => (List.mem_cons.mp hz).elim (fun e => by rw [e]; omega) (fun hz => by have := hBd z hz; omega), by simp only [List.length_cons]; omega, by decide, .inr rfl,
    off5 (bad11 (off8 (by assumption) hbT) (by k_ne) (by k_ne) (by k_ne)) (bad11 (off8 (by assumption) hbT) (by k_ne) (by k_ne) (by k_ne)) (bad11 (off8 (by assumption) hbT) (by k_ne) (by k_ne) (by k_ne)) (bad11 (off8 (by assumption) hbT) (by k_ne) (by k_ne) (by k_ne)) (bad11 hcA hcd (by k_ne) (by k_ne)),
    off5 (fun p hp => (by assumption : ∀ p ∈ T, p.1 ≠ _) p (hsub p hp)) (fun p hp => (by assumption : ∀ p ∈ T, p.1 ≠ _) p (hsub p hp)) (fun p hp => (by assumption : ∀ p ∈ T, p.1 ≠ _) p (hsub p hp)) (fun p hp => (by assumption : ∀ p ∈ T, p.1 ≠ _) p (hsub p hp)) hcT, bad10 (off8 (by assumption) hbT) (by k_ne) (by k_ne), bad9 (off8 (by assumption) hbT) (by k_ne), (fun p hp => (by assumption : ∀ p ∈ T, p.1 ≠ _) p (hsub p hp)), (fun p hp => (by assumption : ∀ p ∈ T, p.1 ≠ _) p (hsub p hp))⟩
set_option maxHeartbeats 16000000 in
theorem S2_1n {st0 st1 st2 : Stmt} {px : Pos} {it : Expr} {t1 t2 t3 t4 : Stmt} {fpos : Pos} {st4 : Stmt} {sc : Scope} (hl : LawIs st0 st1 st2 px it t1 t2 t3 t4 fpos st4 sc) {w : World} {mean : ExcName → Option Value} {mg mb : Str → Option Value} {fa : Addr} {h₀ : Heap} {L : Addr} {m : Str → Option Value} {s : Shared} {Q : Flow → Shared → Prop} {E : Value → Shared → Prop} (B : Below callerA h₀ [] h₀) (X : (KK w).In h₀) (TT : Top topProg LSE mean mg mb h₀) (C : CodeHd h₀ 181 179) {D R dR P O : Addr} {a b : Addr} {k : Int} {tk : Tok} {nd na nb : Nat} {vs ws : List Value} {ns cs : List Int} {most last : Int} {ta tb tc td te tlast tmost : Tok} {np no : Nat} {o1 o2 o3 : Obj} {ps : Array Value} {T tl ml : List (Addr × Obj)}  {c : Addr} {ivs : List Value} {cods : List Int} {nc : Nat} {by9 : Int} {tw tb9 : Tok} {Bd : Nat}
    (F : Fr h₀ L s.heap (fun (y : Str) => if y = "codes" then some (.ref c) else (if y = "deck" then some (.ref D) else if y = "own" then some (.ref O) else if y = "last" then some (.int last tlast) else if y = "most" then some (.int most tmost) else m y)))
    (N : News h₀ L s.heap ((dR, dictOf [⟨PyData.keyHash w.params "most", .str "most" ta, .int most tb⟩, ⟨PyData.keyHash w.params "pieces", .str "pieces" tc, .ref P⟩, ⟨PyData.keyHash w.params "pointer", .str "pointer" td, .int last te⟩] 3) :: T)) (mc : (c, listOf ivs.toArray nc) ∈ T) (mD : (D, listOf #[.ref a, .ref b, .int k tk] nd) ∈ T) (ma : (a, listOf vs.toArray na) ∈ T) (mb : (b, listOf ws.toArray nb) ∈ T) (m1 : (L + 1, o1) ∈ T) (m2 : (L + 1 + 1, o2) ∈ T) (m3 : (L + 1 + 1 + 1, o3) ∈ T) (mt : (179, tabObj ps) ∈ T) (mR : (R, instObj 126 dR) ∈ T) (mP : (P, listOf #[] np) ∈ T) (mO : (O, listOf #[] no) ∈ T) (hsub : ∀ p ∈ tl, p ∈ T) (hbT : ∀ X ∈ ([L + 1, L + 1 + 1, L + 1 + 1 + 1, 179, R, D, a, b] : List Addr), ∃ o, (X, o) ∈ T)  (qd : ∀ p ∈ T, p.1 ≠ dR)
    (hv : IntsAre vs ns) (hns : ∀ n ∈ ns, 0 ≤ n) (hnl : ns.length < 2 ^ 20) (hw : IntsAre ws cs) (hcs : 0 < cs.length) (hcs2 : cs.length < 2 ^ 20) (hk0 : 0 ≤ k) (hk1 : k < 990)
    (hc1 : o1.data = .cell (some (.int by9 tb9))) (hc2 : o2.data = .cell (some (.ref R))) (hc3 : o3.data = .cell (some (.int 1 tw))) (hps : TabOk ⟨117, 25, 117, 65⟩ lamQ ps ml) (hmT : ∀ p ∈ ml, p ∈ T) (hml : ∀ p ∈ ml, p ∈ tl) (hbad : OffAll tl [L + 1, L + 1 + 1, L + 1 + 1 + 1, 179, R, dR, P, O, D, a, b])
    (hci : IntsAre ivs cods) (hcl1 : 1 ≤ cods.length) (hcl2 : cods.length ≤ 2) (hm1 : 1 ≤ most) (hm2 : most ≤ 4) (hb1 : -4 ≤ by9) (hb2 : by9 ≤ 4)
    (hP : PiecesAll w.params ml (([] : List Value)) (([] : List (List Int)))) (hO : ListsAll ml (([] : List Value)) (([] : List (List Int)))) (hpl : (([] : List Value)).length = (([] : List (List Int))).length) (hol : (([] : List Value)).length = (([] : List (List Int))).length) (hil : ivs.length ≤ 900) (hlen : ((([] : List (List Int))).length : Int) ≤ most) (hBd : ∀ z ∈ (([] : List (List Int))), z.length ≤ Bd) (hBd2 : Bd ≤ 100)
    (hl0 : 0 ≤ last) (hl2 : last < ((([] : List (List Int))).length : Int) ∨ last = 0)
    (hcA : ∀ X ∈ ([L + 1, L + 1 + 1, L + 1 + 1 + 1, 179, R, D, a, b] : List Addr), @Ne Nat X c) (hcd : @Ne Nat dR c) (hcP : @Ne Nat P c) (hcT : ∀ p ∈ tl, p.1 ≠ c)
    (hPd : @Ne Nat dR P) (hPA : ∀ X ∈ ([L + 1, L + 1 + 1, L + 1 + 1 + 1, 179, R, D, a, b] : List Addr), @Ne Nat X P) (hPT : ∀ p ∈ tl, p.1 ≠ P) (hOP : @Ne Nat O P) (hOd : @Ne Nat dR O) (hOA : ∀ X ∈ ([L + 1, L + 1 + 1, L + 1 + 1 + 1, 179, R, D, a, b] : List Addr), @Ne Nat X O) (hOT : ∀ p ∈ tl, p.1 ≠ O) 
    (ret : ∀ (m' : Str → Option Value) (h' : Heap) (tt : Nat) (P' O' : Addr) (np' no' : Nat) (pvs' ovs' : List Value) (css2 : List (List Int)) (last' : Int) (add : List (Addr × Obj)) (o1' : Obj) (ps' : Array Value) (te' tl' tk' : Tok) (vs' : List Value) (ns' : List Int) (na' : Nat) (k' : Int), Fr h₀ L h' m' → m' "own" = some (.ref O') → m' "last" = some (.int last' tl') → m' "deck" = some (.ref D) → m' "most" = some (.int most tmost) →
      News h₀ L h' ((D, listOf #[.ref a, .ref b, .int k' tk'] nd) :: (a, listOf vs'.toArray na') :: (b, listOf ws.toArray nb) :: (L + 1, o1') :: (L + 1 + 1, o2) :: (L + 1 + 1 + 1, o3) :: (179, tabObj ps') :: (R, instObj 126 dR) :: (dR, dictOf [⟨PyData.keyHash w.params "most", .str "most" ta, .int most tb⟩, ⟨PyData.keyHash w.params "pieces", .str "pieces" tc, .ref P'⟩, ⟨PyData.keyHash w.params "pointer", .str "pointer" td, .int last' te'⟩] 3) :: (P', listOf pvs'.toArray np') :: (O', listOf ovs'.toArray no') :: (add ++ tl)) →
      Good2 w.params L D a b R dR most Bd tl ml P' O' pvs' ovs' css2 last' add o1' ps' → IntsAre vs' ns' → (∀ n ∈ ns', 0 ≤ n) → ns'.length < 2 ^ 20 → 0 ≤ k' → k' ≤ k + 1 → True → Q .next { s with heap := h', toks := tt }) :
    wpAny (model PRG w) (callerA.deeper (envOfC (Str.ofString "law") sc L fa (.ref 181))) (exec t2 (envOfC (Str.ofString "law") sc L fa (.ref 181))) Q E s := by
  obtain ⟨_, _, _, _, _, _, _, _, hl⟩ := hl
  cases hl
  unfold PRG
  unfold KK at X
  unfold LSE at TT
  revert X
  k_fill
  intro X
  k_with_none
  k_with "ite" => (k_here; k_openite; refine ite_neg (beq_no (by omega)) ?_)
  k_with "call type:list" => (k_here; (with_reducible show wpAny _ _ (call (Value.type _) [Value.ref _]) _ _ _); k_dflt (refine' ls_copy (by k_asm) (by k_asm) (by k_mem) (by omega) ?_); intro D' c' h' F' N' l1; (try k_lt l1); (try k_sweep))
  k_with "subscriptTail" => (k_here; (with_reducible show wpAny _ _ (subscriptTail _ (PySem.Expr.Slice none (some _) none _) (Value.ref _) (Value.ref _)) _ _ _); k_dflt (refine' ls_upto (by k_asm) (by k_asm) (by k_mem) (by omega) (by first | assumption | decide | omega | ((simp only [List.length_append, List.length_cons, List.length_nil, List.length_drop, List.length_take]); omega)) ?_ (by with_unfolding_all rfl) (by kmk_pure)); intro D' h' F' N' l1; (try k_lt l1); (try k_sweep))
  k_with "subscriptTail Name Slice ref ref" => (k_here; (with_reducible show wpAny _ _ (subscriptTail _ (PySem.Expr.Slice none (some _) none _) (Value.ref _) (Value.ref _)) _ _ _); k_dflt (refine' ls_upto (by k_asm) (by k_asm) (by k_mem) (by omega) (by first | assumption | decide | omega | ((simp only [List.length_append, List.length_cons, List.length_nil, List.length_drop, List.length_take]); omega)) ?_ (by with_unfolding_all rfl) (by kmk_pure)); intro D' h' F' N' l1; (try k_lt l1); (try k_sweep))
  k_with "subscriptTail" => (k_here; (with_reducible show wpAny _ _ (subscriptTail _ (PySem.Expr.Slice (some _) none none _) (Value.ref _) (Value.ref _)) _ _ _); k_dflt (refine' ls_from (by k_asm) (by k_asm) (by k_mem) (by omega) (by first | assumption | decide | omega | ((simp only [List.length_append, List.length_cons, List.length_nil, List.length_drop, List.length_take]); omega)) ?_ (by with_unfolding_all rfl) (by kmk_pure)); intro D' h' F' N' l1; (try k_lt l1); (try k_sweep))
  k_with "subscriptTail Name Slice ref ref" => (k_here; (with_reducible show wpAny _ _ (subscriptTail _ (PySem.Expr.Slice (some _) none none _) (Value.ref _) (Value.ref _)) _ _ _); k_dflt (refine' ls_from (by k_asm) (by k_asm) (by k_mem) (by omega) (by first | assumption | decide | omega | ((simp only [List.length_append, List.length_cons, List.length_nil, List.length_drop, List.length_take]); omega)) ?_ (by with_unfolding_all rfl) (by kmk_pure)); intro D' h' F' N' l1; (try k_lt l1); (try k_sweep))
  k_with "binaryOp Add ref ref" => (k_here; k_dflt (refine' ls_add (by k_asm) (by k_asm) (by k_mem) (by k_mem) (by first | assumption | decide | omega | ((simp only [List.length_append, List.length_cons, List.length_nil, List.length_drop, List.length_take]); omega)) (by first | assumption | decide | omega | ((simp only [List.length_append, List.length_cons, List.length_nil, List.length_drop, List.length_take]); omega)) ?_); intro D' h' F' N' l1; (try k_lt l1); (try k_sweep))
  k_with "call builtin:len" => (k_here; (with_reducible show wpAny _ _ (call (Value.builtin "len") [Value.ref _]) _ _ _); k_dflt (refine' ls_len (by k_asm) (by k_mem) (by first | assumption | decide | omega | ((simp only [List.length_append, List.length_cons, List.length_nil, List.length_drop, List.length_take]); omega)) ?_))
  k_with "call ref" => ((with_reducible show wpAny _ _ (call (.ref 102) _) _ _ _); k_dflt (refine' pp_c (by k_asm) (by k_asm) (by k_asm) (by k_asm) rfl rfl (by k_asm) (by k_mem) (by assumption) ?_); intro x9 d9 l9 D9 c9 t9 u9 h9 k9 F9 N9 y1 y2 y3 y4; (try k_lt y1); (try k_lt y2); (try k_lt y3); (try k_lt y4); (try dsimp only); (try k_fold); (try k_sweep))
  k_with "call ref" => ((with_reducible show wpAny _ _ (call (.ref 137) _) _ _ _); k_dflt (refine' kn1_c (by k_asm) (by (try simp only [depth_deeper, depth_caller]); decide) (by k_asm) (by k_asm) (by k_asm) rfl rfl (cb_drop (by k_asm) (mem_pull [_, _, _, _])) (List.mem_append_right _ (by k_mem)) (List.mem_append_right _ (by k_mem)) (app_all (List.forall_mem_cons.mpr ⟨by k_ne, List.forall_mem_cons.mpr ⟨by k_ne, List.forall_mem_cons.mpr ⟨by k_ne, List.forall_mem_cons.mpr ⟨by k_ne, List.forall_mem_nil _⟩⟩⟩⟩) (by assumption)) (by assumption) ?_); intro P9 n9 t9 h9 k9 F9 N9 y1; (try dsimp only [List.cons_append, List.nil_append] at y1); (try k_lt y1); (try dsimp only [List.cons_append, List.nil_append] at N9); (try dsimp only); (try k_fold); (try k_sweep))
  k_steps
  rename Fr _ _ _ _ => kF
  rename News _ _ _ _ => kN
  refine ret _ _ _ _ _ _ _ _ _ [cods] 0 [_, _, _, _, _] o1 ps _ _ _ _ _ _ _ kF rfl rfl rfl rfl (cb_drop kN (List.forall_mem_cons.mpr ⟨(.tail _ (.tail _ (.tail _ (.tail _ (.tail _ (.tail _ (.tail _ (.tail _ (.tail _ (.tail _ mD)))))))))), (List.forall_mem_cons.mpr ⟨(.tail _ (.tail _ (.tail _ (.tail _ (.tail _ (.tail _ (.tail _ (.tail _ (.tail _ (.tail _ ma)))))))))), (List.forall_mem_cons.mpr ⟨(.tail _ (.tail _ (.tail _ (.tail _ (.tail _ (.tail _ (.tail _ (.tail _ (.tail _ (.tail _ mb)))))))))), (List.forall_mem_cons.mpr ⟨(.tail _ (.tail _ (.tail _ (.tail _ (.tail _ (.tail _ (.tail _ (.tail _ (.tail _ (.tail _ m1)))))))))), (List.forall_mem_cons.mpr ⟨(.tail _ (.tail _ (.tail _ (.tail _ (.tail _ (.tail _ (.tail _ (.tail _ (.tail _ (.tail _ m2)))))))))), (List.forall_mem_cons.mpr ⟨(.tail _ (.tail _ (.tail _ (.tail _ (.tail _ (.tail _ (.tail _ (.tail _ (.tail _ (.tail _ m3)))))))))), (List.forall_mem_cons.mpr ⟨(.tail _ (.tail _ (.tail _ (.tail _ (.tail _ (.tail _ (.tail _ (.tail _ (.tail _ (.tail _ mt)))))))))), (List.forall_mem_cons.mpr ⟨(.tail _ (.tail _ (.tail _ (.tail _ (.tail _ (.tail _ (.tail _ (.tail _ (.tail _ (.tail _ mR)))))))))), (List.forall_mem_cons.mpr ⟨(.tail _ (.tail _ (.tail _ (.tail _ (.tail _ (.head _)))))), (List.forall_mem_cons.mpr ⟨(.tail _ (.tail _ (.tail _ (.tail _ (.head _))))), (List.forall_mem_cons.mpr ⟨(.tail _ (.head _)), (List.forall_mem_cons.mpr ⟨(.tail _ (.tail _ (.tail _ (.tail _ (.tail _ (.tail _ (.head _))))))), (List.forall_mem_cons.mpr ⟨(.tail _ (.tail _ (.tail _ (.tail _ (.tail _ (.tail _ (.tail _ (.head _)))))))), (List.forall_mem_cons.mpr ⟨(.tail _ (.tail _ (.tail _ (.tail _ (.tail _ (.tail _ (.tail _ (.tail _ (.tail _ (.head _)))))))))), (List.forall_mem_cons.mpr ⟨(.tail _ (.tail _ (.tail _ (.tail _ (.tail _ (.tail _ (.tail _ (.tail _ (.head _))))))))), (List.forall_mem_cons.mpr ⟨(.tail _ (.tail _ (.tail _ (.tail _ (.tail _ (.tail _ (.tail _ (.tail _ (.tail _ (.tail _ mc)))))))))), (fun p hp => (.tail _ (.tail _ (.tail _ (.tail _ (.tail _ (.tail _ (.tail _ (.tail _ (.tail _ (.tail _ (hsub p hp))))))))))))⟩)⟩)⟩)⟩)⟩)⟩)⟩)⟩)⟩)⟩)⟩)⟩)⟩)⟩)⟩)⟩)) ?_ (by assumption) (by assumption) (by assumption) (by assumption) (by omega) trivial
  exact ⟨⟨_, hc1⟩, hps.mono (fun p hp => (.tail _ (.tail _ (.tail _ (.tail _ (.tail _ hp)))))), (PiecesAll.cons (.head _) (.tail _ (.head _)) (.tail _ (.tail _ (.head _))) hci (.tail _ (.tail _ (.tail _ (.head _)))) .nil).take _, .cons (.tail _ (.tail _ (.tail _ (.tail _ (.head _))))) hci .nil, fun z hz => by rw [List.mem_singleton.mp hz]; omega, by simp, by decide, .inr rfl,
    off5 (bad11 (off8 (by assumption) hbT) (by k_ne) (by k_ne) (by k_ne)) (bad11 (off8 (by assumption) hbT) (by k_ne) (by k_ne) (by k_ne)) (bad11 (off8 (by assumption) hbT) (by k_ne) (by k_ne) (by k_ne)) (bad11 (off8 (by assumption) hbT) (by k_ne) (by k_ne) (by k_ne)) (bad11 hcA hcd (by k_ne) (by k_ne)),
    off5 (fun p hp => (by assumption : ∀ p ∈ T, p.1 ≠ _) p (hsub p hp)) (fun p hp => (by assumption : ∀ p ∈ T, p.1 ≠ _) p (hsub p hp)) (fun p hp => (by assumption : ∀ p ∈ T, p.1 ≠ _) p (hsub p hp)) (fun p hp => (by assumption : ∀ p ∈ T, p.1 ≠ _) p (hsub p hp)) hcT, bad10 (off8 (by assumption) hbT) (by k_ne) (by k_ne), bad9 (off8 (by assumption) hbT) (by k_ne), (fun p hp => (by assumption : ∀ p ∈ T, p.1 ≠ _) p (hsub p hp)), (fun p hp => (by assumption : ∀ p ∈ T, p.1 ≠ _) p (hsub p hp))⟩
set_option maxHeartbeats 16000000 in
theorem S2_1c {st0 st1 st2 : Stmt} {px : Pos} {it : Expr} {t1 t2 t3 t4 : Stmt} {fpos : Pos} {st4 : Stmt} {sc : Scope} (hl : LawIs st0 st1 st2 px it t1 t2 t3 t4 fpos st4 sc) {w : World} {mean : ExcName → Option Value} {mg mb : Str → Option Value} {fa : Addr} {h₀ : Heap} {L : Addr} {m : Str → Option Value} {s : Shared} {Q : Flow → Shared → Prop} {E : Value → Shared → Prop} (B : Below callerA h₀ [] h₀) (X : (KK w).In h₀) (TT : Top topProg LSE mean mg mb h₀) (C : CodeHd h₀ 181 179) {D R dR P O : Addr} {a b : Addr} {k : Int} {tk : Tok} {nd na nb : Nat} {vs ws : List Value} {ns cs : List Int} {most last : Int} {ta tb tc td te tlast tmost : Tok} {np no : Nat} {o1 o2 o3 : Obj} {ps : Array Value} {T tl ml : List (Addr × Obj)} {p0 v0 : Value} {pvs ovs : List Value} {g0 : List Int} {css : List (List Int)} {c : Addr} {ivs : List Value} {cods : List Int} {nc : Nat} {by9 : Int} {tw tb9 : Tok} {Bd : Nat}
    (F : Fr h₀ L s.heap (fun (y : Str) => if y = "codes" then some (.ref c) else (if y = "deck" then some (.ref D) else if y = "own" then some (.ref O) else if y = "last" then some (.int last tlast) else if y = "most" then some (.int most tmost) else m y)))
    (N : News h₀ L s.heap ((dR, dictOf [⟨PyData.keyHash w.params "most", .str "most" ta, .int most tb⟩, ⟨PyData.keyHash w.params "pieces", .str "pieces" tc, .ref P⟩, ⟨PyData.keyHash w.params "pointer", .str "pointer" td, .int last te⟩] 3) :: (P, listOf (p0 :: pvs).toArray np) :: T)) (mc : (c, listOf ivs.toArray nc) ∈ T) (mD : (D, listOf #[.ref a, .ref b, .int k tk] nd) ∈ T) (ma : (a, listOf vs.toArray na) ∈ T) (mb : (b, listOf ws.toArray nb) ∈ T) (m1 : (L + 1, o1) ∈ T) (m2 : (L + 1 + 1, o2) ∈ T) (m3 : (L + 1 + 1 + 1, o3) ∈ T) (mt : (179, tabObj ps) ∈ T) (mR : (R, instObj 126 dR) ∈ T) (mO : (O, listOf (v0 :: ovs).toArray no) ∈ T) (hsub : ∀ p ∈ tl, p ∈ T) (hbT : ∀ X ∈ ([L + 1, L + 1 + 1, L + 1 + 1 + 1, 179, R, D, a, b] : List Addr), ∃ o, (X, o) ∈ T) (ndP : @Ne Nat dR P) (qd : ∀ p ∈ T, p.1 ≠ dR) (qP : ∀ p ∈ T, p.1 ≠ P)
    (hv : IntsAre vs ns) (hns : ∀ n ∈ ns, 0 ≤ n) (hnl : ns.length < 2 ^ 20) (hw : IntsAre ws cs) (hcs : 0 < cs.length) (hcs2 : cs.length < 2 ^ 20) (hk0 : 0 ≤ k) (hk1 : k < 990)
    (hc1 : o1.data = .cell (some (.int by9 tb9))) (hc2 : o2.data = .cell (some (.ref R))) (hc3 : o3.data = .cell (some (.int 1 tw))) (hps : TabOk ⟨117, 25, 117, 65⟩ lamQ ps ml) (hmT : ∀ p ∈ ml, p ∈ T) (hml : ∀ p ∈ ml, p ∈ tl) (hbad : OffAll tl [L + 1, L + 1 + 1, L + 1 + 1 + 1, 179, R, dR, P, O, D, a, b])
    (hci : IntsAre ivs cods) (hcl1 : 1 ≤ cods.length) (hcl2 : cods.length ≤ 2) (hm1 : 1 ≤ most) (hm2 : most ≤ 4) (hb1 : -4 ≤ by9) (hb2 : by9 ≤ 4)
    (hP : PiecesAll w.params ml (p0 :: pvs) (g0 :: css)) (hO : ListsAll ml (v0 :: ovs) (g0 :: css)) (hpl : (p0 :: pvs).length = (g0 :: css).length) (hol : (v0 :: ovs).length = (g0 :: css).length) (hil : ivs.length ≤ 900) (hlen : ((g0 :: css).length : Int) ≤ most) (hBd : ∀ z ∈ (g0 :: css), z.length ≤ Bd) (hBd2 : Bd ≤ 100)
    (hl0 : 0 ≤ last) (hl2 : last < ((g0 :: css).length : Int) ∨ last = 0)
    (hcA : ∀ X ∈ ([L + 1, L + 1 + 1, L + 1 + 1 + 1, 179, R, D, a, b] : List Addr), @Ne Nat X c) (hcd : @Ne Nat dR c) (hcP : @Ne Nat P c) (hcT : ∀ p ∈ tl, p.1 ≠ c)
    (hPd : @Ne Nat dR P) (hPA : ∀ X ∈ ([L + 1, L + 1 + 1, L + 1 + 1 + 1, 179, R, D, a, b] : List Addr), @Ne Nat X P) (hPT : ∀ p ∈ tl, p.1 ≠ P) (hOP : @Ne Nat O P) (hOd : @Ne Nat dR O) (hOA : ∀ X ∈ ([L + 1, L + 1 + 1, L + 1 + 1 + 1, 179, R, D, a, b] : List Addr), @Ne Nat X O) (hOT : ∀ p ∈ tl, p.1 ≠ O) (hlen0 : 0 < (g0 :: css).length) (hol1 : ovs.length ≤ 900) (hpl1 : pvs.length ≤ 900)
    (ret : ∀ (m' : Str → Option Value) (h' : Heap) (tt : Nat) (P' O' : Addr) (np' no' : Nat) (pvs' ovs' : List Value) (css2 : List (List Int)) (last' : Int) (add : List (Addr × Obj)) (o1' : Obj) (ps' : Array Value) (te' tl' tk' : Tok) (vs' : List Value) (ns' : List Int) (na' : Nat) (k' : Int), Fr h₀ L h' m' → m' "own" = some (.ref O') → m' "last" = some (.int last' tl') → m' "deck" = some (.ref D) → m' "most" = some (.int most tmost) →
      News h₀ L h' ((D, listOf #[.ref a, .ref b, .int k' tk'] nd) :: (a, listOf vs'.toArray na') :: (b, listOf ws.toArray nb) :: (L + 1, o1') :: (L + 1 + 1, o2) :: (L + 1 + 1 + 1, o3) :: (179, tabObj ps') :: (R, instObj 126 dR) :: (dR, dictOf [⟨PyData.keyHash w.params "most", .str "most" ta, .int most tb⟩, ⟨PyData.keyHash w.params "pieces", .str "pieces" tc, .ref P'⟩, ⟨PyData.keyHash w.params "pointer", .str "pointer" td, .int last' te'⟩] 3) :: (P', listOf pvs'.toArray np') :: (O', listOf ovs'.toArray no') :: (add ++ tl)) →
      Good2 w.params L D a b R dR most Bd tl ml P' O' pvs' ovs' css2 last' add o1' ps' → IntsAre vs' ns' → (∀ n ∈ ns', 0 ≤ n) → ns'.length < 2 ^ 20 → 0 ≤ k' → k' ≤ k + 1 → True → Q .next { s with heap := h', toks := tt }) :
    wpAny (model PRG w) (callerA.deeper (envOfC (Str.ofString "law") sc L fa (.ref 181))) (exec t2 (envOfC (Str.ofString "law") sc L fa (.ref 181))) Q E s := by
  obtain ⟨_, _, _, _, _, _, _, _, hl⟩ := hl
  cases hl
  unfold PRG
  unfold KK at X
  unfold LSE at TT
  revert X
  k_fill
  intro X
  k_with_none
  k_with "ite" => (k_here; k_openite; refine ite_neg (beq_no (by omega)) ?_)
  k_with "call type:list" => (k_here; (with_reducible show wpAny _ _ (call (Value.type _) [Value.ref _]) _ _ _); k_dflt (refine' ls_copy (by k_asm) (by k_asm) (by k_mem) (by omega) ?_); intro D' c' h' F' N' l1; (try k_lt l1); (try k_sweep))
  k_with "subscriptTail" => (k_here; (with_reducible show wpAny _ _ (subscriptTail _ (PySem.Expr.Slice none (some _) none _) (Value.ref _) (Value.ref _)) _ _ _); k_dflt (refine' ls_upto (by k_asm) (by k_asm) (by k_mem) (by omega) (by first | assumption | decide | omega | ((simp only [List.length_append, List.length_cons, List.length_nil, List.length_drop, List.length_take]); omega)) ?_ (by with_unfolding_all rfl) (by kmk_pure)); intro D' h' F' N' l1; (try k_lt l1); (try k_sweep))
  k_with "subscriptTail Name Slice ref ref" => (k_here; (with_reducible show wpAny _ _ (subscriptTail _ (PySem.Expr.Slice none (some _) none _) (Value.ref _) (Value.ref _)) _ _ _); k_dflt (refine' ls_upto (by k_asm) (by k_asm) (by k_mem) (by omega) (by first | assumption | decide | omega | ((simp only [List.length_append, List.length_cons, List.length_nil, List.length_drop, List.length_take]); omega)) ?_ (by with_unfolding_all rfl) (by kmk_pure)); intro D' h' F' N' l1; (try k_lt l1); (try k_sweep))
  k_with "subscriptTail" => (k_here; (with_reducible show wpAny _ _ (subscriptTail _ (PySem.Expr.Slice (some _) none none _) (Value.ref _) (Value.ref _)) _ _ _); k_dflt (refine' ls_from (by k_asm) (by k_asm) (by k_mem) (by omega) (by first | assumption | decide | omega | ((simp only [List.length_append, List.length_cons, List.length_nil, List.length_drop, List.length_take]); omega)) ?_ (by with_unfolding_all rfl) (by kmk_pure)); intro D' h' F' N' l1; (try k_lt l1); (try k_sweep))
  k_with "subscriptTail Name Slice ref ref" => (k_here; (with_reducible show wpAny _ _ (subscriptTail _ (PySem.Expr.Slice (some _) none none _) (Value.ref _) (Value.ref _)) _ _ _); k_dflt (refine' ls_from (by k_asm) (by k_asm) (by k_mem) (by omega) (by first | assumption | decide | omega | ((simp only [List.length_append, List.length_cons, List.length_nil, List.length_drop, List.length_take]); omega)) ?_ (by with_unfolding_all rfl) (by kmk_pure)); intro D' h' F' N' l1; (try k_lt l1); (try k_sweep))
  k_with "binaryOp Add ref ref" => (k_here; k_dflt (refine' ls_add (by k_asm) (by k_asm) (by k_mem) (by k_mem) (by first | assumption | decide | omega | ((simp only [List.length_append, List.length_cons, List.length_nil, List.length_drop, List.length_take]); omega)) (by first | assumption | decide | omega | ((simp only [List.length_append, List.length_cons, List.length_nil, List.length_drop, List.length_take]); omega)) ?_); intro D' h' F' N' l1; (try k_lt l1); (try k_sweep))
  k_with "call builtin:len" => (k_here; (with_reducible show wpAny _ _ (call (Value.builtin "len") [Value.ref _]) _ _ _); k_dflt (refine' ls_len (by k_asm) (by k_mem) (by first | assumption | decide | omega | ((simp only [List.length_append, List.length_cons, List.length_nil, List.length_drop, List.length_take]); omega)) ?_))
  k_with "call builtin:len" => (k_here; (with_reducible show wpAny _ _ (call (Value.builtin "len") [Value.ref _]) _ _ _); k_dflt (refine' ls_lenE (by k_asm) (by k_mem) (by assumption) (by omega) ?_))
  k_with "subscriptTail" => (k_here; (with_reducible show wpAny _ _ (subscriptTail _ _ (Value.ref _) (Value.int _ _)) _ _ _); k_dflt (first | (refine' own_at (by k_asm) (by k_mem) (by assumption) (by assumption) (by first | omega | exact fm_lo (by omega)) (by first | omega | exact fm_hi (by omega)) (by omega) ?_ (by with_unfolding_all rfl); intro o1' iv1' n1' cs1' e1' a1' m1') | (refine' piece_at (by k_asm) (by k_mem) (by assumption) (by assumption) (by first | omega | exact fm_lo (by omega)) (by first | omega | exact fm_hi (by omega)) (by omega) ?_ (by with_unfolding_all rfl); intro x' dx' c' r' t1' t2' iv' n' n2' cs' e' a' m1' m2' m3' m4')))
  k_with "binaryOp Mod int int" => (k_here; refine mod_int' (by omega) ?_)
  k_with "call ref" => ((with_reducible show wpAny _ _ (call (.ref 102) _) _ _ _); k_dflt (refine' pp_c (by k_asm) (by k_asm) (by k_asm) (by k_asm) rfl rfl (by k_asm) (by k_mem) (by assumption) ?_); intro x9 d9 l9 D9 c9 t9 u9 h9 k9 F9 N9 y1 y2 y3 y4; (try k_lt y1); (try k_lt y2); (try k_lt y3); (try k_lt y4); (try dsimp only); (try k_fold); (try k_sweep))
  k_with "call ref" => ((with_reducible show wpAny _ _ (call (.ref 137) _) _ _ _); k_dflt (refine' knr_c (by k_asm) (by (try simp only [depth_deeper, depth_caller]); decide) (by k_asm) (by k_asm) (by k_asm) rfl rfl (cb_drop (by k_asm) (mem_pull2 [_, _, _, _])) (List.mem_append_right _ (by k_mem)) (app_all (List.forall_mem_cons.mpr ⟨by k_ne, List.forall_mem_cons.mpr ⟨by k_ne, List.forall_mem_cons.mpr ⟨by k_ne, List.forall_mem_cons.mpr ⟨by k_ne, List.forall_mem_nil _⟩⟩⟩⟩) (by assumption)) (app_all (List.forall_mem_cons.mpr ⟨by k_ne, List.forall_mem_cons.mpr ⟨by k_ne, List.forall_mem_cons.mpr ⟨by k_ne, List.forall_mem_cons.mpr ⟨by k_ne, List.forall_mem_nil _⟩⟩⟩⟩) (by assumption)) (by assumption) (by assumption) ?_); intro t9 h9 k9 F9 N9; (try dsimp only [List.cons_append, List.nil_append] at N9); (try dsimp only); (try k_fold); (try k_sweep))
  k_steps
  rename Fr _ _ _ _ => kF
  rename News _ _ _ _ => kN
  refine ret _ _ _ _ _ _ _ _ _ (cods :: css) 0 [_, _, _, _, _] o1 ps _ _ _ _ _ _ _ kF rfl rfl rfl rfl (cb_drop kN (List.forall_mem_cons.mpr ⟨(.tail _ (.tail _ (.tail _ (.tail _ (.tail _ (.tail _ (.tail _ (.tail _ (.tail _ (.tail _ mD)))))))))), (List.forall_mem_cons.mpr ⟨(.tail _ (.tail _ (.tail _ (.tail _ (.tail _ (.tail _ (.tail _ (.tail _ (.tail _ (.tail _ ma)))))))))), (List.forall_mem_cons.mpr ⟨(.tail _ (.tail _ (.tail _ (.tail _ (.tail _ (.tail _ (.tail _ (.tail _ (.tail _ (.tail _ mb)))))))))), (List.forall_mem_cons.mpr ⟨(.tail _ (.tail _ (.tail _ (.tail _ (.tail _ (.tail _ (.tail _ (.tail _ (.tail _ (.tail _ m1)))))))))), (List.forall_mem_cons.mpr ⟨(.tail _ (.tail _ (.tail _ (.tail _ (.tail _ (.tail _ (.tail _ (.tail _ (.tail _ (.tail _ m2)))))))))), (List.forall_mem_cons.mpr ⟨(.tail _ (.tail _ (.tail _ (.tail _ (.tail _ (.tail _ (.tail _ (.tail _ (.tail _ (.tail _ m3)))))))))), (List.forall_mem_cons.mpr ⟨(.tail _ (.tail _ (.tail _ (.tail _ (.tail _ (.tail _ (.tail _ (.tail _ (.tail _ (.tail _ mt)))))))))), (List.forall_mem_cons.mpr ⟨(.tail _ (.tail _ (.tail _ (.tail _ (.tail _ (.tail _ (.tail _ (.tail _ (.tail _ (.tail _ mR)))))))))), (List.forall_mem_cons.mpr ⟨(.tail _ (.tail _ (.tail _ (.tail _ (.head _))))), (List.forall_mem_cons.mpr ⟨(.tail _ (.tail _ (.tail _ (.tail _ (.tail _ (.head _)))))), (List.forall_mem_cons.mpr ⟨(.tail _ (.head _)), (List.forall_mem_cons.mpr ⟨(.tail _ (.tail _ (.tail _ (.tail _ (.tail _ (.tail _ (.head _))))))), (List.forall_mem_cons.mpr ⟨(.tail _ (.tail _ (.tail _ (.tail _ (.tail _ (.tail _ (.tail _ (.head _)))))))), (List.forall_mem_cons.mpr ⟨(.tail _ (.tail _ (.tail _ (.tail _ (.tail _ (.tail _ (.tail _ (.tail _ (.tail _ (.head _)))))))))), (List.forall_mem_cons.mpr ⟨(.tail _ (.tail _ (.tail _ (.tail _ (.tail _ (.tail _ (.tail _ (.tail _ (.head _))))))))), (List.forall_mem_cons.mpr ⟨(.tail _ (.tail _ (.tail _ (.tail _ (.tail _ (.tail _ (.tail _ (.tail _ (.tail _ (.tail _ mc)))))))))), (fun p hp => (.tail _ (.tail _ (.tail _ (.tail _ (.tail _ (.tail _ (.tail _ (.tail _ (.tail _ (.tail _ (hsub p hp))))))))))))⟩)⟩)⟩)⟩)⟩)⟩)⟩)⟩)⟩)⟩)⟩)⟩)⟩)⟩)⟩)⟩)) ?_ (by assumption) (by assumption) (by assumption) (by assumption) (by omega) trivial
  exact ⟨⟨_, hc1⟩, hps.mono (fun p hp => (.tail _ (.tail _ (.tail _ (.tail _ (.tail _ hp)))))), (take_all (css := cods :: css) hlen).symm ▸ PiecesAll.cons (.head _) (.tail _ (.head _)) (.tail _ (.tail _ (.head _))) hci (.tail _ (.tail _ (.tail _ (.head _)))) ((pieces_tail hP).mono (fun p hp => (.tail _ (.tail _ (.tail _ (.tail _ (.tail _ hp))))))), .cons (.tail _ (.tail _ (.tail _ (.tail _ (.head _))))) hci ((lists_tail hO).mono (fun p hp => (.tail _ (.tail _ (.tail _ (.tail _ (.tail _ hp))))))),
    fun z hz => (List.mem_cons.mp hz).elim (fun e => by rw [e]; omega) (fun hz => by have := hBd z (.tail _ hz); omega), by simp only [List.length_cons] at hlen ⊢; omega, by decide, .inr rfl,
    off5 (bad11 (off8 (by assumption) hbT) (by k_ne) (by k_ne) (by k_ne)) (bad11 (off8 (by assumption) hbT) (by k_ne) (by k_ne) (by k_ne)) (bad11 (off8 (by assumption) hbT) (by k_ne) (by k_ne) (by k_ne)) (bad11 (off8 (by assumption) hbT) (by k_ne) (by k_ne) (by k_ne)) (bad11 hcA hcd hcP (by k_ne)),
    off5 (fun p hp => (by assumption : ∀ p ∈ T, p.1 ≠ _) p (hsub p hp)) (fun p hp => (by assumption : ∀ p ∈ T, p.1 ≠ _) p (hsub p hp)) (fun p hp => (by assumption : ∀ p ∈ T, p.1 ≠ _) p (hsub p hp)) (fun p hp => (by assumption : ∀ p ∈ T, p.1 ≠ _) p (hsub p hp)) hcT, bad10 hPA hPd (by k_ne), bad9 (off8 (by assumption) hbT) (by k_ne), hPT, (fun p hp => (by assumption : ∀ p ∈ T, p.1 ≠ _) p (hsub p hp))⟩
set_option maxHeartbeats 16000000 in
theorem S2_2n {st0 st1 st2 : Stmt} {px : Pos} {it : Expr} {t1 t2 t3 t4 : Stmt} {fpos : Pos} {st4 : Stmt} {sc : Scope} (hl : LawIs st0 st1 st2 px it t1 t2 t3 t4 fpos st4 sc) {w : World} {mean : ExcName → Option Value} {mg mb : Str → Option Value} {fa : Addr} {h₀ : Heap} {L : Addr} {m : Str → Option Value} {s : Shared} {Q : Flow → Shared → Prop} {E : Value → Shared → Prop} (B : Below callerA h₀ [] h₀) (X : (KK w).In h₀) (TT : Top topProg LSE mean mg mb h₀) (C : CodeHd h₀ 181 179) {D R dR P O : Addr} {a b : Addr} {k : Int} {tk : Tok} {nd na nb : Nat} {vs ws : List Value} {ns cs : List Int} {most last : Int} {ta tb tc td te tlast tmost : Tok} {np no : Nat} {o1 o2 o3 : Obj} {ps : Array Value} {T tl ml : List (Addr × Obj)}  {c : Addr} {ivs : List Value} {cods : List Int} {nc : Nat} {by9 : Int} {tw tb9 : Tok} {Bd : Nat}
    (F : Fr h₀ L s.heap (fun (y : Str) => if y = "codes" then some (.ref c) else (if y = "deck" then some (.ref D) else if y = "own" then some (.ref O) else if y = "last" then some (.int last tlast) else if y = "most" then some (.int most tmost) else m y)))
    (N : News h₀ L s.heap ((D, listOf #[.ref a, .ref b, .int k tk] nd) :: (a, listOf vs.toArray na) :: (dR, dictOf [⟨PyData.keyHash w.params "most", .str "most" ta, .int most tb⟩, ⟨PyData.keyHash w.params "pieces", .str "pieces" tc, .ref P⟩, ⟨PyData.keyHash w.params "pointer", .str "pointer" td, .int last te⟩] 3) :: T)) (mc : (c, listOf ivs.toArray nc) ∈ T) (mb : (b, listOf ws.toArray nb) ∈ T) (m1 : (L + 1, o1) ∈ T) (m2 : (L + 1 + 1, o2) ∈ T) (m3 : (L + 1 + 1 + 1, o3) ∈ T) (mt : (179, tabObj ps) ∈ T) (mR : (R, instObj 126 dR) ∈ T) (mP : (P, listOf #[] np) ∈ T) (mO : (O, listOf #[] no) ∈ T) (hsub : ∀ p ∈ tl, p ∈ T) (hbT : ∀ X ∈ ([L + 1, L + 1 + 1, L + 1 + 1 + 1, 179, R, b] : List Addr), ∃ o, (X, o) ∈ T) (nDa : @Ne Nat D a) (nDd : @Ne Nat D dR) (nad : @Ne Nat a dR) (qD : ∀ p ∈ T, p.1 ≠ D) (qa : ∀ p ∈ T, p.1 ≠ a) (qd : ∀ p ∈ T, p.1 ≠ dR)
    (hv : IntsAre vs ns) (hns : ∀ n ∈ ns, 0 ≤ n) (hnl : ns.length < 2 ^ 20) (hw : IntsAre ws cs) (hcs : 0 < cs.length) (hcs2 : cs.length < 2 ^ 20) (hk0 : 0 ≤ k) (hk1 : k < 990)
    (hc1 : o1.data = .cell (some (.int by9 tb9))) (hc2 : o2.data = .cell (some (.ref R))) (hc3 : o3.data = .cell (some (.int 2 tw))) (hps : TabOk ⟨117, 25, 117, 65⟩ lamQ ps ml) (hmT : ∀ p ∈ ml, p ∈ T) (hml : ∀ p ∈ ml, p ∈ tl) (hbad : OffAll tl [L + 1, L + 1 + 1, L + 1 + 1 + 1, 179, R, dR, P, O, D, a, b])
    (hci : IntsAre ivs cods) (hcl1 : 1 ≤ cods.length) (hcl2 : cods.length ≤ 2) (hm1 : 1 ≤ most) (hm2 : most ≤ 4) (hb1 : -4 ≤ by9) (hb2 : by9 ≤ 4)
    (hP : PiecesAll w.params ml (([] : List Value)) (([] : List (List Int)))) (hO : ListsAll ml (([] : List Value)) (([] : List (List Int)))) (hpl : (([] : List Value)).length = (([] : List (List Int))).length) (hol : (([] : List Value)).length = (([] : List (List Int))).length) (hil : ivs.length ≤ 900) (hlen : ((([] : List (List Int))).length : Int) ≤ most) (hBd : ∀ z ∈ (([] : List (List Int))), z.length ≤ Bd) (hBd2 : Bd ≤ 100)
    (hl0 : 0 ≤ last) (hl2 : last < ((([] : List (List Int))).length : Int) ∨ last = 0)
    (hcA : ∀ X ∈ ([L + 1, L + 1 + 1, L + 1 + 1 + 1, 179, R, D, a, b] : List Addr), @Ne Nat X c) (hcd : @Ne Nat dR c) (hcP : @Ne Nat P c) (hcT : ∀ p ∈ tl, p.1 ≠ c)
    (hPd : @Ne Nat dR P) (hPA : ∀ X ∈ ([L + 1, L + 1 + 1, L + 1 + 1 + 1, 179, R, D, a, b] : List Addr), @Ne Nat X P) (hPT : ∀ p ∈ tl, p.1 ≠ P) (hOP : @Ne Nat O P) (hOd : @Ne Nat dR O) (hOA : ∀ X ∈ ([L + 1, L + 1 + 1, L + 1 + 1 + 1, 179, R, D, a, b] : List Addr), @Ne Nat X O) (hOT : ∀ p ∈ tl, p.1 ≠ O) 
    (ret : ∀ (m' : Str → Option Value) (h' : Heap) (tt : Nat) (P' O' : Addr) (np' no' : Nat) (pvs' ovs' : List Value) (css2 : List (List Int)) (last' : Int) (add : List (Addr × Obj)) (o1' : Obj) (ps' : Array Value) (te' tl' tk' : Tok) (vs' : List Value) (ns' : List Int) (na' : Nat) (k' : Int), Fr h₀ L h' m' → m' "own" = some (.ref O') → m' "last" = some (.int last' tl') → m' "deck" = some (.ref D) → m' "most" = some (.int most tmost) →
      News h₀ L h' ((D, listOf #[.ref a, .ref b, .int k' tk'] nd) :: (a, listOf vs'.toArray na') :: (b, listOf ws.toArray nb) :: (L + 1, o1') :: (L + 1 + 1, o2) :: (L + 1 + 1 + 1, o3) :: (179, tabObj ps') :: (R, instObj 126 dR) :: (dR, dictOf [⟨PyData.keyHash w.params "most", .str "most" ta, .int most tb⟩, ⟨PyData.keyHash w.params "pieces", .str "pieces" tc, .ref P'⟩, ⟨PyData.keyHash w.params "pointer", .str "pointer" td, .int last' te'⟩] 3) :: (P', listOf pvs'.toArray np') :: (O', listOf ovs'.toArray no') :: (add ++ tl)) →
      Good2 w.params L D a b R dR most Bd tl ml P' O' pvs' ovs' css2 last' add o1' ps' → IntsAre vs' ns' → (∀ n ∈ ns', 0 ≤ n) → ns'.length < 2 ^ 20 → 0 ≤ k' → k' ≤ k + 1 → True → Q .next { s with heap := h', toks := tt }) :
    wpAny (model PRG w) (callerA.deeper (envOfC (Str.ofString "law") sc L fa (.ref 181))) (exec t2 (envOfC (Str.ofString "law") sc L fa (.ref 181))) Q E s := by
  obtain ⟨_, _, _, _, _, _, _, _, hl⟩ := hl
  cases hl
  unfold PRG
  unfold KK at X
  unfold LSE at TT
  revert X
  k_fill
  intro X
  k_with_none
  k_with "ite" => (k_here; k_openite; refine ite_neg (beq_no (by omega)) ?_)
  k_with "call type:list" => (k_here; (with_reducible show wpAny _ _ (call (Value.type _) [Value.ref _]) _ _ _); k_dflt (refine' ls_copy (by k_asm) (by k_asm) (by k_mem) (by omega) ?_); intro D' c' h' F' N' l1; (try k_lt l1); (try k_sweep))
  k_with "subscriptTail" => (k_here; (with_reducible show wpAny _ _ (subscriptTail _ (PySem.Expr.Slice none (some _) none _) (Value.ref _) (Value.ref _)) _ _ _); k_dflt (refine' ls_upto (by k_asm) (by k_asm) (by k_mem) (by omega) (by first | assumption | decide | omega | ((simp only [List.length_append, List.length_cons, List.length_nil, List.length_drop, List.length_take]); omega)) ?_ (by with_unfolding_all rfl) (by kmk_pure)); intro D' h' F' N' l1; (try k_lt l1); (try k_sweep))
  k_with "subscriptTail Name Slice ref ref" => (k_here; (with_reducible show wpAny _ _ (subscriptTail _ (PySem.Expr.Slice none (some _) none _) (Value.ref _) (Value.ref _)) _ _ _); k_dflt (refine' ls_upto (by k_asm) (by k_asm) (by k_mem) (by omega) (by first | assumption | decide | omega | ((simp only [List.length_append, List.length_cons, List.length_nil, List.length_drop, List.length_take]); omega)) ?_ (by with_unfolding_all rfl) (by kmk_pure)); intro D' h' F' N' l1; (try k_lt l1); (try k_sweep))
  k_with "subscriptTail" => (k_here; (with_reducible show wpAny _ _ (subscriptTail _ (PySem.Expr.Slice (some _) none none _) (Value.ref _) (Value.ref _)) _ _ _); k_dflt (refine' ls_from (by k_asm) (by k_asm) (by k_mem) (by omega) (by first | assumption | decide | omega | ((simp only [List.length_append, List.length_cons, List.length_nil, List.length_drop, List.length_take]); omega)) ?_ (by with_unfolding_all rfl) (by kmk_pure)); intro D' h' F' N' l1; (try k_lt l1); (try k_sweep))
  k_with "subscriptTail Name Slice ref ref" => (k_here; (with_reducible show wpAny _ _ (subscriptTail _ (PySem.Expr.Slice (some _) none none _) (Value.ref _) (Value.ref _)) _ _ _); k_dflt (refine' ls_from (by k_asm) (by k_asm) (by k_mem) (by omega) (by first | assumption | decide | omega | ((simp only [List.length_append, List.length_cons, List.length_nil, List.length_drop, List.length_take]); omega)) ?_ (by with_unfolding_all rfl) (by kmk_pure)); intro D' h' F' N' l1; (try k_lt l1); (try k_sweep))
  k_with "binaryOp Add ref ref" => (k_here; k_dflt (refine' ls_add (by k_asm) (by k_asm) (by k_mem) (by k_mem) (by first | assumption | decide | omega | ((simp only [List.length_append, List.length_cons, List.length_nil, List.length_drop, List.length_take]); omega)) (by first | assumption | decide | omega | ((simp only [List.length_append, List.length_cons, List.length_nil, List.length_drop, List.length_take]); omega)) ?_); intro D' h' F' N' l1; (try k_lt l1); (try k_sweep))
  k_with "call builtin:len" => (k_here; (with_reducible show wpAny _ _ (call (Value.builtin "len") [Value.ref _]) _ _ _); k_dflt (refine' ls_len (by k_asm) (by k_mem) (by first | assumption | decide | omega | ((simp only [List.length_append, List.length_cons, List.length_nil, List.length_drop, List.length_take]); omega)) ?_))
  k_with "exec Raise some none" => (k_here; k_dflt (refine' raise_own (by k_asm) (by k_is) (by rfl) (by rfl) ?_))
  k_with "call ref" => (k_here; (with_reducible show wpAny _ _ (call (.ref 31) _) _ _ _); k_dflt (refine' exc_make (by k_asm) (by k_asm) (by k_asm) (by k_is) (by kernel_rfl) (by k_is) (by k_is) ?_ (by size_fits)); intro e' t' h' F' N' l1; (try k_sweep))
  k_with "setAttr ref" => (k_here; k_dflt (first
  | (refine' exc_set0 (by k_asm) (by k_asm) (by k_asm) (by assumption) (by k_is) (by k_is) (by rfl) (by rfl) (by k_is) ?_; intro d' h' F' N' l1 l2; (try k_sweep))
  | (refine' exc_set1 (by k_asm) (by k_asm) (by k_asm) (by assumption) (by assumption) (by k_is) (by k_is) (by rfl) (by rfl) (by k_is) (by decide) ?_; intro od' h' F' N'; (try k_sweep))))
  k_with "RaiseOk" => ((rename News _ _ _ _ => kN); refine ⟨_, _, _, _, rfl, (by k_in), (kN _ (.head _)).1, ?_⟩)
  k_with "leaving ref" => (k_here; first
  | (k_dflt (refine' leave_own_on (by assumption) (by assumption) (by assumption) (by assumption) rfl ?_); intro h' R' U'; (try dsimp only at R' U' ⊢))
  | (k_dflt (refine' leave_exc (by assumption) (by k_asm) (by k_asm) (by assumption) rfl rfl ?_); intro h' R' U'; (try dsimp only at R' U' ⊢)))
  k_with "call ref" => (k_here; (with_reducible show wpAny _ _ (call (.ref 177) _) _ _ _); k_dflt (refine wpAny_call ?_; (refine' code_try (by k_asm) (by k_asm) (by k_asm) (by k_asm) (by k_asm) (by exact rfl) (by exact rfl) (by exact rfl) (by k_is) (by k_is) (by k_room) (by exact BindsTo.of_eq rfl) (by exact locs rfl) ?_ (by exact rfl) (by exact rfl) (by exact rfl) (by decide); k_whole; intro g' L' h' FG' F' N' B' X' T' D'; (try dsimp only); (try k_fold))))
  k_with "call ref" => ((with_reducible show wpAny _ _ (call (.ref 170) _) _ _ _); k_dflt (refine' draw_T [] (by k_asm) (by k_asm) (by k_asm) (by k_asm) rfl rfl (by k_asm) (by k_mem) (by k_ne) (by exact List.forall_mem_nil _) (by exact List.forall_mem_nil _) (by k_all) (by k_all) (by assumption) (by assumption) (by assumption) (by assumption) (by assumption) (by assumption) (by omega) (by omega) (by decide) (by decide) ?_); intro r9 t9 u9 vs9 ns9 na9 k9 h9 tk9 hr0 hr1 hv9 hn9 hl9 hk0 hk1 F9 N9; (try dsimp only [List.nil_append, List.cons_append] at N9); (try dsimp only); (try k_fold); (rcases (show r9 = 0 ∨ r9 = 1 from by omega) with hz9 | hz9 <;> subst hz9))
  k_with "call ref" => ((with_reducible show wpAny _ _ (call (.ref 102) _) _ _ _); k_dflt (refine' pp_c (by k_asm) (by k_asm) (by k_asm) (by k_asm) rfl rfl (by k_asm) (by k_mem) (by assumption) ?_); intro x9 d9 l9 D9 c9 t9 u9 h9 k9 F9 N9 y1 y2 y3 y4; (try k_lt y1); (try k_lt y2); (try k_lt y3); (try k_lt y4); (try dsimp only); (try k_fold); (try k_sweep))
  k_with "call ref" => ((with_reducible show wpAny _ _ (call (.ref 144) _) _ _ _); k_dflt (refine' kan_c (by k_asm) (by k_asm) (by k_asm) (by k_asm) rfl rfl (cb_drop (by k_asm) (mem_pull [_, _, _, _, _, _])) (List.mem_append_right _ (by k_mem)) (List.mem_append_right _ (by k_mem)) (app_all (List.forall_mem_cons.mpr ⟨by k_ne, List.forall_mem_cons.mpr ⟨by k_ne, List.forall_mem_cons.mpr ⟨by k_ne, List.forall_mem_cons.mpr ⟨by k_ne, List.forall_mem_cons.mpr ⟨by k_ne, List.forall_mem_cons.mpr ⟨by k_ne, List.forall_mem_nil _⟩⟩⟩⟩⟩⟩) (by assumption)) (by assumption) ?_); intro P9 n9 t9 h9 k9 F9 N9 y1; (try dsimp only [List.cons_append, List.nil_append] at y1); (try k_lt y1); (try dsimp only [List.cons_append, List.nil_append] at N9); (try dsimp only); (try k_fold); (try k_sweep))
  k_steps
  · rename Fr _ _ _ _ => kF
    rename News _ _ _ _ => kN
    refine ret _ _ _ _ _ _ _ _ _ [cods] 0 [_, _, _, _, _] o1 ps _ _ _ _ _ _ _ kF rfl rfl rfl rfl (cb_drop kN (List.forall_mem_cons.mpr ⟨(.tail _ (.tail _ (.tail _ (.tail _ (.tail _ (.tail _ (.tail _ (.tail _ (.tail _ (.tail _ (.tail _ (.tail _ (.tail _ (.head _)))))))))))))), (List.forall_mem_cons.mpr ⟨(.tail _ (.tail _ (.tail _ (.tail _ (.tail _ (.tail _ (.tail _ (.tail _ (.tail _ (.tail _ (.tail _ (.tail _ (.tail _ (.tail _ (.head _))))))))))))))), (List.forall_mem_cons.mpr ⟨(.tail _ (.tail _ (.tail _ (.tail _ (.tail _ (.tail _ (.tail _ (.tail _ (.tail _ (.tail _ (.tail _ (.tail _ (.tail _ (.tail _ (.tail _ mb))))))))))))))), (List.forall_mem_cons.mpr ⟨(.tail _ (.tail _ (.tail _ (.tail _ (.tail _ (.tail _ (.tail _ (.tail _ (.tail _ (.tail _ (.tail _ (.tail _ (.tail _ (.tail _ (.tail _ m1))))))))))))))), (List.forall_mem_cons.mpr ⟨(.tail _ (.tail _ (.tail _ (.tail _ (.tail _ (.tail _ (.tail _ (.tail _ (.tail _ (.tail _ (.tail _ (.tail _ (.tail _ (.tail _ (.tail _ m2))))))))))))))), (List.forall_mem_cons.mpr ⟨(.tail _ (.tail _ (.tail _ (.tail _ (.tail _ (.tail _ (.tail _ (.tail _ (.tail _ (.tail _ (.tail _ (.tail _ (.tail _ (.tail _ (.tail _ m3))))))))))))))), (List.forall_mem_cons.mpr ⟨(.tail _ (.tail _ (.tail _ (.tail _ (.tail _ (.tail _ (.tail _ (.tail _ (.tail _ (.tail _ (.tail _ (.tail _ (.tail _ (.tail _ (.tail _ mt))))))))))))))), (List.forall_mem_cons.mpr ⟨(.tail _ (.tail _ (.tail _ (.tail _ (.tail _ (.tail _ (.tail _ (.tail _ (.tail _ (.tail _ (.tail _ (.tail _ (.tail _ (.tail _ (.tail _ mR))))))))))))))), (List.forall_mem_cons.mpr ⟨(.tail _ (.tail _ (.tail _ (.tail _ (.tail _ (.tail _ (.tail _ (.tail _ (.head _))))))))), (List.forall_mem_cons.mpr ⟨(.tail _ (.tail _ (.tail _ (.tail _ (.tail _ (.tail _ (.tail _ (.head _)))))))), (List.forall_mem_cons.mpr ⟨(.tail _ (.head _)), (List.forall_mem_cons.mpr ⟨(.tail _ (.tail _ (.tail _ (.tail _ (.tail _ (.tail _ (.tail _ (.tail _ (.tail _ (.head _)))))))))), (List.forall_mem_cons.mpr ⟨(.tail _ (.tail _ (.tail _ (.tail _ (.tail _ (.tail _ (.tail _ (.tail _ (.tail _ (.tail _ (.head _))))))))))), (List.forall_mem_cons.mpr ⟨(.tail _ (.tail _ (.tail _ (.tail _ (.tail _ (.tail _ (.tail _ (.tail _ (.tail _ (.tail _ (.tail _ (.tail _ (.head _))))))))))))), (List.forall_mem_cons.mpr ⟨(.tail _ (.tail _ (.tail _ (.tail _ (.tail _ (.tail _ (.tail _ (.tail _ (.tail _ (.tail _ (.tail _ (.head _)))))))))))), (List.forall_mem_cons.mpr ⟨(.tail _ (.tail _ (.tail _ (.tail _ (.head _))))), (fun p hp => (.tail _ (.tail _ (.tail _ (.tail _ (.tail _ (.tail _ (.tail _ (.tail _ (.tail _ (.tail _ (.tail _ (.tail _ (.tail _ (.tail _ (.tail _ (hsub p hp)))))))))))))))))⟩)⟩)⟩)⟩)⟩)⟩)⟩)⟩)⟩)⟩)⟩)⟩)⟩)⟩)⟩)⟩)) ?_ (by assumption) (by assumption) (by assumption) (by assumption) (by omega) trivial
    exact ⟨⟨_, hc1⟩, hps.mono (fun p hp => (.tail _ (.tail _ (.tail _ (.tail _ (.tail _ hp)))))), (PiecesAll.cons (.head _) (.tail _ (.head _)) (.tail _ (.tail _ (.head _))) hci (.tail _ (.tail _ (.tail _ (.head _)))) .nil).take _, .cons (.tail _ (.tail _ (.tail _ (.tail _ (.head _))))) (by first | assumption | exact ints_nil (by assumption)) .nil, fun z hz => by rw [List.mem_singleton.mp hz]; omega, by simp, by decide, .inr rfl,
      off5 (bad11 (off8d (by assumption) hbT (by k_ne) (by k_ne)) (by k_ne) (by k_ne) (by k_ne)) (bad11 (off8d (by assumption) hbT (by k_ne) (by k_ne)) (by k_ne) (by k_ne) (by k_ne)) (bad11 (off8d (by assumption) hbT (by k_ne) (by k_ne)) (by k_ne) (by k_ne) (by k_ne)) (bad11 (off8d (by assumption) hbT (by k_ne) (by k_ne)) (by k_ne) (by k_ne) (by k_ne)) (bad11 (off8d (by assumption) hbT (by k_ne) (by k_ne)) (by k_ne) (by k_ne) (by k_ne)),
      off5 (fun p hp => (by assumption : ∀ p ∈ T, p.1 ≠ _) p (hsub p hp)) (fun p hp => (by assumption : ∀ p ∈ T, p.1 ≠ _) p (hsub p hp)) (fun p hp => (by assumption : ∀ p ∈ T, p.1 ≠ _) p (hsub p hp)) (fun p hp => (by assumption : ∀ p ∈ T, p.1 ≠ _) p (hsub p hp)) (fun p hp => (by assumption : ∀ p ∈ T, p.1 ≠ _) p (hsub p hp)), bad10 (off8d (by assumption) hbT (by k_ne) (by k_ne)) (by k_ne) (by k_ne), bad9 (off8d (by assumption) hbT (by k_ne) (by k_ne)) (by k_ne), (fun p hp => (by assumption : ∀ p ∈ T, p.1 ≠ _) p (hsub p hp)), (fun p hp => (by assumption : ∀ p ∈ T, p.1 ≠ _) p (hsub p hp))⟩
  · rename Fr _ _ _ _ => kF
    rename News _ _ _ _ => kN
    refine ret _ _ _ _ _ _ _ _ _ [cods] 0 [_, _, _, _, _] o1 ps _ _ _ _ _ _ _ kF rfl rfl rfl rfl (cb_drop kN (List.forall_mem_cons.mpr ⟨(.tail _ (.tail _ (.tail _ (.tail _ (.tail _ (.tail _ (.tail _ (.tail _ (.tail _ (.tail _ (.tail _ (.tail _ (.tail _ (.head _)))))))))))))), (List.forall_mem_cons.mpr ⟨(.tail _ (.tail _ (.tail _ (.tail _ (.tail _ (.tail _ (.tail _ (.tail _ (.tail _ (.tail _ (.tail _ (.tail _ (.tail _ (.tail _ (.head _))))))))))))))), (List.forall_mem_cons.mpr ⟨(.tail _ (.tail _ (.tail _ (.tail _ (.tail _ (.tail _ (.tail _ (.tail _ (.tail _ (.tail _ (.tail _ (.tail _ (.tail _ (.tail _ (.tail _ mb))))))))))))))), (List.forall_mem_cons.mpr ⟨(.tail _ (.tail _ (.tail _ (.tail _ (.tail _ (.tail _ (.tail _ (.tail _ (.tail _ (.tail _ (.tail _ (.tail _ (.tail _ (.tail _ (.tail _ m1))))))))))))))), (List.forall_mem_cons.mpr ⟨(.tail _ (.tail _ (.tail _ (.tail _ (.tail _ (.tail _ (.tail _ (.tail _ (.tail _ (.tail _ (.tail _ (.tail _ (.tail _ (.tail _ (.tail _ m2))))))))))))))), (List.forall_mem_cons.mpr ⟨(.tail _ (.tail _ (.tail _ (.tail _ (.tail _ (.tail _ (.tail _ (.tail _ (.tail _ (.tail _ (.tail _ (.tail _ (.tail _ (.tail _ (.tail _ m3))))))))))))))), (List.forall_mem_cons.mpr ⟨(.tail _ (.tail _ (.tail _ (.tail _ (.tail _ (.tail _ (.tail _ (.tail _ (.tail _ (.tail _ (.tail _ (.tail _ (.tail _ (.tail _ (.tail _ mt))))))))))))))), (List.forall_mem_cons.mpr ⟨(.tail _ (.tail _ (.tail _ (.tail _ (.tail _ (.tail _ (.tail _ (.tail _ (.tail _ (.tail _ (.tail _ (.tail _ (.tail _ (.tail _ (.tail _ mR))))))))))))))), (List.forall_mem_cons.mpr ⟨(.tail _ (.tail _ (.tail _ (.tail _ (.tail _ (.tail _ (.tail _ (.tail _ (.head _))))))))), (List.forall_mem_cons.mpr ⟨(.tail _ (.tail _ (.tail _ (.tail _ (.tail _ (.tail _ (.tail _ (.head _)))))))), (List.forall_mem_cons.mpr ⟨(.tail _ (.head _)), (List.forall_mem_cons.mpr ⟨(.tail _ (.tail _ (.tail _ (.tail _ (.tail _ (.tail _ (.tail _ (.tail _ (.tail _ (.head _)))))))))), (List.forall_mem_cons.mpr ⟨(.tail _ (.tail _ (.tail _ (.tail _ (.tail _ (.tail _ (.tail _ (.tail _ (.tail _ (.tail _ (.head _))))))))))), (List.forall_mem_cons.mpr ⟨(.tail _ (.tail _ (.tail _ (.tail _ (.tail _ (.tail _ (.tail _ (.tail _ (.tail _ (.tail _ (.tail _ (.tail _ (.head _))))))))))))), (List.forall_mem_cons.mpr ⟨(.tail _ (.tail _ (.tail _ (.tail _ (.tail _ (.tail _ (.tail _ (.tail _ (.tail _ (.tail _ (.tail _ (.head _)))))))))))), (List.forall_mem_cons.mpr ⟨(.tail _ (.tail _ (.tail _ (.tail _ (.head _))))), (fun p hp => (.tail _ (.tail _ (.tail _ (.tail _ (.tail _ (.tail _ (.tail _ (.tail _ (.tail _ (.tail _ (.tail _ (.tail _ (.tail _ (.tail _ (.tail _ (hsub p hp)))))))))))))))))⟩)⟩)⟩)⟩)⟩)⟩)⟩)⟩)⟩)⟩)⟩)⟩)⟩)⟩)⟩)⟩)) ?_ (by assumption) (by assumption) (by assumption) (by assumption) (by omega) trivial
    exact ⟨⟨_, hc1⟩, hps.mono (fun p hp => (.tail _ (.tail _ (.tail _ (.tail _ (.tail _ hp)))))), (PiecesAll.cons (.head _) (.tail _ (.head _)) (.tail _ (.tail _ (.head _))) hci (.tail _ (.tail _ (.tail _ (.head _)))) .nil).take _, .cons (.tail _ (.tail _ (.tail _ (.tail _ (.head _))))) (by first | assumption | exact ints_nil (by assumption)) .nil, fun z hz => by rw [List.mem_singleton.mp hz]; omega, by simp, by decide, .inr rfl,
      off5 (bad11 (off8d (by assumption) hbT (by k_ne) (by k_ne)) (by k_ne) (by k_ne) (by k_ne)) (bad11 (off8d (by assumption) hbT (by k_ne) (by k_ne)) (by k_ne) (by k_ne) (by k_ne)) (bad11 (off8d (by assumption) hbT (by k_ne) (by k_ne)) (by k_ne) (by k_ne) (by k_ne)) (bad11 (off8d (by assumption) hbT (by k_ne) (by k_ne)) (by k_ne) (by k_ne) (by k_ne)) (bad11 (off8d (by assumption) hbT (by k_ne) (by k_ne)) (by k_ne) (by k_ne) (by k_ne)),
      off5 (fun p hp => (by assumption : ∀ p ∈ T, p.1 ≠ _) p (hsub p hp)) (fun p hp => (by assumption : ∀ p ∈ T, p.1 ≠ _) p (hsub p hp)) (fun p hp => (by assumption : ∀ p ∈ T, p.1 ≠ _) p (hsub p hp)) (fun p hp => (by assumption : ∀ p ∈ T, p.1 ≠ _) p (hsub p hp)) (fun p hp => (by assumption : ∀ p ∈ T, p.1 ≠ _) p (hsub p hp)), bad10 (off8d (by assumption) hbT (by k_ne) (by k_ne)) (by k_ne) (by k_ne), bad9 (off8d (by assumption) hbT (by k_ne) (by k_ne)) (by k_ne), (fun p hp => (by assumption : ∀ p ∈ T, p.1 ≠ _) p (hsub p hp)), (fun p hp => (by assumption : ∀ p ∈ T, p.1 ≠ _) p (hsub p hp))⟩
set_option maxHeartbeats 16000000 in
theorem S2_2c {st0 st1 st2 : Stmt} {px : Pos} {it : Expr} {t1 t2 t3 t4 : Stmt} {fpos : Pos} {st4 : Stmt} {sc : Scope} (hl : LawIs st0 st1 st2 px it t1 t2 t3 t4 fpos st4 sc) {w : World} {mean : ExcName → Option Value} {mg mb : Str → Option Value} {fa : Addr} {h₀ : Heap} {L : Addr} {m : Str → Option Value} {s : Shared} {Q : Flow → Shared → Prop} {E : Value → Shared → Prop} (B : Below callerA h₀ [] h₀) (X : (KK w).In h₀) (TT : Top topProg LSE mean mg mb h₀) (C : CodeHd h₀ 181 179) {D R dR P O : Addr} {a b : Addr} {k : Int} {tk : Tok} {nd na nb : Nat} {vs ws : List Value} {ns cs : List Int} {most last : Int} {ta tb tc td te tlast tmost : Tok} {np no : Nat} {o1 o2 o3 : Obj} {ps : Array Value} {T tl ml : List (Addr × Obj)} {p0 v0 : Value} {pvs ovs : List Value} {g0 : List Int} {css : List (List Int)} {c : Addr} {ivs : List Value} {cods : List Int} {nc : Nat} {by9 : Int} {tw tb9 : Tok} {Bd : Nat}
    (F : Fr h₀ L s.heap (fun (y : Str) => if y = "codes" then some (.ref c) else (if y = "deck" then some (.ref D) else if y = "own" then some (.ref O) else if y = "last" then some (.int last tlast) else if y = "most" then some (.int most tmost) else m y)))
    (N : News h₀ L s.heap ((D, listOf #[.ref a, .ref b, .int k tk] nd) :: (a, listOf vs.toArray na) :: (dR, dictOf [⟨PyData.keyHash w.params "most", .str "most" ta, .int most tb⟩, ⟨PyData.keyHash w.params "pieces", .str "pieces" tc, .ref P⟩, ⟨PyData.keyHash w.params "pointer", .str "pointer" td, .int last te⟩] 3) :: (P, listOf (p0 :: pvs).toArray np) :: T)) (mc : (c, listOf ivs.toArray nc) ∈ T) (mb : (b, listOf ws.toArray nb) ∈ T) (m1 : (L + 1, o1) ∈ T) (m2 : (L + 1 + 1, o2) ∈ T) (m3 : (L + 1 + 1 + 1, o3) ∈ T) (mt : (179, tabObj ps) ∈ T) (mR : (R, instObj 126 dR) ∈ T) (mO : (O, listOf (v0 :: ovs).toArray no) ∈ T) (hsub : ∀ p ∈ tl, p ∈ T) (hbT : ∀ X ∈ ([L + 1, L + 1 + 1, L + 1 + 1 + 1, 179, R, b] : List Addr), ∃ o, (X, o) ∈ T) (nDa : @Ne Nat D a) (nDd : @Ne Nat D dR) (nDP : @Ne Nat D P) (nad : @Ne Nat a dR) (naP : @Ne Nat a P) (ndP : @Ne Nat dR P) (qD : ∀ p ∈ T, p.1 ≠ D) (qa : ∀ p ∈ T, p.1 ≠ a) (qd : ∀ p ∈ T, p.1 ≠ dR) (qP : ∀ p ∈ T, p.1 ≠ P)
    (hv : IntsAre vs ns) (hns : ∀ n ∈ ns, 0 ≤ n) (hnl : ns.length < 2 ^ 20) (hw : IntsAre ws cs) (hcs : 0 < cs.length) (hcs2 : cs.length < 2 ^ 20) (hk0 : 0 ≤ k) (hk1 : k < 990)
    (hc1 : o1.data = .cell (some (.int by9 tb9))) (hc2 : o2.data = .cell (some (.ref R))) (hc3 : o3.data = .cell (some (.int 2 tw))) (hps : TabOk ⟨117, 25, 117, 65⟩ lamQ ps ml) (hmT : ∀ p ∈ ml, p ∈ T) (hml : ∀ p ∈ ml, p ∈ tl) (hbad : OffAll tl [L + 1, L + 1 + 1, L + 1 + 1 + 1, 179, R, dR, P, O, D, a, b])
    (hci : IntsAre ivs cods) (hcl1 : 1 ≤ cods.length) (hcl2 : cods.length ≤ 2) (hm1 : 1 ≤ most) (hm2 : most ≤ 4) (hb1 : -4 ≤ by9) (hb2 : by9 ≤ 4)
    (hP : PiecesAll w.params ml (p0 :: pvs) (g0 :: css)) (hO : ListsAll ml (v0 :: ovs) (g0 :: css)) (hpl : (p0 :: pvs).length = (g0 :: css).length) (hol : (v0 :: ovs).length = (g0 :: css).length) (hil : ivs.length ≤ 900) (hlen : ((g0 :: css).length : Int) ≤ most) (hBd : ∀ z ∈ (g0 :: css), z.length ≤ Bd) (hBd2 : Bd ≤ 100)
    (hl0 : 0 ≤ last) (hl2 : last < ((g0 :: css).length : Int) ∨ last = 0)
    (hcA : ∀ X ∈ ([L + 1, L + 1 + 1, L + 1 + 1 + 1, 179, R, D, a, b] : List Addr), @Ne Nat X c) (hcd : @Ne Nat dR c) (hcP : @Ne Nat P c) (hcT : ∀ p ∈ tl, p.1 ≠ c)
    (hPd : @Ne Nat dR P) (hPA : ∀ X ∈ ([L + 1, L + 1 + 1, L + 1 + 1 + 1, 179, R, D, a, b] : List Addr), @Ne Nat X P) (hPT : ∀ p ∈ tl, p.1 ≠ P) (hOP : @Ne Nat O P) (hOd : @Ne Nat dR O) (hOA : ∀ X ∈ ([L + 1, L + 1 + 1, L + 1 + 1 + 1, 179, R, D, a, b] : List Addr), @Ne Nat X O) (hOT : ∀ p ∈ tl, p.1 ≠ O) (hlen0 : 0 < (g0 :: css).length) (hol1 : ovs.length ≤ 900) (hpl1 : pvs.length ≤ 900)
    (ret : ∀ (m' : Str → Option Value) (h' : Heap) (tt : Nat) (P' O' : Addr) (np' no' : Nat) (pvs' ovs' : List Value) (css2 : List (List Int)) (last' : Int) (add : List (Addr × Obj)) (o1' : Obj) (ps' : Array Value) (te' tl' tk' : Tok) (vs' : List Value) (ns' : List Int) (na' : Nat) (k' : Int), Fr h₀ L h' m' → m' "own" = some (.ref O') → m' "last" = some (.int last' tl') → m' "deck" = some (.ref D) → m' "most" = some (.int most tmost) →
      News h₀ L h' ((D, listOf #[.ref a, .ref b, .int k' tk'] nd) :: (a, listOf vs'.toArray na') :: (b, listOf ws.toArray nb) :: (L + 1, o1') :: (L + 1 + 1, o2) :: (L + 1 + 1 + 1, o3) :: (179, tabObj ps') :: (R, instObj 126 dR) :: (dR, dictOf [⟨PyData.keyHash w.params "most", .str "most" ta, .int most tb⟩, ⟨PyData.keyHash w.params "pieces", .str "pieces" tc, .ref P'⟩, ⟨PyData.keyHash w.params "pointer", .str "pointer" td, .int last' te'⟩] 3) :: (P', listOf pvs'.toArray np') :: (O', listOf ovs'.toArray no') :: (add ++ tl)) →
      Good2 w.params L D a b R dR most Bd tl ml P' O' pvs' ovs' css2 last' add o1' ps' → IntsAre vs' ns' → (∀ n ∈ ns', 0 ≤ n) → ns'.length < 2 ^ 20 → 0 ≤ k' → k' ≤ k + 1 → True → Q .next { s with heap := h', toks := tt }) :
    wpAny (model PRG w) (callerA.deeper (envOfC (Str.ofString "law") sc L fa (.ref 181))) (exec t2 (envOfC (Str.ofString "law") sc L fa (.ref 181))) Q E s := by
  obtain ⟨_, _, _, _, _, _, _, _, hl⟩ := hl
  cases hl
  unfold PRG
  unfold KK at X
  unfold LSE at TT
  revert X
  k_fill
  intro X
  k_with_none
  k_with "ite" => (k_here; k_openite; refine ite_neg (beq_no (by omega)) ?_)
  k_with "call type:list" => (k_here; (with_reducible show wpAny _ _ (call (Value.type _) [Value.ref _]) _ _ _); k_dflt (refine' ls_copy (by k_asm) (by k_asm) (by k_mem) (by omega) ?_); intro D' c' h' F' N' l1; (try k_lt l1); (try k_sweep))
  k_with "subscriptTail" => (k_here; (with_reducible show wpAny _ _ (subscriptTail _ (PySem.Expr.Slice none (some _) none _) (Value.ref _) (Value.ref _)) _ _ _); k_dflt (refine' ls_upto (by k_asm) (by k_asm) (by k_mem) (by omega) (by first | assumption | decide | omega | ((simp only [List.length_append, List.length_cons, List.length_nil, List.length_drop, List.length_take]); omega)) ?_ (by with_unfolding_all rfl) (by kmk_pure)); intro D' h' F' N' l1; (try k_lt l1); (try k_sweep))
  k_with "subscriptTail Name Slice ref ref" => (k_here; (with_reducible show wpAny _ _ (subscriptTail _ (PySem.Expr.Slice none (some _) none _) (Value.ref _) (Value.ref _)) _ _ _); k_dflt (refine' ls_upto (by k_asm) (by k_asm) (by k_mem) (by omega) (by first | assumption | decide | omega | ((simp only [List.length_append, List.length_cons, List.length_nil, List.length_drop, List.length_take]); omega)) ?_ (by with_unfolding_all rfl) (by kmk_pure)); intro D' h' F' N' l1; (try k_lt l1); (try k_sweep))
  k_with "subscriptTail" => (k_here; (with_reducible show wpAny _ _ (subscriptTail _ (PySem.Expr.Slice (some _) none none _) (Value.ref _) (Value.ref _)) _ _ _); k_dflt (refine' ls_from (by k_asm) (by k_asm) (by k_mem) (by omega) (by first | assumption | decide | omega | ((simp only [List.length_append, List.length_cons, List.length_nil, List.length_drop, List.length_take]); omega)) ?_ (by with_unfolding_all rfl) (by kmk_pure)); intro D' h' F' N' l1; (try k_lt l1); (try k_sweep))
  k_with "subscriptTail Name Slice ref ref" => (k_here; (with_reducible show wpAny _ _ (subscriptTail _ (PySem.Expr.Slice (some _) none none _) (Value.ref _) (Value.ref _)) _ _ _); k_dflt (refine' ls_from (by k_asm) (by k_asm) (by k_mem) (by omega) (by first | assumption | decide | omega | ((simp only [List.length_append, List.length_cons, List.length_nil, List.length_drop, List.length_take]); omega)) ?_ (by with_unfolding_all rfl) (by kmk_pure)); intro D' h' F' N' l1; (try k_lt l1); (try k_sweep))
  k_with "binaryOp Add ref ref" => (k_here; k_dflt (refine' ls_add (by k_asm) (by k_asm) (by k_mem) (by k_mem) (by first | assumption | decide | omega | ((simp only [List.length_append, List.length_cons, List.length_nil, List.length_drop, List.length_take]); omega)) (by first | assumption | decide | omega | ((simp only [List.length_append, List.length_cons, List.length_nil, List.length_drop, List.length_take]); omega)) ?_); intro D' h' F' N' l1; (try k_lt l1); (try k_sweep))
  k_with "call builtin:len" => (k_here; (with_reducible show wpAny _ _ (call (Value.builtin "len") [Value.ref _]) _ _ _); k_dflt (refine' ls_len (by k_asm) (by k_mem) (by first | assumption | decide | omega | ((simp only [List.length_append, List.length_cons, List.length_nil, List.length_drop, List.length_take]); omega)) ?_))
  k_with "call builtin:len" => (k_here; (with_reducible show wpAny _ _ (call (Value.builtin "len") [Value.ref _]) _ _ _); k_dflt (refine' ls_lenE (by k_asm) (by k_mem) (by assumption) (by omega) ?_))
  k_with "subscriptTail" => (k_here; (with_reducible show wpAny _ _ (subscriptTail _ _ (Value.ref _) (Value.int _ _)) _ _ _); k_dflt (first | (refine' own_at (by k_asm) (by k_mem) (by assumption) (by assumption) (by first | omega | exact fm_lo (by omega)) (by first | omega | exact fm_hi (by omega)) (by omega) ?_ (by with_unfolding_all rfl); intro o1' iv1' n1' cs1' e1' a1' m1') | (refine' piece_at (by k_asm) (by k_mem) (by assumption) (by assumption) (by first | omega | exact fm_lo (by omega)) (by first | omega | exact fm_hi (by omega)) (by omega) ?_ (by with_unfolding_all rfl); intro x' dx' c' r' t1' t2' iv' n' n2' cs' e' a' m1' m2' m3' m4')))
  k_with "binaryOp Mod int int" => (k_here; refine mod_int' (by omega) ?_)
  k_with "subscriptTail" => (k_here; (with_reducible show wpAny _ _ (subscriptTail _ _ (Value.ref _) (Value.int _ _)) _ _ _); k_dflt (first | (refine' own_head (by k_asm) (by k_mem) (by assumption) (by assumption) (by assumption) (by assumption) ?_ (by with_unfolding_all rfl); intro o1' iv1' n1' a1' z1' m1') | (refine' piece_head (by k_asm) (by k_mem) (by assumption) (by assumption) (by assumption) (by assumption) ?_ (by with_unfolding_all rfl); intro x' dx' c' r' t1' t2' iv' n' n2' a' z' m1' m2' m3' m4')))
  k_with "call ref" => ((with_reducible show wpAny _ _ (call (.ref 170) _) _ _ _); k_dflt (refine' draw_T [] (by k_asm) (by k_asm) (by k_asm) (by k_asm) rfl rfl (by k_asm) (by k_mem) (by k_ne) (by exact List.forall_mem_nil _) (by exact List.forall_mem_nil _) (by k_all) (by k_all) (by assumption) (by assumption) (by assumption) (by assumption) (by assumption) (by assumption) (by omega) (by omega) (by decide) (by decide) ?_); intro r9 t9 u9 vs9 ns9 na9 k9 h9 tk9 hr0 hr1 hv9 hn9 hl9 hk0 hk1 F9 N9; (try dsimp only [List.nil_append, List.cons_append] at N9); (try dsimp only); (try k_fold); (rcases (show r9 = 0 ∨ r9 = 1 from by omega) with hz9 | hz9 <;> subst hz9))
  k_with "call ref" => ((with_reducible show wpAny _ _ (call (.ref 102) _) _ _ _); k_dflt (refine' pp_c (by k_asm) (by k_asm) (by k_asm) (by k_asm) rfl rfl (by k_asm) (by k_mem) (by assumption) ?_); intro x9 d9 l9 D9 c9 t9 u9 h9 k9 F9 N9 y1 y2 y3 y4; (try k_lt y1); (try k_lt y2); (try k_lt y3); (try k_lt y4); (try dsimp only); (try k_fold); (try k_sweep))
  k_with "call ref" => ((with_reducible show wpAny _ _ (call (.ref 144) _) _ _ _); k_dflt (refine' kac_c (by k_asm) (by k_asm) (by k_asm) (by k_asm) rfl rfl (cb_drop (by k_asm) (mem_pull2 [_, _, _, _, _, _])) (List.mem_append_right _ (by k_mem)) (app_all (List.forall_mem_cons.mpr ⟨by k_ne, List.forall_mem_cons.mpr ⟨by k_ne, List.forall_mem_cons.mpr ⟨by k_ne, List.forall_mem_cons.mpr ⟨by k_ne, List.forall_mem_cons.mpr ⟨by k_ne, List.forall_mem_cons.mpr ⟨by k_ne, List.forall_mem_nil _⟩⟩⟩⟩⟩⟩) (by assumption)) (app_all (List.forall_mem_cons.mpr ⟨by k_ne, List.forall_mem_cons.mpr ⟨by k_ne, List.forall_mem_cons.mpr ⟨by k_ne, List.forall_mem_cons.mpr ⟨by k_ne, List.forall_mem_cons.mpr ⟨by k_ne, List.forall_mem_cons.mpr ⟨by k_ne, List.forall_mem_nil _⟩⟩⟩⟩⟩⟩) (by assumption)) (by assumption) (by assumption) (List.mem_append_left _ (.head _)) (List.mem_append_left _ (.tail _ (.head _))) (List.mem_append_left _ (.tail _ (.tail _ (.tail _ (.head _))))) (List.mem_append_left _ (.tail _ (.tail _ (.head _)))) (List.mem_append_right _ (by k_mem)) (List.mem_append_right _ (by k_mem)) (List.mem_append_right _ (by k_mem)) (List.mem_append_right _ (by k_mem)) (by assumption) (by assumption) ?_); intro x9 d9 l9 D9 t9 u9 te9 h9 k9 F9 N9 y1 y2 y3 y4; (try dsimp only [List.cons_append, List.nil_append] at y1 y2 y3 y4); (try k_lt y1); (try k_lt y2); (try k_lt y3); (try k_lt y4); (try dsimp only [List.cons_append, List.nil_append] at N9); (try dsimp only); (try k_fold); (try k_sweep))
  obtain ⟨x0, dx0, c0, r0, t10, t20, iv0, n0, n20, rfl, hi0, hx0, hdx0, hc0, hr0⟩ := pieces_head hP
  have hil0 : iv0.length ≤ 900 := by have := hBd g0 (.head _); rw [hi0.length]; omega
  k_steps
  · rename Fr _ _ _ _ => kF
    rename News _ _ _ _ => kN
    refine ret _ _ _ _ _ _ _ _ _ ((cods ++ g0) :: css) 0 [_, _, _, _, _] o1 ps _ _ _ _ _ _ _ kF rfl rfl rfl rfl (cb_drop kN (List.forall_mem_cons.mpr ⟨(.tail _ (.tail _ (.tail _ (.tail _ (.tail _ (.tail _ (.tail _ (.tail _ (.tail _ (.tail _ (.tail _ (.tail _ (.tail _ (.tail _ (.tail _ (.tail _ (.head _))))))))))))))))), (List.forall_mem_cons.mpr ⟨(.tail _ (.tail _ (.tail _ (.tail _ (.tail _ (.tail _ (.tail _ (.tail _ (.tail _ (.tail _ (.tail _ (.tail _ (.tail _ (.tail _ (.tail _ (.tail _ (.tail _ (.head _)))))))))))))))))), (List.forall_mem_cons.mpr ⟨(.tail _ (.tail _ (.tail _ (.tail _ (.tail _ (.tail _ (.tail _ (.tail _ (.tail _ (.tail _ (.tail _ (.tail _ (.tail _ (.tail _ (.tail _ (.tail _ (.tail _ (.tail _ mb)))))))))))))))))), (List.forall_mem_cons.mpr ⟨(.tail _ (.tail _ (.tail _ (.tail _ (.tail _ (.tail _ (.tail _ (.tail _ (.tail _ (.tail _ (.tail _ (.tail _ (.tail _ (.tail _ (.tail _ (.tail _ (.tail _ (.tail _ m1)))))))))))))))))), (List.forall_mem_cons.mpr ⟨(.tail _ (.tail _ (.tail _ (.tail _ (.tail _ (.tail _ (.tail _ (.tail _ (.tail _ (.tail _ (.tail _ (.tail _ (.tail _ (.tail _ (.tail _ (.tail _ (.tail _ (.tail _ m2)))))))))))))))))), (List.forall_mem_cons.mpr ⟨(.tail _ (.tail _ (.tail _ (.tail _ (.tail _ (.tail _ (.tail _ (.tail _ (.tail _ (.tail _ (.tail _ (.tail _ (.tail _ (.tail _ (.tail _ (.tail _ (.tail _ (.tail _ m3)))))))))))))))))), (List.forall_mem_cons.mpr ⟨(.tail _ (.tail _ (.tail _ (.tail _ (.tail _ (.tail _ (.tail _ (.tail _ (.tail _ (.tail _ (.tail _ (.tail _ (.tail _ (.tail _ (.tail _ (.tail _ (.tail _ (.tail _ mt)))))))))))))))))), (List.forall_mem_cons.mpr ⟨(.tail _ (.tail _ (.tail _ (.tail _ (.tail _ (.tail _ (.tail _ (.tail _ (.tail _ (.tail _ (.tail _ (.tail _ (.tail _ (.tail _ (.tail _ (.tail _ (.tail _ (.tail _ mR)))))))))))))))))), (List.forall_mem_cons.mpr ⟨(.tail _ (.tail _ (.tail _ (.tail _ (.tail _ (.tail _ (.head _))))))), (List.forall_mem_cons.mpr ⟨(.tail _ (.tail _ (.tail _ (.tail _ (.tail _ (.tail _ (.tail _ (.head _)))))))), (List.forall_mem_cons.mpr ⟨(.tail _ (.head _)), (List.forall_mem_cons.mpr ⟨(.tail _ (.tail _ (.tail _ (.tail _ (.tail _ (.tail _ (.tail _ (.tail _ (.head _))))))))), (List.forall_mem_cons.mpr ⟨(.tail _ (.tail _ (.tail _ (.tail _ (.tail _ (.tail _ (.tail _ (.tail _ (.tail _ (.head _)))))))))), (List.forall_mem_cons.mpr ⟨(.tail _ (.tail _ (.tail _ (.tail _ (.tail _ (.tail _ (.tail _ (.tail _ (.tail _ (.tail _ (.tail _ (.head _)))))))))))), (List.forall_mem_cons.mpr ⟨(.tail _ (.tail _ (.tail _ (.tail _ (.tail _ (.tail _ (.tail _ (.tail _ (.tail _ (.tail _ (.head _))))))))))), (List.forall_mem_cons.mpr ⟨(.tail _ (.tail _ (.tail _ (.tail _ (.head _))))), (fun p hp => (.tail _ (.tail _ (.tail _ (.tail _ (.tail _ (.tail _ (.tail _ (.tail _ (.tail _ (.tail _ (.tail _ (.tail _ (.tail _ (.tail _ (.tail _ (.tail _ (.tail _ (.tail _ (hsub p hp))))))))))))))))))))⟩)⟩)⟩)⟩)⟩)⟩)⟩)⟩)⟩)⟩)⟩)⟩)⟩)⟩)⟩)⟩)) ?_ (by assumption) (by assumption) (by assumption) (by assumption) (by omega) trivial
    exact ⟨⟨_, hc1⟩, hps.mono (fun p hp => (.tail _ (.tail _ (.tail _ (.tail _ (.tail _ hp)))))), (take_all (css := ((cods ++ g0)) :: css) hlen).symm ▸ PiecesAll.cons (.head _) (.tail _ (.head _)) (.tail _ (.tail _ (.head _))) (IntsAre.append hci hi0) (.tail _ (.tail _ (.tail _ (.head _)))) ((pieces_tail hP).mono (fun p hp => (.tail _ (.tail _ (.tail _ (.tail _ (.tail _ hp))))))), .cons (.tail _ (.tail _ (.tail _ (.tail _ (.head _))))) (IntsAre.append hci (by assumption)) ((lists_tail hO).mono (fun p hp => (.tail _ (.tail _ (.tail _ (.tail _ (.tail _ hp))))))),
      fun z hz => (List.mem_cons.mp hz).elim (fun e => by have := hBd g0 (.head _); rw [e, List.length_append]; omega) (fun hz => by have := hBd z (.tail _ hz); omega), by simp only [List.length_cons] at hlen ⊢; omega, by decide, .inr rfl,
      off5 (bad11 (off8d (by assumption) hbT (by k_ne) (by k_ne)) (by k_ne) (by k_ne) (by k_ne)) (bad11 (off8d (by assumption) hbT (by k_ne) (by k_ne)) (by k_ne) (by k_ne) (by k_ne)) (bad11 (off8d (by assumption) hbT (by k_ne) (by k_ne)) (by k_ne) (by k_ne) (by k_ne)) (bad11 (off8d (by assumption) hbT (by k_ne) (by k_ne)) (by k_ne) (by k_ne) (by k_ne)) (bad11 (off8d (by assumption) hbT (by k_ne) (by k_ne)) (by k_ne) (by k_ne) (by k_ne)), off5 (fun p hp => (by assumption : ∀ p ∈ T, p.1 ≠ _) p (hsub p hp)) (fun p hp => (by assumption : ∀ p ∈ T, p.1 ≠ _) p (hsub p hp)) (fun p hp => (by assumption : ∀ p ∈ T, p.1 ≠ _) p (hsub p hp)) (fun p hp => (by assumption : ∀ p ∈ T, p.1 ≠ _) p (hsub p hp)) (fun p hp => (by assumption : ∀ p ∈ T, p.1 ≠ _) p (hsub p hp)), bad10 hPA hPd (by k_ne), bad9 (off8d (by assumption) hbT (by k_ne) (by k_ne)) (by k_ne), hPT, (fun p hp => (by assumption : ∀ p ∈ T, p.1 ≠ _) p (hsub p hp))⟩
  · rename Fr _ _ _ _ => kF
    rename News _ _ _ _ => kN
    refine ret _ _ _ _ _ _ _ _ _ ((g0 ++ cods) :: css) 0 [_, _, _, _, _] o1 ps _ _ _ _ _ _ _ kF rfl rfl rfl rfl (cb_drop kN (List.forall_mem_cons.mpr ⟨(.tail _ (.tail _ (.tail _ (.tail _ (.tail _ (.tail _ (.tail _ (.tail _ (.tail _ (.tail _ (.tail _ (.tail _ (.tail _ (.tail _ (.tail _ (.tail _ (.head _))))))))))))))))), (List.forall_mem_cons.mpr ⟨(.tail _ (.tail _ (.tail _ (.tail _ (.tail _ (.tail _ (.tail _ (.tail _ (.tail _ (.tail _ (.tail _ (.tail _ (.tail _ (.tail _ (.tail _ (.tail _ (.tail _ (.head _)))))))))))))))))), (List.forall_mem_cons.mpr ⟨(.tail _ (.tail _ (.tail _ (.tail _ (.tail _ (.tail _ (.tail _ (.tail _ (.tail _ (.tail _ (.tail _ (.tail _ (.tail _ (.tail _ (.tail _ (.tail _ (.tail _ (.tail _ mb)))))))))))))))))), (List.forall_mem_cons.mpr ⟨(.tail _ (.tail _ (.tail _ (.tail _ (.tail _ (.tail _ (.tail _ (.tail _ (.tail _ (.tail _ (.tail _ (.tail _ (.tail _ (.tail _ (.tail _ (.tail _ (.tail _ (.tail _ m1)))))))))))))))))), (List.forall_mem_cons.mpr ⟨(.tail _ (.tail _ (.tail _ (.tail _ (.tail _ (.tail _ (.tail _ (.tail _ (.tail _ (.tail _ (.tail _ (.tail _ (.tail _ (.tail _ (.tail _ (.tail _ (.tail _ (.tail _ m2)))))))))))))))))), (List.forall_mem_cons.mpr ⟨(.tail _ (.tail _ (.tail _ (.tail _ (.tail _ (.tail _ (.tail _ (.tail _ (.tail _ (.tail _ (.tail _ (.tail _ (.tail _ (.tail _ (.tail _ (.tail _ (.tail _ (.tail _ m3)))))))))))))))))), (List.forall_mem_cons.mpr ⟨(.tail _ (.tail _ (.tail _ (.tail _ (.tail _ (.tail _ (.tail _ (.tail _ (.tail _ (.tail _ (.tail _ (.tail _ (.tail _ (.tail _ (.tail _ (.tail _ (.tail _ (.tail _ mt)))))))))))))))))), (List.forall_mem_cons.mpr ⟨(.tail _ (.tail _ (.tail _ (.tail _ (.tail _ (.tail _ (.tail _ (.tail _ (.tail _ (.tail _ (.tail _ (.tail _ (.tail _ (.tail _ (.tail _ (.tail _ (.tail _ (.tail _ mR)))))))))))))))))), (List.forall_mem_cons.mpr ⟨(.tail _ (.tail _ (.tail _ (.tail _ (.tail _ (.tail _ (.head _))))))), (List.forall_mem_cons.mpr ⟨(.tail _ (.tail _ (.tail _ (.tail _ (.tail _ (.tail _ (.tail _ (.head _)))))))), (List.forall_mem_cons.mpr ⟨(.tail _ (.head _)), (List.forall_mem_cons.mpr ⟨(.tail _ (.tail _ (.tail _ (.tail _ (.tail _ (.tail _ (.tail _ (.tail _ (.head _))))))))), (List.forall_mem_cons.mpr ⟨(.tail _ (.tail _ (.tail _ (.tail _ (.tail _ (.tail _ (.tail _ (.tail _ (.tail _ (.head _)))))))))), (List.forall_mem_cons.mpr ⟨(.tail _ (.tail _ (.tail _ (.tail _ (.tail _ (.tail _ (.tail _ (.tail _ (.tail _ (.tail _ (.tail _ (.head _)))))))))))), (List.forall_mem_cons.mpr ⟨(.tail _ (.tail _ (.tail _ (.tail _ (.tail _ (.tail _ (.tail _ (.tail _ (.tail _ (.tail _ (.head _))))))))))), (List.forall_mem_cons.mpr ⟨(.tail _ (.tail _ (.tail _ (.tail _ (.head _))))), (fun p hp => (.tail _ (.tail _ (.tail _ (.tail _ (.tail _ (.tail _ (.tail _ (.tail _ (.tail _ (.tail _ (.tail _ (.tail _ (.tail _ (.tail _ (.tail _ (.tail _ (.tail _ (.tail _ (hsub p hp))))))))))))))))))))⟩)⟩)⟩)⟩)⟩)⟩)⟩)⟩)⟩)⟩)⟩)⟩)⟩)⟩)⟩)⟩)) ?_ (by assumption) (by assumption) (by assumption) (by assumption) (by omega) trivial
    exact ⟨⟨_, hc1⟩, hps.mono (fun p hp => (.tail _ (.tail _ (.tail _ (.tail _ (.tail _ hp)))))), (take_all (css := ((g0 ++ cods)) :: css) hlen).symm ▸ PiecesAll.cons (.head _) (.tail _ (.head _)) (.tail _ (.tail _ (.head _))) (IntsAre.append hi0 hci) (.tail _ (.tail _ (.tail _ (.head _)))) ((pieces_tail hP).mono (fun p hp => (.tail _ (.tail _ (.tail _ (.tail _ (.tail _ hp))))))), .cons (.tail _ (.tail _ (.tail _ (.tail _ (.head _))))) (IntsAre.append (by assumption) hci) ((lists_tail hO).mono (fun p hp => (.tail _ (.tail _ (.tail _ (.tail _ (.tail _ hp))))))),
      fun z hz => (List.mem_cons.mp hz).elim (fun e => by have := hBd g0 (.head _); rw [e, List.length_append]; omega) (fun hz => by have := hBd z (.tail _ hz); omega), by simp only [List.length_cons] at hlen ⊢; omega, by decide, .inr rfl,
      off5 (bad11 (off8d (by assumption) hbT (by k_ne) (by k_ne)) (by k_ne) (by k_ne) (by k_ne)) (bad11 (off8d (by assumption) hbT (by k_ne) (by k_ne)) (by k_ne) (by k_ne) (by k_ne)) (bad11 (off8d (by assumption) hbT (by k_ne) (by k_ne)) (by k_ne) (by k_ne) (by k_ne)) (bad11 (off8d (by assumption) hbT (by k_ne) (by k_ne)) (by k_ne) (by k_ne) (by k_ne)) (bad11 (off8d (by assumption) hbT (by k_ne) (by k_ne)) (by k_ne) (by k_ne) (by k_ne)), off5 (fun p hp => (by assumption : ∀ p ∈ T, p.1 ≠ _) p (hsub p hp)) (fun p hp => (by assumption : ∀ p ∈ T, p.1 ≠ _) p (hsub p hp)) (fun p hp => (by assumption : ∀ p ∈ T, p.1 ≠ _) p (hsub p hp)) (fun p hp => (by assumption : ∀ p ∈ T, p.1 ≠ _) p (hsub p hp)) (fun p hp => (by assumption : ∀ p ∈ T, p.1 ≠ _) p (hsub p hp)), bad10 hPA hPd (by k_ne), bad9 (off8d (by assumption) hbT (by k_ne) (by k_ne)) (by k_ne), hPT, (fun p hp => (by assumption : ∀ p ∈ T, p.1 ≠ _) p (hsub p hp))⟩
set_option maxHeartbeats 16000000 in
theorem S2_3c {st0 st1 st2 : Stmt} {px : Pos} {it : Expr} {t1 t2 t3 t4 : Stmt} {fpos : Pos} {st4 : Stmt} {sc : Scope} (hl : LawIs st0 st1 st2 px it t1 t2 t3 t4 fpos st4 sc) {w : World} {mean : ExcName → Option Value} {mg mb : Str → Option Value} {fa : Addr} {h₀ : Heap} {L : Addr} {m : Str → Option Value} {s : Shared} {Q : Flow → Shared → Prop} {E : Value → Shared → Prop} (B : Below callerA h₀ [] h₀) (X : (KK w).In h₀) (TT : Top topProg LSE mean mg mb h₀) (C : CodeHd h₀ 181 179) {D R dR P O : Addr} {a b : Addr} {k : Int} {tk : Tok} {nd na nb : Nat} {vs ws : List Value} {ns cs : List Int} {most last : Int} {ta tb tc td te tlast tmost : Tok} {np no : Nat} {o1 o2 o3 : Obj} {ps : Array Value} {T tl ml : List (Addr × Obj)} {pvs ovs : List Value} {g0 : List Int} {css : List (List Int)} {c : Addr} {ivs : List Value} {cods : List Int} {nc : Nat} {by9 : Int} {tw tb9 : Tok} {Bd : Nat}
    (F : Fr h₀ L s.heap (fun (y : Str) => if y = "codes" then some (.ref c) else (if y = "deck" then some (.ref D) else if y = "own" then some (.ref O) else if y = "last" then some (.int last tlast) else if y = "most" then some (.int most tmost) else m y)))
    (N : News h₀ L s.heap ((179, tabObj ps) :: T)) (mc : (c, listOf ivs.toArray nc) ∈ T) (mD : (D, listOf #[.ref a, .ref b, .int k tk] nd) ∈ T) (ma : (a, listOf vs.toArray na) ∈ T) (mb : (b, listOf ws.toArray nb) ∈ T) (m1 : (L + 1, o1) ∈ T) (m2 : (L + 1 + 1, o2) ∈ T) (m3 : (L + 1 + 1 + 1, o3) ∈ T) (mR : (R, instObj 126 dR) ∈ T) (md : (dR, dictOf [⟨PyData.keyHash w.params "most", .str "most" ta, .int most tb⟩, ⟨PyData.keyHash w.params "pieces", .str "pieces" tc, .ref P⟩, ⟨PyData.keyHash w.params "pointer", .str "pointer" td, .int last te⟩] 3) ∈ T) (mP : (P, listOf (pvs).toArray np) ∈ T) (mO : (O, listOf (ovs).toArray no) ∈ T) (hsub : ∀ p ∈ tl, p ∈ T) (hbT : ∀ X ∈ ([L + 1, L + 1 + 1, L + 1 + 1 + 1, R, D, a, b] : List Addr), ∃ o, (X, o) ∈ T)  (qt : ∀ p ∈ T, p.1 ≠ 179)
    (hv : IntsAre vs ns) (hns : ∀ n ∈ ns, 0 ≤ n) (hnl : ns.length < 2 ^ 20) (hw : IntsAre ws cs) (hcs : 0 < cs.length) (hcs2 : cs.length < 2 ^ 20) (hk0 : 0 ≤ k) (hk1 : k < 990)
    (hc1 : o1.data = .cell (some (.int by9 tb9))) (hc2 : o2.data = .cell (some (.ref R))) (hc3 : o3.data = .cell (some (.int 3 tw))) (hps : TabOk ⟨117, 25, 117, 65⟩ lamQ ps ml) (hmT : ∀ p ∈ ml, p ∈ T) (hml : ∀ p ∈ ml, p ∈ tl) (hbad : OffAll tl [L + 1, L + 1 + 1, L + 1 + 1 + 1, 179, R, dR, P, O, D, a, b])
    (hci : IntsAre ivs cods) (hcl1 : 1 ≤ cods.length) (hcl2 : cods.length ≤ 2) (hm1 : 1 ≤ most) (hm2 : most ≤ 4) (hb1 : -4 ≤ by9) (hb2 : by9 ≤ 4)
    (hP : PiecesAll w.params ml (pvs) (g0 :: css)) (hO : ListsAll ml (ovs) (g0 :: css)) (hpl : (pvs).length = (g0 :: css).length) (hol : (ovs).length = (g0 :: css).length) (hil : ivs.length ≤ 900) (hlen : ((g0 :: css).length : Int) ≤ most) (hBd : ∀ z ∈ (g0 :: css), z.length ≤ Bd) (hBd2 : Bd ≤ 100)
    (hl0 : 0 ≤ last) (hl2 : last < ((g0 :: css).length : Int) ∨ last = 0)
    (hcA : ∀ X ∈ ([L + 1, L + 1 + 1, L + 1 + 1 + 1, 179, R, D, a, b] : List Addr), @Ne Nat X c) (hcd : @Ne Nat dR c) (hcP : @Ne Nat P c) (hcT : ∀ p ∈ tl, p.1 ≠ c)
    (hPd : @Ne Nat dR P) (hPA : ∀ X ∈ ([L + 1, L + 1 + 1, L + 1 + 1 + 1, 179, R, D, a, b] : List Addr), @Ne Nat X P) (hPT : ∀ p ∈ tl, p.1 ≠ P) (hOP : @Ne Nat O P) (hOd : @Ne Nat dR O) (hOA : ∀ X ∈ ([L + 1, L + 1 + 1, L + 1 + 1 + 1, 179, R, D, a, b] : List Addr), @Ne Nat X O) (hOT : ∀ p ∈ tl, p.1 ≠ O) (hlen0 : 0 < (g0 :: css).length)
    (ret : ∀ (m' : Str → Option Value) (h' : Heap) (tt : Nat) (P' O' : Addr) (np' no' : Nat) (pvs' ovs' : List Value) (css2 : List (List Int)) (last' : Int) (add : List (Addr × Obj)) (o1' : Obj) (ps' : Array Value) (te' tl' tk' : Tok) (vs' : List Value) (ns' : List Int) (na' : Nat) (k' : Int), Fr h₀ L h' m' → m' "own" = some (.ref O') → m' "last" = some (.int last' tl') → m' "deck" = some (.ref D) → m' "most" = some (.int most tmost) →
      News h₀ L h' ((D, listOf #[.ref a, .ref b, .int k' tk'] nd) :: (a, listOf vs'.toArray na') :: (b, listOf ws.toArray nb) :: (L + 1, o1') :: (L + 1 + 1, o2) :: (L + 1 + 1 + 1, o3) :: (179, tabObj ps') :: (R, instObj 126 dR) :: (dR, dictOf [⟨PyData.keyHash w.params "most", .str "most" ta, .int most tb⟩, ⟨PyData.keyHash w.params "pieces", .str "pieces" tc, .ref P'⟩, ⟨PyData.keyHash w.params "pointer", .str "pointer" td, .int last' te'⟩] 3) :: (P', listOf pvs'.toArray np') :: (O', listOf ovs'.toArray no') :: (add ++ tl)) →
      Good2 w.params L D a b R dR most Bd tl ml P' O' pvs' ovs' css2 last' add o1' ps' → IntsAre vs' ns' → (∀ n ∈ ns', 0 ≤ n) → ns'.length < 2 ^ 20 → 0 ≤ k' → k' ≤ k + 1 → True → Q .next { s with heap := h', toks := tt }) :
    wpAny (model PRG w) (callerA.deeper (envOfC (Str.ofString "law") sc L fa (.ref 181))) (exec t2 (envOfC (Str.ofString "law") sc L fa (.ref 181))) Q E s := by
  obtain ⟨_, _, _, _, _, _, _, _, hl⟩ := hl
  cases hl
  unfold PRG
  unfold KK at X
  unfold LSE at TT
  revert X
  k_fill
  intro X
  k_with_none
  k_with "ite" => (k_here; k_openite; refine ite_neg (beq_no (by omega)) ?_)
  k_with "call type:list" => (k_here; (with_reducible show wpAny _ _ (call (Value.type _) [Value.ref _]) _ _ _); k_dflt (refine' ls_copy (by k_asm) (by k_asm) (by k_mem) (by omega) ?_); intro D' c' h' F' N' l1; (try k_lt l1); (try k_sweep))
  k_with "call builtin:len" => (k_here; (with_reducible show wpAny _ _ (call (Value.builtin "len") [Value.ref _]) _ _ _); k_dflt (refine' ls_lenE (by k_asm) (by k_mem) (by assumption) (by omega) ?_))
  k_with "subscriptTail" => (k_here; (with_reducible show wpAny _ _ (subscriptTail _ _ (Value.ref _) (Value.int _ _)) _ _ _); k_dflt (first | (refine' own_at (by k_asm) (by k_mem) (by assumption) (by assumption) (by first | omega | exact fm_lo (by omega)) (by first | omega | exact fm_hi (by omega)) (by omega) ?_ (by with_unfolding_all rfl); intro o1' iv1' n1' cs1' e1' a1' m1') | (refine' piece_at (by k_asm) (by k_mem) (by assumption) (by assumption) (by first | omega | exact fm_lo (by omega)) (by first | omega | exact fm_hi (by omega)) (by omega) ?_ (by with_unfolding_all rfl); intro x' dx' c' r' t1' t2' iv' n' n2' cs' e' a' m1' m2' m3' m4')))
  k_with "binaryOp Mod int int" => (k_here; refine mod_int' (by omega) ?_)
  k_with "call ref" => ((with_reducible show wpAny _ _ (call (.ref 151) _) _ _ _); k_dflt (refine' ck1_c (by k_asm) (by (try simp only [depth_deeper, depth_caller]); decide) (by k_asm) (by k_asm) (by k_asm) rfl rfl (by k_asm) (by k_mem) (by k_mem) (by k_mem) hP (by intro p hp; repeat (first | exact hmT p hp | apply List.Mem.tail)) hpl hlen0 (by omega) ?_); intro x9 dx9 c9 r9 t19 t29 iv9 n9 n29 cs9 h9 k9 e9 a9 m19 m29 m39 m49 F9 N9; (try dsimp only [List.cons_append, List.nil_append] at N9); (try dsimp only); (try k_fold); (try k_sweep))
  k_steps
  rename Fr _ _ _ _ => kF
  rename News _ _ _ _ => kN
  rename (∀ q ∈ (_ : List (Addr × Obj)), q = _) => ha1
  refine ret _ _ _ P O np no pvs ovs (g0 :: css) (last) _ _ _ _ _ _ _ _ _ _ kF rfl rfl rfl rfl (cb_drop kN (List.forall_mem_cons.mpr ⟨(.tail _ (.tail _ (.tail _ (.tail _ (.tail _ mD))))), (List.forall_mem_cons.mpr ⟨(.tail _ (.tail _ (.tail _ (.tail _ (.tail _ ma))))), (List.forall_mem_cons.mpr ⟨(.tail _ (.tail _ (.tail _ (.tail _ (.tail _ mb))))), (List.forall_mem_cons.mpr ⟨(.tail _ (.tail _ (.tail _ (.tail _ (.tail _ m1))))), (List.forall_mem_cons.mpr ⟨(.tail _ (.tail _ (.tail _ (.tail _ (.tail _ m2))))), (List.forall_mem_cons.mpr ⟨(.tail _ (.tail _ (.tail _ (.tail _ (.tail _ m3))))), (List.forall_mem_cons.mpr ⟨(.tail _ (.tail _ (.tail _ (.tail _ (.head _))))), (List.forall_mem_cons.mpr ⟨(.tail _ (.tail _ (.tail _ (.tail _ (.tail _ mR))))), (List.forall_mem_cons.mpr ⟨(.tail _ (.tail _ (.tail _ (.tail _ (.tail _ md))))), (List.forall_mem_cons.mpr ⟨(.tail _ (.tail _ (.tail _ (.tail _ (.tail _ mP))))), (List.forall_mem_cons.mpr ⟨(.tail _ (.tail _ (.tail _ (.tail _ (.tail _ mO))))), (fun p hp => (List.mem_append.mp hp).elim (fun h => by rw [ha1 p h]; exact (.tail _ (.tail _ (.head _)))) (fun hp => (.tail _ (.tail _ (.tail _ (.tail _ (.tail _ (hsub p hp))))))))⟩)⟩)⟩)⟩)⟩)⟩)⟩)⟩)⟩)⟩)⟩)) ?_ (by assumption) (by assumption) (by assumption) (by assumption) (by omega) trivial
  exact ⟨⟨_, hc1⟩, by assumption, (take_all hlen).symm ▸ hP.mono fun p hp => List.mem_append_right _ hp, hO.mono fun p hp => List.mem_append_right _ hp,
    fun z hz => by have := hBd z hz; omega, by omega, hl0, by rw [take_all hlen]; exact hl2, by assumption, by assumption, bad10 hPA hPd hOP, bad9 hOA hOd, hPT, hOT⟩
set_option maxHeartbeats 16000000 in
theorem S2_4c {st0 st1 st2 : Stmt} {px : Pos} {it : Expr} {t1 t2 t3 t4 : Stmt} {fpos : Pos} {st4 : Stmt} {sc : Scope} (hl : LawIs st0 st1 st2 px it t1 t2 t3 t4 fpos st4 sc) {w : World} {mean : ExcName → Option Value} {mg mb : Str → Option Value} {fa : Addr} {h₀ : Heap} {L : Addr} {m : Str → Option Value} {s : Shared} {Q : Flow → Shared → Prop} {E : Value → Shared → Prop} (B : Below callerA h₀ [] h₀) (X : (KK w).In h₀) (TT : Top topProg LSE mean mg mb h₀) (C : CodeHd h₀ 181 179) {D R dR P O : Addr} {a b : Addr} {k : Int} {tk : Tok} {nd na nb : Nat} {vs ws : List Value} {ns cs : List Int} {most last : Int} {ta tb tc td te tlast tmost : Tok} {np no : Nat} {o1 o2 o3 : Obj} {ps : Array Value} {T tl ml : List (Addr × Obj)} {pvs ovs : List Value} {g0 : List Int} {css : List (List Int)} {c : Addr} {ivs : List Value} {cods : List Int} {nc : Nat} {by9 : Int} {tw tb9 : Tok} {Bd : Nat}
    (F : Fr h₀ L s.heap (fun (y : Str) => if y = "codes" then some (.ref c) else (if y = "deck" then some (.ref D) else if y = "own" then some (.ref O) else if y = "last" then some (.int last tlast) else if y = "most" then some (.int most tmost) else m y)))
    (N : News h₀ L s.heap ((179, tabObj ps) :: (dR, dictOf [⟨PyData.keyHash w.params "most", .str "most" ta, .int most tb⟩, ⟨PyData.keyHash w.params "pieces", .str "pieces" tc, .ref P⟩, ⟨PyData.keyHash w.params "pointer", .str "pointer" td, .int last te⟩] 3) :: T)) (mc : (c, listOf ivs.toArray nc) ∈ T) (mD : (D, listOf #[.ref a, .ref b, .int k tk] nd) ∈ T) (ma : (a, listOf vs.toArray na) ∈ T) (mb : (b, listOf ws.toArray nb) ∈ T) (m1 : (L + 1, o1) ∈ T) (m2 : (L + 1 + 1, o2) ∈ T) (m3 : (L + 1 + 1 + 1, o3) ∈ T) (mR : (R, instObj 126 dR) ∈ T) (mP : (P, listOf (pvs).toArray np) ∈ T) (mO : (O, listOf (ovs).toArray no) ∈ T) (hsub : ∀ p ∈ tl, p ∈ T) (hbT : ∀ X ∈ ([L + 1, L + 1 + 1, L + 1 + 1 + 1, R, D, a, b] : List Addr), ∃ o, (X, o) ∈ T) (ntd : @Ne Nat 179 dR) (qt : ∀ p ∈ T, p.1 ≠ 179) (qd : ∀ p ∈ T, p.1 ≠ dR)
    (hv : IntsAre vs ns) (hns : ∀ n ∈ ns, 0 ≤ n) (hnl : ns.length < 2 ^ 20) (hw : IntsAre ws cs) (hcs : 0 < cs.length) (hcs2 : cs.length < 2 ^ 20) (hk0 : 0 ≤ k) (hk1 : k < 990)
    (hc1 : o1.data = .cell (some (.int by9 tb9))) (hc2 : o2.data = .cell (some (.ref R))) (hc3 : o3.data = .cell (some (.int 4 tw))) (hps : TabOk ⟨117, 25, 117, 65⟩ lamQ ps ml) (hmT : ∀ p ∈ ml, p ∈ T) (hml : ∀ p ∈ ml, p ∈ tl) (hbad : OffAll tl [L + 1, L + 1 + 1, L + 1 + 1 + 1, 179, R, dR, P, O, D, a, b])
    (hci : IntsAre ivs cods) (hcl1 : 1 ≤ cods.length) (hcl2 : cods.length ≤ 2) (hm1 : 1 ≤ most) (hm2 : most ≤ 4) (hb1 : -4 ≤ by9) (hb2 : by9 ≤ 4)
    (hP : PiecesAll w.params ml (pvs) (g0 :: css)) (hO : ListsAll ml (ovs) (g0 :: css)) (hpl : (pvs).length = (g0 :: css).length) (hol : (ovs).length = (g0 :: css).length) (hil : ivs.length ≤ 900) (hlen : ((g0 :: css).length : Int) ≤ most) (hBd : ∀ z ∈ (g0 :: css), z.length ≤ Bd) (hBd2 : Bd ≤ 100)
    (hl0 : 0 ≤ last) (hl2 : last < ((g0 :: css).length : Int) ∨ last = 0)
    (hcA : ∀ X ∈ ([L + 1, L + 1 + 1, L + 1 + 1 + 1, 179, R, D, a, b] : List Addr), @Ne Nat X c) (hcd : @Ne Nat dR c) (hcP : @Ne Nat P c) (hcT : ∀ p ∈ tl, p.1 ≠ c)
    (hPd : @Ne Nat dR P) (hPA : ∀ X ∈ ([L + 1, L + 1 + 1, L + 1 + 1 + 1, 179, R, D, a, b] : List Addr), @Ne Nat X P) (hPT : ∀ p ∈ tl, p.1 ≠ P) (hOP : @Ne Nat O P) (hOd : @Ne Nat dR O) (hOA : ∀ X ∈ ([L + 1, L + 1 + 1, L + 1 + 1 + 1, 179, R, D, a, b] : List Addr), @Ne Nat X O) (hOT : ∀ p ∈ tl, p.1 ≠ O) (hlen0 : 0 < (g0 :: css).length)
    (ret : ∀ (m' : Str → Option Value) (h' : Heap) (tt : Nat) (P' O' : Addr) (np' no' : Nat) (pvs' ovs' : List Value) (css2 : List (List Int)) (last' : Int) (add : List (Addr × Obj)) (o1' : Obj) (ps' : Array Value) (te' tl' tk' : Tok) (vs' : List Value) (ns' : List Int) (na' : Nat) (k' : Int), Fr h₀ L h' m' → m' "own" = some (.ref O') → m' "last" = some (.int last' tl') → m' "deck" = some (.ref D) → m' "most" = some (.int most tmost) →
      News h₀ L h' ((D, listOf #[.ref a, .ref b, .int k' tk'] nd) :: (a, listOf vs'.toArray na') :: (b, listOf ws.toArray nb) :: (L + 1, o1') :: (L + 1 + 1, o2) :: (L + 1 + 1 + 1, o3) :: (179, tabObj ps') :: (R, instObj 126 dR) :: (dR, dictOf [⟨PyData.keyHash w.params "most", .str "most" ta, .int most tb⟩, ⟨PyData.keyHash w.params "pieces", .str "pieces" tc, .ref P'⟩, ⟨PyData.keyHash w.params "pointer", .str "pointer" td, .int last' te'⟩] 3) :: (P', listOf pvs'.toArray np') :: (O', listOf ovs'.toArray no') :: (add ++ tl)) →
      Good2 w.params L D a b R dR most Bd tl ml P' O' pvs' ovs' css2 last' add o1' ps' → IntsAre vs' ns' → (∀ n ∈ ns', 0 ≤ n) → ns'.length < 2 ^ 20 → 0 ≤ k' → k' ≤ k + 1 → True → Q .next { s with heap := h', toks := tt }) :
    wpAny (model PRG w) (callerA.deeper (envOfC (Str.ofString "law") sc L fa (.ref 181))) (exec t2 (envOfC (Str.ofString "law") sc L fa (.ref 181))) Q E s := by
  obtain ⟨_, _, _, _, _, _, _, _, hl⟩ := hl
  cases hl
  unfold PRG
  unfold KK at X
  unfold LSE at TT
  revert X
  k_fill
  intro X
  k_with_none
  k_with "ite" => (k_here; k_openite; refine ite_neg (beq_no (by omega)) ?_)
  k_with "call type:list" => (k_here; (with_reducible show wpAny _ _ (call (Value.type _) [Value.ref _]) _ _ _); k_dflt (refine' ls_copy (by k_asm) (by k_asm) (by k_mem) (by omega) ?_); intro D' c' h' F' N' l1; (try k_lt l1); (try k_sweep))
  k_with "call builtin:len" => (k_here; (with_reducible show wpAny _ _ (call (Value.builtin "len") [Value.ref _]) _ _ _); k_dflt (refine' ls_lenE (by k_asm) (by k_mem) (by assumption) (by omega) ?_))
  k_with "subscriptTail" => (k_here; (with_reducible show wpAny _ _ (subscriptTail _ _ (Value.ref _) (Value.int _ _)) _ _ _); k_dflt (first | (refine' own_at (by k_asm) (by k_mem) (by assumption) (by assumption) (by first | omega | exact fm_lo (by omega)) (by first | omega | exact fm_hi (by omega)) (by omega) ?_ (by with_unfolding_all rfl); intro o1' iv1' n1' cs1' e1' a1' m1') | (refine' piece_at (by k_asm) (by k_mem) (by assumption) (by assumption) (by first | omega | exact fm_lo (by omega)) (by first | omega | exact fm_hi (by omega)) (by omega) ?_ (by with_unfolding_all rfl); intro x' dx' c' r' t1' t2' iv' n' n2' cs' e' a' m1' m2' m3' m4')))
  k_with "binaryOp Mod int int" => (k_here; refine mod_int' (by omega) ?_)
  k_with "call ref" => ((with_reducible show wpAny _ _ (call (.ref 151) _) _ _ _); k_dflt (refine' ck0_c (by k_asm) (by (try simp only [depth_deeper, depth_caller]); decide) (by k_asm) (by k_asm) (by k_asm) rfl rfl (cb_drop (by k_asm) (mem_pull [_, _, _, _])) (List.mem_append_right _ (by k_mem)) (List.mem_append_right _ (by k_mem)) (app_all (List.forall_mem_cons.mpr ⟨by k_ne, List.forall_mem_cons.mpr ⟨by k_ne, List.forall_mem_cons.mpr ⟨by k_ne, List.forall_mem_cons.mpr ⟨by k_ne, List.forall_mem_nil _⟩⟩⟩⟩) (by assumption)) hP (fun p hp => List.mem_append_right _ (hmT p hp)) hpl hlen0 (by omega) ?_); intro x9 dx9 c9 r9 t19 t29 iv9 n9 n29 cs9 h9 k9 te9 e9 a9 m19 m29 m39 m49 F9 N9; (try dsimp only [List.cons_append, List.nil_append] at N9); (try dsimp only); (try k_fold); (try k_sweep))
  k_steps
  rename Fr _ _ _ _ => kF
  rename News _ _ _ _ => kN
  rename (∀ q ∈ (_ : List (Addr × Obj)), q = _) => ha1
  refine ret _ _ _ P O np no pvs ovs (g0 :: css) ((last + by9).fmod ((g0 :: css).length : Int)) _ _ _ _ _ _ _ _ _ _ kF rfl rfl rfl rfl (cb_drop kN (List.forall_mem_cons.mpr ⟨(.tail _ (.tail _ (.tail _ (.tail _ (.tail _ (.tail _ mD)))))), (List.forall_mem_cons.mpr ⟨(.tail _ (.tail _ (.tail _ (.tail _ (.tail _ (.tail _ ma)))))), (List.forall_mem_cons.mpr ⟨(.tail _ (.tail _ (.tail _ (.tail _ (.tail _ (.tail _ mb)))))), (List.forall_mem_cons.mpr ⟨(.tail _ (.tail _ (.tail _ (.tail _ (.tail _ (.tail _ m1)))))), (List.forall_mem_cons.mpr ⟨(.tail _ (.tail _ (.tail _ (.tail _ (.tail _ (.tail _ m2)))))), (List.forall_mem_cons.mpr ⟨(.tail _ (.tail _ (.tail _ (.tail _ (.tail _ (.tail _ m3)))))), (List.forall_mem_cons.mpr ⟨(.tail _ (.tail _ (.tail _ (.tail _ (.tail _ (.head _)))))), (List.forall_mem_cons.mpr ⟨(.tail _ (.tail _ (.tail _ (.tail _ (.tail _ (.tail _ mR)))))), (List.forall_mem_cons.mpr ⟨(.tail _ (.head _)), (List.forall_mem_cons.mpr ⟨(.tail _ (.tail _ (.tail _ (.tail _ (.tail _ (.tail _ mP)))))), (List.forall_mem_cons.mpr ⟨(.tail _ (.tail _ (.tail _ (.tail _ (.tail _ (.tail _ mO)))))), (fun p hp => (List.mem_append.mp hp).elim (fun h => by rw [ha1 p h]; exact (.tail _ (.tail _ (.tail _ (.head _))))) (fun hp => (.tail _ (.tail _ (.tail _ (.tail _ (.tail _ (.tail _ (hsub p hp)))))))))⟩)⟩)⟩)⟩)⟩)⟩)⟩)⟩)⟩)⟩)⟩)) ?_ (by assumption) (by assumption) (by assumption) (by assumption) (by omega) trivial
  exact ⟨⟨_, hc1⟩, by assumption, (take_all hlen).symm ▸ hP.mono fun p hp => List.mem_append_right _ hp, hO.mono fun p hp => List.mem_append_right _ hp,
    fun z hz => by have := hBd z hz; omega, by omega, fm_lo (by omega), by rw [take_all hlen]; exact (.inl (fm_hi (by omega))), by assumption, by assumption, bad10 hPA hPd hOP, bad9 hOA hOd, hPT, hOT⟩
set_option maxHeartbeats 16000000 in
theorem S2_5c {st0 st1 st2 : Stmt} {px : Pos} {it : Expr} {t1 t2 t3 t4 : Stmt} {fpos : Pos} {st4 : Stmt} {sc : Scope} (hl : LawIs st0 st1 st2 px it t1 t2 t3 t4 fpos st4 sc) {w : World} {mean : ExcName → Option Value} {mg mb : Str → Option Value} {fa : Addr} {h₀ : Heap} {L : Addr} {m : Str → Option Value} {s : Shared} {Q : Flow → Shared → Prop} {E : Value → Shared → Prop} (B : Below callerA h₀ [] h₀) (X : (KK w).In h₀) (TT : Top topProg LSE mean mg mb h₀) (C : CodeHd h₀ 181 179) {D R dR P O : Addr} {a b : Addr} {k : Int} {tk : Tok} {nd na nb : Nat} {vs ws : List Value} {ns cs : List Int} {most last : Int} {ta tb tc td te tlast tmost : Tok} {np no : Nat} {o1 o2 o3 : Obj} {ps : Array Value} {T tl ml : List (Addr × Obj)} {pvs ovs : List Value} {g0 : List Int} {css : List (List Int)} {c : Addr} {ivs : List Value} {cods : List Int} {nc : Nat} {by9 : Int} {tw tb9 : Tok} {Bd : Nat}
    (F : Fr h₀ L s.heap (fun (y : Str) => if y = "codes" then some (.ref c) else (if y = "deck" then some (.ref D) else if y = "own" then some (.ref O) else if y = "last" then some (.int last tlast) else if y = "most" then some (.int most tmost) else m y)))
    (N : News h₀ L s.heap ((179, tabObj ps) :: (L + 1, o1) :: (dR, dictOf [⟨PyData.keyHash w.params "most", .str "most" ta, .int most tb⟩, ⟨PyData.keyHash w.params "pieces", .str "pieces" tc, .ref P⟩, ⟨PyData.keyHash w.params "pointer", .str "pointer" td, .int last te⟩] 3) :: T)) (mc : (c, listOf ivs.toArray nc) ∈ T) (mD : (D, listOf #[.ref a, .ref b, .int k tk] nd) ∈ T) (ma : (a, listOf vs.toArray na) ∈ T) (mb : (b, listOf ws.toArray nb) ∈ T) (m2 : (L + 1 + 1, o2) ∈ T) (m3 : (L + 1 + 1 + 1, o3) ∈ T) (mR : (R, instObj 126 dR) ∈ T) (mP : (P, listOf (pvs).toArray np) ∈ T) (mO : (O, listOf (ovs).toArray no) ∈ T) (hsub : ∀ p ∈ tl, p ∈ T) (hbT : ∀ X ∈ ([L + 1 + 1, L + 1 + 1 + 1, R, D, a, b] : List Addr), ∃ o, (X, o) ∈ T) (nt1 : @Ne Nat 179 (L + 1)) (ntd : @Ne Nat 179 dR) (n1d : @Ne Nat (L + 1) dR) (qt : ∀ p ∈ T, p.1 ≠ 179) (q1 : ∀ p ∈ T, p.1 ≠ (L + 1)) (qd : ∀ p ∈ T, p.1 ≠ dR)
    (hv : IntsAre vs ns) (hns : ∀ n ∈ ns, 0 ≤ n) (hnl : ns.length < 2 ^ 20) (hw : IntsAre ws cs) (hcs : 0 < cs.length) (hcs2 : cs.length < 2 ^ 20) (hk0 : 0 ≤ k) (hk1 : k < 990)
    (hc1 : o1.data = .cell (some (.int by9 tb9))) (hc2 : o2.data = .cell (some (.ref R))) (hc3 : o3.data = .cell (some (.int 5 tw))) (hps : TabOk ⟨117, 25, 117, 65⟩ lamQ ps ml) (hmT : ∀ p ∈ ml, p ∈ T) (hml : ∀ p ∈ ml, p ∈ tl) (hbad : OffAll tl [L + 1, L + 1 + 1, L + 1 + 1 + 1, 179, R, dR, P, O, D, a, b])
    (hci : IntsAre ivs cods) (hcl1 : 1 ≤ cods.length) (hcl2 : cods.length ≤ 2) (hm1 : 1 ≤ most) (hm2 : most ≤ 4) (hb1 : -4 ≤ by9) (hb2 : by9 ≤ 4)
    (hP : PiecesAll w.params ml (pvs) (g0 :: css)) (hO : ListsAll ml (ovs) (g0 :: css)) (hpl : (pvs).length = (g0 :: css).length) (hol : (ovs).length = (g0 :: css).length) (hil : ivs.length ≤ 900) (hlen : ((g0 :: css).length : Int) ≤ most) (hBd : ∀ z ∈ (g0 :: css), z.length ≤ Bd) (hBd2 : Bd ≤ 100)
    (hl0 : 0 ≤ last) (hl2 : last < ((g0 :: css).length : Int) ∨ last = 0)
    (hcA : ∀ X ∈ ([L + 1, L + 1 + 1, L + 1 + 1 + 1, 179, R, D, a, b] : List Addr), @Ne Nat X c) (hcd : @Ne Nat dR c) (hcP : @Ne Nat P c) (hcT : ∀ p ∈ tl, p.1 ≠ c)
    (hPd : @Ne Nat dR P) (hPA : ∀ X ∈ ([L + 1, L + 1 + 1, L + 1 + 1 + 1, 179, R, D, a, b] : List Addr), @Ne Nat X P) (hPT : ∀ p ∈ tl, p.1 ≠ P) (hOP : @Ne Nat O P) (hOd : @Ne Nat dR O) (hOA : ∀ X ∈ ([L + 1, L + 1 + 1, L + 1 + 1 + 1, 179, R, D, a, b] : List Addr), @Ne Nat X O) (hOT : ∀ p ∈ tl, p.1 ≠ O) (hlen0 : 0 < (g0 :: css).length)
    (ret : ∀ (m' : Str → Option Value) (h' : Heap) (tt : Nat) (P' O' : Addr) (np' no' : Nat) (pvs' ovs' : List Value) (css2 : List (List Int)) (last' : Int) (add : List (Addr × Obj)) (o1' : Obj) (ps' : Array Value) (te' tl' tk' : Tok) (vs' : List Value) (ns' : List Int) (na' : Nat) (k' : Int), Fr h₀ L h' m' → m' "own" = some (.ref O') → m' "last" = some (.int last' tl') → m' "deck" = some (.ref D) → m' "most" = some (.int most tmost) →
      News h₀ L h' ((D, listOf #[.ref a, .ref b, .int k' tk'] nd) :: (a, listOf vs'.toArray na') :: (b, listOf ws.toArray nb) :: (L + 1, o1') :: (L + 1 + 1, o2) :: (L + 1 + 1 + 1, o3) :: (179, tabObj ps') :: (R, instObj 126 dR) :: (dR, dictOf [⟨PyData.keyHash w.params "most", .str "most" ta, .int most tb⟩, ⟨PyData.keyHash w.params "pieces", .str "pieces" tc, .ref P'⟩, ⟨PyData.keyHash w.params "pointer", .str "pointer" td, .int last' te'⟩] 3) :: (P', listOf pvs'.toArray np') :: (O', listOf ovs'.toArray no') :: (add ++ tl)) →
      Good2 w.params L D a b R dR most Bd tl ml P' O' pvs' ovs' css2 last' add o1' ps' → IntsAre vs' ns' → (∀ n ∈ ns', 0 ≤ n) → ns'.length < 2 ^ 20 → 0 ≤ k' → k' ≤ k + 1 → True → Q .next { s with heap := h', toks := tt }) :
    wpAny (model PRG w) (callerA.deeper (envOfC (Str.ofString "law") sc L fa (.ref 181))) (exec t2 (envOfC (Str.ofString "law") sc L fa (.ref 181))) Q E s := by
  obtain ⟨_, _, _, _, _, _, _, _, hl⟩ := hl
  cases hl
  unfold PRG
  unfold KK at X
  unfold LSE at TT
  revert X
  k_fill
  intro X
  k_with_none
  k_with "ite" => (k_here; k_openite; refine ite_neg (beq_no (by omega)) ?_)
  k_with "call type:list" => (k_here; (with_reducible show wpAny _ _ (call (Value.type _) [Value.ref _]) _ _ _); k_dflt (refine' ls_copy (by k_asm) (by k_asm) (by k_mem) (by omega) ?_); intro D' c' h' F' N' l1; (try k_lt l1); (try k_sweep))
  k_with "call builtin:len" => (k_here; (with_reducible show wpAny _ _ (call (Value.builtin "len") [Value.ref _]) _ _ _); k_dflt (refine' ls_lenE (by k_asm) (by k_mem) (by assumption) (by omega) ?_))
  k_with "subscriptTail" => (k_here; (with_reducible show wpAny _ _ (subscriptTail _ _ (Value.ref _) (Value.int _ _)) _ _ _); k_dflt (first | (refine' own_at (by k_asm) (by k_mem) (by assumption) (by assumption) (by first | omega | exact fm_lo (by omega)) (by first | omega | exact fm_hi (by omega)) (by omega) ?_ (by with_unfolding_all rfl); intro o1' iv1' n1' cs1' e1' a1' m1') | (refine' piece_at (by k_asm) (by k_mem) (by assumption) (by assumption) (by first | omega | exact fm_lo (by omega)) (by first | omega | exact fm_hi (by omega)) (by omega) ?_ (by with_unfolding_all rfl); intro x' dx' c' r' t1' t2' iv' n' n2' cs' e' a' m1' m2' m3' m4')))
  k_with "binaryOp Mod int int" => (k_here; refine mod_int' (by omega) ?_)
  k_with "call ref" => ((with_reducible show wpAny _ _ (call (.ref 151) _) _ _ _); k_dflt (refine' ck0_c (by k_asm) (by (try simp only [depth_deeper, depth_caller]); decide) (by k_asm) (by k_asm) (by k_asm) rfl rfl (cb_drop (by k_asm) (mem_pull [_, _, _])) (List.mem_append_right _ (by k_mem)) (List.mem_append_right _ (by k_mem)) (app_all (List.forall_mem_cons.mpr ⟨by k_ne, List.forall_mem_cons.mpr ⟨by k_ne, List.forall_mem_cons.mpr ⟨by k_ne, List.forall_mem_nil _⟩⟩⟩) (by assumption)) hP (fun p hp => List.mem_append_right _ (hmT p hp)) hpl hlen0 (by omega) ?_); intro x9 dx9 c9 r9 t19 t29 iv9 n9 n29 cs9 h9 k9 te9 e9 a9 m19 m29 m39 m49 F9 N9; (try dsimp only [List.cons_append, List.nil_append] at N9); (try dsimp only); (try k_fold); (try k_sweep))
  k_with "call ref" => ((with_reducible show wpAny _ _ (call (.ref 151) _) _ _ _); k_dflt (refine' ck0_c (by k_asm) (by (try simp only [depth_deeper, depth_caller]); decide) (by k_asm) (by k_asm) (by k_asm) rfl rfl (cb_drop (by k_asm) (mem_pull [_, _, _, _])) (List.mem_append_right _ (by k_mem)) (List.mem_append_right _ (by k_mem)) (app_all (List.forall_mem_cons.mpr ⟨by k_ne, List.forall_mem_cons.mpr ⟨by k_ne, List.forall_mem_cons.mpr ⟨by k_ne, List.forall_mem_cons.mpr ⟨by k_ne, List.forall_mem_nil _⟩⟩⟩⟩) (by assumption)) hP (fun p hp => List.mem_append_right _ (hmT p hp)) hpl hlen0 (by omega) ?_); intro x9 dx9 c9 r9 t19 t29 iv9 n9 n29 cs9 h9 k9 te9 e9 a9 m19 m29 m39 m49 F9 N9; (try dsimp only [List.cons_append, List.nil_append] at N9); (try dsimp only); (try k_fold); (try k_sweep))
  have hk5 : ((last + by9).fmod ((g0 :: css).length : Int) + 0).fmod ((g0 :: css).length : Int) = (last + by9).fmod ((g0 :: css).length : Int) := fm_again (by omega)
  k_steps
  rename Fr _ _ _ _ => kF
  rename News _ _ _ _ => kN
  rename (∀ q ∈ (_ : List (Addr × Obj)), q = _) => ha1
  rw [hk5] at kN
  refine ret _ _ _ P O np no pvs ovs (g0 :: css) ((last + by9).fmod ((g0 :: css).length : Int)) _ _ _ _ _ _ _ _ _ _ kF rfl rfl rfl rfl (cb_drop kN (List.forall_mem_cons.mpr ⟨(.tail _ (.tail _ (.tail _ (.tail _ (.tail _ (.tail _ (.tail _ (.tail _ (.tail _ mD))))))))), (List.forall_mem_cons.mpr ⟨(.tail _ (.tail _ (.tail _ (.tail _ (.tail _ (.tail _ (.tail _ (.tail _ (.tail _ ma))))))))), (List.forall_mem_cons.mpr ⟨(.tail _ (.tail _ (.tail _ (.tail _ (.tail _ (.tail _ (.tail _ (.tail _ (.tail _ mb))))))))), (List.forall_mem_cons.mpr ⟨(.tail _ (.tail _ (.tail _ (.tail _ (.tail _ (.tail _ (.tail _ (.tail _ (.head _))))))))), (List.forall_mem_cons.mpr ⟨(.tail _ (.tail _ (.tail _ (.tail _ (.tail _ (.tail _ (.tail _ (.tail _ (.tail _ m2))))))))), (List.forall_mem_cons.mpr ⟨(.tail _ (.tail _ (.tail _ (.tail _ (.tail _ (.tail _ (.tail _ (.tail _ (.tail _ m3))))))))), (List.forall_mem_cons.mpr ⟨(.tail _ (.tail _ (.tail _ (.tail _ (.tail _ (.tail _ (.tail _ (.head _)))))))), (List.forall_mem_cons.mpr ⟨(.tail _ (.tail _ (.tail _ (.tail _ (.tail _ (.tail _ (.tail _ (.tail _ (.tail _ mR))))))))), (List.forall_mem_cons.mpr ⟨(.tail _ (.tail _ (.tail _ (.tail _ (.head _))))), (List.forall_mem_cons.mpr ⟨(.tail _ (.tail _ (.tail _ (.tail _ (.tail _ (.tail _ (.tail _ (.tail _ (.tail _ mP))))))))), (List.forall_mem_cons.mpr ⟨(.tail _ (.tail _ (.tail _ (.tail _ (.tail _ (.tail _ (.tail _ (.tail _ (.tail _ mO))))))))), (fun p hp => (List.mem_append.mp hp).elim (fun h => by rw [ha1 p h]; exact (.tail _ (.tail _ (.head _)))) (fun hp => (.tail _ (.tail _ (.tail _ (.tail _ (.tail _ (.tail _ (.tail _ (.tail _ (.tail _ (hsub p hp))))))))))))⟩)⟩)⟩)⟩)⟩)⟩)⟩)⟩)⟩)⟩)⟩)) ?_ (by assumption) (by assumption) (by assumption) (by assumption) (by omega) trivial
  exact ⟨⟨_, by assumption⟩, by assumption, (take_all hlen).symm ▸ hP.mono fun p hp => List.mem_append_right _ hp, hO.mono fun p hp => List.mem_append_right _ hp,
    fun z hz => by have := hBd z hz; omega, by omega, fm_lo (by omega), by rw [take_all hlen]; exact (.inl (fm_hi (by omega))), by assumption, by assumption, bad10 hPA hPd hOP, bad9 hOA hOd, hPT, hOT⟩
section
local macro_rules | `(tactic| walk_at "zz9") => `(tactic| fail "none")
local macro_rules | `(tactic| walk_at "exec If") => `(tactic| ((with_reducible show wpAny _ _ (exec (Stmt.If (Expr.BoolOp _ _ _) _ _ _) _) _ _ _); (fail_if_success (with_reducible show wpAny _ _ _ (CutP _ _ _ _ _) _ _)); (rename Fr _ _ _ _ => kF8); (rename News _ _ _ _ => kN8); refine' cut_fr kF8 kN8 ?cA ?cB; (case' cB => (intro h9 tk9 F9 N9; (try dsimp only); (try k_fold); (try k_sweep)))))
set_option maxHeartbeats 16000000 in
theorem S2_e {st0 st1 st2 : Stmt} {px : Pos} {it : Expr} {t1 t2 t3 t4 : Stmt} {fpos : Pos} {st4 : Stmt} {sc : Scope} (hl : LawIs st0 st1 st2 px it t1 t2 t3 t4 fpos st4 sc) {w : World} {mean : ExcName → Option Value} {mg mb : Str → Option Value} {fa : Addr} {h₀ : Heap} {L : Addr} {m : Str → Option Value} {s : Shared} {Q : Flow → Shared → Prop} {E : Value → Shared → Prop} (B : Below callerA h₀ [] h₀) (X : (KK w).In h₀) (TT : Top topProg LSE mean mg mb h₀) (C : CodeHd h₀ 181 179) {D R dR P O : Addr} {a b : Addr} {k : Int} {tk : Tok} {nd na nb : Nat} {vs ws : List Value} {ns cs : List Int} {most last : Int} {ta tb tc td te tlast tmost : Tok} {np no : Nat} {o1 o2 o3 : Obj} {ps : Array Value} {T tl ml : List (Addr × Obj)} {way : Int} {c : Addr} {ivs : List Value} {cods : List Int} {nc : Nat} {by9 : Int} {tw tb9 : Tok} {Bd : Nat}
    (F : Fr h₀ L s.heap (fun (y : Str) => if y = "codes" then some (.ref c) else (if y = "deck" then some (.ref D) else if y = "own" then some (.ref O) else if y = "last" then some (.int last tlast) else if y = "most" then some (.int most tmost) else m y)))
    (N : News h₀ L s.heap ((179, tabObj ps) :: T)) (mc : (c, listOf ivs.toArray nc) ∈ T) (mD : (D, listOf #[.ref a, .ref b, .int k tk] nd) ∈ T) (ma : (a, listOf vs.toArray na) ∈ T) (mb : (b, listOf ws.toArray nb) ∈ T) (m1 : (L + 1, o1) ∈ T) (m2 : (L + 1 + 1, o2) ∈ T) (m3 : (L + 1 + 1 + 1, o3) ∈ T) (mR : (R, instObj 126 dR) ∈ T) (md : (dR, dictOf [⟨PyData.keyHash w.params "most", .str "most" ta, .int most tb⟩, ⟨PyData.keyHash w.params "pieces", .str "pieces" tc, .ref P⟩, ⟨PyData.keyHash w.params "pointer", .str "pointer" td, .int last te⟩] 3) ∈ T) (mP : (P, listOf #[] np) ∈ T) (mO : (O, listOf #[] no) ∈ T) (hsub : ∀ p ∈ tl, p ∈ T) (hbT : ∀ X ∈ ([L + 1, L + 1 + 1, L + 1 + 1 + 1, R, D, a, b] : List Addr), ∃ o, (X, o) ∈ T)  (qt : ∀ p ∈ T, p.1 ≠ 179)
    (hv : IntsAre vs ns) (hns : ∀ n ∈ ns, 0 ≤ n) (hnl : ns.length < 2 ^ 20) (hw : IntsAre ws cs) (hcs : 0 < cs.length) (hcs2 : cs.length < 2 ^ 20) (hk0 : 0 ≤ k) (hk1 : k < 990)
    (hc1 : o1.data = .cell (some (.int by9 tb9))) (hc2 : o2.data = .cell (some (.ref R))) (hc3 : o3.data = .cell (some (.int way tw))) (hps : TabOk ⟨117, 25, 117, 65⟩ lamQ ps ml) (hmT : ∀ p ∈ ml, p ∈ T) (hml : ∀ p ∈ ml, p ∈ tl) (hbad : OffAll tl [L + 1, L + 1 + 1, L + 1 + 1 + 1, 179, R, dR, P, O, D, a, b])
    (hci : IntsAre ivs cods) (hcl1 : 1 ≤ cods.length) (hcl2 : cods.length ≤ 2) (hm1 : 1 ≤ most) (hm2 : most ≤ 4) (hb1 : -4 ≤ by9) (hb2 : by9 ≤ 4)
    (hP : PiecesAll w.params ml (([] : List Value)) (([] : List (List Int)))) (hO : ListsAll ml (([] : List Value)) (([] : List (List Int)))) (hpl : (([] : List Value)).length = (([] : List (List Int))).length) (hol : (([] : List Value)).length = (([] : List (List Int))).length) (hil : ivs.length ≤ 900) (hlen : ((([] : List (List Int))).length : Int) ≤ most) (hBd : ∀ z ∈ (([] : List (List Int))), z.length ≤ Bd) (hBd2 : Bd ≤ 100)
    (hl0 : 0 ≤ last) (hl2 : last < ((([] : List (List Int))).length : Int) ∨ last = 0)
    (hcA : ∀ X ∈ ([L + 1, L + 1 + 1, L + 1 + 1 + 1, 179, R, D, a, b] : List Addr), @Ne Nat X c) (hcd : @Ne Nat dR c) (hcP : @Ne Nat P c) (hcT : ∀ p ∈ tl, p.1 ≠ c)
    (hPd : @Ne Nat dR P) (hPA : ∀ X ∈ ([L + 1, L + 1 + 1, L + 1 + 1 + 1, 179, R, D, a, b] : List Addr), @Ne Nat X P) (hPT : ∀ p ∈ tl, p.1 ≠ P) (hOP : @Ne Nat O P) (hOd : @Ne Nat dR O) (hOA : ∀ X ∈ ([L + 1, L + 1 + 1, L + 1 + 1 + 1, 179, R, D, a, b] : List Addr), @Ne Nat X O) (hOT : ∀ p ∈ tl, p.1 ≠ O) (hlen0 : (0 : Int) ≤ most) (hw3 : 3 ≤ way) (hw5 : way ≤ 5)
    (ret : ∀ (m' : Str → Option Value) (h' : Heap) (tt : Nat) (P' O' : Addr) (np' no' : Nat) (pvs' ovs' : List Value) (css2 : List (List Int)) (last' : Int) (add : List (Addr × Obj)) (o1' : Obj) (ps' : Array Value) (te' tl' tk' : Tok) (vs' : List Value) (ns' : List Int) (na' : Nat) (k' : Int), Fr h₀ L h' m' → m' "own" = some (.ref O') → m' "last" = some (.int last' tl') → m' "deck" = some (.ref D) → m' "most" = some (.int most tmost) →
      News h₀ L h' ((D, listOf #[.ref a, .ref b, .int k' tk'] nd) :: (a, listOf vs'.toArray na') :: (b, listOf ws.toArray nb) :: (L + 1, o1') :: (L + 1 + 1, o2) :: (L + 1 + 1 + 1, o3) :: (179, tabObj ps') :: (R, instObj 126 dR) :: (dR, dictOf [⟨PyData.keyHash w.params "most", .str "most" ta, .int most tb⟩, ⟨PyData.keyHash w.params "pieces", .str "pieces" tc, .ref P'⟩, ⟨PyData.keyHash w.params "pointer", .str "pointer" td, .int last' te'⟩] 3) :: (P', listOf pvs'.toArray np') :: (O', listOf ovs'.toArray no') :: (add ++ tl)) →
      Good2 w.params L D a b R dR most Bd tl ml P' O' pvs' ovs' css2 last' add o1' ps' → IntsAre vs' ns' → (∀ n ∈ ns', 0 ≤ n) → ns'.length < 2 ^ 20 → 0 ≤ k' → k' ≤ k + 1 → True → Q .next { s with heap := h', toks := tt }) :
    wpAny (model PRG w) (callerA.deeper (envOfC (Str.ofString "law") sc L fa (.ref 181))) (exec t2 (envOfC (Str.ofString "law") sc L fa (.ref 181))) Q E s := by
  obtain ⟨_, _, _, _, _, _, _, _, hl⟩ := hl
  cases hl
  unfold PRG
  unfold KK at X
  unfold LSE at TT
  revert X
  k_fill
  intro X
  k_with_none
  k_with "ite" => (k_here; k_openite; refine ite_neg (beq_no (by omega)) ?_)
  k_with "call type:list" => (k_here; (with_reducible show wpAny _ _ (call (Value.type _) [Value.ref _]) _ _ _); k_dflt (refine' ls_copy (by k_asm) (by k_asm) (by k_mem) (by omega) ?_); intro D' c' h' F' N' l1; (try k_lt l1); (try k_sweep))
  k_with "exec Raise some none" => (k_here; k_dflt (refine' raise_own (by k_asm) (by k_is) (by rfl) (by rfl) ?_))
  k_with "call ref" => (k_here; (with_reducible show wpAny _ _ (call (.ref 31) _) _ _ _); k_dflt (refine' exc_make (by k_asm) (by k_asm) (by k_asm) (by k_is) (by kernel_rfl) (by k_is) (by k_is) ?_ (by size_fits)); intro e' t' h' F' N' l1; (try k_sweep))
  k_with "setAttr ref" => (k_here; k_dflt (first
  | (refine' exc_set0 (by k_asm) (by k_asm) (by k_asm) (by assumption) (by k_is) (by k_is) (by rfl) (by rfl) (by k_is) ?_; intro d' h' F' N' l1 l2; (try k_sweep))
  | (refine' exc_set1 (by k_asm) (by k_asm) (by k_asm) (by assumption) (by assumption) (by k_is) (by k_is) (by rfl) (by rfl) (by k_is) (by decide) ?_; intro od' h' F' N'; (try k_sweep))))
  k_with "RaiseOk" => ((rename News _ _ _ _ => kN); refine ⟨_, _, _, _, rfl, (by k_in), (kN _ (.head _)).1, ?_⟩)
  k_with "leaving ref" => (k_here; first
  | (k_dflt (refine' leave_own_on (by assumption) (by assumption) (by assumption) (by assumption) rfl ?_); intro h' R' U'; (try dsimp only at R' U' ⊢))
  | (k_dflt (refine' leave_exc (by assumption) (by k_asm) (by k_asm) (by assumption) rfl rfl ?_); intro h' R' U'; (try dsimp only at R' U' ⊢)))
  k_with "call ref" => (k_here; (with_reducible show wpAny _ _ (call (.ref 177) _) _ _ _); k_dflt (refine wpAny_call ?_; (refine' code_try (by k_asm) (by k_asm) (by k_asm) (by k_asm) (by k_asm) (by exact rfl) (by exact rfl) (by exact rfl) (by k_is) (by k_is) (by k_room) (by exact BindsTo.of_eq rfl) (by exact locs rfl) ?_ (by exact rfl) (by exact rfl) (by exact rfl) (by decide); k_whole; intro g' L' h' FG' F' N' B' X' T' D'; (try dsimp only); (try k_fold))))
  k_steps
  · rename Fr _ _ _ _ => kF
    rename News _ _ _ _ => kN
    rename (∀ q ∈ (_ : List (Addr × Obj)), q = _) => ha1
    refine ret _ _ _ P O np no [] [] [] (last) _ _ _ _ _ _ _ _ _ _ kF rfl rfl rfl rfl (cb_drop kN (List.forall_mem_cons.mpr ⟨(.tail _ (.tail _ (.tail _ (.tail _ (.tail _ (.tail _ mD)))))), (List.forall_mem_cons.mpr ⟨(.tail _ (.tail _ (.tail _ (.tail _ (.tail _ (.tail _ ma)))))), (List.forall_mem_cons.mpr ⟨(.tail _ (.tail _ (.tail _ (.tail _ (.tail _ (.tail _ mb)))))), (List.forall_mem_cons.mpr ⟨(.tail _ (.tail _ (.tail _ (.tail _ (.tail _ (.tail _ m1)))))), (List.forall_mem_cons.mpr ⟨(.tail _ (.tail _ (.tail _ (.tail _ (.tail _ (.tail _ m2)))))), (List.forall_mem_cons.mpr ⟨(.tail _ (.tail _ (.tail _ (.tail _ (.tail _ (.tail _ m3)))))), (List.forall_mem_cons.mpr ⟨(.tail _ (.tail _ (.tail _ (.tail _ (.tail _ (.head _)))))), (List.forall_mem_cons.mpr ⟨(.tail _ (.tail _ (.tail _ (.tail _ (.tail _ (.tail _ mR)))))), (List.forall_mem_cons.mpr ⟨(.tail _ (.tail _ (.tail _ (.tail _ (.tail _ (.tail _ md)))))), (List.forall_mem_cons.mpr ⟨(.tail _ (.tail _ (.tail _ (.tail _ (.tail _ (.tail _ mP)))))), (List.forall_mem_cons.mpr ⟨(.tail _ (.tail _ (.tail _ (.tail _ (.tail _ (.tail _ mO)))))), (fun p hp => (List.mem_append.mp hp).elim (fun h => by rw [ha1 p h]; exact (.tail _ (.tail _ (.tail _ (.head _))))) (fun hp => (.tail _ (.tail _ (.tail _ (.tail _ (.tail _ (.tail _ (hsub p hp)))))))))⟩)⟩)⟩)⟩)⟩)⟩)⟩)⟩)⟩)⟩)⟩)) ?_ (by assumption) (by assumption) (by assumption) (by assumption) (by omega) trivial
    exact ⟨⟨_, hc1⟩, by assumption, (take_all hlen).symm ▸ hP.mono fun p hp => List.mem_append_right _ hp, hO.mono fun p hp => List.mem_append_right _ hp,
      fun z hz => by have := hBd z hz; omega, by simp, hl0, by rw [take_all hlen]; exact hl2, by assumption, by assumption, bad10 hPA hPd hOP, bad9 hOA hOd, hPT, hOT⟩
  · rename Fr _ _ _ _ => kF
    rename News _ _ _ _ => kN
    exact ⟨rfl, _, _, rfl, kF, cb_drop kN (by k_sub)⟩
  · rename Fr _ _ _ _ => kF
    rename News _ _ _ _ => kN
    exact ⟨rfl, _, _, rfl, kF, cb_drop kN (by k_sub)⟩
end
end
section
local macro_rules | `(tactic| k_steps) => `(tactic| repeat' (first | (k_unfold; (try dsimp only)) | (k_end; wrow_close) | (dsimp only; walk1) | walk1 | (leave1; walk_say "STEP leave1"; try dsimp only) | fail "no step"))
local macro_rules | `(tactic| k_all) => `(tactic| assumption)
local macro_rules | `(tactic| k_ne) => `(tactic| ((refine neN ?_); (try dsimp only); first | with_reducible assumption | (refine Ne.symm ?_; with_reducible assumption)))
local macro_rules | `(tactic| k_lt $h:ident) => `(tactic| ((have hT9 := $h; (repeat replace hT9 := lt_tail hT9); have hT8 := hT9; replace hT9 := ne_tail hT9); (replace $h := allLt_of $h); (simp only [AllLt, and_true] at $h:ident)))
local macro_rules | `(tactic| k_lt2 $h:ident) => `(tactic| ((replace $h := ltN $h); (have hT9 := ne_more (by assumption) $h)))
local macro_rules | `(tactic| walk_at "ite") => `(tactic| (k_here; k_openite; refine ite_neg (beq_no (by omega)) ?_))
local macro_rules | `(tactic| walk_at "callWith ref") => `(tactic| (k_here; k_dflt (first
  | refine' callWith_K ?k1 ?k2 ?_; (case k1 => k_asm); (case k2 => k_is); k_whole
  | refine' callWith_K0 ?k1 ?k2 ?_; (case k1 => k_in); (case k2 => k_is); k_whole)))
local macro_rules | `(tactic| walk_at "subscriptTail Name Slice ref ref") => `(tactic| (k_here; (with_reducible show wpAny _ _ (subscriptTail _ (PySem.Expr.Slice none (some _) none _) (Value.ref _) (Value.ref _)) _ _ _); k_dflt (refine' ls_upto ?F ?N ?m ?p ?z ?_ ?s ?t; (case F => k_asm); (case N => k_asm); (case m => k_mem); (case p => omega); (case z => first | assumption | decide | omega | ((simp only [List.length_append, List.length_cons, List.length_nil, List.length_drop, List.length_take]); omega)); (case s => with_unfolding_all rfl); (case t => kmk_pure)); intro D' h' F' N' l1; (try k_lt l1); (try k_sweep)))
local macro_rules | `(tactic| walk_at "call ref") => `(tactic| ((with_reducible show wpAny _ _ (call (.ref 170) _) _ _ _); k_dflt (first | (refine' draw_spec [] ?B ?F ?X ?T rfl rfl ?N ?d1 ?d2 ?d3 ?p1 ?p2 ?r1 ?r2 ?v ?hn ?hl ?w ?hc ?hc2 ?k0 ?k1 ?m1 ?m2 ?_; (case N => k_asm)) | (refine' draw_spec [_] ?B ?F ?X ?T rfl rfl ?N ?d1 ?d2 ?d3 ?p1 ?p2 ?r1 ?r2 ?v ?hn ?hl ?w ?hc ?hc2 ?k0 ?k1 ?m1 ?m2 ?_; (case N => k_asm)) | (refine' draw_spec [_, _] ?B ?F ?X ?T rfl rfl ?N ?d1 ?d2 ?d3 ?p1 ?p2 ?r1 ?r2 ?v ?hn ?hl ?w ?hc ?hc2 ?k0 ?k1 ?m1 ?m2 ?_; (case N => k_asm))); (case B => k_asm); (case F => k_asm); (case X => k_asm); (case T => k_asm); (case d1 => k_ne); (case d2 => k_ne); (case d3 => k_ne); (case p1 => k_all); (case p2 => k_all); (case r1 => k_all); (case r2 => k_all); (case v => assumption); (case hn => assumption); (case hl => assumption); (case w => assumption); (case hc => assumption); (case hc2 => assumption); (case k0 => omega); (case k1 => omega); (case m1 => decide); (case m2 => decide); intro r9 t9 u9 vs9 ns9 na9 k9 h9 tk9 hr0 hr1 hv9 hn9 hl9 hk0 hk1 F9 N9; (try simp only [List.nil_append, List.cons_append] at N9); (try dsimp only); (try k_fold)))
section
set_option maxHeartbeats 8000000 in
theorem S1 {st0 st1 st2 : Stmt} {px : Pos} {it : Expr} {t1 t2 t3 t4 : Stmt} {fpos : Pos} {st4 : Stmt} {sc : Scope} (hl : LawIs st0 st1 st2 px it t1 t2 t3 t4 fpos st4 sc) {w : World} {mean : ExcName → Option Value} {mg mb : Str → Option Value} {fa : Addr} {base h₀ : Heap} {L : Addr} {m : Str → Option Value} {s : Shared} {Q : Flow → Shared → Prop} {E : Value → Shared → Prop} (B : Below callerA base [] h₀) (X : (KK w).In h₀) (T : Top topProg LSE mean mg mb h₀) (C : CodeHd h₀ 181 179) {D a b R dR P O : Addr} {k most last : Int} {tk ta tb tc td te tlast tmost : Tok} {nd na nb np no : Nat} {vs ws pvs ovs : List Value} {ns cs : List Int} {o1 o2 o3 : Obj} {ps : Array Value} {tl : List (Addr × Obj)} {i : Int} {ti : Tok}
    (F : Fr h₀ L s.heap (fun (y : Str) => if y = "the_turn" then some (.int i ti) else (if y = "deck" then some (.ref D) else if y = "own" then some (.ref O) else if y = "last" then some (.int last tlast) else if y = "most" then some (.int most tmost) else m y)))
    (N : News h₀ L s.heap ((D, listOf #[.ref a, .ref b, .int k tk] nd) :: (a, listOf vs.toArray na) :: (b, listOf ws.toArray nb) :: (L + 1, o1) :: (L + 1 + 1, o2) :: (L + 1 + 1 + 1, o3) :: (179, tabObj ps) :: (R, instObj 126 dR) :: (dR, dictOf [⟨PyData.keyHash w.params "most", .str "most" ta, .int most tb⟩, ⟨PyData.keyHash w.params "pieces", .str "pieces" tc, .ref P⟩, ⟨PyData.keyHash w.params "pointer", .str "pointer" td, .int last te⟩] 3) :: (P, listOf pvs.toArray np) :: (O, listOf ovs.toArray no) :: tl)) (hv : IntsAre vs ns) (hns : ∀ n ∈ ns, 0 ≤ n) (hnl : ns.length < 2 ^ 20) (hw : IntsAre ws cs) (hcs : 0 < cs.length) (hcs2 : cs.length < 2 ^ 20) (hk0 : 0 ≤ k) (hk1 : k < 990) (hi0 : 0 ≤ i) (hi1 : i < 20) {w1 w3 : Option Value} (hc1 : o1.data = .cell w1) (hc3 : o3.data = .cell w3)
    (n1 : @Ne Nat D a) (n2 : @Ne Nat D b) (n3 : @Ne Nat D (L + 1)) (n4 : @Ne Nat D (L + 1 + 1)) (n5 : @Ne Nat D (L + 1 + 1 + 1)) (n6 : @Ne Nat D 179) (n7 : @Ne Nat D R) (n8 : @Ne Nat D dR) (n9 : @Ne Nat D P) (n10 : @Ne Nat D O) (n11 : @Ne Nat a b) (n12 : @Ne Nat a (L + 1)) (n13 : @Ne Nat a (L + 1 + 1)) (n14 : @Ne Nat a (L + 1 + 1 + 1)) (n15 : @Ne Nat a 179) (n16 : @Ne Nat a R) (n17 : @Ne Nat a dR) (n18 : @Ne Nat a P) (n19 : @Ne Nat a O) (n20 : @Ne Nat (L + 1) b) (n21 : @Ne Nat (L + 1) 179) (n22 : @Ne Nat (L + 1) R) (n23 : @Ne Nat (L + 1) dR) (n24 : @Ne Nat (L + 1) P) (n25 : @Ne Nat (L + 1) O) (n26 : @Ne Nat (L + 1 + 1 + 1) b) (n27 : @Ne Nat (L + 1 + 1 + 1) 179) (n28 : @Ne Nat (L + 1 + 1 + 1) R) (n29 : @Ne Nat (L + 1 + 1 + 1) dR) (n30 : @Ne Nat (L + 1 + 1 + 1) P) (n31 : @Ne Nat (L + 1 + 1 + 1) O) (q0 : ∀ p ∈ tl, p.1 ≠ D) (q1 : ∀ p ∈ tl, p.1 ≠ a) (q2 : ∀ p ∈ tl, p.1 ≠ (L + 1)) (q3 : ∀ p ∈ tl, p.1 ≠ (L + 1 + 1 + 1))
    (ret : ∀ (way by9 : Int) (p1 p3 : Obj) (c : Addr) (ivs : List Value) (cods : List Int) (nc : Nat) (k' : Int) (tk' tw tb9 : Tok) (vs' : List Value) (ns' : List Int) (na' : Nat) (h' : Heap) (tt : Nat), 0 ≤ way → way < 6 → -4 ≤ by9 → by9 ≤ 4 →
      p1.data = .cell (some (.int by9 tb9)) → p3.data = .cell (some (.int way tw)) → IntsAre ivs cods → 1 ≤ cods.length → cods.length ≤ 2 → (@LT.lt Nat _ D c ∧ @LT.lt Nat _ a c ∧ @LT.lt Nat _ b c ∧ @LT.lt Nat _ (L + 1) c ∧ @LT.lt Nat _ (L + 1 + 1) c ∧ @LT.lt Nat _ (L + 1 + 1 + 1) c ∧ @LT.lt Nat _ 179 c ∧ @LT.lt Nat _ R c ∧ @LT.lt Nat _ dR c ∧ @LT.lt Nat _ P c ∧ @LT.lt Nat _ O c) → (∀ p ∈ tl, p.1 ≠ c) → IntsAre vs' ns' → (∀ n ∈ ns', 0 ≤ n) → ns'.length < 2 ^ 20 → 0 ≤ k' →  k' ≤ k + 3 →
      Fr h₀ L h' (fun (y : Str) => if y = "codes" then some (.ref c) else if y = "the_turn" then some (.int i ti) else (if y = "deck" then some (.ref D) else if y = "own" then some (.ref O) else if y = "last" then some (.int last tlast) else if y = "most" then some (.int most tmost) else m y)) →
      News h₀ L h' ((c, listOf ivs.toArray nc) :: (D, listOf #[.ref a, .ref b, .int k' tk'] nd) :: (a, listOf vs'.toArray na') :: (b, listOf ws.toArray nb) :: (L + 1, p1) :: (L + 1 + 1, o2) :: (L + 1 + 1 + 1, p3) :: (179, tabObj ps) :: (R, instObj 126 dR) :: (dR, dictOf [⟨PyData.keyHash w.params "most", .str "most" ta, .int most tb⟩, ⟨PyData.keyHash w.params "pieces", .str "pieces" tc, .ref P⟩, ⟨PyData.keyHash w.params "pointer", .str "pointer" td, .int last te⟩] 3) :: (P, listOf pvs.toArray np) :: (O, listOf ovs.toArray no) :: tl) → Q .next { s with heap := h', toks := tt }) :
    wpAny (model PRG w) (callerA.deeper (envOfC (Str.ofString "law") sc L fa (.ref 181))) (exec t1 (envOfC (Str.ofString "law") sc L fa (.ref 181))) Q E s := by
  obtain ⟨_, _, _, _, _, _, _, _, hl⟩ := hl
  cases hl
  unfold PRG
  unfold KK at X
  unfold LSE at T
  revert X
  k_fill
  intro X
  k_with_none
  k_steps
  rename (_ ∧ D < _ ∧ a < _ ∧ _) => ltc
  rename_i hkk0 hkk1 qk' ek' Dt h1 hT1 lt1 h2 h3 p3 e3 h4 h5 p1 F' N' e1
  exact ret _ _ _ _ _ _ _ 0 _ _ _ _ _ _ _ _ _ (by assumption) (by assumption) (by omega) (by omega) e1 e3 (IntsAre.take (.cons _ _ (.cons _ _ .nil)) _) (by simp only [List.length_take, List.length_cons, List.length_nil]; omega) (by simp only [List.length_take, List.length_cons, List.length_nil]; omega) ⟨ltc.2.1, ltc.2.2.1, ltc.2.2.2.1, ltc.2.2.2.2.1, ltc.2.2.2.2.2.1, ltc.2.2.2.2.2.2.1, ltc.2.2.2.2.2.2.2.1, ltc.2.2.2.2.2.2.2.2.1, ltc.2.2.2.2.2.2.2.2.2.1, ltc.2.2.2.2.2.2.2.2.2.2.1, ltc.2.2.2.2.2.2.2.2.2.2.2.1⟩ (by assumption) (by assumption) (by assumption) (by assumption) (by assumption) (by omega) F' (cb_drop N' (List.forall_mem_cons.mpr ⟨(.tail _ (.head _)), (List.forall_mem_cons.mpr ⟨(.tail _ (.tail _ (.tail _ (.head _)))), (List.forall_mem_cons.mpr ⟨(.tail _ (.tail _ (.tail _ (.tail _ (.head _))))), (List.forall_mem_cons.mpr ⟨(.tail _ (.tail _ (.tail _ (.tail _ (.tail _ (.head _)))))), (List.forall_mem_cons.mpr ⟨(.tail _ (.tail _ (.tail _ (.tail _ (.tail _ (.tail _ (.head _))))))), (List.forall_mem_cons.mpr ⟨(.tail _ (.tail _ (.tail _ (.tail _ (.tail _ (.tail _ (.tail _ (.head _)))))))), (List.forall_mem_cons.mpr ⟨(.tail _ (.tail _ (.tail _ (.tail _ (.tail _ (.tail _ (.tail _ (.tail _ (.head _))))))))), (List.forall_mem_cons.mpr ⟨(.tail _ (.tail _ (.tail _ (.tail _ (.tail _ (.tail _ (.tail _ (.tail _ (.tail _ (.head _)))))))))), (List.forall_mem_cons.mpr ⟨(.tail _ (.tail _ (.tail _ (.tail _ (.tail _ (.tail _ (.tail _ (.tail _ (.tail _ (.tail _ (.head _))))))))))), (List.forall_mem_cons.mpr ⟨(.tail _ (.tail _ (.tail _ (.tail _ (.tail _ (.tail _ (.tail _ (.tail _ (.tail _ (.tail _ (.tail _ (.head _)))))))))))), (List.forall_mem_cons.mpr ⟨(.tail _ (.tail _ (.tail _ (.tail _ (.tail _ (.tail _ (.tail _ (.tail _ (.tail _ (.tail _ (.tail _ (.tail _ (.head _))))))))))))), (List.forall_mem_cons.mpr ⟨(.tail _ (.tail _ (.tail _ (.tail _ (.tail _ (.tail _ (.tail _ (.tail _ (.tail _ (.tail _ (.tail _ (.tail _ (.tail _ (.head _)))))))))))))), (fun p hp => (.tail _ (.tail _ (.tail _ (.tail _ (.tail _ (.tail _ (.tail _ (.tail _ (.tail _ (.tail _ (.tail _ (.tail _ (.tail _ (.tail _ hp)))))))))))))))⟩)⟩)⟩)⟩)⟩)⟩)⟩)⟩)⟩)⟩)⟩)⟩))
end
section
local macro_rules | `(tactic| k_mem) => `(tactic| first | assumption | exact mem_sub (by assumption) (by assumption))
local macro_rules | `(tactic| walk_at "ite") => `(tactic| (k_here; k_openite; refine ite_neg (bne_no rfl) ?_))
local macro_rules | `(tactic| walk_at "eval ListComp") => `(tactic| (k_here; k_dflt (refine LCg.ListComp_U (F₀ := by k_asm) (by with_unfolding_all rfl) (by decide) (by rfl) (by decide) (by rfl) ?_)))
local macro_rules | `(tactic| walk_at "CompSrc") => `(tactic| (k_here; k_dflt (refine LCg.CompSrc.ledger (by rfl) (by k_asm) (by k_asm) (by k_mem) (by rw [List.size_toArray, sizeLine_eq]; omega) ?_); intro g'; k_dflt (refine' pc_list ?hP (fun xa' dx' c' r' t1' t2' I' oI' C' oC' D' m' ys' h' tk' E' z1 z2 hC' hx' F' N' off' ne' => ?_) (fun ys' hY => ?_); (case hP => assumption))))
local macro_rules | `(tactic| walk_at "CompEnd") => `(tactic| ((rename Fr _ _ _ _ => kF); (rename News _ _ _ _ => kN); (rename LCg.Off3 _ _ _ _ => kO); k_dflt (exact ⟨_, _, _, rfl, kF, kN, kO, .inr ⟨_, by k_mem, rfl, _, rfl⟩, rfl, rfl⟩)))
local macro_rules | `(tactic| walk_at "compareOp NotEq ref ref") => `(tactic| (k_here; (with_reducible show wpAny _ _ (compareOp CmpOp.NotEq (Value.ref _) (Value.ref _)) _ _ _); k_dflt (refine' ll_ne_same ?N ?ma ?mb ?Da ?Db ?sb ?hu ?_; (case N => k_asm); (case ma => k_mem); (case mb => k_mem); (case Da => assumption); (case Db => assumption); (case sb => (intro p hp; k_mem)); (case hu => ke_room))))
set_option maxHeartbeats 16000000 in
theorem S34 {st0 st1 st2 : Stmt} {px : Pos} {it : Expr} {t1 t2 t3 t4 : Stmt} {fpos : Pos} {st4 : Stmt} {sc : Scope} (hl : LawIs st0 st1 st2 px it t1 t2 t3 t4 fpos st4 sc) {w : World} {mean : ExcName → Option Value} {mg mb : Str → Option Value} {fa : Addr} {h₀ : Heap} {L : Addr} {m : Str → Option Value} {s : Shared} {Q : Flow → Shared → Prop} {E : Value → Shared → Prop} (B : Below callerA h₀ [] h₀) (X : (KK w).In h₀) (T : Top topProg LSE mean mg mb h₀) (C : CodeHd h₀ 181 179) {D R dR P O : Addr} {most last : Int} {ta tb tc td te tlast tmost : Tok} {np no : Nat} {o1 o2 o3 : Obj} {ps : Array Value} {tl ml : List (Addr × Obj)} {pvs ovs : List Value} {css : List (List Int)}
    (F : Fr h₀ L s.heap (fun (y : Str) => if y = "deck" then some (.ref D) else if y = "own" then some (.ref O) else if y = "last" then some (.int last tlast) else if y = "most" then some (.int most tmost) else m y))
    (N : News h₀ L s.heap ((L + 1, o1) :: (L + 1 + 1, o2) :: (L + 1 + 1 + 1, o3) :: (179, tabObj ps) :: (R, instObj 126 dR) :: (dR, dictOf [⟨PyData.keyHash w.params "most", .str "most" ta, .int most tb⟩, ⟨PyData.keyHash w.params "pieces", .str "pieces" tc, .ref P⟩, ⟨PyData.keyHash w.params "pointer", .str "pointer" td, .int last te⟩] 3) :: (P, listOf pvs.toArray np) :: (O, listOf (ovs).toArray no) :: tl))
    (hc2 : o2.data = .cell (some (.ref R))) (hm1 : 1 ≤ most) (hm2 : most ≤ 4)
    (hP : PiecesAll w.params ml pvs (css.take most.toNat)) (hO : ListsAll ml ovs css) (hml : ∀ p ∈ ml, p ∈ tl) (hO2 : ListsAll ml (ovs.take most.toNat) (css.take most.toNat)) (hpl : pvs.length ≤ 900) (hol : ovs.length ≤ 900)
    (ret : ∀ (m' : Str → Option Value) (h' : Heap) (tt : Nat) (O' : Addr), Fr h₀ L h' m' → m' "own" = some (.ref O') → m' "last" = some (.int last tlast) → m' "deck" = some (.ref D) → m' "most" = some (.int most tmost) →
      News h₀ L h' ((L + 1, o1) :: (L + 1 + 1, o2) :: (L + 1 + 1 + 1, o3) :: (179, tabObj ps) :: (R, instObj 126 dR) :: (dR, dictOf [⟨PyData.keyHash w.params "most", .str "most" ta, .int most tb⟩, ⟨PyData.keyHash w.params "pieces", .str "pieces" tc, .ref P⟩, ⟨PyData.keyHash w.params "pointer", .str "pointer" td, .int last te⟩] 3) :: (P, listOf pvs.toArray np) :: (O', listOf (ovs.take most.toNat).toArray 0) :: tl) → (∀ X ∈ ([L + 1, L + 1 + 1, L + 1 + 1 + 1, 179, R, dR, P] : List Addr), @Ne Nat X O') → (∀ p ∈ tl, p.1 ≠ O') → Q .next { s with heap := h', toks := tt }) :
    wpAny (model PRG w) (callerA.deeper (envOfC (Str.ofString "law") sc L fa (.ref 181))) (execs [t3, t4] (envOfC (Str.ofString "law") sc L fa (.ref 181))) Q E s := by
  obtain ⟨_, _, _, _, _, _, _, _, hl⟩ := hl
  cases hl
  unfold PRG
  unfold KK at X
  unfold LSE at T
  revert X
  k_fill
  intro X
  k_with_none
  k_steps
  rename Fr _ _ _ _ => kF
  rename News _ _ _ _ => kN
  exact ret _ _ _ _ kF rfl rfl rfl rfl (cb_drop kN (List.forall_mem_cons.mpr ⟨(.tail _ (.tail _ (.head _))), (List.forall_mem_cons.mpr ⟨(.tail _ (.tail _ (.tail _ (.head _)))), (List.forall_mem_cons.mpr ⟨(.tail _ (.tail _ (.tail _ (.tail _ (.head _))))), (List.forall_mem_cons.mpr ⟨(.tail _ (.tail _ (.tail _ (.tail _ (.tail _ (.head _)))))), (List.forall_mem_cons.mpr ⟨(.tail _ (.tail _ (.tail _ (.tail _ (.tail _ (.tail _ (.head _))))))), (List.forall_mem_cons.mpr ⟨(.tail _ (.tail _ (.tail _ (.tail _ (.tail _ (.tail _ (.tail _ (.head _)))))))), (List.forall_mem_cons.mpr ⟨(.tail _ (.tail _ (.tail _ (.tail _ (.tail _ (.tail _ (.tail _ (.tail _ (.head _))))))))), (List.forall_mem_cons.mpr ⟨(.tail _ (.head _)), (fun p hp => (.tail _ (.tail _ (.tail _ (.tail _ (.tail _ (.tail _ (.tail _ (.tail _ (.tail _ (.tail _ hp)))))))))))⟩)⟩)⟩)⟩)⟩)⟩)⟩)⟩)) (by refine (List.forall_mem_cons.mpr ⟨?_, (List.forall_mem_cons.mpr ⟨?_, (List.forall_mem_cons.mpr ⟨?_, (List.forall_mem_cons.mpr ⟨?_, (List.forall_mem_cons.mpr ⟨?_, (List.forall_mem_cons.mpr ⟨?_, (List.forall_mem_cons.mpr ⟨?_, (List.forall_mem_nil _)⟩)⟩)⟩)⟩)⟩)⟩)⟩) <;> ((try dsimp only); first | with_reducible assumption | (refine Ne.symm ?_; with_reducible assumption) | omega)) (by ((try dsimp only); first | with_reducible assumption | assumption))
end
section
set_option maxHeartbeats 16000000 in
theorem S2_all {st0 st1 st2 : Stmt} {px : Pos} {it : Expr} {t1 t2 t3 t4 : Stmt} {fpos : Pos} {st4 : Stmt} {sc : Scope} (hl : LawIs st0 st1 st2 px it t1 t2 t3 t4 fpos st4 sc) {w : World} {mean : ExcName → Option Value} {mg mb : Str → Option Value} {fa : Addr} {h₀ : Heap} {L : Addr} {m : Str → Option Value} {s : Shared} {Q : Flow → Shared → Prop} {E : Value → Shared → Prop} (B : Below callerA h₀ [] h₀) (X : (KK w).In h₀) (T : Top topProg LSE mean mg mb h₀) (C : CodeHd h₀ 181 179) {D R dR P O : Addr} {a b : Addr} {k : Int} {tk : Tok} {nd na nb : Nat} {vs ws : List Value} {ns cs : List Int} {most last : Int} {ta tb tc td te tlast tmost : Tok} {np no : Nat} {o1 o2 o3 : Obj} {ps : Array Value} {tl ml : List (Addr × Obj)} {way : Int} {pvs ovs : List Value} {css : List (List Int)} {c : Addr} {ivs : List Value} {cods : List Int} {nc : Nat} {by9 : Int} {tw tb9 : Tok} {Bd : Nat}
    (F : Fr h₀ L s.heap (fun (y : Str) => if y = "codes" then some (.ref c) else (if y = "deck" then some (.ref D) else if y = "own" then some (.ref O) else if y = "last" then some (.int last tlast) else if y = "most" then some (.int most tmost) else m y)))
    (N : News h₀ L s.heap ((c, listOf ivs.toArray nc) :: (D, listOf #[.ref a, .ref b, .int k tk] nd) :: (a, listOf vs.toArray na) :: (b, listOf ws.toArray nb) :: (L + 1, o1) :: (L + 1 + 1, o2) :: (L + 1 + 1 + 1, o3) :: (179, tabObj ps) :: (R, instObj 126 dR) :: (dR, dictOf [⟨PyData.keyHash w.params "most", .str "most" ta, .int most tb⟩, ⟨PyData.keyHash w.params "pieces", .str "pieces" tc, .ref P⟩, ⟨PyData.keyHash w.params "pointer", .str "pointer" td, .int last te⟩] 3) :: (P, listOf (pvs).toArray np) :: (O, listOf (ovs).toArray no) :: tl)) (hv : IntsAre vs ns) (hns : ∀ n ∈ ns, 0 ≤ n) (hnl : ns.length < 2 ^ 20) (hw : IntsAre ws cs) (hcs : 0 < cs.length) (hcs2 : cs.length < 2 ^ 20) (hk0 : 0 ≤ k) (hk1 : k < 990)
    (hc1 : o1.data = .cell (some (.int by9 tb9))) (hc2 : o2.data = .cell (some (.ref R))) (hc3 : o3.data = .cell (some (.int way tw))) (hps : TabOk ⟨117, 25, 117, 65⟩ lamQ ps ml) (hml : ∀ p ∈ ml, p ∈ tl) (hbad : OffAll tl [L + 1, L + 1 + 1, L + 1 + 1 + 1, 179, R, dR, P, O, D, a, b])
    (hci : IntsAre ivs cods) (hcl1 : 1 ≤ cods.length) (hcl2 : cods.length ≤ 2) (hm1 : 1 ≤ most) (hm2 : most ≤ 4) (hb1 : -4 ≤ by9) (hb2 : by9 ≤ 4)
    (hP : PiecesAll w.params ml (pvs) (css)) (hO : ListsAll ml (ovs) (css)) (hpl : (pvs).length = (css).length) (hol : (ovs).length = (css).length) (hil : ivs.length ≤ 900) (hlen : ((css).length : Int) ≤ most) (hBd : ∀ z ∈ (css), z.length ≤ Bd) (hBd2 : Bd ≤ 100)
    (hl0 : 0 ≤ last) (hl2 : last < ((css).length : Int) ∨ last = 0)
    (n1 : @Ne Nat c D) (n2 : @Ne Nat c a) (n3 : @Ne Nat c b) (n4 : @Ne Nat c (L + 1)) (n5 : @Ne Nat c (L + 1 + 1)) (n6 : @Ne Nat c (L + 1 + 1 + 1)) (n7 : @Ne Nat c 179) (n8 : @Ne Nat c R) (n9 : @Ne Nat c dR) (n10 : @Ne Nat c P) (n11 : @Ne Nat c O) (n12 : @Ne Nat (L + 1) D) (n13 : @Ne Nat (L + 1) a) (n14 : @Ne Nat (L + 1) b) (n15 : @Ne Nat (L + 1) 179) (n16 : @Ne Nat (L + 1) R) (n17 : @Ne Nat (L + 1) dR) (n18 : @Ne Nat (L + 1) P) (n19 : @Ne Nat (L + 1) O) (n20 : @Ne Nat (L + 1 + 1) D) (n21 : @Ne Nat (L + 1 + 1) a) (n22 : @Ne Nat (L + 1 + 1) b) (n23 : @Ne Nat (L + 1 + 1) 179) (n24 : @Ne Nat (L + 1 + 1) R) (n25 : @Ne Nat (L + 1 + 1) dR) (n26 : @Ne Nat (L + 1 + 1) P) (n27 : @Ne Nat (L + 1 + 1) O) (n28 : @Ne Nat (L + 1 + 1 + 1) D) (n29 : @Ne Nat (L + 1 + 1 + 1) a) (n30 : @Ne Nat (L + 1 + 1 + 1) b) (n31 : @Ne Nat (L + 1 + 1 + 1) 179) (n32 : @Ne Nat (L + 1 + 1 + 1) R) (n33 : @Ne Nat (L + 1 + 1 + 1) dR) (n34 : @Ne Nat (L + 1 + 1 + 1) P) (n35 : @Ne Nat (L + 1 + 1 + 1) O) (n36 : @Ne Nat 179 D) (n37 : @Ne Nat 179 a) (n38 : @Ne Nat 179 b) (n39 : @Ne Nat 179 R) (n40 : @Ne Nat 179 dR) (n41 : @Ne Nat 179 P) (n42 : @Ne Nat 179 O) (n43 : @Ne Nat R D) (n44 : @Ne Nat R a) (n45 : @Ne Nat R b) (n46 : @Ne Nat R dR) (n47 : @Ne Nat R P) (n48 : @Ne Nat R O) (n49 : @Ne Nat dR D) (n50 : @Ne Nat dR a) (n51 : @Ne Nat dR b) (n52 : @Ne Nat dR P) (n53 : @Ne Nat dR O) (n54 : @Ne Nat P D) (n55 : @Ne Nat P a) (n56 : @Ne Nat P b) (n57 : @Ne Nat P O) (n58 : @Ne Nat O D) (n59 : @Ne Nat O a) (n60 : @Ne Nat O b) (n61 : @Ne Nat D a) (n62 : @Ne Nat D b) (n63 : @Ne Nat a b) (q0 : ∀ p ∈ tl, p.1 ≠ c) (q1 : ∀ p ∈ tl, p.1 ≠ (L + 1)) (q2 : ∀ p ∈ tl, p.1 ≠ (L + 1 + 1)) (q3 : ∀ p ∈ tl, p.1 ≠ (L + 1 + 1 + 1)) (q4 : ∀ p ∈ tl, p.1 ≠ 179) (q5 : ∀ p ∈ tl, p.1 ≠ R) (q6 : ∀ p ∈ tl, p.1 ≠ dR) (q7 : ∀ p ∈ tl, p.1 ≠ P) (q8 : ∀ p ∈ tl, p.1 ≠ O) (q9 : ∀ p ∈ tl, p.1 ≠ D) (q10 : ∀ p ∈ tl, p.1 ≠ a) (hw0 : 0 ≤ way) (hw6 : way < 6)
    (ret : ∀ (m' : Str → Option Value) (h' : Heap) (tt : Nat) (P' O' : Addr) (np' no' : Nat) (pvs' ovs' : List Value) (css2 : List (List Int)) (last' : Int) (add : List (Addr × Obj)) (o1' : Obj) (ps' : Array Value) (te' tl' tk' : Tok) (vs' : List Value) (ns' : List Int) (na' : Nat) (k' : Int), Fr h₀ L h' m' → m' "own" = some (.ref O') → m' "last" = some (.int last' tl') → m' "deck" = some (.ref D) → m' "most" = some (.int most tmost) →
      News h₀ L h' ((D, listOf #[.ref a, .ref b, .int k' tk'] nd) :: (a, listOf vs'.toArray na') :: (b, listOf ws.toArray nb) :: (L + 1, o1') :: (L + 1 + 1, o2) :: (L + 1 + 1 + 1, o3) :: (179, tabObj ps') :: (R, instObj 126 dR) :: (dR, dictOf [⟨PyData.keyHash w.params "most", .str "most" ta, .int most tb⟩, ⟨PyData.keyHash w.params "pieces", .str "pieces" tc, .ref P'⟩, ⟨PyData.keyHash w.params "pointer", .str "pointer" td, .int last' te'⟩] 3) :: (P', listOf pvs'.toArray np') :: (O', listOf ovs'.toArray no') :: (add ++ tl)) →
      Good2 w.params L D a b R dR most Bd tl ml P' O' pvs' ovs' css2 last' add o1' ps' → IntsAre vs' ns' → (∀ n ∈ ns', 0 ≤ n) → ns'.length < 2 ^ 20 → 0 ≤ k' → k' ≤ k + 1 → True → Q .next { s with heap := h', toks := tt }) :
    wpAny (model PRG w) (callerA.deeper (envOfC (Str.ofString "law") sc L fa (.ref 181))) (exec t2 (envOfC (Str.ofString "law") sc L fa (.ref 181))) Q E s := by
  have hcA : ∀ X ∈ ([L + 1, L + 1 + 1, L + 1 + 1 + 1, 179, R, D, a, b] : List Addr), @Ne Nat X c := (List.forall_mem_cons.mpr ⟨n4.symm, (List.forall_mem_cons.mpr ⟨n5.symm, (List.forall_mem_cons.mpr ⟨n6.symm, (List.forall_mem_cons.mpr ⟨n7.symm, (List.forall_mem_cons.mpr ⟨n8.symm, (List.forall_mem_cons.mpr ⟨n1.symm, (List.forall_mem_cons.mpr ⟨n2.symm, (List.forall_mem_cons.mpr ⟨n3.symm, (List.forall_mem_nil _)⟩)⟩)⟩)⟩)⟩)⟩)⟩)⟩)
  have hPA : ∀ X ∈ ([L + 1, L + 1 + 1, L + 1 + 1 + 1, 179, R, D, a, b] : List Addr), @Ne Nat X P := (List.forall_mem_cons.mpr ⟨n18, (List.forall_mem_cons.mpr ⟨n26, (List.forall_mem_cons.mpr ⟨n34, (List.forall_mem_cons.mpr ⟨n41, (List.forall_mem_cons.mpr ⟨n47, (List.forall_mem_cons.mpr ⟨n54.symm, (List.forall_mem_cons.mpr ⟨n55.symm, (List.forall_mem_cons.mpr ⟨n56.symm, (List.forall_mem_nil _)⟩)⟩)⟩)⟩)⟩)⟩)⟩)⟩)
  have hOA : ∀ X ∈ ([L + 1, L + 1 + 1, L + 1 + 1 + 1, 179, R, D, a, b] : List Addr), @Ne Nat X O := (List.forall_mem_cons.mpr ⟨n19, (List.forall_mem_cons.mpr ⟨n27, (List.forall_mem_cons.mpr ⟨n35, (List.forall_mem_cons.mpr ⟨n42, (List.forall_mem_cons.mpr ⟨n48, (List.forall_mem_cons.mpr ⟨n58.symm, (List.forall_mem_cons.mpr ⟨n59.symm, (List.forall_mem_cons.mpr ⟨n60.symm, (List.forall_mem_nil _)⟩)⟩)⟩)⟩)⟩)⟩)⟩)⟩)
  rcases (show way = 0 ∨ way = 1 ∨ way = 2 ∨ 3 ≤ way from by omega) with rfl | rfl | rfl | hw3
  · exact S2_0 (T := (c, listOf ivs.toArray nc) :: (D, listOf #[.ref a, .ref b, .int k tk] nd) :: (a, listOf vs.toArray na) :: (b, listOf ws.toArray nb) :: (L + 1, o1) :: (L + 1 + 1, o2) :: (L + 1 + 1 + 1, o3) :: (179, tabObj ps) :: (R, instObj 126 dR) :: (P, listOf (pvs).toArray np) :: (O, listOf (ovs).toArray no) :: tl) hl B X T C F (cb_drop N (List.forall_mem_cons.mpr ⟨(.tail _ (.tail _ (.tail _ (.tail _ (.tail _ (.tail _ (.tail _ (.tail _ (.tail _ (.head _)))))))))), (List.forall_mem_cons.mpr ⟨(.head _), (List.forall_mem_cons.mpr ⟨(.tail _ (.head _)), (List.forall_mem_cons.mpr ⟨(.tail _ (.tail _ (.head _))), (List.forall_mem_cons.mpr ⟨(.tail _ (.tail _ (.tail _ (.head _)))), (List.forall_mem_cons.mpr ⟨(.tail _ (.tail _ (.tail _ (.tail _ (.head _))))), (List.forall_mem_cons.mpr ⟨(.tail _ (.tail _ (.tail _ (.tail _ (.tail _ (.head _)))))), (List.forall_mem_cons.mpr ⟨(.tail _ (.tail _ (.tail _ (.tail _ (.tail _ (.tail _ (.head _))))))), (List.forall_mem_cons.mpr ⟨(.tail _ (.tail _ (.tail _ (.tail _ (.tail _ (.tail _ (.tail _ (.head _)))))))), (List.forall_mem_cons.mpr ⟨(.tail _ (.tail _ (.tail _ (.tail _ (.tail _ (.tail _ (.tail _ (.tail _ (.head _))))))))), (List.forall_mem_cons.mpr ⟨(.tail _ (.tail _ (.tail _ (.tail _ (.tail _ (.tail _ (.tail _ (.tail _ (.tail _ (.tail _ (.head _))))))))))), (List.forall_mem_cons.mpr ⟨(.tail _ (.tail _ (.tail _ (.tail _ (.tail _ (.tail _ (.tail _ (.tail _ (.tail _ (.tail _ (.tail _ (.head _)))))))))))), (fun p hp => (.tail _ (.tail _ (.tail _ (.tail _ (.tail _ (.tail _ (.tail _ (.tail _ (.tail _ (.tail _ (.tail _ (.tail _ hp)))))))))))))⟩)⟩)⟩)⟩)⟩)⟩)⟩)⟩)⟩)⟩)⟩)⟩)) (.head _) (.tail _ (.head _)) (.tail _ (.tail _ (.head _))) (.tail _ (.tail _ (.tail _ (.head _)))) (.tail _ (.tail _ (.tail _ (.tail _ (.head _))))) (.tail _ (.tail _ (.tail _ (.tail _ (.tail _ (.head _)))))) (.tail _ (.tail _ (.tail _ (.tail _ (.tail _ (.tail _ (.head _))))))) (.tail _ (.tail _ (.tail _ (.tail _ (.tail _ (.tail _ (.tail _ (.head _)))))))) (.tail _ (.tail _ (.tail _ (.tail _ (.tail _ (.tail _ (.tail _ (.tail _ (.head _))))))))) (.tail _ (.tail _ (.tail _ (.tail _ (.tail _ (.tail _ (.tail _ (.tail _ (.tail _ (.head _)))))))))) (.tail _ (.tail _ (.tail _ (.tail _ (.tail _ (.tail _ (.tail _ (.tail _ (.tail _ (.tail _ (.head _))))))))))) (fun p hp => (.tail _ (.tail _ (.tail _ (.tail _ (.tail _ (.tail _ (.tail _ (.tail _ (.tail _ (.tail _ (.tail _ hp)))))))))))) (List.forall_mem_cons.mpr ⟨⟨_, (.tail _ (.tail _ (.tail _ (.tail _ (.head _)))))⟩, (List.forall_mem_cons.mpr ⟨⟨_, (.tail _ (.tail _ (.tail _ (.tail _ (.tail _ (.head _))))))⟩, (List.forall_mem_cons.mpr ⟨⟨_, (.tail _ (.tail _ (.tail _ (.tail _ (.tail _ (.tail _ (.head _)))))))⟩, (List.forall_mem_cons.mpr ⟨⟨_, (.tail _ (.tail _ (.tail _ (.tail _ (.tail _ (.tail _ (.tail _ (.head _))))))))⟩, (List.forall_mem_cons.mpr ⟨⟨_, (.tail _ (.tail _ (.tail _ (.tail _ (.tail _ (.tail _ (.tail _ (.tail _ (.head _)))))))))⟩, (List.forall_mem_cons.mpr ⟨⟨_, (.tail _ (.head _))⟩, (List.forall_mem_cons.mpr ⟨⟨_, (.tail _ (.tail _ (.head _)))⟩, (List.forall_mem_cons.mpr ⟨⟨_, (.tail _ (.tail _ (.tail _ (.head _))))⟩, (List.forall_mem_nil _)⟩)⟩)⟩)⟩)⟩)⟩)⟩)⟩)  (List.forall_mem_cons.mpr ⟨n9, (List.forall_mem_cons.mpr ⟨n49.symm, (List.forall_mem_cons.mpr ⟨n50.symm, (List.forall_mem_cons.mpr ⟨n51.symm, (List.forall_mem_cons.mpr ⟨n17, (List.forall_mem_cons.mpr ⟨n25, (List.forall_mem_cons.mpr ⟨n33, (List.forall_mem_cons.mpr ⟨n40, (List.forall_mem_cons.mpr ⟨n46, (List.forall_mem_cons.mpr ⟨n52.symm, (List.forall_mem_cons.mpr ⟨n53.symm, q6⟩)⟩)⟩)⟩)⟩)⟩)⟩)⟩)⟩)⟩)⟩) hv hns hnl hw hcs hcs2 hk0 hk1 hc1 hc2 hc3 hps (fun p hp => (.tail _ (.tail _ (.tail _ (.tail _ (.tail _ (.tail _ (.tail _ (.tail _ (.tail _ (.tail _ (.tail _ (hml p hp))))))))))))) hml hbad hci hcl1 hcl2 hm1 hm2 hb1 hb2 hP hO hpl hol hil hlen hBd hBd2 hl0 hl2 hcA n9.symm n10.symm q0 n52 hPA q7 n57.symm n53 hOA q8  ret
  · cases css with
    | nil =>
      obtain rfl : pvs = [] := List.eq_nil_of_length_eq_zero hpl
      obtain rfl : ovs = [] := List.eq_nil_of_length_eq_zero hol
      exact S2_1n (T := (c, listOf ivs.toArray nc) :: (D, listOf #[.ref a, .ref b, .int k tk] nd) :: (a, listOf vs.toArray na) :: (b, listOf ws.toArray nb) :: (L + 1, o1) :: (L + 1 + 1, o2) :: (L + 1 + 1 + 1, o3) :: (179, tabObj ps) :: (R, instObj 126 dR) :: (P, listOf #[] np) :: (O, listOf #[] no) :: tl) hl B X T C F (cb_drop N (List.forall_mem_cons.mpr ⟨(.tail _ (.tail _ (.tail _ (.tail _ (.tail _ (.tail _ (.tail _ (.tail _ (.tail _ (.head _)))))))))), (List.forall_mem_cons.mpr ⟨(.head _), (List.forall_mem_cons.mpr ⟨(.tail _ (.head _)), (List.forall_mem_cons.mpr ⟨(.tail _ (.tail _ (.head _))), (List.forall_mem_cons.mpr ⟨(.tail _ (.tail _ (.tail _ (.head _)))), (List.forall_mem_cons.mpr ⟨(.tail _ (.tail _ (.tail _ (.tail _ (.head _))))), (List.forall_mem_cons.mpr ⟨(.tail _ (.tail _ (.tail _ (.tail _ (.tail _ (.head _)))))), (List.forall_mem_cons.mpr ⟨(.tail _ (.tail _ (.tail _ (.tail _ (.tail _ (.tail _ (.head _))))))), (List.forall_mem_cons.mpr ⟨(.tail _ (.tail _ (.tail _ (.tail _ (.tail _ (.tail _ (.tail _ (.head _)))))))), (List.forall_mem_cons.mpr ⟨(.tail _ (.tail _ (.tail _ (.tail _ (.tail _ (.tail _ (.tail _ (.tail _ (.head _))))))))), (List.forall_mem_cons.mpr ⟨(.tail _ (.tail _ (.tail _ (.tail _ (.tail _ (.tail _ (.tail _ (.tail _ (.tail _ (.tail _ (.head _))))))))))), (List.forall_mem_cons.mpr ⟨(.tail _ (.tail _ (.tail _ (.tail _ (.tail _ (.tail _ (.tail _ (.tail _ (.tail _ (.tail _ (.tail _ (.head _)))))))))))), (fun p hp => (.tail _ (.tail _ (.tail _ (.tail _ (.tail _ (.tail _ (.tail _ (.tail _ (.tail _ (.tail _ (.tail _ (.tail _ hp)))))))))))))⟩)⟩)⟩)⟩)⟩)⟩)⟩)⟩)⟩)⟩)⟩)⟩)) (.head _) (.tail _ (.head _)) (.tail _ (.tail _ (.head _))) (.tail _ (.tail _ (.tail _ (.head _)))) (.tail _ (.tail _ (.tail _ (.tail _ (.head _))))) (.tail _ (.tail _ (.tail _ (.tail _ (.tail _ (.head _)))))) (.tail _ (.tail _ (.tail _ (.tail _ (.tail _ (.tail _ (.head _))))))) (.tail _ (.tail _ (.tail _ (.tail _ (.tail _ (.tail _ (.tail _ (.head _)))))))) (.tail _ (.tail _ (.tail _ (.tail _ (.tail _ (.tail _ (.tail _ (.tail _ (.head _))))))))) (.tail _ (.tail _ (.tail _ (.tail _ (.tail _ (.tail _ (.tail _ (.tail _ (.tail _ (.head _)))))))))) (.tail _ (.tail _ (.tail _ (.tail _ (.tail _ (.tail _ (.tail _ (.tail _ (.tail _ (.tail _ (.head _))))))))))) (fun p hp => (.tail _ (.tail _ (.tail _ (.tail _ (.tail _ (.tail _ (.tail _ (.tail _ (.tail _ (.tail _ (.tail _ hp)))))))))))) (List.forall_mem_cons.mpr ⟨⟨_, (.tail _ (.tail _ (.tail _ (.tail _ (.head _)))))⟩, (List.forall_mem_cons.mpr ⟨⟨_, (.tail _ (.tail _ (.tail _ (.tail _ (.tail _ (.head _))))))⟩, (List.forall_mem_cons.mpr ⟨⟨_, (.tail _ (.tail _ (.tail _ (.tail _ (.tail _ (.tail _ (.head _)))))))⟩, (List.forall_mem_cons.mpr ⟨⟨_, (.tail _ (.tail _ (.tail _ (.tail _ (.tail _ (.tail _ (.tail _ (.head _))))))))⟩, (List.forall_mem_cons.mpr ⟨⟨_, (.tail _ (.tail _ (.tail _ (.tail _ (.tail _ (.tail _ (.tail _ (.tail _ (.head _)))))))))⟩, (List.forall_mem_cons.mpr ⟨⟨_, (.tail _ (.head _))⟩, (List.forall_mem_cons.mpr ⟨⟨_, (.tail _ (.tail _ (.head _)))⟩, (List.forall_mem_cons.mpr ⟨⟨_, (.tail _ (.tail _ (.tail _ (.head _))))⟩, (List.forall_mem_nil _)⟩)⟩)⟩)⟩)⟩)⟩)⟩)⟩)  (List.forall_mem_cons.mpr ⟨n9, (List.forall_mem_cons.mpr ⟨n49.symm, (List.forall_mem_cons.mpr ⟨n50.symm, (List.forall_mem_cons.mpr ⟨n51.symm, (List.forall_mem_cons.mpr ⟨n17, (List.forall_mem_cons.mpr ⟨n25, (List.forall_mem_cons.mpr ⟨n33, (List.forall_mem_cons.mpr ⟨n40, (List.forall_mem_cons.mpr ⟨n46, (List.forall_mem_cons.mpr ⟨n52.symm, (List.forall_mem_cons.mpr ⟨n53.symm, q6⟩)⟩)⟩)⟩)⟩)⟩)⟩)⟩)⟩)⟩)⟩) hv hns hnl hw hcs hcs2 hk0 hk1 hc1 hc2 hc3 hps (fun p hp => (.tail _ (.tail _ (.tail _ (.tail _ (.tail _ (.tail _ (.tail _ (.tail _ (.tail _ (.tail _ (.tail _ (hml p hp))))))))))))) hml hbad hci hcl1 hcl2 hm1 hm2 hb1 hb2 hP hO hpl hol hil hlen hBd hBd2 hl0 hl2 hcA n9.symm n10.symm q0 n52 hPA q7 n57.symm n53 hOA q8  ret
    | cons g0 css =>
      have hlen0 : 0 < (g0 :: css).length := Nat.succ_pos _
      obtain ⟨p0, pvs, rfl⟩ : ∃ p0 ps, pvs = p0 :: ps := List.exists_cons_of_length_pos (by rw [hpl]; exact hlen0)
      obtain ⟨v0, ovs, rfl⟩ : ∃ v0 vs, ovs = v0 :: vs := List.exists_cons_of_length_pos (by rw [hol]; exact hlen0)
      have hol1 : ovs.length ≤ 900 := by simp only [List.length_cons] at hol hlen; omega
      have hpl1 : pvs.length ≤ 900 := by simp only [List.length_cons] at hpl hlen; omega
      exact S2_1c (T := (c, listOf ivs.toArray nc) :: (D, listOf #[.ref a, .ref b, .int k tk] nd) :: (a, listOf vs.toArray na) :: (b, listOf ws.toArray nb) :: (L + 1, o1) :: (L + 1 + 1, o2) :: (L + 1 + 1 + 1, o3) :: (179, tabObj ps) :: (R, instObj 126 dR) :: (O, listOf (v0 :: ovs).toArray no) :: tl) hl B X T C F (cb_drop N (List.forall_mem_cons.mpr ⟨(.tail _ (.tail _ (.tail _ (.tail _ (.tail _ (.tail _ (.tail _ (.tail _ (.tail _ (.head _)))))))))), (List.forall_mem_cons.mpr ⟨(.tail _ (.tail _ (.tail _ (.tail _ (.tail _ (.tail _ (.tail _ (.tail _ (.tail _ (.tail _ (.head _))))))))))), (List.forall_mem_cons.mpr ⟨(.head _), (List.forall_mem_cons.mpr ⟨(.tail _ (.head _)), (List.forall_mem_cons.mpr ⟨(.tail _ (.tail _ (.head _))), (List.forall_mem_cons.mpr ⟨(.tail _ (.tail _ (.tail _ (.head _)))), (List.forall_mem_cons.mpr ⟨(.tail _ (.tail _ (.tail _ (.tail _ (.head _))))), (List.forall_mem_cons.mpr ⟨(.tail _ (.tail _ (.tail _ (.tail _ (.tail _ (.head _)))))), (List.forall_mem_cons.mpr ⟨(.tail _ (.tail _ (.tail _ (.tail _ (.tail _ (.tail _ (.head _))))))), (List.forall_mem_cons.mpr ⟨(.tail _ (.tail _ (.tail _ (.tail _ (.tail _ (.tail _ (.tail _ (.head _)))))))), (List.forall_mem_cons.mpr ⟨(.tail _ (.tail _ (.tail _ (.tail _ (.tail _ (.tail _ (.tail _ (.tail _ (.head _))))))))), (List.forall_mem_cons.mpr ⟨(.tail _ (.tail _ (.tail _ (.tail _ (.tail _ (.tail _ (.tail _ (.tail _ (.tail _ (.tail _ (.tail _ (.head _)))))))))))), (fun p hp => (.tail _ (.tail _ (.tail _ (.tail _ (.tail _ (.tail _ (.tail _ (.tail _ (.tail _ (.tail _ (.tail _ (.tail _ hp)))))))))))))⟩)⟩)⟩)⟩)⟩)⟩)⟩)⟩)⟩)⟩)⟩)⟩)) (.head _) (.tail _ (.head _)) (.tail _ (.tail _ (.head _))) (.tail _ (.tail _ (.tail _ (.head _)))) (.tail _ (.tail _ (.tail _ (.tail _ (.head _))))) (.tail _ (.tail _ (.tail _ (.tail _ (.tail _ (.head _)))))) (.tail _ (.tail _ (.tail _ (.tail _ (.tail _ (.tail _ (.head _))))))) (.tail _ (.tail _ (.tail _ (.tail _ (.tail _ (.tail _ (.tail _ (.head _)))))))) (.tail _ (.tail _ (.tail _ (.tail _ (.tail _ (.tail _ (.tail _ (.tail _ (.head _))))))))) (.tail _ (.tail _ (.tail _ (.tail _ (.tail _ (.tail _ (.tail _ (.tail _ (.tail _ (.head _)))))))))) (fun p hp => (.tail _ (.tail _ (.tail _ (.tail _ (.tail _ (.tail _ (.tail _ (.tail _ (.tail _ (.tail _ hp))))))))))) (List.forall_mem_cons.mpr ⟨⟨_, (.tail _ (.tail _ (.tail _ (.tail _ (.head _)))))⟩, (List.forall_mem_cons.mpr ⟨⟨_, (.tail _ (.tail _ (.tail _ (.tail _ (.tail _ (.head _))))))⟩, (List.forall_mem_cons.mpr ⟨⟨_, (.tail _ (.tail _ (.tail _ (.tail _ (.tail _ (.tail _ (.head _)))))))⟩, (List.forall_mem_cons.mpr ⟨⟨_, (.tail _ (.tail _ (.tail _ (.tail _ (.tail _ (.tail _ (.tail _ (.head _))))))))⟩, (List.forall_mem_cons.mpr ⟨⟨_, (.tail _ (.tail _ (.tail _ (.tail _ (.tail _ (.tail _ (.tail _ (.tail _ (.head _)))))))))⟩, (List.forall_mem_cons.mpr ⟨⟨_, (.tail _ (.head _))⟩, (List.forall_mem_cons.mpr ⟨⟨_, (.tail _ (.tail _ (.head _)))⟩, (List.forall_mem_cons.mpr ⟨⟨_, (.tail _ (.tail _ (.tail _ (.head _))))⟩, (List.forall_mem_nil _)⟩)⟩)⟩)⟩)⟩)⟩)⟩)⟩) n52 (List.forall_mem_cons.mpr ⟨n9, (List.forall_mem_cons.mpr ⟨n49.symm, (List.forall_mem_cons.mpr ⟨n50.symm, (List.forall_mem_cons.mpr ⟨n51.symm, (List.forall_mem_cons.mpr ⟨n17, (List.forall_mem_cons.mpr ⟨n25, (List.forall_mem_cons.mpr ⟨n33, (List.forall_mem_cons.mpr ⟨n40, (List.forall_mem_cons.mpr ⟨n46, (List.forall_mem_cons.mpr ⟨n53.symm, q6⟩)⟩)⟩)⟩)⟩)⟩)⟩)⟩)⟩)⟩) (List.forall_mem_cons.mpr ⟨n10, (List.forall_mem_cons.mpr ⟨n54.symm, (List.forall_mem_cons.mpr ⟨n55.symm, (List.forall_mem_cons.mpr ⟨n56.symm, (List.forall_mem_cons.mpr ⟨n18, (List.forall_mem_cons.mpr ⟨n26, (List.forall_mem_cons.mpr ⟨n34, (List.forall_mem_cons.mpr ⟨n41, (List.forall_mem_cons.mpr ⟨n47, (List.forall_mem_cons.mpr ⟨n57.symm, q7⟩)⟩)⟩)⟩)⟩)⟩)⟩)⟩)⟩)⟩) hv hns hnl hw hcs hcs2 hk0 hk1 hc1 hc2 hc3 hps (fun p hp => (.tail _ (.tail _ (.tail _ (.tail _ (.tail _ (.tail _ (.tail _ (.tail _ (.tail _ (.tail _ (hml p hp)))))))))))) hml hbad hci hcl1 hcl2 hm1 hm2 hb1 hb2 hP hO hpl hol hil hlen hBd hBd2 hl0 hl2 hcA n9.symm n10.symm q0 n52 hPA q7 n57.symm n53 hOA q8 hlen0 hol1 hpl1 ret
  · cases css with
    | nil =>
      obtain rfl : pvs = [] := List.eq_nil_of_length_eq_zero hpl
      obtain rfl : ovs = [] := List.eq_nil_of_length_eq_zero hol
      exact S2_2n (T := (c, listOf ivs.toArray nc) :: (b, listOf ws.toArray nb) :: (L + 1, o1) :: (L + 1 + 1, o2) :: (L + 1 + 1 + 1, o3) :: (179, tabObj ps) :: (R, instObj 126 dR) :: (P, listOf #[] np) :: (O, listOf #[] no) :: tl) hl B X T C F (cb_drop N (List.forall_mem_cons.mpr ⟨(.tail _ (.head _)), (List.forall_mem_cons.mpr ⟨(.tail _ (.tail _ (.head _))), (List.forall_mem_cons.mpr ⟨(.tail _ (.tail _ (.tail _ (.tail _ (.tail _ (.tail _ (.tail _ (.tail _ (.tail _ (.head _)))))))))), (List.forall_mem_cons.mpr ⟨(.head _), (List.forall_mem_cons.mpr ⟨(.tail _ (.tail _ (.tail _ (.head _)))), (List.forall_mem_cons.mpr ⟨(.tail _ (.tail _ (.tail _ (.tail _ (.head _))))), (List.forall_mem_cons.mpr ⟨(.tail _ (.tail _ (.tail _ (.tail _ (.tail _ (.head _)))))), (List.forall_mem_cons.mpr ⟨(.tail _ (.tail _ (.tail _ (.tail _ (.tail _ (.tail _ (.head _))))))), (List.forall_mem_cons.mpr ⟨(.tail _ (.tail _ (.tail _ (.tail _ (.tail _ (.tail _ (.tail _ (.head _)))))))), (List.forall_mem_cons.mpr ⟨(.tail _ (.tail _ (.tail _ (.tail _ (.tail _ (.tail _ (.tail _ (.tail _ (.head _))))))))), (List.forall_mem_cons.mpr ⟨(.tail _ (.tail _ (.tail _ (.tail _ (.tail _ (.tail _ (.tail _ (.tail _ (.tail _ (.tail _ (.head _))))))))))), (List.forall_mem_cons.mpr ⟨(.tail _ (.tail _ (.tail _ (.tail _ (.tail _ (.tail _ (.tail _ (.tail _ (.tail _ (.tail _ (.tail _ (.head _)))))))))))), (fun p hp => (.tail _ (.tail _ (.tail _ (.tail _ (.tail _ (.tail _ (.tail _ (.tail _ (.tail _ (.tail _ (.tail _ (.tail _ hp)))))))))))))⟩)⟩)⟩)⟩)⟩)⟩)⟩)⟩)⟩)⟩)⟩)⟩)) (.head _) (.tail _ (.head _)) (.tail _ (.tail _ (.head _))) (.tail _ (.tail _ (.tail _ (.head _)))) (.tail _ (.tail _ (.tail _ (.tail _ (.head _))))) (.tail _ (.tail _ (.tail _ (.tail _ (.tail _ (.head _)))))) (.tail _ (.tail _ (.tail _ (.tail _ (.tail _ (.tail _ (.head _))))))) (.tail _ (.tail _ (.tail _ (.tail _ (.tail _ (.tail _ (.tail _ (.head _)))))))) (.tail _ (.tail _ (.tail _ (.tail _ (.tail _ (.tail _ (.tail _ (.tail _ (.head _))))))))) (fun p hp => (.tail _ (.tail _ (.tail _ (.tail _ (.tail _ (.tail _ (.tail _ (.tail _ (.tail _ hp)))))))))) (List.forall_mem_cons.mpr ⟨⟨_, (.tail _ (.tail _ (.head _)))⟩, (List.forall_mem_cons.mpr ⟨⟨_, (.tail _ (.tail _ (.tail _ (.head _))))⟩, (List.forall_mem_cons.mpr ⟨⟨_, (.tail _ (.tail _ (.tail _ (.tail _ (.head _)))))⟩, (List.forall_mem_cons.mpr ⟨⟨_, (.tail _ (.tail _ (.tail _ (.tail _ (.tail _ (.head _))))))⟩, (List.forall_mem_cons.mpr ⟨⟨_, (.tail _ (.tail _ (.tail _ (.tail _ (.tail _ (.tail _ (.head _)))))))⟩, (List.forall_mem_cons.mpr ⟨⟨_, (.tail _ (.head _))⟩, (List.forall_mem_nil _)⟩)⟩)⟩)⟩)⟩)⟩) n61 n49.symm n50.symm (List.forall_mem_cons.mpr ⟨n1, (List.forall_mem_cons.mpr ⟨n62.symm, (List.forall_mem_cons.mpr ⟨n12, (List.forall_mem_cons.mpr ⟨n20, (List.forall_mem_cons.mpr ⟨n28, (List.forall_mem_cons.mpr ⟨n36, (List.forall_mem_cons.mpr ⟨n43, (List.forall_mem_cons.mpr ⟨n54, (List.forall_mem_cons.mpr ⟨n58, q9⟩)⟩)⟩)⟩)⟩)⟩)⟩)⟩)⟩) (List.forall_mem_cons.mpr ⟨n2, (List.forall_mem_cons.mpr ⟨n63.symm, (List.forall_mem_cons.mpr ⟨n13, (List.forall_mem_cons.mpr ⟨n21, (List.forall_mem_cons.mpr ⟨n29, (List.forall_mem_cons.mpr ⟨n37, (List.forall_mem_cons.mpr ⟨n44, (List.forall_mem_cons.mpr ⟨n55, (List.forall_mem_cons.mpr ⟨n59, q10⟩)⟩)⟩)⟩)⟩)⟩)⟩)⟩)⟩) (List.forall_mem_cons.mpr ⟨n9, (List.forall_mem_cons.mpr ⟨n51.symm, (List.forall_mem_cons.mpr ⟨n17, (List.forall_mem_cons.mpr ⟨n25, (List.forall_mem_cons.mpr ⟨n33, (List.forall_mem_cons.mpr ⟨n40, (List.forall_mem_cons.mpr ⟨n46, (List.forall_mem_cons.mpr ⟨n52.symm, (List.forall_mem_cons.mpr ⟨n53.symm, q6⟩)⟩)⟩)⟩)⟩)⟩)⟩)⟩)⟩) hv hns hnl hw hcs hcs2 hk0 hk1 hc1 hc2 hc3 hps (fun p hp => (.tail _ (.tail _ (.tail _ (.tail _ (.tail _ (.tail _ (.tail _ (.tail _ (.tail _ (hml p hp))))))))))) hml hbad hci hcl1 hcl2 hm1 hm2 hb1 hb2 hP hO hpl hol hil hlen hBd hBd2 hl0 hl2 hcA n9.symm n10.symm q0 n52 hPA q7 n57.symm n53 hOA q8  ret
    | cons g0 css =>
      have hlen0 : 0 < (g0 :: css).length := Nat.succ_pos _
      obtain ⟨p0, pvs, rfl⟩ : ∃ p0 ps, pvs = p0 :: ps := List.exists_cons_of_length_pos (by rw [hpl]; exact hlen0)
      obtain ⟨v0, ovs, rfl⟩ : ∃ v0 vs, ovs = v0 :: vs := List.exists_cons_of_length_pos (by rw [hol]; exact hlen0)
      have hol1 : ovs.length ≤ 900 := by simp only [List.length_cons] at hol hlen; omega
      have hpl1 : pvs.length ≤ 900 := by simp only [List.length_cons] at hpl hlen; omega
      exact S2_2c (T := (c, listOf ivs.toArray nc) :: (b, listOf ws.toArray nb) :: (L + 1, o1) :: (L + 1 + 1, o2) :: (L + 1 + 1 + 1, o3) :: (179, tabObj ps) :: (R, instObj 126 dR) :: (O, listOf (v0 :: ovs).toArray no) :: tl) hl B X T C F (cb_drop N (List.forall_mem_cons.mpr ⟨(.tail _ (.head _)), (List.forall_mem_cons.mpr ⟨(.tail _ (.tail _ (.head _))), (List.forall_mem_cons.mpr ⟨(.tail _ (.tail _ (.tail _ (.tail _ (.tail _ (.tail _ (.tail _ (.tail _ (.tail _ (.head _)))))))))), (List.forall_mem_cons.mpr ⟨(.tail _ (.tail _ (.tail _ (.tail _ (.tail _ (.tail _ (.tail _ (.tail _ (.tail _ (.tail _ (.head _))))))))))), (List.forall_mem_cons.mpr ⟨(.head _), (List.forall_mem_cons.mpr ⟨(.tail _ (.tail _ (.tail _ (.head _)))), (List.forall_mem_cons.mpr ⟨(.tail _ (.tail _ (.tail _ (.tail _ (.head _))))), (List.forall_mem_cons.mpr ⟨(.tail _ (.tail _ (.tail _ (.tail _ (.tail _ (.head _)))))), (List.forall_mem_cons.mpr ⟨(.tail _ (.tail _ (.tail _ (.tail _ (.tail _ (.tail _ (.head _))))))), (List.forall_mem_cons.mpr ⟨(.tail _ (.tail _ (.tail _ (.tail _ (.tail _ (.tail _ (.tail _ (.head _)))))))), (List.forall_mem_cons.mpr ⟨(.tail _ (.tail _ (.tail _ (.tail _ (.tail _ (.tail _ (.tail _ (.tail _ (.head _))))))))), (List.forall_mem_cons.mpr ⟨(.tail _ (.tail _ (.tail _ (.tail _ (.tail _ (.tail _ (.tail _ (.tail _ (.tail _ (.tail _ (.tail _ (.head _)))))))))))), (fun p hp => (.tail _ (.tail _ (.tail _ (.tail _ (.tail _ (.tail _ (.tail _ (.tail _ (.tail _ (.tail _ (.tail _ (.tail _ hp)))))))))))))⟩)⟩)⟩)⟩)⟩)⟩)⟩)⟩)⟩)⟩)⟩)⟩)) (.head _) (.tail _ (.head _)) (.tail _ (.tail _ (.head _))) (.tail _ (.tail _ (.tail _ (.head _)))) (.tail _ (.tail _ (.tail _ (.tail _ (.head _))))) (.tail _ (.tail _ (.tail _ (.tail _ (.tail _ (.head _)))))) (.tail _ (.tail _ (.tail _ (.tail _ (.tail _ (.tail _ (.head _))))))) (.tail _ (.tail _ (.tail _ (.tail _ (.tail _ (.tail _ (.tail _ (.head _)))))))) (fun p hp => (.tail _ (.tail _ (.tail _ (.tail _ (.tail _ (.tail _ (.tail _ (.tail _ hp))))))))) (List.forall_mem_cons.mpr ⟨⟨_, (.tail _ (.tail _ (.head _)))⟩, (List.forall_mem_cons.mpr ⟨⟨_, (.tail _ (.tail _ (.tail _ (.head _))))⟩, (List.forall_mem_cons.mpr ⟨⟨_, (.tail _ (.tail _ (.tail _ (.tail _ (.head _)))))⟩, (List.forall_mem_cons.mpr ⟨⟨_, (.tail _ (.tail _ (.tail _ (.tail _ (.tail _ (.head _))))))⟩, (List.forall_mem_cons.mpr ⟨⟨_, (.tail _ (.tail _ (.tail _ (.tail _ (.tail _ (.tail _ (.head _)))))))⟩, (List.forall_mem_cons.mpr ⟨⟨_, (.tail _ (.head _))⟩, (List.forall_mem_nil _)⟩)⟩)⟩)⟩)⟩)⟩) n61 n49.symm n54.symm n50.symm n55.symm n52 (List.forall_mem_cons.mpr ⟨n1, (List.forall_mem_cons.mpr ⟨n62.symm, (List.forall_mem_cons.mpr ⟨n12, (List.forall_mem_cons.mpr ⟨n20, (List.forall_mem_cons.mpr ⟨n28, (List.forall_mem_cons.mpr ⟨n36, (List.forall_mem_cons.mpr ⟨n43, (List.forall_mem_cons.mpr ⟨n58, q9⟩)⟩)⟩)⟩)⟩)⟩)⟩)⟩) (List.forall_mem_cons.mpr ⟨n2, (List.forall_mem_cons.mpr ⟨n63.symm, (List.forall_mem_cons.mpr ⟨n13, (List.forall_mem_cons.mpr ⟨n21, (List.forall_mem_cons.mpr ⟨n29, (List.forall_mem_cons.mpr ⟨n37, (List.forall_mem_cons.mpr ⟨n44, (List.forall_mem_cons.mpr ⟨n59, q10⟩)⟩)⟩)⟩)⟩)⟩)⟩)⟩) (List.forall_mem_cons.mpr ⟨n9, (List.forall_mem_cons.mpr ⟨n51.symm, (List.forall_mem_cons.mpr ⟨n17, (List.forall_mem_cons.mpr ⟨n25, (List.forall_mem_cons.mpr ⟨n33, (List.forall_mem_cons.mpr ⟨n40, (List.forall_mem_cons.mpr ⟨n46, (List.forall_mem_cons.mpr ⟨n53.symm, q6⟩)⟩)⟩)⟩)⟩)⟩)⟩)⟩) (List.forall_mem_cons.mpr ⟨n10, (List.forall_mem_cons.mpr ⟨n56.symm, (List.forall_mem_cons.mpr ⟨n18, (List.forall_mem_cons.mpr ⟨n26, (List.forall_mem_cons.mpr ⟨n34, (List.forall_mem_cons.mpr ⟨n41, (List.forall_mem_cons.mpr ⟨n47, (List.forall_mem_cons.mpr ⟨n57.symm, q7⟩)⟩)⟩)⟩)⟩)⟩)⟩)⟩) hv hns hnl hw hcs hcs2 hk0 hk1 hc1 hc2 hc3 hps (fun p hp => (.tail _ (.tail _ (.tail _ (.tail _ (.tail _ (.tail _ (.tail _ (.tail _ (hml p hp)))))))))) hml hbad hci hcl1 hcl2 hm1 hm2 hb1 hb2 hP hO hpl hol hil hlen hBd hBd2 hl0 hl2 hcA n9.symm n10.symm q0 n52 hPA q7 n57.symm n53 hOA q8 hlen0 hol1 hpl1 ret
  · cases css with
    | nil =>
      obtain rfl : pvs = [] := List.eq_nil_of_length_eq_zero hpl
      obtain rfl : ovs = [] := List.eq_nil_of_length_eq_zero hol
      exact S2_e (T := (c, listOf ivs.toArray nc) :: (D, listOf #[.ref a, .ref b, .int k tk] nd) :: (a, listOf vs.toArray na) :: (b, listOf ws.toArray nb) :: (L + 1, o1) :: (L + 1 + 1, o2) :: (L + 1 + 1 + 1, o3) :: (R, instObj 126 dR) :: (dR, dictOf [⟨PyData.keyHash w.params "most", .str "most" ta, .int most tb⟩, ⟨PyData.keyHash w.params "pieces", .str "pieces" tc, .ref P⟩, ⟨PyData.keyHash w.params "pointer", .str "pointer" td, .int last te⟩] 3) :: (P, listOf #[] np) :: (O, listOf #[] no) :: tl) hl B X T C F (cb_drop N (List.forall_mem_cons.mpr ⟨(.tail _ (.tail _ (.tail _ (.tail _ (.tail _ (.tail _ (.tail _ (.head _)))))))), (List.forall_mem_cons.mpr ⟨(.head _), (List.forall_mem_cons.mpr ⟨(.tail _ (.head _)), (List.forall_mem_cons.mpr ⟨(.tail _ (.tail _ (.head _))), (List.forall_mem_cons.mpr ⟨(.tail _ (.tail _ (.tail _ (.head _)))), (List.forall_mem_cons.mpr ⟨(.tail _ (.tail _ (.tail _ (.tail _ (.head _))))), (List.forall_mem_cons.mpr ⟨(.tail _ (.tail _ (.tail _ (.tail _ (.tail _ (.head _)))))), (List.forall_mem_cons.mpr ⟨(.tail _ (.tail _ (.tail _ (.tail _ (.tail _ (.tail _ (.head _))))))), (List.forall_mem_cons.mpr ⟨(.tail _ (.tail _ (.tail _ (.tail _ (.tail _ (.tail _ (.tail _ (.tail _ (.head _))))))))), (List.forall_mem_cons.mpr ⟨(.tail _ (.tail _ (.tail _ (.tail _ (.tail _ (.tail _ (.tail _ (.tail _ (.tail _ (.head _)))))))))), (List.forall_mem_cons.mpr ⟨(.tail _ (.tail _ (.tail _ (.tail _ (.tail _ (.tail _ (.tail _ (.tail _ (.tail _ (.tail _ (.head _))))))))))), (List.forall_mem_cons.mpr ⟨(.tail _ (.tail _ (.tail _ (.tail _ (.tail _ (.tail _ (.tail _ (.tail _ (.tail _ (.tail _ (.tail _ (.head _)))))))))))), (fun p hp => (.tail _ (.tail _ (.tail _ (.tail _ (.tail _ (.tail _ (.tail _ (.tail _ (.tail _ (.tail _ (.tail _ (.tail _ hp)))))))))))))⟩)⟩)⟩)⟩)⟩)⟩)⟩)⟩)⟩)⟩)⟩)⟩)) (.head _) (.tail _ (.head _)) (.tail _ (.tail _ (.head _))) (.tail _ (.tail _ (.tail _ (.head _)))) (.tail _ (.tail _ (.tail _ (.tail _ (.head _))))) (.tail _ (.tail _ (.tail _ (.tail _ (.tail _ (.head _)))))) (.tail _ (.tail _ (.tail _ (.tail _ (.tail _ (.tail _ (.head _))))))) (.tail _ (.tail _ (.tail _ (.tail _ (.tail _ (.tail _ (.tail _ (.head _)))))))) (.tail _ (.tail _ (.tail _ (.tail _ (.tail _ (.tail _ (.tail _ (.tail _ (.head _))))))))) (.tail _ (.tail _ (.tail _ (.tail _ (.tail _ (.tail _ (.tail _ (.tail _ (.tail _ (.head _)))))))))) (.tail _ (.tail _ (.tail _ (.tail _ (.tail _ (.tail _ (.tail _ (.tail _ (.tail _ (.tail _ (.head _))))))))))) (fun p hp => (.tail _ (.tail _ (.tail _ (.tail _ (.tail _ (.tail _ (.tail _ (.tail _ (.tail _ (.tail _ (.tail _ hp)))))))))))) (List.forall_mem_cons.mpr ⟨⟨_, (.tail _ (.tail _ (.tail _ (.tail _ (.head _)))))⟩, (List.forall_mem_cons.mpr ⟨⟨_, (.tail _ (.tail _ (.tail _ (.tail _ (.tail _ (.head _))))))⟩, (List.forall_mem_cons.mpr ⟨⟨_, (.tail _ (.tail _ (.tail _ (.tail _ (.tail _ (.tail _ (.head _)))))))⟩, (List.forall_mem_cons.mpr ⟨⟨_, (.tail _ (.tail _ (.tail _ (.tail _ (.tail _ (.tail _ (.tail _ (.head _))))))))⟩, (List.forall_mem_cons.mpr ⟨⟨_, (.tail _ (.head _))⟩, (List.forall_mem_cons.mpr ⟨⟨_, (.tail _ (.tail _ (.head _)))⟩, (List.forall_mem_cons.mpr ⟨⟨_, (.tail _ (.tail _ (.tail _ (.head _))))⟩, (List.forall_mem_nil _)⟩)⟩)⟩)⟩)⟩)⟩)⟩)  (List.forall_mem_cons.mpr ⟨n7, (List.forall_mem_cons.mpr ⟨n36.symm, (List.forall_mem_cons.mpr ⟨n37.symm, (List.forall_mem_cons.mpr ⟨n38.symm, (List.forall_mem_cons.mpr ⟨n15, (List.forall_mem_cons.mpr ⟨n23, (List.forall_mem_cons.mpr ⟨n31, (List.forall_mem_cons.mpr ⟨n39.symm, (List.forall_mem_cons.mpr ⟨n40.symm, (List.forall_mem_cons.mpr ⟨n41.symm, (List.forall_mem_cons.mpr ⟨n42.symm, q4⟩)⟩)⟩)⟩)⟩)⟩)⟩)⟩)⟩)⟩)⟩) hv hns hnl hw hcs hcs2 hk0 hk1 hc1 hc2 hc3 hps (fun p hp => (.tail _ (.tail _ (.tail _ (.tail _ (.tail _ (.tail _ (.tail _ (.tail _ (.tail _ (.tail _ (.tail _ (hml p hp))))))))))))) hml hbad hci hcl1 hcl2 hm1 hm2 hb1 hb2 hP hO hpl hol hil hlen hBd hBd2 hl0 hl2 hcA n9.symm n10.symm q0 n52 hPA q7 n57.symm n53 hOA q8 (by omega) hw3 (by omega) ret
    | cons g0 css =>
      have hlen0 : 0 < (g0 :: css).length := Nat.succ_pos _
      rcases (show way = 3 ∨ way = 4 ∨ way = 5 from by omega) with rfl | rfl | rfl
      · exact S2_3c (T := (c, listOf ivs.toArray nc) :: (D, listOf #[.ref a, .ref b, .int k tk] nd) :: (a, listOf vs.toArray na) :: (b, listOf ws.toArray nb) :: (L + 1, o1) :: (L + 1 + 1, o2) :: (L + 1 + 1 + 1, o3) :: (R, instObj 126 dR) :: (dR, dictOf [⟨PyData.keyHash w.params "most", .str "most" ta, .int most tb⟩, ⟨PyData.keyHash w.params "pieces", .str "pieces" tc, .ref P⟩, ⟨PyData.keyHash w.params "pointer", .str "pointer" td, .int last te⟩] 3) :: (P, listOf (pvs).toArray np) :: (O, listOf (ovs).toArray no) :: tl) hl B X T C F (cb_drop N (List.forall_mem_cons.mpr ⟨(.tail _ (.tail _ (.tail _ (.tail _ (.tail _ (.tail _ (.tail _ (.head _)))))))), (List.forall_mem_cons.mpr ⟨(.head _), (List.forall_mem_cons.mpr ⟨(.tail _ (.head _)), (List.forall_mem_cons.mpr ⟨(.tail _ (.tail _ (.head _))), (List.forall_mem_cons.mpr ⟨(.tail _ (.tail _ (.tail _ (.head _)))), (List.forall_mem_cons.mpr ⟨(.tail _ (.tail _ (.tail _ (.tail _ (.head _))))), (List.forall_mem_cons.mpr ⟨(.tail _ (.tail _ (.tail _ (.tail _ (.tail _ (.head _)))))), (List.forall_mem_cons.mpr ⟨(.tail _ (.tail _ (.tail _ (.tail _ (.tail _ (.tail _ (.head _))))))), (List.forall_mem_cons.mpr ⟨(.tail _ (.tail _ (.tail _ (.tail _ (.tail _ (.tail _ (.tail _ (.tail _ (.head _))))))))), (List.forall_mem_cons.mpr ⟨(.tail _ (.tail _ (.tail _ (.tail _ (.tail _ (.tail _ (.tail _ (.tail _ (.tail _ (.head _)))))))))), (List.forall_mem_cons.mpr ⟨(.tail _ (.tail _ (.tail _ (.tail _ (.tail _ (.tail _ (.tail _ (.tail _ (.tail _ (.tail _ (.head _))))))))))), (List.forall_mem_cons.mpr ⟨(.tail _ (.tail _ (.tail _ (.tail _ (.tail _ (.tail _ (.tail _ (.tail _ (.tail _ (.tail _ (.tail _ (.head _)))))))))))), (fun p hp => (.tail _ (.tail _ (.tail _ (.tail _ (.tail _ (.tail _ (.tail _ (.tail _ (.tail _ (.tail _ (.tail _ (.tail _ hp)))))))))))))⟩)⟩)⟩)⟩)⟩)⟩)⟩)⟩)⟩)⟩)⟩)⟩)) (.head _) (.tail _ (.head _)) (.tail _ (.tail _ (.head _))) (.tail _ (.tail _ (.tail _ (.head _)))) (.tail _ (.tail _ (.tail _ (.tail _ (.head _))))) (.tail _ (.tail _ (.tail _ (.tail _ (.tail _ (.head _)))))) (.tail _ (.tail _ (.tail _ (.tail _ (.tail _ (.tail _ (.head _))))))) (.tail _ (.tail _ (.tail _ (.tail _ (.tail _ (.tail _ (.tail _ (.head _)))))))) (.tail _ (.tail _ (.tail _ (.tail _ (.tail _ (.tail _ (.tail _ (.tail _ (.head _))))))))) (.tail _ (.tail _ (.tail _ (.tail _ (.tail _ (.tail _ (.tail _ (.tail _ (.tail _ (.head _)))))))))) (.tail _ (.tail _ (.tail _ (.tail _ (.tail _ (.tail _ (.tail _ (.tail _ (.tail _ (.tail _ (.head _))))))))))) (fun p hp => (.tail _ (.tail _ (.tail _ (.tail _ (.tail _ (.tail _ (.tail _ (.tail _ (.tail _ (.tail _ (.tail _ hp)))))))))))) (List.forall_mem_cons.mpr ⟨⟨_, (.tail _ (.tail _ (.tail _ (.tail _ (.head _)))))⟩, (List.forall_mem_cons.mpr ⟨⟨_, (.tail _ (.tail _ (.tail _ (.tail _ (.tail _ (.head _))))))⟩, (List.forall_mem_cons.mpr ⟨⟨_, (.tail _ (.tail _ (.tail _ (.tail _ (.tail _ (.tail _ (.head _)))))))⟩, (List.forall_mem_cons.mpr ⟨⟨_, (.tail _ (.tail _ (.tail _ (.tail _ (.tail _ (.tail _ (.tail _ (.head _))))))))⟩, (List.forall_mem_cons.mpr ⟨⟨_, (.tail _ (.head _))⟩, (List.forall_mem_cons.mpr ⟨⟨_, (.tail _ (.tail _ (.head _)))⟩, (List.forall_mem_cons.mpr ⟨⟨_, (.tail _ (.tail _ (.tail _ (.head _))))⟩, (List.forall_mem_nil _)⟩)⟩)⟩)⟩)⟩)⟩)⟩)  (List.forall_mem_cons.mpr ⟨n7, (List.forall_mem_cons.mpr ⟨n36.symm, (List.forall_mem_cons.mpr ⟨n37.symm, (List.forall_mem_cons.mpr ⟨n38.symm, (List.forall_mem_cons.mpr ⟨n15, (List.forall_mem_cons.mpr ⟨n23, (List.forall_mem_cons.mpr ⟨n31, (List.forall_mem_cons.mpr ⟨n39.symm, (List.forall_mem_cons.mpr ⟨n40.symm, (List.forall_mem_cons.mpr ⟨n41.symm, (List.forall_mem_cons.mpr ⟨n42.symm, q4⟩)⟩)⟩)⟩)⟩)⟩)⟩)⟩)⟩)⟩)⟩) hv hns hnl hw hcs hcs2 hk0 hk1 hc1 hc2 hc3 hps (fun p hp => (.tail _ (.tail _ (.tail _ (.tail _ (.tail _ (.tail _ (.tail _ (.tail _ (.tail _ (.tail _ (.tail _ (hml p hp))))))))))))) hml hbad hci hcl1 hcl2 hm1 hm2 hb1 hb2 hP hO hpl hol hil hlen hBd hBd2 hl0 hl2 hcA n9.symm n10.symm q0 n52 hPA q7 n57.symm n53 hOA q8 hlen0 ret
      · exact S2_4c (T := (c, listOf ivs.toArray nc) :: (D, listOf #[.ref a, .ref b, .int k tk] nd) :: (a, listOf vs.toArray na) :: (b, listOf ws.toArray nb) :: (L + 1, o1) :: (L + 1 + 1, o2) :: (L + 1 + 1 + 1, o3) :: (R, instObj 126 dR) :: (P, listOf (pvs).toArray np) :: (O, listOf (ovs).toArray no) :: tl) hl B X T C F (cb_drop N (List.forall_mem_cons.mpr ⟨(.tail _ (.tail _ (.tail _ (.tail _ (.tail _ (.tail _ (.tail _ (.head _)))))))), (List.forall_mem_cons.mpr ⟨(.tail _ (.tail _ (.tail _ (.tail _ (.tail _ (.tail _ (.tail _ (.tail _ (.tail _ (.head _)))))))))), (List.forall_mem_cons.mpr ⟨(.head _), (List.forall_mem_cons.mpr ⟨(.tail _ (.head _)), (List.forall_mem_cons.mpr ⟨(.tail _ (.tail _ (.head _))), (List.forall_mem_cons.mpr ⟨(.tail _ (.tail _ (.tail _ (.head _)))), (List.forall_mem_cons.mpr ⟨(.tail _ (.tail _ (.tail _ (.tail _ (.head _))))), (List.forall_mem_cons.mpr ⟨(.tail _ (.tail _ (.tail _ (.tail _ (.tail _ (.head _)))))), (List.forall_mem_cons.mpr ⟨(.tail _ (.tail _ (.tail _ (.tail _ (.tail _ (.tail _ (.head _))))))), (List.forall_mem_cons.mpr ⟨(.tail _ (.tail _ (.tail _ (.tail _ (.tail _ (.tail _ (.tail _ (.tail _ (.head _))))))))), (List.forall_mem_cons.mpr ⟨(.tail _ (.tail _ (.tail _ (.tail _ (.tail _ (.tail _ (.tail _ (.tail _ (.tail _ (.tail _ (.head _))))))))))), (List.forall_mem_cons.mpr ⟨(.tail _ (.tail _ (.tail _ (.tail _ (.tail _ (.tail _ (.tail _ (.tail _ (.tail _ (.tail _ (.tail _ (.head _)))))))))))), (fun p hp => (.tail _ (.tail _ (.tail _ (.tail _ (.tail _ (.tail _ (.tail _ (.tail _ (.tail _ (.tail _ (.tail _ (.tail _ hp)))))))))))))⟩)⟩)⟩)⟩)⟩)⟩)⟩)⟩)⟩)⟩)⟩)⟩)) (.head _) (.tail _ (.head _)) (.tail _ (.tail _ (.head _))) (.tail _ (.tail _ (.tail _ (.head _)))) (.tail _ (.tail _ (.tail _ (.tail _ (.head _))))) (.tail _ (.tail _ (.tail _ (.tail _ (.tail _ (.head _)))))) (.tail _ (.tail _ (.tail _ (.tail _ (.tail _ (.tail _ (.head _))))))) (.tail _ (.tail _ (.tail _ (.tail _ (.tail _ (.tail _ (.tail _ (.head _)))))))) (.tail _ (.tail _ (.tail _ (.tail _ (.tail _ (.tail _ (.tail _ (.tail _ (.head _))))))))) (.tail _ (.tail _ (.tail _ (.tail _ (.tail _ (.tail _ (.tail _ (.tail _ (.tail _ (.head _)))))))))) (fun p hp => (.tail _ (.tail _ (.tail _ (.tail _ (.tail _ (.tail _ (.tail _ (.tail _ (.tail _ (.tail _ hp))))))))))) (List.forall_mem_cons.mpr ⟨⟨_, (.tail _ (.tail _ (.tail _ (.tail _ (.head _)))))⟩, (List.forall_mem_cons.mpr ⟨⟨_, (.tail _ (.tail _ (.tail _ (.tail _ (.tail _ (.head _))))))⟩, (List.forall_mem_cons.mpr ⟨⟨_, (.tail _ (.tail _ (.tail _ (.tail _ (.tail _ (.tail _ (.head _)))))))⟩, (List.forall_mem_cons.mpr ⟨⟨_, (.tail _ (.tail _ (.tail _ (.tail _ (.tail _ (.tail _ (.tail _ (.head _))))))))⟩, (List.forall_mem_cons.mpr ⟨⟨_, (.tail _ (.head _))⟩, (List.forall_mem_cons.mpr ⟨⟨_, (.tail _ (.tail _ (.head _)))⟩, (List.forall_mem_cons.mpr ⟨⟨_, (.tail _ (.tail _ (.tail _ (.head _))))⟩, (List.forall_mem_nil _)⟩)⟩)⟩)⟩)⟩)⟩)⟩) n40 (List.forall_mem_cons.mpr ⟨n7, (List.forall_mem_cons.mpr ⟨n36.symm, (List.forall_mem_cons.mpr ⟨n37.symm, (List.forall_mem_cons.mpr ⟨n38.symm, (List.forall_mem_cons.mpr ⟨n15, (List.forall_mem_cons.mpr ⟨n23, (List.forall_mem_cons.mpr ⟨n31, (List.forall_mem_cons.mpr ⟨n39.symm, (List.forall_mem_cons.mpr ⟨n41.symm, (List.forall_mem_cons.mpr ⟨n42.symm, q4⟩)⟩)⟩)⟩)⟩)⟩)⟩)⟩)⟩)⟩) (List.forall_mem_cons.mpr ⟨n9, (List.forall_mem_cons.mpr ⟨n49.symm, (List.forall_mem_cons.mpr ⟨n50.symm, (List.forall_mem_cons.mpr ⟨n51.symm, (List.forall_mem_cons.mpr ⟨n17, (List.forall_mem_cons.mpr ⟨n25, (List.forall_mem_cons.mpr ⟨n33, (List.forall_mem_cons.mpr ⟨n46, (List.forall_mem_cons.mpr ⟨n52.symm, (List.forall_mem_cons.mpr ⟨n53.symm, q6⟩)⟩)⟩)⟩)⟩)⟩)⟩)⟩)⟩)⟩) hv hns hnl hw hcs hcs2 hk0 hk1 hc1 hc2 hc3 hps (fun p hp => (.tail _ (.tail _ (.tail _ (.tail _ (.tail _ (.tail _ (.tail _ (.tail _ (.tail _ (.tail _ (hml p hp)))))))))))) hml hbad hci hcl1 hcl2 hm1 hm2 hb1 hb2 hP hO hpl hol hil hlen hBd hBd2 hl0 hl2 hcA n9.symm n10.symm q0 n52 hPA q7 n57.symm n53 hOA q8 hlen0 ret
      · exact S2_5c (T := (c, listOf ivs.toArray nc) :: (D, listOf #[.ref a, .ref b, .int k tk] nd) :: (a, listOf vs.toArray na) :: (b, listOf ws.toArray nb) :: (L + 1 + 1, o2) :: (L + 1 + 1 + 1, o3) :: (R, instObj 126 dR) :: (P, listOf (pvs).toArray np) :: (O, listOf (ovs).toArray no) :: tl) hl B X T C F (cb_drop N (List.forall_mem_cons.mpr ⟨(.tail _ (.tail _ (.tail _ (.tail _ (.tail _ (.tail _ (.tail _ (.head _)))))))), (List.forall_mem_cons.mpr ⟨(.tail _ (.tail _ (.tail _ (.tail _ (.head _))))), (List.forall_mem_cons.mpr ⟨(.tail _ (.tail _ (.tail _ (.tail _ (.tail _ (.tail _ (.tail _ (.tail _ (.tail _ (.head _)))))))))), (List.forall_mem_cons.mpr ⟨(.head _), (List.forall_mem_cons.mpr ⟨(.tail _ (.head _)), (List.forall_mem_cons.mpr ⟨(.tail _ (.tail _ (.head _))), (List.forall_mem_cons.mpr ⟨(.tail _ (.tail _ (.tail _ (.head _)))), (List.forall_mem_cons.mpr ⟨(.tail _ (.tail _ (.tail _ (.tail _ (.tail _ (.head _)))))), (List.forall_mem_cons.mpr ⟨(.tail _ (.tail _ (.tail _ (.tail _ (.tail _ (.tail _ (.head _))))))), (List.forall_mem_cons.mpr ⟨(.tail _ (.tail _ (.tail _ (.tail _ (.tail _ (.tail _ (.tail _ (.tail _ (.head _))))))))), (List.forall_mem_cons.mpr ⟨(.tail _ (.tail _ (.tail _ (.tail _ (.tail _ (.tail _ (.tail _ (.tail _ (.tail _ (.tail _ (.head _))))))))))), (List.forall_mem_cons.mpr ⟨(.tail _ (.tail _ (.tail _ (.tail _ (.tail _ (.tail _ (.tail _ (.tail _ (.tail _ (.tail _ (.tail _ (.head _)))))))))))), (fun p hp => (.tail _ (.tail _ (.tail _ (.tail _ (.tail _ (.tail _ (.tail _ (.tail _ (.tail _ (.tail _ (.tail _ (.tail _ hp)))))))))))))⟩)⟩)⟩)⟩)⟩)⟩)⟩)⟩)⟩)⟩)⟩)⟩)) (.head _) (.tail _ (.head _)) (.tail _ (.tail _ (.head _))) (.tail _ (.tail _ (.tail _ (.head _)))) (.tail _ (.tail _ (.tail _ (.tail _ (.head _))))) (.tail _ (.tail _ (.tail _ (.tail _ (.tail _ (.head _)))))) (.tail _ (.tail _ (.tail _ (.tail _ (.tail _ (.tail _ (.head _))))))) (.tail _ (.tail _ (.tail _ (.tail _ (.tail _ (.tail _ (.tail _ (.head _)))))))) (.tail _ (.tail _ (.tail _ (.tail _ (.tail _ (.tail _ (.tail _ (.tail _ (.head _))))))))) (fun p hp => (.tail _ (.tail _ (.tail _ (.tail _ (.tail _ (.tail _ (.tail _ (.tail _ (.tail _ hp)))))))))) (List.forall_mem_cons.mpr ⟨⟨_, (.tail _ (.tail _ (.tail _ (.tail _ (.head _)))))⟩, (List.forall_mem_cons.mpr ⟨⟨_, (.tail _ (.tail _ (.tail _ (.tail _ (.tail _ (.head _))))))⟩, (List.forall_mem_cons.mpr ⟨⟨_, (.tail _ (.tail _ (.tail _ (.tail _ (.tail _ (.tail _ (.head _)))))))⟩, (List.forall_mem_cons.mpr ⟨⟨_, (.tail _ (.head _))⟩, (List.forall_mem_cons.mpr ⟨⟨_, (.tail _ (.tail _ (.head _)))⟩, (List.forall_mem_cons.mpr ⟨⟨_, (.tail _ (.tail _ (.tail _ (.head _))))⟩, (List.forall_mem_nil _)⟩)⟩)⟩)⟩)⟩)⟩) n15.symm n40 n17 (List.forall_mem_cons.mpr ⟨n7, (List.forall_mem_cons.mpr ⟨n36.symm, (List.forall_mem_cons.mpr ⟨n37.symm, (List.forall_mem_cons.mpr ⟨n38.symm, (List.forall_mem_cons.mpr ⟨n23, (List.forall_mem_cons.mpr ⟨n31, (List.forall_mem_cons.mpr ⟨n39.symm, (List.forall_mem_cons.mpr ⟨n41.symm, (List.forall_mem_cons.mpr ⟨n42.symm, q4⟩)⟩)⟩)⟩)⟩)⟩)⟩)⟩)⟩) (List.forall_mem_cons.mpr ⟨n4, (List.forall_mem_cons.mpr ⟨n12.symm, (List.forall_mem_cons.mpr ⟨n13.symm, (List.forall_mem_cons.mpr ⟨n14.symm, (List.forall_mem_cons.mpr ⟨(Nat.ne_of_gt (Nat.lt_succ_self _)), (List.forall_mem_cons.mpr ⟨(Nat.ne_of_gt (Nat.lt_succ_of_lt (Nat.lt_succ_self _))), (List.forall_mem_cons.mpr ⟨n16.symm, (List.forall_mem_cons.mpr ⟨n18.symm, (List.forall_mem_cons.mpr ⟨n19.symm, q1⟩)⟩)⟩)⟩)⟩)⟩)⟩)⟩)⟩) (List.forall_mem_cons.mpr ⟨n9, (List.forall_mem_cons.mpr ⟨n49.symm, (List.forall_mem_cons.mpr ⟨n50.symm, (List.forall_mem_cons.mpr ⟨n51.symm, (List.forall_mem_cons.mpr ⟨n25, (List.forall_mem_cons.mpr ⟨n33, (List.forall_mem_cons.mpr ⟨n46, (List.forall_mem_cons.mpr ⟨n52.symm, (List.forall_mem_cons.mpr ⟨n53.symm, q6⟩)⟩)⟩)⟩)⟩)⟩)⟩)⟩)⟩) hv hns hnl hw hcs hcs2 hk0 hk1 hc1 hc2 hc3 hps (fun p hp => (.tail _ (.tail _ (.tail _ (.tail _ (.tail _ (.tail _ (.tail _ (.tail _ (.tail _ (hml p hp))))))))))) hml hbad hci hcl1 hcl2 hm1 hm2 hb1 hb2 hP hO hpl hol hil hlen hBd hBd2 hl0 hl2 hcA n9.symm n10.symm q0 n52 hPA q7 n57.symm n53 hOA q8 hlen0 ret
end
section
structure Good3 (par : Params) (L D a b R dR : Addr) (most : Int) (Bd : Nat) (k : Int) (tl ml : List (Addr × Obj)) (P' O' : Addr) (pvs' ovs' : List Value) (css' : List (List Int)) (last' : Int) (add : List (Addr × Obj)) (o1' o3' : Obj) (ps' : Array Value) (vs' : List Value) (ns' : List Int) (k' : Int) : Prop where
  o1 : ∃ v, o1'.data = .cell v
  o3 : ∃ v, o3'.data = .cell v
  iar : IntsAre vs' ns'
  nn : ∀ n ∈ ns', 0 ≤ n
  nl : ns'.length < 2 ^ 20
  k0 : 0 ≤ k'
  k1 : k' ≤ k + 4
  tab : TabOk ⟨117, 25, 117, 65⟩ lamQ ps' (add ++ ml)
  pieces : PiecesAll par (add ++ ml) pvs' css'
  lists : ListsAll (add ++ ml) ovs' css'
  len : (css'.length : Int) ≤ most
  bd : ∀ z ∈ css', z.length ≤ Bd + 2
  l0 : 0 ≤ last'
  l1 : last' < (css'.length : Int) ∨ last' = 0
  offA : ∀ q ∈ add, ∀ X ∈ ([L + 1, L + 1 + 1, L + 1 + 1 + 1, 179, R, dR, P', O', D, a, b] : List Addr), @Ne Nat X q.1
  offT : ∀ q ∈ add, ∀ p ∈ tl, p.1 ≠ q.1
  offP : ∀ X ∈ ([L + 1, L + 1 + 1, L + 1 + 1 + 1, 179, R, dR, O', D, a, b] : List Addr), @Ne Nat X P'
  offO : ∀ X ∈ ([L + 1, L + 1 + 1, L + 1 + 1 + 1, 179, R, dR, D, a, b] : List Addr), @Ne Nat X O'
  tlP : ∀ p ∈ tl, p.1 ≠ P'
  tlO : ∀ p ∈ tl, p.1 ≠ O'
theorem fr_add {m f : Str → Option Value} {k : Str} {v : Option Value} (hk : m k = v) (hf : ∀ y, f y = m y) : ∀ y, (if y = k then v else f y) = m y := by
  intro y
  by_cases h : y = k
  · rw [if_pos h, h, hk]
  · rw [if_neg h, hf]
theorem fr_of {h₀ h : Heap} {L : Addr} {m f : Str → Option Value} (F : Fr h₀ L h m) (hf : ∀ y, f y = m y) : Fr h₀ L h f := by
  rw [show f = m from funext hf]
  exact F
theorem turn {st0 st1 st2 : Stmt} {px : Pos} {it : Expr} {t1 t2 t3 t4 : Stmt} {fpos : Pos} {st4 : Stmt} {sc : Scope} (hl : LawIs st0 st1 st2 px it t1 t2 t3 t4 fpos st4 sc) {w : World} {mean : ExcName → Option Value} {mg mb : Str → Option Value} {fa : Addr} {h₀ : Heap} {L : Addr} {m : Str → Option Value} {s : Shared} {Q : Flow → Shared → Prop} {E : Value → Shared → Prop} (B : Below callerA h₀ [] h₀) (X : (KK w).In h₀) (T : Top topProg LSE mean mg mb h₀) (C : CodeHd h₀ 181 179) {D a b R dR P O : Addr} {k most last : Int} {tk ta tb tc td te tlast tmost : Tok} {nd na nb np no : Nat} {vs ws pvs ovs : List Value} {ns cs : List Int} {o1 o2 o3 : Obj} {ps : Array Value} {tl : List (Addr × Obj)} {ml : List (Addr × Obj)} {css : List (List Int)} {i : Int} {ti : Tok} {Bd : Nat}
    (F : Fr h₀ L s.heap (fun (y : Str) => if y = "the_turn" then some (.int i ti) else (if y = "deck" then some (.ref D) else if y = "own" then some (.ref O) else if y = "last" then some (.int last tlast) else if y = "most" then some (.int most tmost) else m y)))
    (N : News h₀ L s.heap ((D, listOf #[.ref a, .ref b, .int k tk] nd) :: (a, listOf vs.toArray na) :: (b, listOf ws.toArray nb) :: (L + 1, o1) :: (L + 1 + 1, o2) :: (L + 1 + 1 + 1, o3) :: (179, tabObj ps) :: (R, instObj 126 dR) :: (dR, dictOf [⟨PyData.keyHash w.params "most", .str "most" ta, .int most tb⟩, ⟨PyData.keyHash w.params "pieces", .str "pieces" tc, .ref P⟩, ⟨PyData.keyHash w.params "pointer", .str "pointer" td, .int last te⟩] 3) :: (P, listOf pvs.toArray np) :: (O, listOf ovs.toArray no) :: tl)) (hv : IntsAre vs ns) (hns : ∀ n ∈ ns, 0 ≤ n) (hnl : ns.length < 2 ^ 20) (hw : IntsAre ws cs) (hcs : 0 < cs.length) (hcs2 : cs.length < 2 ^ 20) (hk0 : 0 ≤ k) (hk1 : k < 900) (hi0 : 0 ≤ i) (hi1 : i < 20)
    (hc1 : ∃ v, o1.data = .cell v) (hc2 : o2.data = .cell (some (.ref R))) (hc3 : ∃ v, o3.data = .cell v) (hps : TabOk ⟨117, 25, 117, 65⟩ lamQ ps ml) (hml : ∀ p ∈ ml, p ∈ tl) (hm1 : 1 ≤ most) (hm2 : most ≤ 4)
    (hP : PiecesAll w.params ml pvs css) (hO : ListsAll ml ovs css) (hlen : (css.length : Int) ≤ most) (hBd : ∀ z ∈ css, z.length ≤ Bd) (hBd2 : Bd ≤ 100) (hl0 : 0 ≤ last) (hl2 : last < (css.length : Int) ∨ last = 0)
    (e0_1 : @Ne Nat D a) (e0_2 : @Ne Nat D b) (e0_3 : @Ne Nat D (L + 1)) (e0_4 : @Ne Nat D (L + 1 + 1)) (e0_5 : @Ne Nat D (L + 1 + 1 + 1)) (e0_6 : @Ne Nat D 179) (e0_7 : @Ne Nat D R) (e0_8 : @Ne Nat D dR) (e0_9 : @Ne Nat D P) (e0_10 : @Ne Nat D O) (e1_2 : @Ne Nat a b) (e1_3 : @Ne Nat a (L + 1)) (e1_4 : @Ne Nat a (L + 1 + 1)) (e1_5 : @Ne Nat a (L + 1 + 1 + 1)) (e1_6 : @Ne Nat a 179) (e1_7 : @Ne Nat a R) (e1_8 : @Ne Nat a dR) (e1_9 : @Ne Nat a P) (e1_10 : @Ne Nat a O) (e2_3 : @Ne Nat b (L + 1)) (e2_4 : @Ne Nat b (L + 1 + 1)) (e2_5 : @Ne Nat b (L + 1 + 1 + 1)) (e2_6 : @Ne Nat b 179) (e2_7 : @Ne Nat b R) (e2_8 : @Ne Nat b dR) (e2_9 : @Ne Nat b P) (e2_10 : @Ne Nat b O) (e3_6 : @Ne Nat (L + 1) 179) (e3_7 : @Ne Nat (L + 1) R) (e3_8 : @Ne Nat (L + 1) dR) (e3_9 : @Ne Nat (L + 1) P) (e3_10 : @Ne Nat (L + 1) O) (e4_6 : @Ne Nat (L + 1 + 1) 179) (e4_7 : @Ne Nat (L + 1 + 1) R) (e4_8 : @Ne Nat (L + 1 + 1) dR) (e4_9 : @Ne Nat (L + 1 + 1) P) (e4_10 : @Ne Nat (L + 1 + 1) O) (e5_6 : @Ne Nat (L + 1 + 1 + 1) 179) (e5_7 : @Ne Nat (L + 1 + 1 + 1) R) (e5_8 : @Ne Nat (L + 1 + 1 + 1) dR) (e5_9 : @Ne Nat (L + 1 + 1 + 1) P) (e5_10 : @Ne Nat (L + 1 + 1 + 1) O) (e6_7 : @Ne Nat 179 R) (e6_8 : @Ne Nat 179 dR) (e6_9 : @Ne Nat 179 P) (e6_10 : @Ne Nat 179 O) (e7_8 : @Ne Nat R dR) (e7_9 : @Ne Nat R P) (e7_10 : @Ne Nat R O) (e8_9 : @Ne Nat dR P) (e8_10 : @Ne Nat dR O) (e9_10 : @Ne Nat P O) (z0 : ∀ p ∈ tl, p.1 ≠ D) (z1 : ∀ p ∈ tl, p.1 ≠ a) (z2 : ∀ p ∈ tl, p.1 ≠ b) (z3 : ∀ p ∈ tl, p.1 ≠ (L + 1)) (z4 : ∀ p ∈ tl, p.1 ≠ (L + 1 + 1)) (z5 : ∀ p ∈ tl, p.1 ≠ (L + 1 + 1 + 1)) (z6 : ∀ p ∈ tl, p.1 ≠ 179) (z7 : ∀ p ∈ tl, p.1 ≠ R) (z8 : ∀ p ∈ tl, p.1 ≠ dR) (z9 : ∀ p ∈ tl, p.1 ≠ P) (z10 : ∀ p ∈ tl, p.1 ≠ O)
    (ret : ∀ (m' : Str → Option Value) (h' : Heap) (tt : Nat) (P' O' : Addr) (np' no' : Nat) (pvs' ovs' : List Value) (css' : List (List Int)) (last' : Int) (add : List (Addr × Obj)) (o1' o3' : Obj) (ps' : Array Value) (te' tl' tk' : Tok) (vs' : List Value) (ns' : List Int) (na' : Nat) (k' : Int), Fr h₀ L h' m' → m' "own" = some (.ref O') → m' "last" = some (.int last' tl') → m' "deck" = some (.ref D) → m' "most" = some (.int most tmost) →
      News h₀ L h' ((D, listOf #[.ref a, .ref b, .int k' tk'] nd) :: (a, listOf vs'.toArray na') :: (b, listOf ws.toArray nb) :: (L + 1, o1') :: (L + 1 + 1, o2) :: (L + 1 + 1 + 1, o3') :: (179, tabObj ps') :: (R, instObj 126 dR) :: (dR, dictOf [⟨PyData.keyHash w.params "most", .str "most" ta, .int most tb⟩, ⟨PyData.keyHash w.params "pieces", .str "pieces" tc, .ref P'⟩, ⟨PyData.keyHash w.params "pointer", .str "pointer" td, .int last' te'⟩] 3) :: (P', listOf pvs'.toArray np') :: (O', listOf ovs'.toArray no') :: (add ++ tl)) →
      Good3 w.params L D a b R dR most Bd k tl ml P' O' pvs' ovs' css' last' add o1' o3' ps' vs' ns' k' → Q .next { s with heap := h', toks := tt }) :
    wpAny (model PRG w) (callerA.deeper (envOfC (Str.ofString "law") sc L fa (.ref 181))) (execs [t1, t2, t3, t4] (envOfC (Str.ofString "law") sc L fa (.ref 181))) Q E s := by
  obtain ⟨w1, hc1⟩ := hc1
  obtain ⟨w3, hc3⟩ := hc3
  refine wpAny_execs_cons (S1 hl B X T C F N hv hns hnl hw hcs hcs2 hk0 (by omega) hi0 hi1 hc1 hc3 e0_1 e0_2 e0_3 e0_4 e0_5 e0_6 e0_7 e0_8 e0_9 e0_10 e1_2 e1_3 e1_4 e1_5 e1_6 e1_7 e1_8 e1_9 e1_10 (Ne.symm e2_3) e3_6 e3_7 e3_8 e3_9 e3_10 (Ne.symm e2_5) e5_6 e5_7 e5_8 e5_9 e5_10 z0 z1 z3 z5 fun way by9 p1 p3 c ivs cods nc k1 tk1 tw tb9 vs1 ns1 na1 h1 tt1 hw0 hw6 hb1 hb2 hp1 hp3 hci hcl1 hcl2 hlt oc hv1 hns1 hnl1 hk01 hk11 F1 N1 => ?_)
  obtain ⟨l0, l1, l2, l3, l4, l5, l6, l7, l8, l9, l10⟩ := hlt
  refine wpAny_execs_cons (S2_all hl B X T C (fr_of F1 (fr_add rfl (fr_add rfl (fr_add rfl (fr_add rfl (fr_add rfl fun _ => rfl)))))) N1 hv1 hns1 hnl1 hw hcs hcs2 hk01 (by omega) hp1 hc2 hp3 hps hml (List.forall_mem_cons.mpr ⟨z3, (List.forall_mem_cons.mpr ⟨z4, (List.forall_mem_cons.mpr ⟨z5, (List.forall_mem_cons.mpr ⟨z6, (List.forall_mem_cons.mpr ⟨z7, (List.forall_mem_cons.mpr ⟨z8, (List.forall_mem_cons.mpr ⟨z9, (List.forall_mem_cons.mpr ⟨z10, (List.forall_mem_cons.mpr ⟨z0, (List.forall_mem_cons.mpr ⟨z1, (List.forall_mem_cons.mpr ⟨z2, (List.forall_mem_nil _)⟩)⟩)⟩)⟩)⟩)⟩)⟩)⟩)⟩)⟩)⟩) hci hcl1 hcl2 hm1 hm2 hb1 hb2 hP hO hP.length hO.length (by rw [hci.length]; omega) hlen hBd hBd2 hl0 hl2 (Nat.ne_of_gt l0) (Nat.ne_of_gt l1) (Nat.ne_of_gt l2) (Nat.ne_of_gt l3) (Nat.ne_of_gt l4) (Nat.ne_of_gt l5) (Nat.ne_of_gt l6) (Nat.ne_of_gt l7) (Nat.ne_of_gt l8) (Nat.ne_of_gt l9) (Nat.ne_of_gt l10) (Ne.symm e0_3) (Ne.symm e1_3) (Ne.symm e2_3) e3_6 e3_7 e3_8 e3_9 e3_10 (Ne.symm e0_4) (Ne.symm e1_4) (Ne.symm e2_4) e4_6 e4_7 e4_8 e4_9 e4_10 (Ne.symm e0_5) (Ne.symm e1_5) (Ne.symm e2_5) e5_6 e5_7 e5_8 e5_9 e5_10 (Ne.symm e0_6) (Ne.symm e1_6) (Ne.symm e2_6) e6_7 e6_8 e6_9 e6_10 (Ne.symm e0_7) (Ne.symm e1_7) (Ne.symm e2_7) e7_8 e7_9 e7_10 (Ne.symm e0_8) (Ne.symm e1_8) (Ne.symm e2_8) e8_9 e8_10 (Ne.symm e0_9) (Ne.symm e1_9) (Ne.symm e2_9) e9_10 (Ne.symm e0_10) (Ne.symm e1_10) (Ne.symm e2_10) e0_1 e0_2 e1_2 oc z3 z4 z5 z6 z7 z8 z9 z10 z0 z1 hw0 hw6
    fun m2 h2 tt2 P2 O2 np2 no2 pvs2 ovs2 css2 last2 add o12 ps2 te2 tl2 tk2 vs2 ns2 na2 k2 F2 f1 f2 f3 f4 N2 G hv2 hns2 hnl2 hk02 hk12 _ => ?_)
  have g1 := G.pieces.length
  have g2 := G.lists.length
  have g3 := G.len
  have g4 : (css2.take most.toNat).length ≤ css2.length := List.length_take_le' _ _
  have g5 : (css2.take most.toNat).length ≤ most.toNat := List.length_take_le _ _
  refine S34 hl B X T C (fr_of F2 (fr_add f3 (fr_add f1 (fr_add f2 (fr_add f4 fun _ => rfl))))) (cb_drop N2 (List.forall_mem_cons.mpr ⟨(.tail _ (.tail _ (.tail _ (.head _)))), (List.forall_mem_cons.mpr ⟨(.tail _ (.tail _ (.tail _ (.tail _ (.head _))))), (List.forall_mem_cons.mpr ⟨(.tail _ (.tail _ (.tail _ (.tail _ (.tail _ (.head _)))))), (List.forall_mem_cons.mpr ⟨(.tail _ (.tail _ (.tail _ (.tail _ (.tail _ (.tail _ (.head _))))))), (List.forall_mem_cons.mpr ⟨(.tail _ (.tail _ (.tail _ (.tail _ (.tail _ (.tail _ (.tail _ (.head _)))))))), (List.forall_mem_cons.mpr ⟨(.tail _ (.tail _ (.tail _ (.tail _ (.tail _ (.tail _ (.tail _ (.tail _ (.head _))))))))), (List.forall_mem_cons.mpr ⟨(.tail _ (.tail _ (.tail _ (.tail _ (.tail _ (.tail _ (.tail _ (.tail _ (.tail _ (.head _)))))))))), (List.forall_mem_cons.mpr ⟨(.tail _ (.tail _ (.tail _ (.tail _ (.tail _ (.tail _ (.tail _ (.tail _ (.tail _ (.tail _ (.head _))))))))))), (List.forall_mem_cons.mpr ⟨(.head _), (List.forall_mem_cons.mpr ⟨(.tail _ (.head _)), (List.forall_mem_cons.mpr ⟨(.tail _ (.tail _ (.head _))), (fun p hp => (.tail _ (.tail _ (.tail _ (.tail _ (.tail _ (.tail _ (.tail _ (.tail _ (.tail _ (.tail _ (.tail _ hp))))))))))))⟩)⟩)⟩)⟩)⟩)⟩)⟩)⟩)⟩)⟩)⟩)) hc2 hm1 hm2 G.pieces G.lists (fun p hp => .tail _ (.tail _ (.tail _ ((List.mem_append.mp hp).elim (fun h => List.mem_append_left _ h) fun h => List.mem_append_right _ (hml p h))))) (G.lists.take _) (by omega) (by omega)
    fun m3 h3 tt3 O3 F3 r1 r2 r3 r4 N3 hX hT => ?_
  refine ret m3 h3 tt3 P2 O3 _ _ pvs2 (ovs2.take most.toNat) (css2.take most.toNat) last2 add o12 p3 ps2 te2 tl2 tk2 vs2 ns2 na2 k2 F3 r1 r2 r3 r4 (cb_drop N3 (List.forall_mem_cons.mpr ⟨(.tail _ (.tail _ (.tail _ (.tail _ (.tail _ (.tail _ (.tail _ (.tail _ (.head _))))))))), (List.forall_mem_cons.mpr ⟨(.tail _ (.tail _ (.tail _ (.tail _ (.tail _ (.tail _ (.tail _ (.tail _ (.tail _ (.head _)))))))))), (List.forall_mem_cons.mpr ⟨(.tail _ (.tail _ (.tail _ (.tail _ (.tail _ (.tail _ (.tail _ (.tail _ (.tail _ (.tail _ (.head _))))))))))), (List.forall_mem_cons.mpr ⟨(.head _), (List.forall_mem_cons.mpr ⟨(.tail _ (.head _)), (List.forall_mem_cons.mpr ⟨(.tail _ (.tail _ (.head _))), (List.forall_mem_cons.mpr ⟨(.tail _ (.tail _ (.tail _ (.head _)))), (List.forall_mem_cons.mpr ⟨(.tail _ (.tail _ (.tail _ (.tail _ (.head _))))), (List.forall_mem_cons.mpr ⟨(.tail _ (.tail _ (.tail _ (.tail _ (.tail _ (.head _)))))), (List.forall_mem_cons.mpr ⟨(.tail _ (.tail _ (.tail _ (.tail _ (.tail _ (.tail _ (.head _))))))), (List.forall_mem_cons.mpr ⟨(.tail _ (.tail _ (.tail _ (.tail _ (.tail _ (.tail _ (.tail _ (.head _)))))))), (fun p hp => (.tail _ (.tail _ (.tail _ (.tail _ (.tail _ (.tail _ (.tail _ (.tail _ (.tail _ (.tail _ (.tail _ hp))))))))))))⟩)⟩)⟩)⟩)⟩)⟩)⟩)⟩)⟩)⟩)⟩)) ?_
  exact ⟨G.o1, ⟨_, hp3⟩, hv2, hns2, hnl2, hk02, by omega, G.tab, G.pieces, G.lists.take _, by omega, fun z hz => G.bd z (List.mem_of_mem_take hz), G.l0, G.l1,
    (fun q hq => (List.forall_mem_cons.mpr ⟨(G.offA q hq _ (.head _)), (List.forall_mem_cons.mpr ⟨(G.offA q hq _ (.tail _ (.head _))), (List.forall_mem_cons.mpr ⟨(G.offA q hq _ (.tail _ (.tail _ (.head _)))), (List.forall_mem_cons.mpr ⟨(G.offA q hq _ (.tail _ (.tail _ (.tail _ (.head _))))), (List.forall_mem_cons.mpr ⟨(G.offA q hq _ (.tail _ (.tail _ (.tail _ (.tail _ (.head _)))))), (List.forall_mem_cons.mpr ⟨(G.offA q hq _ (.tail _ (.tail _ (.tail _ (.tail _ (.tail _ (.head _))))))), (List.forall_mem_cons.mpr ⟨(G.offA q hq _ (.tail _ (.tail _ (.tail _ (.tail _ (.tail _ (.tail _ (.head _)))))))), (List.forall_mem_cons.mpr ⟨(Ne.symm (hT q (.tail _ (.tail _ (.tail _ (List.mem_append_left _ hq)))))), (List.forall_mem_cons.mpr ⟨(G.offA q hq _ (.tail _ (.tail _ (.tail _ (.tail _ (.tail _ (.tail _ (.tail _ (.tail _ (.head _)))))))))), (List.forall_mem_cons.mpr ⟨(G.offA q hq _ (.tail _ (.tail _ (.tail _ (.tail _ (.tail _ (.tail _ (.tail _ (.tail _ (.tail _ (.head _))))))))))), (List.forall_mem_cons.mpr ⟨(G.offA q hq _ (.tail _ (.tail _ (.tail _ (.tail _ (.tail _ (.tail _ (.tail _ (.tail _ (.tail _ (.tail _ (.head _)))))))))))), (List.forall_mem_nil _)⟩)⟩)⟩)⟩)⟩)⟩)⟩)⟩)⟩)⟩)⟩)), G.offT, (List.forall_mem_cons.mpr ⟨(G.offP _ (.head _)), (List.forall_mem_cons.mpr ⟨(G.offP _ (.tail _ (.head _))), (List.forall_mem_cons.mpr ⟨(G.offP _ (.tail _ (.tail _ (.head _)))), (List.forall_mem_cons.mpr ⟨(G.offP _ (.tail _ (.tail _ (.tail _ (.head _))))), (List.forall_mem_cons.mpr ⟨(G.offP _ (.tail _ (.tail _ (.tail _ (.tail _ (.head _)))))), (List.forall_mem_cons.mpr ⟨(G.offP _ (.tail _ (.tail _ (.tail _ (.tail _ (.tail _ (.head _))))))), (List.forall_mem_cons.mpr ⟨(Ne.symm (hX _ (.tail _ (.tail _ (.tail _ (.tail _ (.tail _ (.tail _ (.head _))))))))), (List.forall_mem_cons.mpr ⟨(G.offP _ (.tail _ (.tail _ (.tail _ (.tail _ (.tail _ (.tail _ (.tail _ (.head _))))))))), (List.forall_mem_cons.mpr ⟨(G.offP _ (.tail _ (.tail _ (.tail _ (.tail _ (.tail _ (.tail _ (.tail _ (.tail _ (.head _)))))))))), (List.forall_mem_cons.mpr ⟨(G.offP _ (.tail _ (.tail _ (.tail _ (.tail _ (.tail _ (.tail _ (.tail _ (.tail _ (.tail _ (.head _))))))))))), (List.forall_mem_nil _)⟩)⟩)⟩)⟩)⟩)⟩)⟩)⟩)⟩)⟩), (List.forall_mem_cons.mpr ⟨(hX _ (.head _)), (List.forall_mem_cons.mpr ⟨(hX _ (.tail _ (.head _))), (List.forall_mem_cons.mpr ⟨(hX _ (.tail _ (.tail _ (.head _)))), (List.forall_mem_cons.mpr ⟨(hX _ (.tail _ (.tail _ (.tail _ (.head _))))), (List.forall_mem_cons.mpr ⟨(hX _ (.tail _ (.tail _ (.tail _ (.tail _ (.head _)))))), (List.forall_mem_cons.mpr ⟨(hX _ (.tail _ (.tail _ (.tail _ (.tail _ (.tail _ (.head _))))))), (List.forall_mem_cons.mpr ⟨(hT _ (.head _)), (List.forall_mem_cons.mpr ⟨(hT _ (.tail _ (.head _))), (List.forall_mem_cons.mpr ⟨(hT _ (.tail _ (.tail _ (.head _)))), (List.forall_mem_nil _)⟩)⟩)⟩)⟩)⟩)⟩)⟩)⟩)⟩), G.tlP, fun p hp => hT p (.tail _ (.tail _ (.tail _ (List.mem_append_right _ hp))))⟩
end
section
structure JS (par : Params) (L D a b R dR : Addr) (nd nb : Nat) (ws : List Value) (most : Int) (tmost ta tb tc td : Tok) (o2 : Obj) (i : Nat) (m : Str → Option Value) (nx : List (Addr × Obj)) (P O : Addr) (k last : Int) (te tlast tk : Tok) (na np no : Nat) (vs : List Value) (ns : List Int) (pvs ovs : List Value) (css : List (List Int)) (o1 o3 : Obj) (ps : Array Value) (tl : List (Addr × Obj)) : Prop where
  fnx : nx = (D, listOf #[.ref a, .ref b, .int k tk] nd) :: (a, listOf vs.toArray na) :: (b, listOf ws.toArray nb) :: (L + 1, o1) :: (L + 1 + 1, o2) :: (L + 1 + 1 + 1, o3) :: (179, tabObj ps) :: (R, instObj 126 dR) :: (dR, dictOf [⟨PyData.keyHash par "most", .str "most" ta, .int most tb⟩, ⟨PyData.keyHash par "pieces", .str "pieces" tc, .ref P⟩, ⟨PyData.keyHash par "pointer", .str "pointer" td, .int last te⟩] 3) :: (P, listOf pvs.toArray np) :: (O, listOf ovs.toArray no) :: tl
  fown : m "own" = some (.ref O)
  flast : m "last" = some (.int last tlast)
  fdeck : m "deck" = some (.ref D)
  fmost : m "most" = some (.int most tmost)
  fo1 : ∃ v, o1.data = .cell v
  fo3 : ∃ v, o3.data = .cell v
  iar : IntsAre vs ns
  nn : ∀ n ∈ ns, 0 ≤ n
  nl : ns.length < 2 ^ 20
  k0 : 0 ≤ k
  k1 : k ≤ 10 + 4 * (i : Int)
  tab : TabOk ⟨117, 25, 117, 65⟩ lamQ ps tl
  pieces : PiecesAll par tl pvs css
  lists : ListsAll tl ovs css
  len : (css.length : Int) ≤ most
  bd : ∀ z ∈ css, z.length ≤ 2 * i
  l0 : 0 ≤ last
  l1 : last < (css.length : Int) ∨ last = 0
  offP : ∀ X ∈ ([L + 1, L + 1 + 1, L + 1 + 1 + 1, 179, R, dR, O, D, a, b] : List Addr), @Ne Nat X P
  offO : ∀ X ∈ ([L + 1, L + 1 + 1, L + 1 + 1 + 1, 179, R, dR, D, a, b] : List Addr), @Ne Nat X O
  offT : ∀ X ∈ ([L + 1, L + 1 + 1, L + 1 + 1 + 1, 179, R, dR, P, O, D, a, b] : List Addr), ∀ p ∈ tl, p.1 ≠ X
def JJ (par : Params) (L D a b R dR : Addr) (nd nb : Nat) (ws : List Value) (most : Int) (tmost ta tb tc td : Tok) (o2 : Obj) (i : Nat) (m : Str → Option Value) (nx : List (Addr × Obj)) : Prop := ∃ P O k last te tlast tk na np no vs ns pvs ovs css o1 o3 ps tl, JS par L D a b R dR nd nb ws most tmost ta tb tc td o2 i m nx P O k last te tlast tk na np no vs ns pvs ovs css o1 o3 ps tl
section
variable {prog : Program} {w : World} {A : Around} {E : Value → Shared → Prop} {s : Shared} {env : Env} {h₀ : Heap} {x : Str} {body : List Stmt} {Q : Flow → Shared → Prop}
theorem range_loop {r : Addr} {b₀ : Int} {t₀ u₀ v₀ : Tok} {n : Nat} {m₀ : Str → Option Value} {news : List (Addr × Obj)} (J : Nat → (Str → Option Value) → List (Addr × Obj) → Prop)
    (hh : A.handled = none) (hr : IsRange s.heap r 0 b₀ 1 t₀ u₀ v₀) (hsmall : Builtin.Range.small 0 b₀ 1 = true) (hsz : Builtin.Range.rangeSize 0 b₀ 1 = (n : Int)) (F : Fr h₀ env.locals s.heap m₀) (N : News h₀ env.locals s.heap news) (hj : J 0 m₀ news)
    (turn : ∀ (i : Nat) t m₁ nx h tk own, i < n → OwnOff own (nx.map (·.1)) → J i m₁ nx → Fr h₀ env.locals h (fun y => if y = x then some (.int (i : Int) t) else m₁ y) → News h₀ env.locals h (nx ++ own) →
      wpAny (model prog w) A (execs body env) (InvPostG h₀ env.locals (J (i + 1)) own { s with heap := h, toks := tk } Q) E { s with heap := h, toks := tk })
    (done : ∀ m₁ nx h tk, J n m₁ nx → Fr h₀ env.locals h m₁ → News h₀ env.locals h nx → Q .next { s with heap := h, toks := tk }) :
    wpAny (model prog w) A (pyIter (.ref r)) (fun it s₂ => LoopAtV prog w A h₀ env x body Q E it s₂) E s := by
  refine wpAny_pyIter_range hr hsmall ?_
  have W : Walks prog w A s.heap.objs.size [s.heap.objs.size] [s.heap.objs.size] n (fun i v => i < n ∧ ∃ t, v = .int (0 + i * 1) t)
      (fun i h => IsRangeIter h s.heap.objs.size (0 + (i : Nat) * 1) ((n : Int) - (i : Nat)) 1) := (Walks.range hh _ 0 1 n).bound
  refine kdr_loop J W (fun _ h => h) (fun _ h => h) ?_ ?_ ?_ ?_ (by show IsRangeIter _ _ _ _ _; rw [hsz]; simpa using Heap.get?_push_size _ rfl) (F.push _) (fun p hp => ⟨Heap.get?_push_of_some _ (N p hp).1, (N p hp).2⟩) hj ?_ done
  · intro i h hi b hb
    rw [List.mem_singleton.mp hb]
    exact ⟨_, hi⟩
  · intro hm
    exact absurd F.ns.lt ((List.mem_singleton.mp hm) ▸ Nat.lt_irrefl _)
  · intro b hb
    rw [List.mem_singleton.mp hb]
    exact next_is_new F
  · intro p hp hI
    exact absurd (Heap.lt_size (N p hp).1) ((List.mem_singleton.mp hI) ▸ Nat.lt_irrefl _)
  · rintro i v m₁ nx h tk own hi ⟨_, t, rfl⟩ hoff hJ F₁ N₁
    rw [show (0 : Int) + (i : Int) * 1 = (i : Int) by omega] at F₁
    exact turn i t m₁ nx h tk own hi hoff hJ F₁ N₁
end
theorem step {st0 st1 st2 : Stmt} {px : Pos} {it : Expr} {t1 t2 t3 t4 : Stmt} {fpos : Pos} {st4 : Stmt} {sc : Scope} (hl : LawIs st0 st1 st2 px it t1 t2 t3 t4 fpos st4 sc) {w : World} {mean : ExcName → Option Value} {mg mb : Str → Option Value} {fa : Addr} {h₀ : Heap} {L : Addr} {m : Str → Option Value} {s : Shared} {Q : Flow → Shared → Prop} {E : Value → Shared → Prop} (B : Below callerA h₀ [] h₀) (X : (KK w).In h₀) (T : Top topProg LSE mean mg mb h₀) (C : CodeHd h₀ 181 179) {D a b R dR : Addr} {most : Int} {ta tb tc td tmost : Tok} {nd nb : Nat} {ws : List Value} {cs : List Int} {o2 : Obj} {i : Nat} {ti : Tok} {nx own : List (Addr × Obj)}
    (F : Fr h₀ L s.heap (fun y => if y = "the_turn" then some (.int (i : Int) ti) else m y)) (N : News h₀ L s.heap (nx ++ own)) (hoff : OwnOff own (nx.map (·.1))) (hw : IntsAre ws cs) (hcs : 0 < cs.length) (hcs2 : cs.length < 2 ^ 20) (hi : i < 12)
    (hc2 : o2.data = .cell (some (.ref R))) (hm1 : 1 ≤ most) (hm2 : most ≤ 4) (e0_1 : @Ne Nat D a) (e0_2 : @Ne Nat D b) (e0_3 : @Ne Nat D (L + 1)) (e0_4 : @Ne Nat D (L + 1 + 1)) (e0_5 : @Ne Nat D (L + 1 + 1 + 1)) (e0_6 : @Ne Nat D 179) (e0_7 : @Ne Nat D R) (e0_8 : @Ne Nat D dR) (e1_2 : @Ne Nat a b) (e1_3 : @Ne Nat a (L + 1)) (e1_4 : @Ne Nat a (L + 1 + 1)) (e1_5 : @Ne Nat a (L + 1 + 1 + 1)) (e1_6 : @Ne Nat a 179) (e1_7 : @Ne Nat a R) (e1_8 : @Ne Nat a dR) (e2_3 : @Ne Nat b (L + 1)) (e2_4 : @Ne Nat b (L + 1 + 1)) (e2_5 : @Ne Nat b (L + 1 + 1 + 1)) (e2_6 : @Ne Nat b 179) (e2_7 : @Ne Nat b R) (e2_8 : @Ne Nat b dR) (e3_6 : @Ne Nat (L + 1) 179) (e3_7 : @Ne Nat (L + 1) R) (e3_8 : @Ne Nat (L + 1) dR) (e4_6 : @Ne Nat (L + 1 + 1) 179) (e4_7 : @Ne Nat (L + 1 + 1) R) (e4_8 : @Ne Nat (L + 1 + 1) dR) (e5_6 : @Ne Nat (L + 1 + 1 + 1) 179) (e5_7 : @Ne Nat (L + 1 + 1 + 1) R) (e5_8 : @Ne Nat (L + 1 + 1 + 1) dR) (e6_7 : @Ne Nat 179 R) (e6_8 : @Ne Nat 179 dR) (e7_8 : @Ne Nat R dR)
    (hj : JJ w.params L D a b R dR nd nb ws most tmost ta tb tc td o2 i m nx) :
    wpAny (model PRG w) (callerA.deeper (envOfC (Str.ofString "law") sc L fa (.ref 181))) (execs [t1, t2, t3, t4] (envOfC (Str.ofString "law") sc L fa (.ref 181))) (InvPostG h₀ L (JJ w.params L D a b R dR nd nb ws most tmost ta tb tc td o2 (i + 1)) own s Q) E s := by
  obtain ⟨P, O, k, last, te, tlast, tk, na, np, no, vs, ns, pvs, ovs, css, o1, o3, ps, tl, H⟩ := hj
  obtain rfl := H.fnx
  have hk1 := H.k1
  refine turn hl B X T C (fr_of F (fr_add rfl (fr_add (by rw [if_neg (by decide)]; exact H.fdeck) (fr_add (by rw [if_neg (by decide)]; exact H.fown) (fr_add (by rw [if_neg (by decide)]; exact H.flast) (fr_add (by rw [if_neg (by decide)]; exact H.fmost) fun _ => rfl)))))) N H.iar H.nn H.nl hw hcs hcs2 H.k0 (by omega) (by omega) (by omega) H.fo1 hc2 H.fo3 H.tab (fun p hp => List.mem_append_left _ hp) hm1 hm2 H.pieces H.lists H.len H.bd (by omega) H.l0 H.l1 e0_1 e0_2 e0_3 e0_4 e0_5 e0_6 e0_7 e0_8 (H.offP _ (.tail _ (.tail _ (.tail _ (.tail _ (.tail _ (.tail _ (.tail _ (.head _))))))))) (H.offO _ (.tail _ (.tail _ (.tail _ (.tail _ (.tail _ (.tail _ (.head _)))))))) e1_2 e1_3 e1_4 e1_5 e1_6 e1_7 e1_8 (H.offP _ (.tail _ (.tail _ (.tail _ (.tail _ (.tail _ (.tail _ (.tail _ (.tail _ (.head _)))))))))) (H.offO _ (.tail _ (.tail _ (.tail _ (.tail _ (.tail _ (.tail _ (.tail _ (.head _))))))))) e2_3 e2_4 e2_5 e2_6 e2_7 e2_8 (H.offP _ (.tail _ (.tail _ (.tail _ (.tail _ (.tail _ (.tail _ (.tail _ (.tail _ (.tail _ (.head _))))))))))) (H.offO _ (.tail _ (.tail _ (.tail _ (.tail _ (.tail _ (.tail _ (.tail _ (.tail _ (.head _)))))))))) e3_6 e3_7 e3_8 (H.offP _ (.head _)) (H.offO _ (.head _)) e4_6 e4_7 e4_8 (H.offP _ (.tail _ (.head _))) (H.offO _ (.tail _ (.head _))) e5_6 e5_7 e5_8 (H.offP _ (.tail _ (.tail _ (.head _)))) (H.offO _ (.tail _ (.tail _ (.head _)))) e6_7 e6_8 (H.offP _ (.tail _ (.tail _ (.tail _ (.head _))))) (H.offO _ (.tail _ (.tail _ (.tail _ (.head _))))) e7_8 (H.offP _ (.tail _ (.tail _ (.tail _ (.tail _ (.head _)))))) (H.offO _ (.tail _ (.tail _ (.tail _ (.tail _ (.head _)))))) (H.offP _ (.tail _ (.tail _ (.tail _ (.tail _ (.tail _ (.head _))))))) (H.offO _ (.tail _ (.tail _ (.tail _ (.tail _ (.tail _ (.head _))))))) (Ne.symm (H.offP _ (.tail _ (.tail _ (.tail _ (.tail _ (.tail _ (.tail _ (.head _))))))))) (fun p hp => (List.mem_append.mp hp).elim (fun h => H.offT _ (.tail _ (.tail _ (.tail _ (.tail _ (.tail _ (.tail _ (.tail _ (.tail _ (.head _))))))))) p h) fun h => hoff p h _ (.head _)) (fun p hp => (List.mem_append.mp hp).elim (fun h => H.offT _ (.tail _ (.tail _ (.tail _ (.tail _ (.tail _ (.tail _ (.tail _ (.tail _ (.tail _ (.head _)))))))))) p h) fun h => hoff p h _ (.tail _ (.head _))) (fun p hp => (List.mem_append.mp hp).elim (fun h => H.offT _ (.tail _ (.tail _ (.tail _ (.tail _ (.tail _ (.tail _ (.tail _ (.tail _ (.tail _ (.tail _ (.head _))))))))))) p h) fun h => hoff p h _ (.tail _ (.tail _ (.head _)))) (fun p hp => (List.mem_append.mp hp).elim (fun h => H.offT _ (.head _) p h) fun h => hoff p h _ (.tail _ (.tail _ (.tail _ (.head _))))) (fun p hp => (List.mem_append.mp hp).elim (fun h => H.offT _ (.tail _ (.head _)) p h) fun h => hoff p h _ (.tail _ (.tail _ (.tail _ (.tail _ (.head _)))))) (fun p hp => (List.mem_append.mp hp).elim (fun h => H.offT _ (.tail _ (.tail _ (.head _))) p h) fun h => hoff p h _ (.tail _ (.tail _ (.tail _ (.tail _ (.tail _ (.head _))))))) (fun p hp => (List.mem_append.mp hp).elim (fun h => H.offT _ (.tail _ (.tail _ (.tail _ (.head _)))) p h) fun h => hoff p h _ (.tail _ (.tail _ (.tail _ (.tail _ (.tail _ (.tail _ (.head _)))))))) (fun p hp => (List.mem_append.mp hp).elim (fun h => H.offT _ (.tail _ (.tail _ (.tail _ (.tail _ (.head _))))) p h) fun h => hoff p h _ (.tail _ (.tail _ (.tail _ (.tail _ (.tail _ (.tail _ (.tail _ (.head _))))))))) (fun p hp => (List.mem_append.mp hp).elim (fun h => H.offT _ (.tail _ (.tail _ (.tail _ (.tail _ (.tail _ (.head _)))))) p h) fun h => hoff p h _ (.tail _ (.tail _ (.tail _ (.tail _ (.tail _ (.tail _ (.tail _ (.tail _ (.head _)))))))))) (fun p hp => (List.mem_append.mp hp).elim (fun h => H.offT _ (.tail _ (.tail _ (.tail _ (.tail _ (.tail _ (.tail _ (.head _))))))) p h) fun h => hoff p h _ (.tail _ (.tail _ (.tail _ (.tail _ (.tail _ (.tail _ (.tail _ (.tail _ (.tail _ (.head _))))))))))) (fun p hp => (List.mem_append.mp hp).elim (fun h => H.offT _ (.tail _ (.tail _ (.tail _ (.tail _ (.tail _ (.tail _ (.tail _ (.head _)))))))) p h) fun h => hoff p h _ (.tail _ (.tail _ (.tail _ (.tail _ (.tail _ (.tail _ (.tail _ (.tail _ (.tail _ (.tail _ (.head _))))))))))))
    fun m' h' tt P' O' np' no' pvs' ovs' css' last' add o1' o3' ps' te' tl' tk' vs' ns' na' k' F3 r1 r2 r3 r4 N3 G => ?_
  have hk2 := G.k1
  refine InvEndG.intro F3 N3 (nx := _ :: _ :: _ :: _ :: _ :: _ :: _ :: _ :: _ :: _ :: _ :: (add ++ tl)) ⟨P', O', k', last', te', tl', tk', na', np', no', vs', ns', pvs', ovs', css', o1', o3', ps', add ++ tl, rfl, r1, r2, r3, r4, G.o1, G.o3, G.iar, G.nn, G.nl, G.k0, by omega, G.tab, G.pieces, G.lists, G.len, fun z hz => by have := G.bd z hz; omega, G.l0, G.l1, G.offP, G.offO, (List.forall_mem_cons.mpr ⟨(fun p hp => (List.mem_append.mp hp).elim (fun h => Ne.symm (G.offA p h _ (.head _))) fun h => H.offT _ (.head _) p h), (List.forall_mem_cons.mpr ⟨(fun p hp => (List.mem_append.mp hp).elim (fun h => Ne.symm (G.offA p h _ (.tail _ (.head _)))) fun h => H.offT _ (.tail _ (.head _)) p h), (List.forall_mem_cons.mpr ⟨(fun p hp => (List.mem_append.mp hp).elim (fun h => Ne.symm (G.offA p h _ (.tail _ (.tail _ (.head _))))) fun h => H.offT _ (.tail _ (.tail _ (.head _))) p h), (List.forall_mem_cons.mpr ⟨(fun p hp => (List.mem_append.mp hp).elim (fun h => Ne.symm (G.offA p h _ (.tail _ (.tail _ (.tail _ (.head _)))))) fun h => H.offT _ (.tail _ (.tail _ (.tail _ (.head _)))) p h), (List.forall_mem_cons.mpr ⟨(fun p hp => (List.mem_append.mp hp).elim (fun h => Ne.symm (G.offA p h _ (.tail _ (.tail _ (.tail _ (.tail _ (.head _))))))) fun h => H.offT _ (.tail _ (.tail _ (.tail _ (.tail _ (.head _))))) p h), (List.forall_mem_cons.mpr ⟨(fun p hp => (List.mem_append.mp hp).elim (fun h => Ne.symm (G.offA p h _ (.tail _ (.tail _ (.tail _ (.tail _ (.tail _ (.head _)))))))) fun h => H.offT _ (.tail _ (.tail _ (.tail _ (.tail _ (.tail _ (.head _)))))) p h), (List.forall_mem_cons.mpr ⟨(fun p hp => (List.mem_append.mp hp).elim (fun h => Ne.symm (G.offA p h _ (.tail _ (.tail _ (.tail _ (.tail _ (.tail _ (.tail _ (.head _))))))))) fun h => G.tlP p (List.mem_append_left _ h)), (List.forall_mem_cons.mpr ⟨(fun p hp => (List.mem_append.mp hp).elim (fun h => Ne.symm (G.offA p h _ (.tail _ (.tail _ (.tail _ (.tail _ (.tail _ (.tail _ (.tail _ (.head _)))))))))) fun h => G.tlO p (List.mem_append_left _ h)), (List.forall_mem_cons.mpr ⟨(fun p hp => (List.mem_append.mp hp).elim (fun h => Ne.symm (G.offA p h _ (.tail _ (.tail _ (.tail _ (.tail _ (.tail _ (.tail _ (.tail _ (.tail _ (.head _))))))))))) fun h => H.offT _ (.tail _ (.tail _ (.tail _ (.tail _ (.tail _ (.tail _ (.tail _ (.tail _ (.head _))))))))) p h), (List.forall_mem_cons.mpr ⟨(fun p hp => (List.mem_append.mp hp).elim (fun h => Ne.symm (G.offA p h _ (.tail _ (.tail _ (.tail _ (.tail _ (.tail _ (.tail _ (.tail _ (.tail _ (.tail _ (.head _)))))))))))) fun h => H.offT _ (.tail _ (.tail _ (.tail _ (.tail _ (.tail _ (.tail _ (.tail _ (.tail _ (.tail _ (.head _)))))))))) p h), (List.forall_mem_cons.mpr ⟨(fun p hp => (List.mem_append.mp hp).elim (fun h => Ne.symm (G.offA p h _ (.tail _ (.tail _ (.tail _ (.tail _ (.tail _ (.tail _ (.tail _ (.tail _ (.tail _ (.tail _ (.head _))))))))))))) fun h => H.offT _ (.tail _ (.tail _ (.tail _ (.tail _ (.tail _ (.tail _ (.tail _ (.tail _ (.tail _ (.tail _ (.head _))))))))))) p h), (List.forall_mem_nil _)⟩)⟩)⟩)⟩)⟩)⟩)⟩)⟩)⟩)⟩)⟩)⟩
    (fun p hp => (List.forall_mem_cons.mpr ⟨(hoff p hp _ (.head _)), (List.forall_mem_cons.mpr ⟨(hoff p hp _ (.tail _ (.head _))), (List.forall_mem_cons.mpr ⟨(hoff p hp _ (.tail _ (.tail _ (.head _)))), (List.forall_mem_cons.mpr ⟨(hoff p hp _ (.tail _ (.tail _ (.tail _ (.head _))))), (List.forall_mem_cons.mpr ⟨(hoff p hp _ (.tail _ (.tail _ (.tail _ (.tail _ (.head _)))))), (List.forall_mem_cons.mpr ⟨(hoff p hp _ (.tail _ (.tail _ (.tail _ (.tail _ (.tail _ (.head _))))))), (List.forall_mem_cons.mpr ⟨(hoff p hp _ (.tail _ (.tail _ (.tail _ (.tail _ (.tail _ (.tail _ (.head _)))))))), (List.forall_mem_cons.mpr ⟨(hoff p hp _ (.tail _ (.tail _ (.tail _ (.tail _ (.tail _ (.tail _ (.tail _ (.head _))))))))), (List.forall_mem_cons.mpr ⟨(hoff p hp _ (.tail _ (.tail _ (.tail _ (.tail _ (.tail _ (.tail _ (.tail _ (.tail _ (.head _)))))))))), (List.forall_mem_cons.mpr ⟨(G.tlP p (List.mem_append_right _ hp)), (List.forall_mem_cons.mpr ⟨(G.tlO p (List.mem_append_right _ hp)), (fun b hb => by
      obtain ⟨q, hq, rfl⟩ := List.mem_map.mp hb
      rcases List.mem_append.mp hq with h | h
      · exact G.offT q h p (List.mem_append_right _ hp)
      · exact hoff p hp _ (.tail _ (.tail _ (.tail _ (.tail _ (.tail _ (.tail _ (.tail _ (.tail _ (.tail _ (.tail _ (.tail _ (List.mem_map_of_mem h)))))))))))))⟩)⟩)⟩)⟩)⟩)⟩)⟩)⟩)⟩)⟩)⟩)) (List.forall_mem_cons.mpr ⟨(.head _), (List.forall_mem_cons.mpr ⟨(.tail _ (.head _)), (List.forall_mem_cons.mpr ⟨(.tail _ (.tail _ (.head _))), (List.forall_mem_cons.mpr ⟨(.tail _ (.tail _ (.tail _ (.head _)))), (List.forall_mem_cons.mpr ⟨(.tail _ (.tail _ (.tail _ (.tail _ (.head _))))), (List.forall_mem_cons.mpr ⟨(.tail _ (.tail _ (.tail _ (.tail _ (.tail _ (.head _)))))), (List.forall_mem_cons.mpr ⟨(.tail _ (.tail _ (.tail _ (.tail _ (.tail _ (.tail _ (.head _))))))), (List.forall_mem_cons.mpr ⟨(.tail _ (.tail _ (.tail _ (.tail _ (.tail _ (.tail _ (.tail _ (.head _)))))))), (List.forall_mem_cons.mpr ⟨(.tail _ (.tail _ (.tail _ (.tail _ (.tail _ (.tail _ (.tail _ (.tail _ (.head _))))))))), (List.forall_mem_cons.mpr ⟨(.tail _ (.tail _ (.tail _ (.tail _ (.tail _ (.tail _ (.tail _ (.tail _ (.tail _ (.head _)))))))))), (List.forall_mem_cons.mpr ⟨(.tail _ (.tail _ (.tail _ (.tail _ (.tail _ (.tail _ (.tail _ (.tail _ (.tail _ (.tail _ (.head _))))))))))), (fun p hp => (.tail _ (.tail _ (.tail _ (.tail _ (.tail _ (.tail _ (.tail _ (.tail _ (.tail _ (.tail _ (.tail _ ((List.mem_append.mp hp).elim (fun h => List.mem_append_left _ h) fun h => List.mem_append_right _ (List.mem_append_left _ h))))))))))))))⟩)⟩)⟩)⟩)⟩)⟩)⟩)⟩)⟩)⟩)⟩) (fun p hp => (.tail _ (.tail _ (.tail _ (.tail _ (.tail _ (.tail _ (.tail _ (.tail _ (.tail _ (.tail _ (.tail _ (List.mem_append_right _ (List.mem_append_right _ hp))))))))))))))
end
section
local macro_rules | `(tactic| walk_at "exec For Name Call cons nil") => `(tactic| (k_here; (rename Fr _ _ _ _ => lF'); (with_unfolding_all refine' For_invVF lF' ?k1 ?k2 ?_ (by intro _; rfl) ?kE; (case k1 => exact rfl); (case k2 => exact rfl); (case kE => assumption); k_whole)))
local macro_rules | `(tactic| walk_at "pyIter ref") => `(tactic| ((with_reducible show wpAny _ _ (pyIter _) (fun it s₂ => LoopAtV _ _ _ _ _ _ _ _ _ it s₂) _ _); (rename IsRange _ _ _ _ _ _ _ _ => rgX); refine stop_here ?_))
set_option maxHeartbeats 16000000 in
theorem law_for {st0 st1 st2 : Stmt} {px : Pos} {it : Expr} {t1 t2 t3 t4 : Stmt} {fpos : Pos} {st4 : Stmt} {sc : Scope} (hl : LawIs st0 st1 st2 px it t1 t2 t3 t4 fpos st4 sc) {w : World} {mean : ExcName → Option Value} {mg mb : Str → Option Value} {fa : Addr} {h₀ : Heap} {L : Addr} {m : Str → Option Value} {s : Shared} {Q : Flow → Shared → Prop} {E : Value → Shared → Prop} (B : Below callerA h₀ [] h₀) (X : (KK w).In h₀) (T : Top topProg LSE mean mg mb h₀) (C : CodeHd h₀ 181 179) {D a b R dR P O : Addr} {k most : Int} {tk ta tb tc td te tlast tmost : Tok} {nd na nb np no : Nat} {vs ws : List Value} {ns cs : List Int} {o1 o2 o3 : Obj} {ps : Array Value} {tl : List (Addr × Obj)}
    (F : Fr h₀ L s.heap (fun (y : Str) => (if y = "deck" then some (.ref D) else if y = "own" then some (.ref O) else if y = "last" then some (.int 0 tlast) else if y = "most" then some (.int most tmost) else m y)))
    (N : News h₀ L s.heap ((D, listOf #[.ref a, .ref b, .int k tk] nd) :: (a, listOf vs.toArray na) :: (b, listOf ws.toArray nb) :: (L + 1, o1) :: (L + 1 + 1, o2) :: (L + 1 + 1 + 1, o3) :: (179, tabObj ps) :: (R, instObj 126 dR) :: (dR, dictOf [⟨PyData.keyHash w.params "most", .str "most" ta, .int most tb⟩, ⟨PyData.keyHash w.params "pieces", .str "pieces" tc, .ref P⟩, ⟨PyData.keyHash w.params "pointer", .str "pointer" td, .int 0 te⟩] 3) :: (P, listOf #[] np) :: (O, listOf #[] no) :: tl))
    (hv : IntsAre vs ns) (hns : ∀ n ∈ ns, 0 ≤ n) (hnl : ns.length < 2 ^ 20) (hw : IntsAre ws cs) (hcs : 0 < cs.length) (hcs2 : cs.length < 2 ^ 20) (hk0 : 0 ≤ k) (hk1 : k < 9)
    (hc1 : ∃ v, o1.data = .cell v) (hc2 : o2.data = .cell (some (.ref R))) (hc3 : ∃ v, o3.data = .cell v) (hps : ps = #[]) (hm1 : 1 ≤ most) (hm2 : most ≤ 4)
    (e0_1 : @Ne Nat D a) (e0_2 : @Ne Nat D b) (e0_3 : @Ne Nat D (L + 1)) (e0_4 : @Ne Nat D (L + 1 + 1)) (e0_5 : @Ne Nat D (L + 1 + 1 + 1)) (e0_6 : @Ne Nat D 179) (e0_7 : @Ne Nat D R) (e0_8 : @Ne Nat D dR) (e0_9 : @Ne Nat D P) (e0_10 : @Ne Nat D O) (e1_2 : @Ne Nat a b) (e1_3 : @Ne Nat a (L + 1)) (e1_4 : @Ne Nat a (L + 1 + 1)) (e1_5 : @Ne Nat a (L + 1 + 1 + 1)) (e1_6 : @Ne Nat a 179) (e1_7 : @Ne Nat a R) (e1_8 : @Ne Nat a dR) (e1_9 : @Ne Nat a P) (e1_10 : @Ne Nat a O) (e2_3 : @Ne Nat b (L + 1)) (e2_4 : @Ne Nat b (L + 1 + 1)) (e2_5 : @Ne Nat b (L + 1 + 1 + 1)) (e2_6 : @Ne Nat b 179) (e2_7 : @Ne Nat b R) (e2_8 : @Ne Nat b dR) (e2_9 : @Ne Nat b P) (e2_10 : @Ne Nat b O) (e3_6 : @Ne Nat (L + 1) 179) (e3_7 : @Ne Nat (L + 1) R) (e3_8 : @Ne Nat (L + 1) dR) (e3_9 : @Ne Nat (L + 1) P) (e3_10 : @Ne Nat (L + 1) O) (e4_6 : @Ne Nat (L + 1 + 1) 179) (e4_7 : @Ne Nat (L + 1 + 1) R) (e4_8 : @Ne Nat (L + 1 + 1) dR) (e4_9 : @Ne Nat (L + 1 + 1) P) (e4_10 : @Ne Nat (L + 1 + 1) O) (e5_6 : @Ne Nat (L + 1 + 1 + 1) 179) (e5_7 : @Ne Nat (L + 1 + 1 + 1) R) (e5_8 : @Ne Nat (L + 1 + 1 + 1) dR) (e5_9 : @Ne Nat (L + 1 + 1 + 1) P) (e5_10 : @Ne Nat (L + 1 + 1 + 1) O) (e6_7 : @Ne Nat 179 R) (e6_8 : @Ne Nat 179 dR) (e6_9 : @Ne Nat 179 P) (e6_10 : @Ne Nat 179 O) (e7_8 : @Ne Nat R dR) (e7_9 : @Ne Nat R P) (e7_10 : @Ne Nat R O) (e8_9 : @Ne Nat dR P) (e8_10 : @Ne Nat dR O) (e9_10 : @Ne Nat P O) (z0 : ∀ p ∈ tl, p.1 ≠ D) (z1 : ∀ p ∈ tl, p.1 ≠ a) (z2 : ∀ p ∈ tl, p.1 ≠ b) (z3 : ∀ p ∈ tl, p.1 ≠ (L + 1)) (z4 : ∀ p ∈ tl, p.1 ≠ (L + 1 + 1)) (z5 : ∀ p ∈ tl, p.1 ≠ (L + 1 + 1 + 1)) (z6 : ∀ p ∈ tl, p.1 ≠ 179) (z7 : ∀ p ∈ tl, p.1 ≠ R) (z8 : ∀ p ∈ tl, p.1 ≠ dR) (z9 : ∀ p ∈ tl, p.1 ≠ P) (z10 : ∀ p ∈ tl, p.1 ≠ O)
    (hE : PassesOwn (model PRG w) (callerA.deeper (envOfC (Str.ofString "law") sc L fa (.ref 181))) (envOfC (Str.ofString "law") sc L fa (.ref 181)) E)
    (done : ∀ (m' : Str → Option Value) (h' : Heap) (tt : Nat) (ps' : Array Value), Fr h₀ L h' m' → News h₀ L h' [(179, tabObj ps')] → Q .next { s with heap := h', toks := tt }) :
    wpAny (model PRG w) (callerA.deeper (envOfC (Str.ofString "law") sc L fa (.ref 181))) (exec (.For (.Name "the_turn" px) it [t1, t2, t3, t4] [] fpos) (envOfC (Str.ofString "law") sc L fa (.ref 181))) Q E s := by
  have hl' := hl
  obtain ⟨_, _, _, _, _, _, _, _, hl⟩ := hl
  cases hl
  unfold PRG
  unfold KK at X
  unfold LSE at T
  revert X
  k_fill
  intro X
  k_with_none
  k_steps
  refine Stop.mk ?_
  rename Fr _ _ _ _ => kF
  rename News _ _ _ _ => kN
  rename IsRange _ _ _ _ _ _ _ _ => rgX
  exact range_loop (JJ w.params L D a b R dR nd nb ws most tmost ta tb tc td o2) rfl rgX (small_one (by omega) (by omega) (by omega) (by omega)) (rangeSize_nat _ _) kF kN ⟨P, O, _, 0, te, _, _, _, np, no, _, _, [], [], [], o1, o3, ps, tl, rfl, rfl, rfl, rfl, rfl, hc1, hc3, by assumption, by assumption, by assumption, by assumption, by omega, .inl hps, .nil, .nil, (by simp; omega), (fun z hz => nomatch hz), by decide, .inr rfl, (List.forall_mem_cons.mpr ⟨e3_9, (List.forall_mem_cons.mpr ⟨e4_9, (List.forall_mem_cons.mpr ⟨e5_9, (List.forall_mem_cons.mpr ⟨e6_9, (List.forall_mem_cons.mpr ⟨e7_9, (List.forall_mem_cons.mpr ⟨e8_9, (List.forall_mem_cons.mpr ⟨(Ne.symm e9_10), (List.forall_mem_cons.mpr ⟨e0_9, (List.forall_mem_cons.mpr ⟨e1_9, (List.forall_mem_cons.mpr ⟨e2_9, (List.forall_mem_nil _)⟩)⟩)⟩)⟩)⟩)⟩)⟩)⟩)⟩)⟩), (List.forall_mem_cons.mpr ⟨e3_10, (List.forall_mem_cons.mpr ⟨e4_10, (List.forall_mem_cons.mpr ⟨e5_10, (List.forall_mem_cons.mpr ⟨e6_10, (List.forall_mem_cons.mpr ⟨e7_10, (List.forall_mem_cons.mpr ⟨e8_10, (List.forall_mem_cons.mpr ⟨e0_10, (List.forall_mem_cons.mpr ⟨e1_10, (List.forall_mem_cons.mpr ⟨e2_10, (List.forall_mem_nil _)⟩)⟩)⟩)⟩)⟩)⟩)⟩)⟩)⟩), (List.forall_mem_cons.mpr ⟨z3, (List.forall_mem_cons.mpr ⟨z4, (List.forall_mem_cons.mpr ⟨z5, (List.forall_mem_cons.mpr ⟨z6, (List.forall_mem_cons.mpr ⟨z7, (List.forall_mem_cons.mpr ⟨z8, (List.forall_mem_cons.mpr ⟨z9, (List.forall_mem_cons.mpr ⟨z10, (List.forall_mem_cons.mpr ⟨z0, (List.forall_mem_cons.mpr ⟨z1, (List.forall_mem_cons.mpr ⟨z2, (List.forall_mem_nil _)⟩)⟩)⟩)⟩)⟩)⟩)⟩)⟩)⟩)⟩)⟩)⟩
    (fun i t m₁ nx h tk own hi hoff hJ F1 N1 => step hl' B X T C F1 N1 hoff hw hcs hcs2 (by omega) hc2 hm1 hm2 e0_1 e0_2 e0_3 e0_4 e0_5 e0_6 e0_7 e0_8 e1_2 e1_3 e1_4 e1_5 e1_6 e1_7 e1_8 e2_3 e2_4 e2_5 e2_6 e2_7 e2_8 e3_6 e3_7 e3_8 e4_6 e4_7 e4_8 e5_6 e5_7 e5_8 e6_7 e6_8 e7_8 hJ)
    fun m₁ nx h tk hJ F1 N1 => by
      obtain ⟨_, _, _, _, _, _, _, _, _, _, _, _, _, _, _, _, _, ps', _, H⟩ := hJ
      obtain rfl := H.fnx
      exact done m₁ h tk ps' F1 (cb_drop N1 (List.forall_mem_cons.mpr ⟨(.tail _ (.tail _ (.tail _ (.tail _ (.tail _ (.tail _ (.head _))))))), (List.forall_mem_nil _)⟩))
end
section
local macro_rules | `(tactic| walk_at "exec For Name Call cons nil") => `(tactic| refine stop_here ?_)
set_option maxHeartbeats 16000000 in
theorem law_init {st0 st1 st2 : Stmt} {px : Pos} {it : Expr} {t1 t2 t3 t4 : Stmt} {fpos : Pos} {st4 : Stmt} {sc : Scope} (hl : LawIs st0 st1 st2 px it t1 t2 t3 t4 fpos st4 sc) {w : World} {mean : ExcName → Option Value} {mg mb : Str → Option Value} {fa : Addr} {h₀ : Heap} {L : Addr} {m : Str → Option Value} {s : Shared} {Q : Flow → Shared → Prop} {E : Value → Shared → Prop} (B : Below callerA h₀ [] h₀) (X : (KK w).In h₀) (T : Top topProg LSE mean mg mb h₀) (C : CodeHd h₀ 181 179) {D a b O : Addr} {k : Int} {tk t0 : Tok} {nd na nb no : Nat} {vs ws : List Value} {ns cs : List Int} {o1 o2 o3 : Obj} {ps : Array Value}
    (F : Fr h₀ L s.heap (fun (y : Str) => if y = "deck" then some (.ref D) else if y = "own" then some (.ref O) else if y = "last" then some (.int 0 t0) else m y))
    (N : News h₀ L s.heap [(D, listOf #[.ref a, .ref b, .int k tk] nd), (a, listOf vs.toArray na), (b, listOf ws.toArray nb), (L + 1, o1), (L + 1 + 1, o2), (L + 1 + 1 + 1, o3), (179, tabObj ps), (O, listOf #[] no)])
    (hv : IntsAre vs ns) (hns : ∀ n ∈ ns, 0 ≤ n) (hnl : ns.length < 2 ^ 20) (hw : IntsAre ws cs) (hcs : 0 < cs.length) (hcs2 : cs.length < 2 ^ 20) (hk0 : 0 ≤ k) (hk1 : k < 5)
    (hc1 : o1.data = .cell none) (hc2 : o2.data = .cell none) (hc3 : o3.data = .cell none) (hps : ps = #[])
    (g0_1 : @Ne Nat D a) (g0_2 : @Ne Nat D b) (g0_3 : @Ne Nat D (L + 1)) (g0_4 : @Ne Nat D (L + 1 + 1)) (g0_5 : @Ne Nat D (L + 1 + 1 + 1)) (g0_6 : @Ne Nat D 179) (g0_7 : @Ne Nat D O) (g1_2 : @Ne Nat a b) (g1_3 : @Ne Nat a (L + 1)) (g1_4 : @Ne Nat a (L + 1 + 1)) (g1_5 : @Ne Nat a (L + 1 + 1 + 1)) (g1_6 : @Ne Nat a 179) (g1_7 : @Ne Nat a O) (g2_3 : @Ne Nat b (L + 1)) (g2_4 : @Ne Nat b (L + 1 + 1)) (g2_5 : @Ne Nat b (L + 1 + 1 + 1)) (g2_6 : @Ne Nat b 179) (g2_7 : @Ne Nat b O) (g3_6 : @Ne Nat (L + 1) 179) (g3_7 : @Ne Nat (L + 1) O) (g4_6 : @Ne Nat (L + 1 + 1) 179) (g4_7 : @Ne Nat (L + 1 + 1) O) (g5_6 : @Ne Nat (L + 1 + 1 + 1) 179) (g5_7 : @Ne Nat (L + 1 + 1 + 1) O) (g6_7 : @Ne Nat 179 O)
    (hE : PassesOwn (model PRG w) (callerA.deeper (envOfC (Str.ofString "law") sc L fa (.ref 181))) (envOfC (Str.ofString "law") sc L fa (.ref 181)) E)
    (ret : ∀ (m' : Str → Option Value) (h' : Heap) (tt : Nat) (ps' : Array Value), Fr h₀ L h' m' → News h₀ L h' [(179, tabObj ps')] → Q (.ret (.bool true)) { s with heap := h', toks := tt }) :
    wpAny (model PRG w) (callerA.deeper (envOfC (Str.ofString "law") sc L fa (.ref 181))) (execs [st1, st2, .For (.Name "the_turn" px) it [t1, t2, t3, t4] [] fpos, st4] (envOfC (Str.ofString "law") sc L fa (.ref 181))) Q E s := by
  have hl' := hl
  obtain ⟨_, _, _, _, _, _, _, _, hl⟩ := hl
  cases hl
  unfold PRG
  unfold KK at X
  unfold LSE at T
  revert X
  k_fill
  intro X
  k_with_none
  k_steps
  refine Stop.mk ?_
  rename Fr _ _ _ _ => kF
  rename News _ _ _ _ => kN
  rename (D < _ ∧ a < _ ∧ _) => kd8
  rename (_ ∧ _ ∧ D < _ ∧ a < _ ∧ _) => kl10
  refine law_for hl' B X T C (fr_of kF (fr_add rfl (fr_add rfl (fr_add rfl (fr_add rfl fun _ => rfl))))) (cb_drop kN (List.forall_mem_cons.mpr ⟨(.tail _ (.tail _ (.tail _ (.head _)))), (List.forall_mem_cons.mpr ⟨(.tail _ (.tail _ (.tail _ (.tail _ (.head _))))), (List.forall_mem_cons.mpr ⟨(.tail _ (.tail _ (.tail _ (.tail _ (.tail _ (.head _)))))), (List.forall_mem_cons.mpr ⟨(.tail _ (.tail _ (.tail _ (.tail _ (.tail _ (.tail _ (.head _))))))), (List.forall_mem_cons.mpr ⟨(.tail _ (.tail _ (.tail _ (.tail _ (.tail _ (.tail _ (.tail _ (.head _)))))))), (List.forall_mem_cons.mpr ⟨(.tail _ (.tail _ (.tail _ (.tail _ (.tail _ (.tail _ (.tail _ (.tail _ (.head _))))))))), (List.forall_mem_cons.mpr ⟨(.tail _ (.tail _ (.tail _ (.tail _ (.tail _ (.tail _ (.tail _ (.tail _ (.tail _ (.head _)))))))))), (List.forall_mem_cons.mpr ⟨(.tail _ (.head _)), (List.forall_mem_cons.mpr ⟨(.tail _ (.tail _ (.head _))), (List.forall_mem_cons.mpr ⟨(.head _), (List.forall_mem_cons.mpr ⟨(.tail _ (.tail _ (.tail _ (.tail _ (.tail _ (.tail _ (.tail _ (.tail _ (.tail _ (.tail _ (.head _))))))))))), (List.forall_mem_nil _)⟩)⟩)⟩)⟩)⟩)⟩)⟩)⟩)⟩)⟩)⟩)) (by assumption) (by assumption) (by assumption) hw hcs hcs2 (by omega) (by omega) ⟨_, hc1⟩ (by assumption) ⟨_, hc3⟩ hps (by omega) (by omega) g0_1 g0_2 g0_3 g0_4 g0_5 g0_6 (Nat.ne_of_lt (Nat.lt_trans kd8.1 (by assumption))) (Nat.ne_of_lt kd8.1) (Nat.ne_of_lt kl10.2.2.1) g0_7 g1_2 g1_3 g1_4 g1_5 g1_6 (Nat.ne_of_lt (Nat.lt_trans kd8.2.1 (by assumption))) (Nat.ne_of_lt kd8.2.1) (Nat.ne_of_lt kl10.2.2.2.1) g1_7 g2_3 g2_4 g2_5 g2_6 (Nat.ne_of_lt (Nat.lt_trans kd8.2.2.1 (by assumption))) (Nat.ne_of_lt kd8.2.2.1) (Nat.ne_of_lt kl10.2.2.2.2.1) g2_7 g3_6 (Nat.ne_of_lt (Nat.lt_trans kd8.2.2.2.1 (by assumption))) (Nat.ne_of_lt kd8.2.2.2.1) (Nat.ne_of_lt kl10.2.2.2.2.2.1) g3_7 g4_6 (Nat.ne_of_lt (Nat.lt_trans kd8.2.2.2.2.1 (by assumption))) (Nat.ne_of_lt kd8.2.2.2.2.1) (Nat.ne_of_lt kl10.2.2.2.2.2.2.1) g4_7 g5_6 (Nat.ne_of_lt (Nat.lt_trans kd8.2.2.2.2.2.1 (by assumption))) (Nat.ne_of_lt kd8.2.2.2.2.2.1) (Nat.ne_of_lt kl10.2.2.2.2.2.2.2.1) g5_7 (Nat.ne_of_lt (Nat.lt_trans kd8.2.2.2.2.2.2.1 (by assumption))) (Nat.ne_of_lt kd8.2.2.2.2.2.2.1) (Nat.ne_of_lt kl10.2.2.2.2.2.2.2.2.1) g6_7 (Nat.ne_of_gt (by assumption)) (Nat.ne_of_lt kl10.1) (Nat.ne_of_gt (Nat.lt_trans kd8.2.2.2.2.2.2.2 (by assumption))) (Nat.ne_of_lt kl10.2.1) (Nat.ne_of_gt kd8.2.2.2.2.2.2.2) (Nat.ne_of_gt kl10.2.2.2.2.2.2.2.2.2) (fun _ hp => nomatch hp) (fun _ hp => nomatch hp) (fun _ hp => nomatch hp) (fun _ hp => nomatch hp) (fun _ hp => nomatch hp) (fun _ hp => nomatch hp) (fun _ hp => nomatch hp) (fun _ hp => nomatch hp) (fun _ hp => nomatch hp) (fun _ hp => nomatch hp) (fun _ hp => nomatch hp) hE ?_
  intro m' h' tt ps' F2 N2
  dsimp only
  clear kN
  k_steps
  exact ret _ _ _ _ F2 N2
end
end
section
def big (l : List Int) (k : Int) : List Int := if 10 ^ Int.toNat 18 ≤ k then l ++ [k] else l
theorem big_grows : KPfGrows big := by
  intro l k; unfold big; split <;> simp
theorem big_yes {l : List Int} {k : Int} (h : 10 ^ Int.toNat 18 ≤ k) : big l k = l ++ [k] := if_pos h
theorem big_no {l : List Int} {k : Int} (h : ¬ 10 ^ Int.toNat 18 ≤ k) : big l k = l := if_neg h
theorem big_fold : ∀ (ks l : List Int), (∀ k ∈ l, 0 ≤ k) → ∀ k ∈ ks.foldl big l, 0 ≤ k
  | [], l, h => h
  | x :: ks, l, h => by
    refine big_fold ks (big l x) ?_
    unfold big
    split
    · rename_i hx
      intro k hk
      rcases List.mem_append.mp hk with q | q
      · exact h k q
      · rw [List.mem_singleton.mp q]
        exact Int.le_trans (by decide) hx
    · exact h
theorem big_nonneg (ks : List Int) : ∀ k ∈ ks.foldl big [], 0 ≤ k := big_fold ks [] (fun _ h => nomatch h)
theorem big_lenL : ∀ (ks l : List Int), (ks.foldl big l).length ≤ l.length + ks.length
  | [], l => by simp
  | x :: ks, l => by
    have h1 := big_lenL ks (big l x)
    have h2 := big_grows l x
    simp only [List.foldl_cons, List.length_cons]
    omega
theorem big_len (ks : List Int) : (ks.foldl big []).length ≤ ks.length := by simpa using big_lenL ks []
local macro_rules | `(tactic| k_ne) => `(tactic| (refine neN ?_; (try dsimp only); first | with_reducible assumption | (refine Ne.symm ?_; with_reducible assumption) | omega))
local macro_rules | `(tactic| walk_at "eval ListComp") => `(tactic| (k_here; lct_look; k_dflt (refine LCt.ListComp_T (F₀ := by k_asm) (by with_unfolding_all rfl) (by decide) (by rfl) (by decide) (by rfl) ?_)))
local macro_rules | `(tactic| walk_at "CompSrcT") => `(tactic| (k_here; (refine LCt.CompSrcT.ledger (by rfl) (by k_asm) (by k_asm) (by k_mem) (by first | size_fits | exact Nat.le_of_ble_eq_true rfl) ?_; intro g'; (refine kci_list big (by assumption) (fun k' t' I' oI' C' oC' D' m' ys' l' h' tk' E' hk' hI' hC' hx' F' N' off' ne' mk' => ?_) ?_ big_grows); (all_goals (try (simp only [LCg.Off3, and_true] at off'))); (all_goals (try (first | (obtain ⟨⟨_, _, _⟩, ⟨_, _, _⟩, ⟨_, _, _⟩, ⟨_, _, _⟩, ⟨_, _, _⟩, ⟨_, _, _⟩, ⟨_, _, _⟩, ⟨_, _, _⟩, ⟨_, _, _⟩⟩ := off') | (obtain ⟨⟨_, _, _⟩, ⟨_, _, _⟩, ⟨_, _, _⟩, ⟨_, _, _⟩, ⟨_, _, _⟩, ⟨_, _, _⟩, ⟨_, _, _⟩, ⟨_, _, _⟩⟩ := off') | (obtain ⟨⟨_, _, _⟩, ⟨_, _, _⟩, ⟨_, _, _⟩, ⟨_, _, _⟩, ⟨_, _, _⟩, ⟨_, _, _⟩, ⟨_, _, _⟩⟩ := off') | (obtain ⟨⟨_, _, _⟩, ⟨_, _, _⟩, ⟨_, _, _⟩, ⟨_, _, _⟩, ⟨_, _, _⟩, ⟨_, _, _⟩⟩ := off') | (obtain ⟨⟨_, _, _⟩, ⟨_, _, _⟩, ⟨_, _, _⟩, ⟨_, _, _⟩, ⟨_, _, _⟩⟩ := off')))))))
local macro_rules | `(tactic| walk_at "KCiEl") => `(tactic| exact kci_el (big_yes (by simpa using (by assumption))) (by with_unfolding_all rfl) (by with_unfolding_all rfl))
local macro_rules | `(tactic| walk_at "KCiNo") => `(tactic| exact kci_no (big_no (by simpa using (by assumption))) (by with_unfolding_all rfl))
local macro_rules | `(tactic| walk_at "call ref") => `(tactic| ((with_reducible show wpAny _ _ (call (.ref 170) _) _ _ _); refine stop_here ?_))
local macro_rules | `(tactic| walk_at "execs cons") => `(tactic| ((with_reducible show wpAny _ _ (execs (Stmt.Assign [Expr.Name _ _] (Expr.BinOp (Expr.Constant _ _ _) _ (Expr.Call _ _ _ _) _) _ :: _) _) _ _ _); refine stop_here ?_))
local macro_rules | `(tactic| k_steps) => `(tactic| repeat' (first | (k_unfold; (try dsimp only)) | (k_end; wrow_close) | (dsimp only; walk1) | walk1 | (leave1; walk_say "STEP leave1"; try dsimp only) | fail "no step"))
set_option maxHeartbeats 8000000 in
theorem t1 : PySem.Challenge.rw_np0009_01.Holds := hd (by
  k_go0; (all_goals try k_fold)
  k_with_none
  k_steps
  refine Stop.mk ?_
  rename Fr _ _ _ _ => kF
  rename News _ _ _ _ => kN
  rename IntsAre _ (List.foldl big [] _) => hA
  rename IntsAre _ (_ ++ [_]) => hB
  rename Below _ _ [] _ => kB
  rename Top topProg _ _ _ _ _ => kT
  rename CodeHd _ 181 179 => kC
  have kX := (by assumption : (KK _).In _)
  rename (179 < _) => k179
  rename (_ ∧ _ ∧ _ ∧ _ ∧ _ ∧ 179 ≠ _) => ka6
  rename (_ ∧ _ ∧ _ ∧ _ ∧ _ ∧ _ ∧ _ ∧ 179 < _) => kb8
  rename (_ ∧ _ ∧ _ ∧ _ ∧ _ ∧ _ ∧ _ ∧ _ ∧ 179 < _) => kD9
  rename (_ ∧ _ ∧ _ ∧ _ ∧ _ ∧ _ ∧ _ ∧ _ ∧ _ ∧ 179 < _) => kO10
  refine law_init ⟨_, _, _, _, _, _, _, _, rfl⟩ kB kX kT kC (fr_of kF (fr_add rfl (fr_add rfl (fr_add rfl fun _ => rfl)))) (cb_drop kN (List.forall_mem_cons.mpr ⟨(.tail _ (.tail _ (.head _))), (List.forall_mem_cons.mpr ⟨(.tail _ (.tail _ (.tail _ (.tail _ (.tail _ (.head _)))))), (List.forall_mem_cons.mpr ⟨(.tail _ (.tail _ (.tail _ (.head _)))), (List.forall_mem_cons.mpr ⟨(.tail _ (.tail _ (.tail _ (.tail _ (.tail _ (.tail _ (.tail _ (.tail _ (.tail _ (.tail _ (.head _))))))))))), (List.forall_mem_cons.mpr ⟨(.tail _ (.tail _ (.tail _ (.tail _ (.tail _ (.tail _ (.tail _ (.tail _ (.tail _ (.head _)))))))))), (List.forall_mem_cons.mpr ⟨(.tail _ (.tail _ (.tail _ (.tail _ (.tail _ (.tail _ (.tail _ (.tail _ (.head _))))))))), (List.forall_mem_cons.mpr ⟨(.tail _ (.tail _ (.tail _ (.tail _ (.tail _ (.tail _ (.tail _ (.tail _ (.tail _ (.tail _ (.tail _ (.head _)))))))))))), (List.forall_mem_cons.mpr ⟨(.tail _ (.head _)), (List.forall_mem_nil _)⟩)⟩)⟩)⟩)⟩)⟩)⟩)⟩)) hA (big_nonneg _) (Nat.lt_of_le_of_lt (big_len _) (by simp only [List.length_append, List.length_map, List.length_take, List.length_cons, List.length_nil]; omega)) hB (by simp only [List.length_append, List.length_map, List.length_take, List.length_cons, List.length_nil]; omega) (by simp only [List.length_append, List.length_map, List.length_take, List.length_cons, List.length_nil]; omega) (by decide) (by decide) (by assumption) (by assumption) (by assumption) rfl (Nat.ne_of_gt kD9.2.2.1) (Nat.ne_of_gt kD9.1) (Nat.ne_of_gt kD9.2.2.2.2.2.2.2.1) (Nat.ne_of_gt kD9.2.2.2.2.2.2.1) (Nat.ne_of_gt kD9.2.2.2.2.2.1) (Nat.ne_of_gt kD9.2.2.2.2.2.2.2.2) (Nat.ne_of_lt kO10.1) (Nat.ne_of_lt kb8.2.1) (Ne.symm ka6.2.2.2.2.1) (Ne.symm ka6.2.2.2.1) (Ne.symm ka6.2.2.1) (Ne.symm ka6.2.2.2.2.2) (Nat.ne_of_lt kO10.2.2.2.1) (Nat.ne_of_gt kb8.2.2.2.2.2.2.1) (Nat.ne_of_gt kb8.2.2.2.2.2.1) (Nat.ne_of_gt kb8.2.2.2.2.1) (Nat.ne_of_gt kb8.2.2.2.2.2.2.2) (Nat.ne_of_lt kO10.2.1) (Nat.ne_of_gt (Nat.lt_succ_of_lt k179)) (Nat.ne_of_lt kO10.2.2.2.2.2.2.2.2.1) (Nat.ne_of_gt (Nat.lt_succ_of_lt (Nat.lt_succ_of_lt k179))) (Nat.ne_of_lt kO10.2.2.2.2.2.2.2.1) (Nat.ne_of_gt (Nat.lt_succ_of_lt (Nat.lt_succ_of_lt (Nat.lt_succ_of_lt k179)))) (Nat.ne_of_lt kO10.2.2.2.2.2.2.1) (Nat.ne_of_lt kO10.2.2.2.2.2.2.2.2.2) (by passes_own) ?_
  intro m' h' tt ps' F2 N2
  dsimp only
  clear kN
  k_steps)
end
end Mine
theorem PySem.Challenge.cw_np0009_01_holds : PySem.Challenge.rw_np0009_01.Holds := by
  exact Mine.t1
