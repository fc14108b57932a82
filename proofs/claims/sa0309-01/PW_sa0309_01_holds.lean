import PyProof.Rows.All
import Wide.All
import OpenK.AllK
import Wide.FinOn
import Lean
import PySem.Challenge.RW_sa0309_01
open PySem PySem.W PyProof.Rows
set_option Elab.async false
set_option linter.all false
set_option maxRecDepth 100000
set_option maxHeartbeats 8000000
set_option rowWalk.seconds 0
set_option compiler.extract_closed false
namespace Mine
/-- the top's statements that bear a name: those of the given program, by unification -/
noncomputable abbrev mkView (c0 c1 c2 c3 c4 c5 c6 c7 c8 c9 c10 c11 c12 c13 c14 c15 c16 c17 c18 c19 c20 c21 c22 c23 c24 c25 c26 c27 c28 c29 c30 c31 c32 c33 c34 c35 c36 c37 c38 c39 c40 c41 c42 c43 c44 c45 c46 c47 c48 c49 c50 c51 : Stmt) (_ : PySem.Challenge.pw_sa0309_01.main.body = [c0, c1, c2, c3, c4, c5, c6, c7, c8, c9, c10, c11, c12, c13, c14, c15, c16, c17, c18, c19, c20, c21, c22, c23, c24, c25, c26, c27, c28, c29, c30, c31, c32, c33, c34, c35, c36, c37, c38, c39, c40, c41, c42, c43, c44, c45, c46, c47, c48, c49, c50, c51]) : Program := { PySem.Challenge.pw_sa0309_01 with main := { PySem.Challenge.pw_sa0309_01.main with body := [c1, c2, c3, c5, c6, c7, c8, c9, c10, c11, c12, c14, c15, c16, c17, c18, c20, c21, c22, c23, c24, c25, c26, c27, c28, c29, c30, c31, c32, c33, c34, c35, c36, c37, c39, c41, c42, c43, c45, c46, c47, c48, c49, c50, c51] } }
noncomputable def hd.view_39 : Program := mkView _ _ _ _ _ _ _ _ _ _ _ _ _ _ _ _ _ _ _ _ _ _ _ _ _ _ _ _ _ _ _ _ _ _ _ _ _ _ _ _ _ _ _ _ _ _ _ _ _ _ _ _ rfl
/-- the top's run over a tree of objects -/
noncomputable def runG (ok : Thread → Bool) (st : SharedT → Thread → Option (SharedT × Thread)) : Nat → SharedT → Thread → Option SharedT
  | 0, _, _ => none
  | n + 1, s, t => match through t with
    | true => some s
    | false => match ok t with
      | false => none
      | true => match st s t with
        | some (s', t') => runG ok st n s' t'
        | none => none
theorem runG_of {tb : String → Option Builtin} {p : Program} {w : World} {n₀ : Nat} {ann : Option Value} : ∀ {n : Nat} {s s' : SharedT} {t : Thread}, runG (stepOk n₀ ann) (stepT (denote tb) p w) n s t = some s' → topRun tb p w n₀ ann n s.abs t = some s'.abs
  | 0, _, _, _, h => by cases h
  | n + 1, s, s', t, h => by
    unfold runG at h
    unfold topRun
    cases h1 : through t with
    | true => rw [h1] at h; cases h; rfl
    | false =>
      rw [h1] at h
      cases h2 : stepOk n₀ ann t with
      | false => rw [h2] at h; cases h
      | true =>
        rw [h2] at h
        cases h3 : stepT (denote tb) p w s t with
        | none => rw [h3] at h; cases h
        | some r =>
          obtain ⟨s2, t2⟩ := r
          rw [h3] at h
          have e := stepT_spec h3
          show (match step (denote tb) p w s.abs t with | .go s' t' => topRun tb p w n₀ ann n s' t' | .halt _ _ => none) = _
          rw [e]
          exact runG_of h
noncomputable def treeL (l : List Obj) : BT := (l.foldl (fun (a : BT × Nat) o => (a.1.ins a.2 o, a.2 + 1)) (BT.nil, 0)).1
noncomputable def bootT (P : Params) : BT := treeL (boot_heap P).objs.toList
theorem bootT_abs (P : Params) : absHeap (bootT P) 11 {} = boot_heap P := by kernel_rfl
theorem boot_facts (w : World) : ((boot_heap w.params).isNs mainGlobals, (boot_heap w.params).objs.size, (boot_heap w.params).nsMap mainGlobals "__annotations__") = (true, 11, some (.ref 6)) := by kernel_rfl
/-- the whole top, run over a tree of objects -/
noncomputable abbrev topT (p : Program) (w : World) (os : OsState) (N : Nat) : Option SharedT := runG (stepOk 11 (some (.ref 6))) (stepT (denote treeTable) p w) N ⟨bootT w.params, 11, {}, Array.mk [], boot_drawn, boot_toks, os⟩ (topStub p)
theorem left_tree {p q : Program} {loose : List PySem.Str} {Xt : Shared → Bool} {α : Type} {Yf : Shared → α} {Ya : World → α} {N : Nat} {g0 : Bool} (e : opening p = plainProg p.main.scope.names) (hN : Nat.ble 600 N = true) (f : ∀ s, fenceModules? p s = some s)
   (g1 : ∀ (w : World) (os : OsState), (topT p w os N).map (fun sT => staticsOk (importedModules p.main.body) (boot_heap w.params) sT.abs.heap && namesBound p sT.abs.heap && gensDone sT.abs && laidKept (boot_heap w.params) sT.abs.heap) = some true)
   (g2 : ∀ (w : World) (os : OsState), (topT p w os N).map (fun sT => openSeen q loose (importedModules p.main.body) Xt g0 sT.abs) = some (openGood q loose))
   (g3 : ∀ (w : World) (os : OsState), (topT p w os N).map (fun sT => Yf sT.abs) = some (Ya w)) : LeftO p q loose Xt Yf Ya N g0 := fun w => by
  obtain ⟨⟨hp, gs, d, k, os⟩, e1, e2⟩ := Option.map_eq_some_iff.mp (boot_open e hN f w)
  obtain ⟨rfl, rfl, rfl, rfl⟩ : hp = boot_heap w.params ∧ gs = Array.mk [] ∧ d = boot_drawn ∧ k = boot_toks := by simpa using e2
  obtain ⟨sT, h1, l1⟩ := Option.map_eq_some_iff.mp (g1 w os)
  have l2 := g2 w os
  rw [h1] at l2
  have l2 : openSeen q loose (importedModules p.main.body) Xt g0 sT.abs = openGood q loose := Option.some.inj l2
  have l3 := g3 w os
  rw [h1] at l3
  have l3 : Yf sT.abs = Ya w := Option.some.inj l3
  obtain ⟨z1, z2, z3⟩ : _ ∧ _ ∧ _ := by simpa only [Prod.mk.injEq] using boot_facts w
  have r := runG_of h1
  have ea : (SharedT.abs ⟨bootT w.params, 11, {}, Array.mk [], boot_drawn, boot_toks, os⟩) = ⟨boot_heap w.params, Array.mk [], boot_drawn, boot_toks, os⟩ := by
    unfold SharedT.abs; rw [bootT_abs]
  rw [ea] at r
  have t : topFrom treeTable p w N ⟨boot_heap w.params, Array.mk [], boot_drawn, boot_toks, os⟩ = some sT.abs := by
    unfold topFrom
    dsimp only
    rw [z1, z2, z3, r]
    show (match staticsOk (importedModules p.main.body) (boot_heap w.params) sT.abs.heap && namesBound p sT.abs.heap && gensDone sT.abs && laidKept (boot_heap w.params) sT.abs.heap with | true => some sT.abs | false => none) = _
    rw [l1]
  unfold openEnds
  rw [e1]
  show (topFrom treeTable p w N ⟨boot_heap w.params, Array.mk [], boot_drawn, boot_toks, os⟩).map _ = _
  rw [t]
  show some (_, _) = _
  rw [l2, l3]
theorem top_statics (w : World) (os : OsState) : (topT PySem.Challenge.pw_sa0309_01 w os 4724).map (fun sT => staticsOk (importedModules PySem.Challenge.pw_sa0309_01.main.body) (boot_heap w.params) sT.abs.heap && namesBound PySem.Challenge.pw_sa0309_01 sT.abs.heap && gensDone sT.abs && laidKept (boot_heap w.params) sT.abs.heap) = some true := by
  unfold topT
  rw [PySem.W.Fast.te6613529449190102663, PySem.W.Fast.te10156331382660048174, PySem.W.Fast.te11892475500146522536, PySem.W.Fast.te14364793385576792824]
  kernel_rfl
theorem top_seen (w : World) (os : OsState) : (topT PySem.Challenge.pw_sa0309_01 w os 4724).map (fun sT => openSeen hd.view_39 [PySem.Str.ofString "root_trie", PySem.Str.ofString "LEAST_ADDRESS"] (importedModules PySem.Challenge.pw_sa0309_01.main.body) (fun s => xlAt hd.view_39 [(PySem.Str.ofString "LEAST_ADDRESS", WData.int 605153021707326989568713251046585937826284568576)] s && recOk (RowW.records (OpenRow.toRowW (OpenLaw.row PySem.Challenge.rw_sa0309_01))) s) true sT.abs) = some (openGood hd.view_39 [PySem.Str.ofString "root_trie", PySem.Str.ofString "LEAST_ADDRESS"]) := by
  unfold topT
  rw [PySem.W.Fast.te6613529449190102663, PySem.W.Fast.te10156331382660048174, PySem.W.Fast.te11892475500146522536, PySem.W.Fast.te14364793385576792824]
  rw [PySem.W.Fast.te4187177175401517315]
  kernel_rfl
local macro_rules | `(tactic| k_qdec) => `(tactic| decide +kernel)
section HeadWhole
theorem oHead (H : Hook) {d : DefRec} {kwd : List (PySem.Str × PySem.Expr)} (hl : ∀ (w : World) (os : OsState), (topT PySem.Challenge.pw_sa0309_01 w os 4724).map (fun sT => Hook.obs H sT.abs) = some (Hook.val H w)) (said : (OpenLaw.row PySem.Challenge.rw_sa0309_01).wellSaid = true)
   (hdef : defOf hd.view_39 (OpenLaw.row PySem.Challenge.rw_sa0309_01).name = some (d, kwd)) (hp : (OpenLaw.row PySem.Challenge.rw_sa0309_01).prog.theDef (OpenLaw.row PySem.Challenge.rw_sa0309_01).name = some (d.params, d.body, d.scope)) (hk : kwWritten? d.params.kwonlyargs d.params.kw_defaults = some kwd) (hw : (OpenLaw.row PySem.Challenge.rw_sa0309_01).toRowW.promised)
   (hc : WalkO hd.view_39 [PySem.Str.ofString "root_trie", PySem.Str.ofString "LEAST_ADDRESS"] (XL hd.view_39 [(PySem.Str.ofString "LEAST_ADDRESS", WData.int 605153021707326989568713251046585937826284568576)]) (Hook.says H) (OpenLaw.row PySem.Challenge.rw_sa0309_01).toRowW d kwd fun f vs => PySem.call f vs) : (OpenLaw.row PySem.Challenge.rw_sa0309_01).Holds :=
  holds_open (q := hd.view_39) (loose := [PySem.Str.ofString "root_trie", PySem.Str.ofString "LEAST_ADDRESS"]) (Xt := (fun s => xlAt hd.view_39 [(PySem.Str.ofString "LEAST_ADDRESS", WData.int 605153021707326989568713251046585937826284568576)] s && recOk (RowW.records (OpenRow.toRowW (OpenLaw.row PySem.Challenge.rw_sa0309_01))) s)) (XP := XL hd.view_39 [(PySem.Str.ofString "LEAST_ADDRESS", WData.int 605153021707326989568713251046585937826284568576)]) (Yf := Hook.obs H) (Ya := Hook.val H) (YP := Hook.says H) (N := 4724) (left_tree rfl rfl (fun _ => rfl) top_statics top_seen hl) (Hook.of H) (Hook.keeps H) (fun s e => xl_of s (Bool.and_eq_true_iff.mp e).1) XL.keeps hdef hp hk (fun s e => recFacts_of (Bool.and_eq_true_iff.mp e).2) (by rfl) said (look_both (look_both (by decide +kernel) (by decide +kernel)) (by decide +kernel)) ⟨rfl, rfl, rfl, rfl, rfl, by decide +kernel⟩ hw hc
theorem law_said : OpenLaw.wellSaid PySem.Challenge.rw_sa0309_01 = true := by
  unfold OpenLaw.wellSaid
  repeat refine look_both ?_ ?_
  all_goals decide +kernel
local macro_rules | `(tactic| o_law) => `(tactic| (refine holds_law law_said fun said => ?_))
local macro_rules | `(tactic| o_head $H) => `(tactic| (refine oHead $H ?hl (by assumption) (by rfl) (by rfl) (by rfl) ?hw ?hc; (case hl => (intro w os; unfold topT; rw [PySem.W.Fast.te6613529449190102663, PySem.W.Fast.te10156331382660048174, PySem.W.Fast.te11892475500146522536, PySem.W.Fast.te14364793385576792824]; kernel_rfl))))
open_top hd for PySem.Challenge.rw_sa0309_01
end HeadWhole
/-- the head leaves a switch of the walk on: off again -/
theorem walk_off : True := by first | row_walk | trivial
section
abbrev Led := List (Addr × Obj)
noncomputable abbrev PP : Program := PySem.Challenge.pw_sa0309_01
noncomputable abbrev LS : List Str := looseW hd.view_39 [Str.ofString "root_trie", Str.ofString "LEAST_ADDRESS"]

/-- a def's contract: what it wants of its arguments over the ledger, what it gives back -/
def Tell (w : World) (f : Addr) (D U : Nat) (Pre : Led → List Value → Prop) (Post : Led → List Value → Led → Value → Prop) : Prop :=
  ∀ (mean : ExcName → Option Value) (mg mb : Str → Option Value) (dp un : Nat) (gd : Option (List Code)) (cn : Str) (cs : Scope) (a : Addr) (ccd : Value) (cl : List (Str × Addr)) (outer : List Env) (A₀ : Around) (base h₀ : Heap) (L : Addr) (m : Str → Option Value) (news : Led) (s : Shared) (vs : List Value)
    (Q E : Value → Shared → Prop),
    Below A₀ base outer h₀ → Fr h₀ L s.heap m → (hd.heap_1 w.params).In h₀ → News h₀ L s.heap news → Top hd.view_39 LS mean mg mb h₀ → cs.kind = .function → Pre news vs → dp + D < recursionLimit → un + U < cLine →
    (∀ r news' h' tk', Fr h₀ L h' m → News h₀ L h' news' → Post news vs news' r → Q r { s with heap := h', toks := tk' }) →
    wpAny (model PP w) (ktrTop dp un gd cn cs L a ccd cl outer) (call (.ref f) vs) Q E s

theorem fillK : PySem.Challenge.rw_sa0309_01 = PySem.Challenge.rw_sa0309_01 ∧ hd.heap_1 = hd.heap_1 := by
  k_fill
  exact ⟨rfl, rfl⟩
end
section
noncomputable abbrev tupO (vs : List Value) : Obj := { cls := .type "tuple", data := .seq vs.toArray }

noncomputable def beN (n : Nat) : List UInt8 := if n = 0 then [] else if n < 256 then [n.toUInt8] else [(n/256).toUInt8, (n%256).toUInt8]
noncomputable def kN (n : Nat) : Nat := if n = 0 then 0 else if n < 256 then 1 else 2
theorem news_sub {h₀ h : Heap} {L : Addr} {l l' : Led} (N : News h₀ L h l) (hs : ∀ p ∈ l', p ∈ l) : News h₀ L h l' := fun p hp => N p (hs p hp)
open PySem.Builtin.Int (intBits)
theorem fdiv_kN {n : Nat} (hn : n < 65536) : (((intBits (n : Int) : Nat) : Int) + 7).fdiv 8 = ((kN n : Nat) : Int) := by
  rw [Int.fdiv_eq_ediv_of_nonneg _ (by decide)]
  unfold kN
  have e0 := @intBits_le_iff 0 (n : Int)
  have e8 := @intBits_le_iff 8 (n : Int)
  have e16 := @intBits_le_iff 16 (n : Int)
  simp only [Int.natAbs_natCast] at e0 e8 e16
  simp only [Nat.reducePow] at e0 e8 e16
  split
  · omega
  · split <;> omega
theorem toList_of_ints {b : Array UInt8} {l : List UInt8} (h : KBw.bInts b = l.map fun c => (c.toNat : Int)) : b.toList = l := by
  unfold KBw.bInts at h
  generalize b.toList = x at h
  induction x generalizing l with
  | nil => cases l with
    | nil => rfl
    | cons _ _ => cases h
  | cons c r ih => cases l with
    | nil => cases h
    | cons d q =>
      simp only [List.map_cons, List.cons.injEq] at h
      rw [ih h.2]
      have : c = d := UInt8.toNat_inj.mp (by omega)
      rw [this]
theorem beN_of {n : Nat} {b : Array UInt8} (hn : n < 65536) (h : KBw.bInts b = (KTBy.little (kN n) (n : Int)).reverse) : b.toList = beN n := by
  refine toList_of_ints (h.trans ?_)
  unfold kN beN
  by_cases h0 : n = 0
  · simp [h0, KTBy.little]
  · by_cases h1 : n < 256
    · rw [if_neg h0, if_pos h1, if_neg h0, if_pos h1]
      simp only [KTBy.little, List.reverse_cons, List.reverse_nil, List.nil_append, List.map_cons, List.map_nil]
      have : (n.toUInt8).toNat = n := by simp; omega
      rw [this]
      congr 1
      omega
    · rw [if_neg h0, if_neg h1, if_neg h0, if_neg h1]
      simp only [KTBy.little, List.reverse_cons, List.reverse_nil, List.nil_append, List.map_cons, List.map_nil, List.cons_append]
      have e1 : ((n / 256).toUInt8).toNat = n / 256 := by simp; omega
      have e2 : ((n % 256).toUInt8).toNat = n % 256 := by simp
      rw [e1, e2]
      congr 1
      omega
theorem pow_kN {n : Nat} (hn : n < 65536) : (n : Int) < (256 : Int) ^ kN n := by
  unfold kN
  split
  · subst_vars; decide
  · split
    · show (n : Int) < 256; omega
    · show (n : Int) < 65536; omega
theorem kN_le (n : Nat) : kN n ≤ 8 := by unfold kN; split <;> (try split) <;> omega
theorem ne_append {a b : Led} {d : Addr} (h1 : ∀ p ∈ a, p.1 ≠ d) (h2 : ∀ p ∈ b, p.1 ≠ d) : ∀ p ∈ a ++ b, p.1 ≠ d := fun p hp => (List.mem_append.mp hp).elim (h1 p) (h2 p)
theorem lt_succ_ne {a : Led} {d : Addr} (h : ∀ p ∈ a, p.1 < d) : ∀ p ∈ a, p.1 ≠ d + 1 := fun p hp => Nat.ne_of_lt (Nat.lt_succ_of_lt (h p hp))
theorem ne_of_lt {a : Led} {d : Addr} (h : ∀ p ∈ a, p.1 < d) : ∀ p ∈ a, p.1 ≠ d := fun p hp => Nat.ne_of_lt (h p hp)
theorem ne_of_allLt {a : Led} {d : Addr} (h : AllLt d a) : ∀ p ∈ a, p.1 ≠ d := fun p hp => Nat.ne_of_lt (tb_ltOf h p hp)
def Abv (news tl : Led) : Prop := ∀ q ∈ news, ∀ z ∈ tl, q.1 < z.1
/-- the ledger has grown by new objects alone -/
def Grow (news news' : Led) : Prop := ∃ tl, news' = tl ++ news ∧ Abv news tl
theorem Grow.refl {news : Led} : Grow news news := ⟨[], rfl, fun _ _ _ h => nomatch h⟩
theorem Grow.sub {news news' : Led} (g : Grow news news') : ∀ p ∈ news, p ∈ news' := fun p hp => let ⟨_, e, _⟩ := g; e ▸ List.mem_append.mpr (.inr hp)
theorem Grow.cons {news news' : Led} {a : Addr} {o : Obj} (h : AllLt a news') (g : Grow news news') : Grow news ((a, o) :: news') := by
  obtain ⟨tl, rfl, ha⟩ := g
  refine ⟨(a, o) :: tl, rfl, fun q hq z hz => ?_⟩
  rcases List.mem_cons.mp hz with rfl | hz
  · exact tb_ltOf h q (List.mem_append.mpr (.inr hq))
  · exact ha q hq z hz
theorem Grow.app {news news' tl : Led} (h : Abv news' tl) (g : Grow news news') : Grow news (tl ++ news') := by
  obtain ⟨tl', rfl, ha⟩ := g
  refine ⟨tl ++ tl', (List.append_assoc _ _ _).symm, fun q hq z hz => ?_⟩
  rcases List.mem_append.mp hz with hz | hz
  · exact h q (List.mem_append.mpr (.inr hq)) z hz
  · exact ha q hq z hz
theorem Grow.trans {a b c : Led} (g : Grow a b) (h : Grow b c) : Grow a c := by
  obtain ⟨tl, rfl, ha⟩ := h
  exact g.app ha
def Stop (P : Prop) : Prop := P
theorem Tell.conv {w : World} {f : Addr} {D U D' U' : Nat} {Pre Pre' : Led → List Value → Prop} {Post Post' : Led → List Value → Led → Value → Prop} (C : Tell w f D U Pre Post) (hD : D ≤ D') (hU : U ≤ U') (hp : ∀ n v, Pre' n v → Pre n v) (hq : ∀ n v n' r, Pre' n v → Post n v n' r → Post' n v n' r) : Tell w f D' U' Pre' Post' :=
  fun _ _ _ _ _ _ _ _ _ _ _ _ _ _ _ _ _ _ _ _ _ _ B F X N T hk p hd hu ret => C _ _ _ _ _ _ _ _ _ _ _ _ _ _ _ _ _ _ _ _ _ _ B F X N T hk (hp _ _ p) (Nat.lt_of_le_of_lt (Nat.add_le_add_left hD _) hd) (Nat.lt_of_le_of_lt (Nat.add_le_add_left hU _) hu) fun r n' h' tk' F' N' q => ret r n' h' tk' F' N' (hq _ _ _ _ p q)
theorem stop_here {P : Prop} (h : Stop P) : P := h
section
variable {prog : Program} {w : World} {A : Around} {E : Value → Shared → Prop} {s : Shared} {h₀ : Heap} {L : Addr} {news : Led}
theorem len_tupL {t : Addr} {vs : List Value} {n : Nat} {Q : Value → Shared → Prop} (N : News h₀ L s.heap news) (hm : (t, ({ cls := .type "tuple", data := .seq vs.toArray n } : Obj)) ∈ news) (hz : vs.length ≤ 1000000)
    (h : Q (.int (vs.length : Nat) (s.toks + 1)) { s with toks := s.toks + 1 + 1 }) : wpAny (model prog w) A (call (.builtin "len") [.ref t]) Q E s := by
  refine PyProof.Rows.len_tuple (News.isTup N hm) (by rw [List.size_toArray]; omega) ?_
  rw [List.size_toArray]; exact h
theorem len_lstL {t : Addr} {vs : List Value} {n : Nat} {Q : Value → Shared → Prop} (N : News h₀ L s.heap news) (hm : (t, listOf vs.toArray n) ∈ news) (hz : vs.length ≤ 1000000)
    (h : Q (.int (vs.length : Nat) (s.toks + 1)) { s with toks := s.toks + 1 + 1 }) : wpAny (model prog w) A (call (.builtin "len") [.ref t]) Q E s := by
  refine Calls.call_len_list (News.isList N hm) (by rw [List.size_toArray]; omega) ?_
  rw [List.size_toArray]; exact h
theorem set_lstL {D : Addr} {m : Str → Option Value} {news' : Led} {vs : List Value} {n i : Nat} {t : Tok} {v : Value} {Q : Unit → Shared → Prop} (F : Fr h₀ L s.heap m) (N : News h₀ L s.heap news) (U : Upd D (listOf vs.toArray n) (listOf (vs.set i v).toArray n) news news') (hi : i < vs.length) (hz : vs.length ≤ 1000000)
    (h : ∀ h', Fr h₀ L h' m → News h₀ L h' news' → Q () { s with heap := h' }) :
    wpAny (model prog w) A (setItem (.ref D) (.int (i : Nat) t) v) Q E s := by
  obtain ⟨pre, post, rfl, rfl, a, b⟩ := U.split
  have z := N (D, listOf vs.toArray n) (List.mem_append.mpr (.inr (.head _)))
  have hs : vs.toArray.size = vs.length := by rw [List.size_toArray]
  refine ki_setAt z.1 (by omega) (by omega) (by omega) (h _ (F.change (Heap.SameBut.update ..) z.2.1 z.2.2) (ki_turn _ N a b ?_ ?_))
  · show vs.toArray.setIfInBounds (i : Int).toNat v = (vs.set i v).toArray
    apply Array.toList_inj.mp
    simp
  · simp
theorem item_tupL {value slice : Expr} {t : Addr} {l : List Value} {n j : Nat} {k : Int} {u : Tok} {x : Value} {Q : Value → Shared → Prop} (N : News h₀ L s.heap news) (hm : (t, ({ cls := .type "tuple", data := .seq l.toArray n } : Obj)) ∈ news)
    (hk : k = (j : Nat)) (hz : l.length ≤ 1000000) (hx : l[j]? = some x) (h : Q x s)
    (hs : subscripted slice false (.ref t) (.int k u) = operate [.ref t, .int k u] (getItem (.ref t) (.int k u)) := by with_unfolding_all rfl) :
    wpAny (model prog w) A (subscriptTail value slice (.ref t) (.int k u)) Q E s := by
  subst hk
  have hj : j < l.length := (List.getElem?_eq_some_iff.mp hx).1
  exact item_tupleT (News.isTup N hm) (by omega) (by omega) (by unfold seqIndex?; simp; omega) hx h hs
theorem item_tup0 {value slice : Expr} {t : Addr} {v : Value} {rest : List Value} {n : Nat} {u : Tok} {Q : Value → Shared → Prop} (N : News h₀ L s.heap news) (hm : (t, ({ cls := .type "tuple", data := .seq (v :: rest).toArray n } : Obj)) ∈ news)
    (hz : rest.length ≤ 1000) (h : Q v s)
    (hs : subscripted slice false (.ref t) (.int 0 u) = operate [.ref t, .int 0 u] (getItem (.ref t) (.int 0 u)) := by with_unfolding_all rfl) :
    wpAny (model prog w) A (subscriptTail value slice (.ref t) (.int 0 u)) Q E s := item_tupL (j := 0) N hm rfl (by simp; omega) rfl h hs
end
theorem stop_open {P : Prop} (h : P) : Stop P := h
theorem call_tell {w : World} {f : Addr} {D U : Nat} {Pre : Led → List Value → Prop} {Post : Led → List Value → Led → Value → Prop} {mean : ExcName → Option Value} {mg mb : Str → Option Value} {dp un : Nat} {gd : Option (List Code)} {cn : Str} {cs : Scope} {a : Addr} {ccd : Value} {cl : List (Str × Addr)} {outer : List Env} {A₀ : Around} {base h₀ : Heap} {L : Addr} {m : Str → Option Value} {news : Led} {s : Shared} {vs : List Value}
    {Q E : Value → Shared → Prop} (C : Tell w f D U Pre Post)
    (B : Below A₀ base outer h₀) (F : Fr h₀ L s.heap m) (X : (hd.heap_1 w.params).In h₀) (N : News h₀ L s.heap news) (T : Top hd.view_39 LS mean mg mb h₀) (hk : cs.kind = .function) (hp : Pre news vs) (hd : dp + D < recursionLimit) (hu : un + U < cLine)
    (ret : ∀ r news' h' tk', Fr h₀ L h' m → News h₀ L h' news' → Post news vs news' r → Q r { s with heap := h', toks := tk' }) :
    Stop (wpAny (model PP w) (ktrTop dp un gd cn cs L a ccd cl outer) (call (.ref f) vs) Q E s) := C _ _ _ _ _ _ _ _ _ _ _ _ _ _ _ _ _ _ _ _ _ _ B F X N T hk hp hd hu ret
end
section
/-- the end of a turn -/
def LEnd (h₀ : Heap) (L : Addr) (J : (Str → Option Value) → Led → Prop) (it : Addr × Obj) (keep : Led) (s₁ s₂ : Shared) : Prop :=
  ∃ h' tk m' news' nx, s₂ = { s₁ with heap := h', toks := tk } ∧ Fr h₀ L h' m' ∧ News h₀ L h' news' ∧ it ∈ news' ∧ (∀ p ∈ nx, p ∈ news') ∧ (∀ p ∈ nx, p.1 ≠ it.1) ∧ (∀ p ∈ keep, p ∈ nx) ∧ J m' nx
def LPost (h₀ : Heap) (L : Addr) (J : (Str → Option Value) → Led → Prop) (it : Addr × Obj) (keep : Led) (s₁ : Shared) (Q : Flow → Shared → Prop) (f : Flow) (s₂ : Shared) : Prop :=
  match f with
  | .ret v => Q (.ret v) s₂
  | .brk => Q .next s₂
  | _ => LEnd h₀ L J it keep s₁ s₂
theorem LEnd.intro {h₀ : Heap} {L : Addr} {J : (Str → Option Value) → Led → Prop} {it : Addr × Obj} {keep : Led} {s₁ : Shared} {h' : Heap} {tk : Nat} {m' : Str → Option Value} {news' : Led} (nx : Led)
    (F : Fr h₀ L h' m') (N : News h₀ L h' news') (hi : it ∈ news') (hn : ∀ p ∈ nx, p ∈ news') (ho : ∀ p ∈ nx, p.1 ≠ it.1) (hk : ∀ p ∈ keep, p ∈ nx) (hj : J m' nx) :
    LEnd h₀ L J it keep s₁ { s₁ with heap := h', toks := tk } := ⟨h', tk, m', news', nx, rfl, F, N, hi, hn, ho, hk, hj⟩
section
variable {prog : Program} {w : World} {A : Around} {E : Value → Shared → Prop} {s : Shared} {env : Env} {h₀ : Heap} {x : Str} {body : List Stmt} {Q : Flow → Shared → Prop}
/-- a for over a list of the ledger's: J says what holds of the frame's names and of the ledger between the turns -/
theorem loop_list {l : Addr} {vs : List Value} {n : Nat} {m₀ : Str → Option Value} {news : Led} (J : Nat → (Str → Option Value) → Led → Prop)
    (hh : A.handled = none) (F : Fr h₀ env.locals s.heap m₀) (N : News h₀ env.locals s.heap news) (hm : (l, listOf vs.toArray n) ∈ news) (hj : J 0 m₀ news)
    (turn : ∀ i v m₁ nx h tk I oI, vs[i]? = some v → (l, listOf vs.toArray n) ∈ nx → (∀ p ∈ nx, p.1 ≠ I) → J i m₁ nx → Fr h₀ env.locals h (fun y => if y = x then some v else m₁ y) → News h₀ env.locals h ((I, oI) :: nx) →
      wpAny (model prog w) A (execs body env) (LPost h₀ env.locals (J (i + 1)) (I, oI) [(l, listOf vs.toArray n)] { s with heap := h, toks := tk } Q) E { s with heap := h, toks := tk })
    (done : ∀ m₁ nx h tk, J vs.length m₁ nx → Fr h₀ env.locals h m₁ → News h₀ env.locals h nx → Q .next { s with heap := h, toks := tk }) :
    Stop (wpAny (model prog w) A (pyIter (.ref l)) (fun it s₂ => LoopAtV prog w A h₀ env x body Q E it s₂) E s) := by
  have hls : s.heap.IsList l vs.toArray := N.isList hm
  have hlt : l < s.heap.objs.size := Heap.lt_size (N _ hm).1
  have hne : l ≠ s.heap.objs.size := Nat.ne_of_lt hlt
  refine wpAny_pyIter_list hls ?_
  have W := Walks.list (prog := prog) (w := w) hh s.heap.objs.size l hne vs.toArray
  have hlen : vs.toArray.size = vs.length := by simp
  rw [hlen] at W
  refine ⟨_, _, _, vs.length, _, _, m₀, news, fun i m nx => (l, listOf vs.toArray n) ∈ nx ∧ J i m nx, rfl, W, ?_, ?_, ?_, ⟨⟨_, Heap.get?_push_size _ rfl, rfl, rfl⟩, hls.at fun o e => Heap.get?_push_of_some _ e⟩, F.push _, (fun p hp => ⟨Heap.get?_push_of_some _ (N p hp).1, (N p hp).2⟩), ⟨hm, hj⟩, ?_, ?_⟩
  · intro hm'
    rcases List.mem_cons.mp hm' with e | hm'
    · exact absurd F.ns.lt (e ▸ Nat.lt_irrefl _)
    · exact (N _ hm).2.1 (List.mem_singleton.mp hm').symm
  · intro b hb
    rw [List.mem_singleton.mp hb]
    exact next_is_new F
  · intro p hp hI
    exact absurd (Heap.lt_size (N p hp).1) ((List.mem_singleton.mp hI) ▸ Nat.lt_irrefl _)
  · rintro i v m₁ news₁ s₁ own ⟨hh', tk', rfl⟩ hin hP ⟨hl', hJ⟩ hoff hown hown2 hmem hst F₁ N₁
    obtain ⟨⟨oi, hoi, _⟩, _⟩ := hst
    have hI : (s.heap.objs.size, oi) ∈ own := hmem _ (.head _) (next_is_new F) oi hoi
    have hv : vs[i]? = some v := by simpa using hP
    have hsep : ∀ p ∈ news₁, p.1 ≠ s.heap.objs.size := fun p hp e => hoff p hp (List.mem_singleton.mpr e)
    have N₂ : News h₀ env.locals hh' ((s.heap.objs.size, oi) :: news₁) := fun p hp => N₁ p (by
      rcases List.mem_cons.mp hp with rfl | hp
      · exact List.mem_append.mpr (.inl hI)
      · exact List.mem_append.mpr (.inr hp))
    have hsub : ∀ {nx news' : Led}, (s.heap.objs.size, oi) ∈ news' → (∀ p ∈ nx, p ∈ news') → (∀ p ∈ [(l, listOf vs.toArray n)], p ∈ nx) → ∀ p ∈ own, p ∈ news' := by
      intro nx news' h1 h2 h3 p hp
      have hg := hown2 p hp
      rcases List.mem_cons.mp (hown p hp) with h4 | h4
      · have : p = (s.heap.objs.size, oi) := by
          obtain ⟨a, o⟩ := p
          simp only at h4 hg
          subst h4
          rw [hoi] at hg
          rw [Option.some.inj hg]
        rw [this]; exact h1
      · have h4 := List.mem_singleton.mp h4
        have : p = (l, listOf vs.toArray n) := by
          obtain ⟨a, o⟩ := p
          simp only at h4 hg
          subst h4
          have := (N₂ _ (.tail _ hl')).1
          rw [hg] at this
          rw [Option.some.inj this]
        rw [this]; exact h2 _ (h3 _ (.head _))
    refine wpAny_mono (turn i v m₁ news₁ hh' tk' _ oi hv hl' hsep hJ F₁ N₂) (fun f s₂ p => ?_) fun _ _ e => e
    have fin : LEnd h₀ env.locals (J (i + 1)) (s.heap.objs.size, oi) [(l, listOf vs.toArray n)] { s with heap := hh', toks := tk' } s₂ → LoopStepU h₀ env.locals [s.heap.objs.size] own (fun m nx => (l, listOf vs.toArray n) ∈ nx ∧ J (i + 1) m nx) { s with heap := hh', toks := tk' } .next s₂ := by
      rintro ⟨h', tk, m', news', nx, e, F', N', hi, hn, ho, hk, hj⟩
      exact ⟨rfl, h', tk, m', nx, e, F', fun p hp => N' p ((List.mem_append.mp hp).elim (hsub hi hn hk p) (hn p)), fun p hp hq => ho p hp (List.mem_singleton.mp hq), hk _ (.head _), hj⟩
    cases f with
    | ret v => exact .ret p
    | brk => exact .brk p
    | next => exact .next (fin p)
    | cont => exact .cont (fin p)
  · rintro h' tk m' news' F' N' _ ⟨_, hJ⟩
    exact done m' news' h' tk hJ F' N'
theorem fr_abs {g h : Heap} {L : Addr} {m : Str → Option Value} (F : Fr g L h m) : ∃ m₀, m₀ = m ∧ Fr g L h m₀ := ⟨m, rfl, F⟩
theorem news_head {g h : Heap} {L d : Addr} {o : Obj} {l : Led} (N : News g L h ((d, o) :: l)) : ∃ d', d' = d ∧ News g L h ((d', o) :: l) := ⟨d, rfl, N⟩
theorem news_headO {g h : Heap} {L d : Addr} {o : Obj} {l : Led} (N : News g L h ((d, o) :: l)) : ∃ o', o' = o ∧ News g L h ((d, o') :: l) := ⟨o, rfl, N⟩
theorem unr_end2 {h₀ : Heap} {L I : Addr} {it : Obj} {rest : (Str → Option Value) → List (Addr × Obj) → Prop} {s₁ : Shared} {h' : Heap} {tk : Nat} {m' : Str → Option Value} {e : Addr × Obj} {l : Led} (F : Fr h₀ L h' m') (N : News h₀ L h' (e :: (I, it) :: l))
    (off : ∀ p ∈ e :: l, p.1 ≠ I) (r : rest m' (e :: l)) : UnrEnd h₀ L s₁ I it rest { s₁ with heap := h', toks := tk } :=
  UnrEnd.intro F N (e :: l) (fun p hp => by
    rcases List.mem_cons.mp hp with rfl | hp
    · exact .tail _ (.head _)
    · rcases List.mem_cons.mp hp with rfl | hp
      · exact .head _
      · exact .tail _ (.tail _ hp)) off r
theorem fr_know {g h : Heap} {L : Addr} {m m' : Str → Option Value} (F : Fr g L h m) (e : ∀ y, m y = m' y) : Fr g L h m' := by
  have : m = m' := funext e
  exact this ▸ F
theorem lkc (y a : Str) (va : Value) (r : List (Str × Value)) : List.lookup y ((a, va) :: r) = if y = a then some va else List.lookup y r := by
  rw [List.lookup_cons]
  by_cases h : y = a
  · subst h; simp
  · rw [if_neg h, show (y == a) = false from beq_eq_false_iff_ne.mpr h]
theorem lk1 (y a : Str) (va : Value) : List.lookup y [(a, va)] = if y = a then some va else none := lkc _ _ _ _
theorem lk2 (y a b : Str) (va vb : Value) : List.lookup y [(a, va), (b, vb)] = if y = a then some va else if y = b then some vb else none := by
  rw [lkc, lk1]
theorem lk3 (y a b c : Str) (va vb vc : Value) : List.lookup y [(a, va), (b, vb), (c, vc)] = if y = a then some va else if y = b then some vb else if y = c then some vc else none := by
  rw [lkc, lk2]
theorem fr_lk1 {g h : Heap} {L : Addr} {m : Str → Option Value} (a : Str) (va : Value) (F : Fr g L h m) (e : m = fun y => List.lookup y [(a, va)]) : Fr g L h (fun y => if y = a then some va else none) := by
  subst e; exact fr_know F fun y => lk1 y a va
theorem fr_lk2 {g h : Heap} {L : Addr} {m : Str → Option Value} (a : Str) (va : Value) (b : Str) (vb : Value) (F : Fr g L h m) (e : m = fun y => List.lookup y [(a, va), (b, vb)]) : Fr g L h (fun y => if y = a then some va else if y = b then some vb else none) := by
  subst e; exact fr_know F fun y => lk2 y a b va vb
theorem fr_lk3 {g h : Heap} {L : Addr} {m : Str → Option Value} (a : Str) (va : Value) (b : Str) (vb : Value) (c : Str) (vc : Value) (F : Fr g L h m) (e : m = fun y => List.lookup y [(a, va), (b, vb), (c, vc)]) : Fr g L h (fun y => if y = a then some va else if y = b then some vb else if y = c then some vc else none) := by
  subst e; exact fr_know F fun y => lk3 y a b c va vb vc
theorem news_abs {g h : Heap} {L : Addr} {l : Led} (N : News g L h l) : ∃ l', l' = l ∧ News g L h l' := ⟨l, rfl, N⟩
theorem fr_look {g h : Heap} {L : Addr} {m₀ m₁ : Str → Option Value} {y : Str} {v : Value} (F : Fr g L h m₁) (h1 : m₁ y = some v) (h2 : ∀ z, z ≠ y → m₁ z = m₀ z) :
    Fr g L h (fun z => if z = y then some v else m₀ z) := fr_know F (fun z => by
  by_cases e : z = y
  · subst e; simp [h1]
  · simp [e, h2 z e])
theorem fr_one {g h : Heap} {L : Addr} {m₀ m₁ : Str → Option Value} {x y : Str} {v p : Value} (F : Fr g L h (fun z => if z = x then some p else m₁ z)) (h1 : m₁ y = some v) (h2 : ∀ z, z ≠ y → z ≠ x → m₁ z = m₀ z) :
    Fr g L h (fun z => if z = x then some p else if z = y then some v else m₀ z) := by
  have : (fun z => if z = x then some p else m₁ z) = fun z => if z = x then some p else if z = y then some v else m₀ z := by
    funext z
    by_cases e1 : z = x
    · simp [e1]
    · by_cases e2 : z = y
      · subst e2; simp [e1, h1]
      · simp [e1, e2, h2 z e2 e1]
  exact this ▸ F
end
end
section
section
variable {prog : Program} {w : World} {A : Around} {E : Value → Shared → Prop} {s : Shared} {env : Env} {h₀ : Heap} {x : Str} {body : List Stmt} {Q : Flow → Shared → Prop}
/-- a for over a tuple of the ledger's: J says what holds of the frame's names and of the ledger between the turns -/
theorem loop_tuple {l : Addr} {vs : List Value} {m₀ : Str → Option Value} {news : Led} (J : Nat → (Str → Option Value) → Led → Prop)
    (hh : A.handled = none) (F : Fr h₀ env.locals s.heap m₀) (N : News h₀ env.locals s.heap news) (hm : (l, tupO vs) ∈ news) (hj : J 0 m₀ news)
    (turn : ∀ i v m₁ nx h tk I oI, vs[i]? = some v → (l, tupO vs) ∈ nx → (∀ p ∈ nx, p.1 ≠ I) → J i m₁ nx → Fr h₀ env.locals h (fun y => if y = x then some v else m₁ y) → News h₀ env.locals h ((I, oI) :: nx) →
      wpAny (model prog w) A (execs body env) (LPost h₀ env.locals (J (i + 1)) (I, oI) [(l, tupO vs)] { s with heap := h, toks := tk } Q) E { s with heap := h, toks := tk })
    (done : ∀ m₁ nx h tk, J vs.length m₁ nx → Fr h₀ env.locals h m₁ → News h₀ env.locals h nx → Q .next { s with heap := h, toks := tk }) :
    Stop (wpAny (model prog w) A (pyIter (.ref l)) (fun it s₂ => LoopAtV prog w A h₀ env x body Q E it s₂) E s) := by
  have hls : s.heap.IsTuple l vs.toArray := News.isTup N hm
  have hlt : l < s.heap.objs.size := Heap.lt_size (N _ hm).1
  have hne : l ≠ s.heap.objs.size := Nat.ne_of_lt hlt
  refine wpAny_pyIter_tuple hls ?_
  have W := Walks.tuple (prog := prog) (w := w) hh s.heap.objs.size l hne vs.toArray
  have hlen : vs.toArray.size = vs.length := by simp
  rw [hlen] at W
  refine ⟨_, _, _, vs.length, _, _, m₀, news, fun i m nx => (l, tupO vs) ∈ nx ∧ J i m nx, rfl, W, ?_, ?_, ?_, ⟨⟨_, Heap.get?_push_size _ rfl, rfl, rfl⟩, hls.at fun o e => Heap.get?_push_of_some _ e⟩, F.push _, (fun p hp => ⟨Heap.get?_push_of_some _ (N p hp).1, (N p hp).2⟩), ⟨hm, hj⟩, ?_, ?_⟩
  · intro hm'
    rcases List.mem_cons.mp hm' with e | hm'
    · exact absurd F.ns.lt (e ▸ Nat.lt_irrefl _)
    · exact (N _ hm).2.1 (List.mem_singleton.mp hm').symm
  · intro b hb
    rw [List.mem_singleton.mp hb]
    exact next_is_new F
  · intro p hp hI
    exact absurd (Heap.lt_size (N p hp).1) ((List.mem_singleton.mp hI) ▸ Nat.lt_irrefl _)
  · rintro i v m₁ news₁ s₁ own ⟨hh', tk', rfl⟩ hin hP ⟨hl', hJ⟩ hoff hown hown2 hmem hst F₁ N₁
    obtain ⟨⟨oi, hoi, _⟩, _⟩ := hst
    have hI : (s.heap.objs.size, oi) ∈ own := hmem _ (.head _) (next_is_new F) oi hoi
    have hv : vs[i]? = some v := by simpa using hP
    have hsep : ∀ p ∈ news₁, p.1 ≠ s.heap.objs.size := fun p hp e => hoff p hp (List.mem_singleton.mpr e)
    have N₂ : News h₀ env.locals hh' ((s.heap.objs.size, oi) :: news₁) := fun p hp => N₁ p (by
      rcases List.mem_cons.mp hp with rfl | hp
      · exact List.mem_append.mpr (.inl hI)
      · exact List.mem_append.mpr (.inr hp))
    have hsub : ∀ {nx news' : Led}, (s.heap.objs.size, oi) ∈ news' → (∀ p ∈ nx, p ∈ news') → (∀ p ∈ [(l, tupO vs)], p ∈ nx) → ∀ p ∈ own, p ∈ news' := by
      intro nx news' h1 h2 h3 p hp
      have hg := hown2 p hp
      rcases List.mem_cons.mp (hown p hp) with h4 | h4
      · have : p = (s.heap.objs.size, oi) := by
          obtain ⟨a, o⟩ := p
          simp only at h4 hg
          subst h4
          rw [hoi] at hg
          rw [Option.some.inj hg]
        rw [this]; exact h1
      · have h4 := List.mem_singleton.mp h4
        have : p = (l, tupO vs) := by
          obtain ⟨a, o⟩ := p
          simp only at h4 hg
          subst h4
          have := (N₂ _ (.tail _ hl')).1
          rw [hg] at this
          rw [Option.some.inj this]
        rw [this]; exact h2 _ (h3 _ (.head _))
    refine wpAny_mono (turn i v m₁ news₁ hh' tk' _ oi hv hl' hsep hJ F₁ N₂) (fun f s₂ p => ?_) fun _ _ e => e
    have fin : LEnd h₀ env.locals (J (i + 1)) (s.heap.objs.size, oi) [(l, tupO vs)] { s with heap := hh', toks := tk' } s₂ → LoopStepU h₀ env.locals [s.heap.objs.size] own (fun m nx => (l, tupO vs) ∈ nx ∧ J (i + 1) m nx) { s with heap := hh', toks := tk' } .next s₂ := by
      rintro ⟨h', tk, m', news', nx, e, F', N', hi, hn, ho, hk, hj⟩
      exact ⟨rfl, h', tk, m', nx, e, F', fun p hp => N' p ((List.mem_append.mp hp).elim (hsub hi hn hk p) (hn p)), fun p hp hq => ho p hp (List.mem_singleton.mp hq), hk _ (.head _), hj⟩
    cases f with
    | ret v => exact .ret p
    | brk => exact .brk p
    | next => exact .next (fin p)
    | cont => exact .cont (fin p)
  · rintro h' tk m' news' F' N' _ ⟨_, hJ⟩
    exact done m' news' h' tk hJ F' N'
end
end
section
/-- the end of a turn of a loop with several objects of its own -/
def LEndN (h₀ : Heap) (L : Addr) (J : (Str → Option Value) → Led → Prop) (its keep : Led) (s₁ s₂ : Shared) : Prop :=
  ∃ h' tk m' news' nx, s₂ = { s₁ with heap := h', toks := tk } ∧ Fr h₀ L h' m' ∧ News h₀ L h' news' ∧ (∀ p ∈ its, p ∈ news') ∧ (∀ p ∈ nx, p ∈ news') ∧ (∀ p ∈ nx, ∀ q ∈ its, p.1 ≠ q.1) ∧ (∀ p ∈ keep, p ∈ nx) ∧ J m' nx
def LPostN (h₀ : Heap) (L : Addr) (J : (Str → Option Value) → Led → Prop) (its keep : Led) (s₁ : Shared) (Q : Flow → Shared → Prop) (f : Flow) (s₂ : Shared) : Prop :=
  match f with
  | .ret v => Q (.ret v) s₂
  | .brk => Q .next s₂
  | _ => LEndN h₀ L J its keep s₁ s₂
theorem LEndN.intro {h₀ : Heap} {L : Addr} {J : (Str → Option Value) → Led → Prop} {its keep : Led} {s₁ : Shared} {h' : Heap} {tk : Nat} {m' : Str → Option Value} {news' : Led} (nx : Led)
    (F : Fr h₀ L h' m') (N : News h₀ L h' news') (hi : ∀ p ∈ its, p ∈ news') (hn : ∀ p ∈ nx, p ∈ news') (ho : ∀ p ∈ nx, ∀ q ∈ its, p.1 ≠ q.1) (hk : ∀ p ∈ keep, p ∈ nx) (hj : J m' nx) :
    LEndN h₀ L J its keep s₁ { s₁ with heap := h', toks := tk } := ⟨h', tk, m', news', nx, rfl, F, N, hi, hn, ho, hk, hj⟩
section
variable {prog : Program} {w : World} {A : Around} {E : Value → Shared → Prop} {s : Shared} {env : Env} {h₀ : Heap} {body : List Stmt} {Q : Flow → Shared → Prop}
theorem loop_enum {elts : List Expr} {k : Nat} {pos : Pos} {l : Addr} {vs : List Value} {n : Nat} {m₀ : Str → Option Value} {news : Led} (J : Nat → (Str → Option Value) → Led → Prop)
    (hh : A.handled = none) (F : Fr h₀ env.locals s.heap m₀) (N : News h₀ env.locals s.heap news) (hm : (l, listOf vs.toArray n) ∈ news) (hj : J 0 m₀ news)
    (turn : ∀ i v m₁ nx h tk T t I oI I2 oI2, vs[i]? = some v → oI.cls = .type "enumerate" → oI2.cls = .type "list_iterator" → (l, listOf vs.toArray n) ∈ nx → (∀ p ∈ nx, ∀ q ∈ [(I, oI), (I2, oI2)], p.1 ≠ q.1) → IsTup h T #[.int ((i : Nat) : Int) t, v] → J i m₁ nx → Fr h₀ env.locals h m₁ → News h₀ env.locals h ((I, oI) :: (I2, oI2) :: nx) →
      wpAny (model prog w) A (assign (.Tuple elts k pos) env (.ref T)) (fun _ s₃ => wpAny (model prog w) A (execs body env) (LPostN h₀ env.locals (J (i + 1)) [(I, oI), (I2, oI2)] [(l, listOf vs.toArray n)] { s with heap := h, toks := tk } Q) E s₃) E { s with heap := h, toks := tk })
    (done : ∀ m₁ nx h tk, J vs.length m₁ nx → Fr h₀ env.locals h m₁ → News h₀ env.locals h nx → Q .next { s with heap := h, toks := tk }) :
    Stop (wpAny (model prog w) A (call (.type "enumerate") [.ref l]) (fun xv s₁ => wpAny (model prog w) A (pyIter xv) (fun it s₂ => TurnsAt prog w A h₀ env (.Tuple elts k pos) body Q E it s₂) E s₁) E s) := by
  have hls : s.heap.IsList l vs.toArray := N.isList hm
  have hlt : l < s.heap.objs.size := Heap.lt_size (N _ hm).1
  have hLs : env.locals < s.heap.objs.size := F.ns.lt
  have hlen : vs.toArray.size = vs.length := by simp
  refine call_enumerate_list hls fun h' hE hI hsz hk => ?_
  refine wpAny_pyIter_enum hE ?_
  have W := KTurns.ofWalksU (elts := elts) (k := k) (pos := pos) (WalksT.enumerate (prog := prog) (w := w) hh (s.heap.objs.size + 1) s.heap.objs.size l (Nat.succ_ne_self _) (ktu_ne 1 hlt) (Nat.ne_of_lt hlt) vs.toArray).toU
  rw [hlen] at W
  refine ⟨_, _, _, vs.length, _, _, _, m₀, news, fun i m nx => (l, listOf vs.toArray n) ∈ nx ∧ J i m nx, rfl, W, ?_, ?_, ?_, ⟨⟨.none, hE⟩, hI, hls.at fun o e => hk l o e⟩, F.keeps hk, N.grown hk, ⟨hm, hj⟩, ?_, ?_⟩
  · intro hI'
    have hb' : env.locals = s.heap.objs.size + 1 ∨ env.locals = s.heap.objs.size ∨ env.locals = l := by simpa using hI'
    rcases hb' with e | e | e
    · exact ktu_ne 1 hLs e
    · exact Nat.ne_of_lt hLs e
    · exact (N _ hm).2.1 e.symm
  · intro b hb
    have hb' : b = s.heap.objs.size + 1 ∨ b = s.heap.objs.size := by simpa using hb
    rcases hb' with rfl | rfl
    · exact ktu_new F (Nat.le_add_right _ _)
    · exact ktu_new F (Nat.le_refl _)
  · intro p hp hI'
    have hb' : p.1 = s.heap.objs.size + 1 ∨ p.1 = s.heap.objs.size := by simpa using hI'
    have hlp := Heap.lt_size (N p hp).1
    rcases hb' with e | e
    · exact ktu_ne 1 hlp e
    · exact Nat.ne_of_lt hlp e
  · rintro i v m₁ news₁ h₁ tk₁ own hin ⟨T, vals, rfl, ⟨t, x, hx, rfl⟩, hT⟩ ⟨hl', hJ⟩ hoff hown hown2 hmem ⟨⟨old, he⟩, ⟨oi, hoi, hic, _⟩, _⟩ F₁ N₁
    have he' : ∃ oe : Obj, h₁.get? (s.heap.objs.size + 1) = some oe ∧ oe.cls = .type "enumerate" := ⟨_, he, rfl⟩
    obtain ⟨oe, h1, h2⟩ := he'
    have hIe : (s.heap.objs.size + 1, oe) ∈ own := hmem _ (by simp) (ktu_new F (Nat.le_add_right _ _)) oe h1
    have hIi : (s.heap.objs.size, oi) ∈ own := hmem _ (by simp) (ktu_new F (Nat.le_refl _)) oi hoi
    have hv : vs[i]? = some x := by simpa using hx
    have hsep : ∀ p ∈ news₁, ∀ q ∈ [(s.heap.objs.size + 1, oe), (s.heap.objs.size, oi)], p.1 ≠ q.1 := fun p hp q hq e => hoff p hp (by
      rcases List.mem_cons.mp hq with rfl | hq
      · rw [e]; simp
      · obtain rfl := List.mem_singleton.mp hq
        rw [e]; simp)
    have N₂ : News h₀ env.locals h₁ ((s.heap.objs.size + 1, oe) :: (s.heap.objs.size, oi) :: news₁) := fun p hp => N₁ p (by
      rcases List.mem_cons.mp hp with rfl | hp
      · exact List.mem_append.mpr (.inl hIe)
      · rcases List.mem_cons.mp hp with rfl | hp
        · exact List.mem_append.mpr (.inl hIi)
        · exact List.mem_append.mpr (.inr hp))
    have hsub : ∀ {nx news' : Led}, (∀ p ∈ [(s.heap.objs.size + 1, oe), (s.heap.objs.size, oi)], p ∈ news') → (∀ p ∈ nx, p ∈ news') → (∀ p ∈ [(l, listOf vs.toArray n)], p ∈ nx) → ∀ p ∈ own, p ∈ news' := by
      rintro nx news' g1 g2 g3 ⟨pa, po⟩ hp
      have hg := hown2 _ hp
      have hq : pa = s.heap.objs.size + 1 ∨ pa = s.heap.objs.size ∨ pa = l := by simpa using hown _ hp
      simp only at hg
      rcases hq with rfl | rfl | rfl
      · rw [h1] at hg
        obtain rfl := Option.some.inj hg
        exact g1 _ (.head _)
      · rw [hoi] at hg
        obtain rfl := Option.some.inj hg
        exact g1 _ (.tail _ (.head _))
      · have := (N₂ _ (.tail _ (.tail _ hl'))).1
        rw [hg] at this
        obtain rfl := Option.some.inj this
        exact g2 _ (g3 _ (.head _))
    refine wpAny_mono (turn i x m₁ news₁ h₁ tk₁ T t _ oe _ oi hv h2 hic hl' hsep hT hJ F₁ N₂) (fun _ s₃ p₃ => wpAny_mono p₃ (fun f s₂ p => ?_) fun _ _ e => e) fun _ _ e => e
    have fin : LEndN h₀ env.locals (J (i + 1)) [(s.heap.objs.size + 1, oe), (s.heap.objs.size, oi)] [(l, listOf vs.toArray n)] { s with heap := h₁, toks := tk₁ } s₂ → LoopStepU h₀ env.locals [s.heap.objs.size + 1, s.heap.objs.size] own (fun m nx => (l, listOf vs.toArray n) ∈ nx ∧ J (i + 1) m nx) { s with heap := h₁, toks := tk₁ } .next s₂ := by
      rintro ⟨h', tk, m', news', nx, e, F', N', hi, hn, ho, hk, hj⟩
      exact ⟨rfl, h', tk, m', nx, e, F', fun p hp => N' p ((List.mem_append.mp hp).elim (hsub hi hn hk p) (hn p)), fun p hp hq => by
        have hb' : p.1 = s.heap.objs.size + 1 ∨ p.1 = s.heap.objs.size := by simpa using hq
        rcases hb' with e | e
        · exact ho p hp _ (.head _) e
        · exact ho p hp _ (.tail _ (.head _)) e, hk _ (.head _), hj⟩
    cases f with
    | ret v => exact .ret p
    | brk => exact .brk p
    | next => exact .next (fin p)
    | cont => exact .cont (fin p)
  · rintro h' tk m' news' F' N' _ ⟨_, hJ⟩
    exact done m' news' h' tk hJ F' N'
end
end
section
section
variable {prog : Program} {w : World} {A : Around} {E : Value → Shared → Prop} {s : Shared} {env : Env} {h₀ : Heap} {x : Str} {body : List Stmt} {Q : Flow → Shared → Prop}
/-- a for over range(n): J says what holds of the frame's names and of the ledger between the turns -/
theorem loop_range {n : Nat} {t₀ : Tok} {m₀ : Str → Option Value} {news : Led} (J : Nat → (Str → Option Value) → Led → Prop) (hn : n ≤ 100000)
    (hh : A.handled = none) (F : Fr h₀ env.locals s.heap m₀) (N : News h₀ env.locals s.heap news) (hj : J 0 m₀ news)
    (turn : ∀ (i : Nat) t m₁ nx h tk I oI, i < n → oI.cls = .type "range_iterator" → (∀ p ∈ nx, p.1 ≠ I) → J i m₁ nx → Fr h₀ env.locals h (fun y => if y = x then some (.int (i : Nat) t) else m₁ y) → News h₀ env.locals h ((I, oI) :: nx) →
      wpAny (model prog w) A (execs body env) (LPost h₀ env.locals (J (i + 1)) (I, oI) [] { s with heap := h, toks := tk } Q) E { s with heap := h, toks := tk })
    (done : ∀ m₁ nx h tk, J n m₁ nx → Fr h₀ env.locals h m₁ → News h₀ env.locals h nx → Q .next { s with heap := h, toks := tk }) :
    Stop (wpAny (model prog w) A (call (.type "range") [.int (n : Nat) t₀]) (fun xv s₁ => wpAny (model prog w) A (pyIter xv) (fun it s₂ => LoopAtV prog w A h₀ env x body Q E it s₂) E s₁) E s) := by
  refine range1_rows F N fun h₁ tk₁ t₁ u₁ v₁ hr F₁ N₁ _ => ?_
  have hsz : Builtin.Range.rangeSize 0 (n : Int) 1 = (n : Int) := by rw [rangeSize_one]; split <;> omega
  refine wpAny_pyIter_range hr (small_one (by decide) (by decide) (by omega) (by omega)) ?_
  have W : Walks prog w A h₁.objs.size [h₁.objs.size] [h₁.objs.size] n (fun i v => i < n ∧ ∃ t, v = .int (0 + i * 1) t)
      (fun i h => IsRangeIter h h₁.objs.size (0 + (i : Nat) * 1) ((n : Int) - (i : Nat)) 1) := (Walks.range hh _ 0 1 n).bound
  have hnew := next_is_new F₁
  refine ⟨_, _, _, n, _, _, m₀, news, fun i m nx => J i m nx, rfl, W, ?_, ?_, ?_, (by show IsRangeIter _ _ _ _ _; rw [hsz]; simpa using Heap.get?_push_size _ rfl), F₁.push _, (fun p hp => ⟨Heap.get?_push_of_some _ (N₁ p hp).1, (N₁ p hp).2⟩), hj, ?_, ?_⟩
  · intro hm
    exact absurd F₁.ns.lt ((List.mem_singleton.mp hm) ▸ Nat.lt_irrefl _)
  · intro b hb
    rw [List.mem_singleton.mp hb]
    exact hnew
  · intro p hp hI
    exact absurd (Heap.lt_size (N₁ p hp).1) ((List.mem_singleton.mp hI) ▸ Nat.lt_irrefl _)
  · rintro i v m₁ news₁ s₁ own ⟨hh', tk', rfl⟩ hin ⟨_, t, rfl⟩ hJ hoff hown hget hall hst F₂ N₂
    have hst' : ∃ oi : Obj, hh'.get? h₁.objs.size = some oi ∧ oi.cls = .type "range_iterator" := ⟨_, hst, rfl⟩
    obtain ⟨oi, hoi, hic⟩ := hst'
    have hI : (h₁.objs.size, oi) ∈ own := hall _ (.head _) hnew oi hoi
    have e1 : (0 : Int) + (i : Nat) * 1 = (i : Nat) := by omega
    rw [e1] at F₂
    have hsep : ∀ p ∈ news₁, p.1 ≠ h₁.objs.size := fun p hp e => hoff p hp (List.mem_singleton.mpr e)
    have N₃ : News h₀ env.locals hh' ((h₁.objs.size, oi) :: news₁) := fun p hp => N₂ p (by
      rcases List.mem_cons.mp hp with rfl | hp
      · exact List.mem_append.mpr (.inl hI)
      · exact List.mem_append.mpr (.inr hp))
    have hsub : ∀ {news' : Led}, (h₁.objs.size, oi) ∈ news' → ∀ p ∈ own, p ∈ news' := by
      intro news' h1 p hp
      have hg := hget p hp
      have h4 := List.mem_singleton.mp (hown p hp)
      have : p = (h₁.objs.size, oi) := by
        obtain ⟨a, o⟩ := p
        simp only at h4 hg
        subst h4
        rw [hoi] at hg
        rw [Option.some.inj hg]
      rw [this]; exact h1
    refine wpAny_mono (turn i t m₁ news₁ hh' tk' _ oi hin hic hsep hJ F₂ N₃) (fun f s₂ p => ?_) fun _ _ e => e
    have fin : LEnd h₀ env.locals (J (i + 1)) (h₁.objs.size, oi) [] { s with heap := hh', toks := tk' } s₂ → LoopStepU h₀ env.locals [h₁.objs.size] own (fun m nx => J (i + 1) m nx) { s with heap := hh', toks := tk' } .next s₂ := by
      rintro ⟨h', tk, m', news', nx, e, F', N', hi, hn, ho, hk, hj⟩
      exact ⟨rfl, h', tk, m', nx, e, F', fun p hp => N' p ((List.mem_append.mp hp).elim (hsub hi p) (hn p)), fun p hp hq => ho p hp (List.mem_singleton.mp hq), hj⟩
    cases f with
    | ret v => exact .ret p
    | brk => exact .brk p
    | next => exact .next (fin p)
    | cont => exact .cont (fin p)
  · rintro h' tk m' news' F' N' _ hJ
    exact done m' news' h' tk hJ F' N'
/-- what a step whose ways meet again gives: the frame and a part of the ledger stand, C of what came -/
def Met {α : Type} (C : α → Prop) (h₀ : Heap) (L : Addr) (m : Str → Option Value) (nl : Led) (s : Shared) (a : α) (s' : Shared) : Prop := C a ∧ ∃ h' tk', s' = { s with heap := h', toks := tk' } ∧ Fr h₀ L h' m ∧ News h₀ L h' nl
theorem Met.intro {α : Type} {C : α → Prop} {h₀ : Heap} {L : Addr} {m : Str → Option Value} {nl : Led} {s : Shared} {a : α} {h' : Heap} {tk' : Nat} (c : C a) (F : Fr h₀ L h' m) (N : News h₀ L h' nl) : Met C h₀ L m nl s a { s with heap := h', toks := tk' } := ⟨c, h', tk', rfl, F, N⟩
theorem mono_fr {α : Type} {x : Sem α} {Q : α → Shared → Prop} {L : Addr} {m : Str → Option Value} {news nl : Led} {M : Model} (C : α → Prop) (_ : Fr h₀ L s.heap m) (_ : News h₀ L s.heap news) (h1 : wpAny M A x (Met C h₀ L m nl s) E s)
    (h2 : ∀ a h' tk', C a → Fr h₀ L h' m → News h₀ L h' nl → Q a { s with heap := h', toks := tk' }) : Stop (wpAny M A x Q E s) :=
  wpAny_mono h1 (fun a s' ⟨c, h', tk', e, F', N'⟩ => e ▸ h2 a h' tk' c F' N') fun _ _ e => e
theorem mono_fs {α : Type} {x : Sem α} {Q : α → Shared → Prop} {L : Addr} {m : Str → Option Value} {news : Led} {M : Model} (C : α → Prop) (F : Fr h₀ L s.heap m) (N : News h₀ L s.heap news) (h1 : wpAny M A x (Met C h₀ L m news s) E s)
    (h2 : ∀ a h' tk', C a → Fr h₀ L h' m → News h₀ L h' news → Q a { s with heap := h', toks := tk' }) : Stop (wpAny M A x Q E s) := mono_fr C F N h1 h2
end
end
section
/-- rows of octets, each of at most so many -/
def AB (k : Nat) (vs : List Value) : Prop := ∀ v ∈ vs, ∃ b t, v = .bytes b t ∧ b.size ≤ k
theorem AB.one {k : Nat} {b : Array UInt8} {t : Tok} (h : b.size ≤ k) : AB k [.bytes b t] := fun v hv => ⟨b, t, List.mem_singleton.mp hv, h⟩
theorem AB.mono {k k' : Nat} {vs : List Value} (hk : k ≤ k') (h : AB k vs) : AB k' vs := fun v hv => let ⟨b, t, h1, h2⟩ := h v hv; ⟨b, t, h1, Nat.le_trans h2 hk⟩
theorem AB.app {k : Nat} {vs ws : List Value} (h : AB k vs) (h' : AB k ws) : AB k (vs ++ ws) := fun v hv => (List.mem_append.mp hv).elim (h v) (h' v)
theorem AB.pick {k : Nat} {vs : List Value} {lo hi : Option Int} (h : AB k vs) : AB k (kms_pick vs lo hi) := fun v hv => h v (List.mem_of_mem_drop (List.mem_of_mem_take hv))
theorem AB.rev {k : Nat} {vs : List Value} (h : AB k vs) : AB k vs.reverse := fun v hv => h v (List.mem_reverse.mp hv)
theorem AB.rep {k : Nat} {vs : List Value} (h : AB k vs) (n : Nat) : AB k (List.replicate n vs).flatten := fun v hv => by
  obtain ⟨l, h1, h2⟩ := List.mem_flatten.mp hv
  rw [List.eq_of_mem_replicate h1] at h2
  exact h v h2
theorem pick_len (vs : List Value) (lo hi : Option Int) : (kms_pick vs lo hi).length ≤ vs.length := by
  unfold kms_pick; rw [List.length_take, List.length_drop]; omega
section
variable {prog : Program} {w : World} {A : Around} {E : Value → Shared → Prop} {s : Shared} {h₀ : Heap} {L : Addr} {m : Str → Option Value} {news : Led}
theorem sl_any (k : Nat) {B : Nat} {value slice : Expr} {l : Addr} {vs : List Value} {n : Nat} {vl vu : Value} {lo hi : Option Int} {Q : Value → Shared → Prop} (F : Fr h₀ L s.heap m) (N : News h₀ L s.heap news) (hm : (l, listOf vs.toArray n) ∈ news) (pl : IsPart vl lo) (pu : IsPart vu hi) (hA : AB k vs) (hz : vs.length ≤ B) (hB : B ≤ 10000)
    (h : ∀ D h' (zs : List Value), Fr h₀ L h' m → News h₀ L h' ((D, listOf zs.toArray 0) :: news) → zs = kms_pick vs lo hi → AB k zs → zs.length ≤ B → (∀ p ∈ news, p.1 < D) → Q (.ref D) { s with heap := h' })
    (hs : subscripted slice false (.ref l) (.ref s.heap.objs.size) = operate [.ref s.heap.objs.size, .ref l] (getItem (.ref l) (.ref s.heap.objs.size))) (ht : ∀ r, letTemporaryGo value (.ref l) r = pure ()) :
    wpAny (model prog w) A (subscriptTail value slice (.ref l) (.ref s.heap.objs.size)) Q E { s with heap := s.heap.push { cls := .type "slice", data := .fields #[vl, vu, .none] } } :=
  kms_slice_lit F N (News.isList N hm) pl pu rfl (fun D h' F' N' l1 => h D h' _ F' N' rfl hA.pick (Nat.le_trans (pick_len _ _ _) hz) l1) hs ht (by rw [List.size_toArray, sizeLine_eq]; omega)
theorem rev_any (k : Nat) {B : Nat} {value slice : Expr} {l : Addr} {vs : List Value} {n : Nat} {vk : Value} {ops : List Value} {Q : Value → Shared → Prop} (F : Fr h₀ L s.heap m) (N : News h₀ L s.heap news) (hm : (l, listOf vs.toArray n) ∈ news) (pk : IsPart vk (some (-1))) (hA : AB k vs) (hz : vs.length ≤ B) (hB : B ≤ 10000)
    (h : ∀ D h' (zs : List Value), Fr h₀ L h' m → News h₀ L h' ((D, listOf zs.toArray 0) :: news) → AB k zs → zs.length ≤ B → (∀ p ∈ news, p.1 < D) → Q (.ref D) { s with heap := h' })
    (hs : subscripted slice false (.ref l) (.ref s.heap.objs.size) = operate ops (getItem (.ref l) (.ref s.heap.objs.size))) (ht : ∀ r, letTemporaryGo value (.ref l) r = pure ()) :
    wpAny (model prog w) A (subscriptTail value slice (.ref l) (.ref s.heap.objs.size)) Q E { s with heap := s.heap.push { cls := .type "slice", data := .fields #[.none, .none, vk] } } :=
  krv_lit F N (News.isList N hm) pk rfl (fun D h' F' N' l1 => h D h' _ F' N' hA.rev (by rw [List.length_reverse]; exact hz) l1) hs ht (by rw [List.size_toArray, sizeLine_eq]; omega)
theorem add_any (k : Nat) {B C : Nat} {a b : Addr} {vs ws : List Value} {n n2 : Nat} {Q : Value → Shared → Prop} (F : Fr h₀ L s.heap m) (N : News h₀ L s.heap news) (ha : (a, listOf vs.toArray n) ∈ news) (hb : (b, listOf ws.toArray n2) ∈ news) (hA : AB k vs) (hB : AB k ws) (hz : vs.length ≤ B) (hz2 : ws.length ≤ C) (hBC : B + C ≤ 10000)
    (h : ∀ D h' (zs : List Value), Fr h₀ L h' m → News h₀ L h' ((D, listOf zs.toArray 0) :: news) → AB k zs → zs.length ≤ B + C → (∀ p ∈ news, p.1 < D) → Q (.ref D) { s with heap := h' }) : wpAny (model prog w) A (binaryOp .Add (.ref a) (.ref b)) Q E s :=
  kmk_add_lit F N (News.isList N ha) (News.isList N hb) rfl (fun D h' F' N' l1 => h D h' _ F' N' (hA.app hB) (by simp only [List.length_append, List.toList_toArray]; omega) l1) (by rw [sizeLine_eq]; simp only [List.toList_toArray]; omega)
theorem mul_any (k : Nat) {l : Addr} {v : Value} {n : Nat} {x : Int} {u : Tok} {Q : Value → Shared → Prop} (F : Fr h₀ L s.heap m) (N : News h₀ L s.heap news) (hm : (l, listOf #[v] n) ∈ news) (hA : AB k [v]) (h0 : 0 ≤ x) (h1 : x ≤ 40)
    (h : ∀ D h' (zs : List Value), Fr h₀ L h' m → News h₀ L h' ((D, listOf zs.toArray 0) :: news) → AB k zs → zs.length ≤ 40 → (∀ p ∈ news, p.1 < D) → Q (.ref D) { s with heap := h' }) : wpAny (model prog w) A (binaryOp .Mult (.ref l) (.int x u)) Q E s :=
  KMa.mul (vs := [v]) F N (News.isList N hm) (by omega) (by omega) (by simp; omega) rfl (fun D h' F' N' l1 => h D h' _ F' N' (hA.rep _) (by
    have : ∀ n, (List.replicate n [v]).flatten.length = n := fun n => by
      induction n with
      | zero => rfl
      | succ n ih => rw [List.replicate_succ, List.flatten_cons, List.length_append, ih]; simp; omega
    rw [this]; omega) l1)
theorem item_any (k : Nat) {value slice : Expr} {l : Addr} {vs : List Value} {n : Nat} {x : Int} {u : Tok} {Q : Value → Shared → Prop} (N : News h₀ L s.heap news) (hm : (l, listOf vs.toArray n) ∈ news) (hA : AB k vs) (hz : vs.length ≤ 10000) (h0 : 0 ≤ x) (h1 : x < vs.length)
    (h : ∀ b t, b.size ≤ k → Q (.bytes b t) s)
    (hs : subscripted slice false (.ref l) (.int x u) = operate [.ref l, .int x u] (getItem (.ref l) (.int x u))) (hg : ∀ r, letTemporaryGo value (.ref l) r = pure ()) :
    wpAny (model prog w) A (subscriptTail value slice (.ref l) (.int x u)) Q E s := by
  have hj : x.toNat < vs.length := by omega
  obtain ⟨b, t, h2, h3⟩ := hA _ (List.getElem_mem hj)
  exact kim_list N hm rfl rfl h0 (by omega) ((List.getElem?_eq_getElem hj).trans (congrArg some h2)) (h b t h3) hs hg
end
end
section
section
variable {prog : Program} {w : World} {A : Around} {E : Value → Shared → Prop} {s : Shared} {h₀ : Heap} {L : Addr} {m : Str → Option Value} {news : Led}
theorem slicePart_any {v : Value} {lo : Option Int} (p : IsPart v lo) {Q : Option Int → Shared → Prop} (h : Q lo s) : wpAny (model prog w) A (Builtin.Slice.slicePartIndex v) Q E s := by
  cases p with
  | none => exact slicePart_none h
  | int i t => exact slicePart_int h
theorem sliceApplied_parts {sl : Addr} {vl vu : Value} {lo hi : Option Int} {n : Nat} {a b : Int} {Q : Int × Int × Nat → Shared → Prop} (hs : s.heap.IsSliceOf sl vl vu .none) (pl : IsPart vl lo) (pu : IsPart vu hi)
    (e : Builtin.Slice.sliceAdjust lo hi 1 (n : Int) = (a, b)) (h : Q (a, 1, Builtin.Slice.slicePlaces a b 1) s) :
    wpAny (model prog w) A (Builtin.Slice.sliceApplied (.ref sl) (pure (n : Int))) Q E s := by
  obtain ⟨os, hos, hcs, hds⟩ := id hs
  unfold Builtin.Slice.sliceApplied Builtin.Slice.sliceFields
  refine wpAny_bind (wpAny_bind (wpAny_field hos hds (x := vl) rfl (wpAny_bind (wpAny_field hos hds (x := vu) rfl (wpAny_bind (wpAny_field hos hds (x := .none) rfl (wpAny_pure ?_)))))))
  refine wpAny_bind (slicePart_none ?_)
  show wpAny _ _ (if ((1 : Int) == 0) = true then _ else _) _ _ s
  rw [if_neg (by decide)]
  refine wpAny_bind (slicePart_any pl (wpAny_bind (slicePart_any pu (wpAny_bind (wpAny_pure ?_)))))
  show wpAny _ _ (match Builtin.Slice.sliceAdjust lo hi 1 (n : Int) with | (lo, hi) => pure (lo, (1 : Int), Builtin.Slice.slicePlaces lo hi 1)) _ _ s
  rw [e]
  exact wpAny_pure h
theorem places_run (a b : Nat) (h : a ≤ b) : Builtin.Slice.slicePlaces (a : Int) (b : Int) 1 = b - a := by
  unfold Builtin.Slice.slicePlaces
  have h1 : (1 : Int) > 0 := by omega
  simp only [h1, if_true, Int.ediv_one]
  split <;> omega
theorem pick_seg (xs : Array Value) (a k : Nat) : ((List.range k).filterMap fun (k : Nat) => xs[((a : Int) + (k : Int) * 1).toNat]?).toArray = ((xs.toList.drop a).take k).toArray := by
  have e : (fun (k : Nat) => xs[((a : Int) + (k : Int) * 1).toNat]?) = fun k => xs[a + k]? := by
    funext k
    have : ((a : Int) + (k : Int) * 1).toNat = a + k := by omega
    rw [this]
  rw [e]
  have := pick_run xs a k
  rw [List.filterMap_map] at this
  have e2 : ((fun x => xs[x]?) ∘ fun x => a + x) = fun k => xs[a + k]? := rfl
  rw [e2] at this
  rw [this]
theorem getItem_tuple_seg {t sl : Addr} {items : Array Value} {vl vu : Value} {lo hi : Option Int} {a b : Nat} {Q : Value → Shared → Prop} (ht : IsTup s.heap t items) (hs : s.heap.IsSliceOf sl vl vu .none) (pl : IsPart vl lo) (pu : IsPart vu hi)
    (e : Builtin.Slice.sliceAdjust lo hi 1 (items.size : Int) = ((a : Int), (b : Int))) (hab : a ≤ b) (hno : ¬ (a = 0 ∧ b = items.size)) (hz : items.size ≤ 100000)
    (h : Q (.ref s.heap.objs.size) { s with heap := s.heap.push { cls := .type "tuple", data := .seq ((items.toList.drop a).take (b - a)).toArray } }) : wpAny (model prog w) A (getItem (.ref t) (.ref sl)) Q E s := by
  have hdrop : sizeOk (.seq ((items.toList.drop a).take (b - a)).toArray) := by
    show ((items.toList.drop a).take (b - a)).toArray.size ≤ sizeLine
    rw [List.size_toArray, List.length_take, List.length_drop, Array.length_toList, sizeLine_eq]
    omega
  obtain ⟨os, hos, hcs, hds⟩ := id hs
  have hTs : s.TypeIs (.ref sl) "slice" := ⟨os, hos, hcs⟩
  unfold getItem
  try with_reducible refine wpAny_holding ?_
  first | refine wpAny_bind (wpAny_pure ?_) | skip
  refine wpAny_bind (wpAny_sequenceKey ht.typeIs (by decide) ?_)
  refine wpAny_bind (wpAny_callSpecial?_slot (name := Str.ofString "__getitem__") ht.typeIs slot_tuple_getitem
    (wpAny_call_entry slot_tuple_getitem ht.typeIs entry_tuple_getitem ?_ (args_tuple_getitem _ _)))
  show wpAny _ _ (Builtin.Tuple.tupleItemsOf (.ref t) >>= _) _ _ s
  refine wpAny_bind (tupleItemsOf_ ht ?_)
  refine wpAny_bind (wpAny_typeOf hTs ?_)
  rw [if_pos (by decide)]
  refine wpAny_bind (sliceApplied_parts hs pl pu e ?_)
  rw [places_run a b hab]
  have hno' : ¬ (((a : Int) == 0 && (1 : Int) == 1 && (b - a) == items.size) = true) := by
    simp
    omega
  show wpAny _ _ (if ((a : Int) == 0 && (1 : Int) == 1 && (b - a) == items.size) = true then _ else _) _ _ s
  rw [if_neg hno', pick_seg items a (b - a)]
  first
    | exact wpAny_bind (m := Builtin.Tuple.tupleExact _) (wpAny_newObj_type (wpAny_pure ⟨_, rfl, wpAny_pure h⟩) hdrop)
    | exact wpAny_bind (m := Builtin.Tuple.tupleExact _) (wpAny_newObj_type (wpAny_bind (wpAny_pure (wpAny_pure ⟨_, rfl, wpAny_pure h⟩))) hdrop)
    | exact wpAny_bind (wpAny_bind (m := Builtin.Tuple.tupleExact _) (wpAny_newObj_type (wpAny_pure (wpAny_pure ⟨_, rfl, wpAny_pure h⟩)) hdrop))
    | exact wpAny_bind (wpAny_bind (m := Builtin.Tuple.tupleExact _) (wpAny_newObj_type (wpAny_pure ⟨_, rfl, wpAny_pure h⟩) hdrop))
theorem getItem_tuple_all {t sl : Addr} {items : Array Value} {vl vu : Value} {lo hi : Option Int} {Q : Value → Shared → Prop} (ht : IsTup s.heap t items) (hs : s.heap.IsSliceOf sl vl vu .none) (pl : IsPart vl lo) (pu : IsPart vu hi)
    (e : Builtin.Slice.sliceAdjust lo hi 1 (items.size : Int) = (0, (items.size : Int)))
    (h : Q (.ref t) s) : wpAny (model prog w) A (getItem (.ref t) (.ref sl)) Q E s := by
  obtain ⟨os, hos, hcs, hds⟩ := id hs
  obtain ⟨ot, hot, hct, hdt⟩ := id ht
  have hTs : s.TypeIs (.ref sl) "slice" := ⟨os, hos, hcs⟩
  unfold getItem
  try with_reducible refine wpAny_holding ?_
  first | refine wpAny_bind (wpAny_pure ?_) | skip
  refine wpAny_bind (wpAny_sequenceKey ht.typeIs (by decide) ?_)
  refine wpAny_bind (wpAny_callSpecial?_slot (name := Str.ofString "__getitem__") ht.typeIs slot_tuple_getitem
    (wpAny_call_entry slot_tuple_getitem ht.typeIs entry_tuple_getitem ?_ (args_tuple_getitem _ _)))
  show wpAny _ _ (Builtin.Tuple.tupleItemsOf (.ref t) >>= _) _ _ s
  refine wpAny_bind (tupleItemsOf_ ht ?_)
  refine wpAny_bind (wpAny_typeOf hTs ?_)
  rw [if_pos (by decide)]
  refine wpAny_bind (sliceApplied_parts hs pl pu e ?_)
  have e0 : Builtin.Slice.slicePlaces 0 (items.size : Int) 1 = items.size := places_run 0 items.size (Nat.zero_le _)
  rw [e0]
  show wpAny _ _ (if ((0 : Int) == 0 && (1 : Int) == 1 && items.size == items.size) = true then _ else _) _ _ s
  rw [if_pos (by simp)]
  unfold Builtin.Tuple.tupleIsExact
  refine wpAny_bind (wpAny_bind (wpAny_typeOf ht.typeIs (wpAny_pure ?_)))
  rw [if_pos (by decide)]
  exact wpAny_bind (wpAny_rule (wpAny_pure ⟨_, rfl, wpAny_pure h⟩))
theorem tup_sliceN {value slice : Expr} {t : Addr} {vs : List Value} {n : Nat} {vl vu : Value} {lo hi : Option Int} {a b : Nat} {Q : Value → Shared → Prop}
    (F : Fr h₀ L s.heap m) (N : News h₀ L s.heap news) (hm : (t, ({ cls := .type "tuple", data := .seq vs.toArray n } : Obj)) ∈ news) (pl : IsPart vl lo) (pu : IsPart vu hi)
    (e : Builtin.Slice.sliceAdjust lo hi 1 (vs.length : Int) = ((a : Int), (b : Int))) (hab : a ≤ b) (hno : ¬ (a = 0 ∧ b = vs.length)) (hz : vs.length ≤ 100000)
    (h : ∀ D h', Fr h₀ L h' m → News h₀ L h' ((D, tupO ((vs.drop a).take (b - a))) :: news) → (∀ p ∈ news, p.1 < D) → Q (.ref D) { s with heap := h' })
    (hs : subscripted slice false (.ref t) (.ref s.heap.objs.size) = operate [.ref s.heap.objs.size, .ref t] (getItem (.ref t) (.ref s.heap.objs.size)) := by with_unfolding_all rfl)
    (hg : ∀ r, letTemporaryGo value (.ref t) r = pure () := by intro _; with_unfolding_all rfl) :
    wpAny (model prog w) A (subscriptTail value slice (.ref t) (.ref s.heap.objs.size)) Q E { s with heap := s.heap.push { cls := .type "slice", data := .fields #[vl, vu, .none] } } := by
  have ht' : IsTup (s.heap.push { cls := .type "slice", data := .fields #[vl, vu, .none] }) t vs.toArray := (News.isTup N hm).keeps fun _ _ e => Heap.get?_push_of_some _ e
  refine subscriptTail_ops (s := { s with heap := s.heap.push { cls := .type "slice", data := .fields #[vl, vu, .none] } }) ht'.typeIs slot_tuple_getitem.lookup
    (getItem_tuple_seg ht' (Heap.IsSliceOf.new ..) pl pu (by rw [List.size_toArray]; exact e) hab (by rw [List.size_toArray]; exact hno) (by rw [List.size_toArray]; exact hz) ?_) hs hg
  have N1 := News.push (F.push { cls := .type "slice", data := .fields #[vl, vu, .none] }) (N.grown fun _ _ e => Heap.get?_push_of_some _ e) (tupO ((vs.drop a).take (b - a)))
  exact h _ _ ((F.push _).push _) N1 fun p hp => Nat.lt_of_lt_of_le (Heap.lt_size (N p hp).1) (by rw [Heap.size_push]; omega)
theorem tup_sliceA {value slice : Expr} {t : Addr} {vs : List Value} {n : Nat} {vl vu : Value} {lo hi : Option Int} {Q : Value → Shared → Prop}
    (F : Fr h₀ L s.heap m) (N : News h₀ L s.heap news) (hm : (t, ({ cls := .type "tuple", data := .seq vs.toArray n } : Obj)) ∈ news) (pl : IsPart vl lo) (pu : IsPart vu hi)
    (e : Builtin.Slice.sliceAdjust lo hi 1 (vs.length : Int) = (0, (vs.length : Int)))
    (h : ∀ h', Fr h₀ L h' m → News h₀ L h' news → Q (.ref t) { s with heap := h' })
    (hs : subscripted slice false (.ref t) (.ref s.heap.objs.size) = operate [.ref s.heap.objs.size, .ref t] (getItem (.ref t) (.ref s.heap.objs.size)) := by with_unfolding_all rfl)
    (hg : ∀ r, letTemporaryGo value (.ref t) r = pure () := by intro _; with_unfolding_all rfl) :
    wpAny (model prog w) A (subscriptTail value slice (.ref t) (.ref s.heap.objs.size)) Q E { s with heap := s.heap.push { cls := .type "slice", data := .fields #[vl, vu, .none] } } := by
  have ht' : IsTup (s.heap.push { cls := .type "slice", data := .fields #[vl, vu, .none] }) t vs.toArray := (News.isTup N hm).keeps fun _ _ e => Heap.get?_push_of_some _ e
  refine subscriptTail_ops (s := { s with heap := s.heap.push { cls := .type "slice", data := .fields #[vl, vu, .none] } }) ht'.typeIs slot_tuple_getitem.lookup
    (getItem_tuple_all ht' (Heap.IsSliceOf.new ..) pl pu (by rw [List.size_toArray]; exact e) ?_) hs hg
  exact h _ (F.push _) (N.grown fun _ _ e => Heap.get?_push_of_some _ e)
theorem adj_from (a n : Nat) (ha : a ≤ n) : Builtin.Slice.sliceAdjust (some (a : Int)) none 1 (n : Int) = ((a : Int), (n : Int)) := adjust_from a n ha
theorem adj_upto (b n : Nat) (hb : b ≤ n) : Builtin.Slice.sliceAdjust none (some (b : Int)) 1 (n : Int) = (((0 : Nat) : Int), (b : Int)) := by
  unfold Builtin.Slice.sliceAdjust
  have h1 : ¬ ((1 : Int) < 0) := by omega
  have h2 : ¬ ((b : Int) < 0) := by omega
  simp only [h1, h2, if_false]
  congr 1
  omega
theorem tup_tail {value slice : Expr} {t : Addr} {v : Value} {rest : List Value} {n : Nat} {u : Tok} {Q : Value → Shared → Prop}
    (F : Fr h₀ L s.heap m) (N : News h₀ L s.heap news) (hm : (t, ({ cls := .type "tuple", data := .seq (v :: rest).toArray n } : Obj)) ∈ news) (hz : rest.length ≤ 1000)
    (h : ∀ D h', Fr h₀ L h' m → News h₀ L h' ((D, tupO rest) :: news) → (∀ p ∈ news, p.1 < D) → Q (.ref D) { s with heap := h' })
    (hs : subscripted slice false (.ref t) (.ref s.heap.objs.size) = operate [.ref s.heap.objs.size, .ref t] (getItem (.ref t) (.ref s.heap.objs.size)) := by with_unfolding_all rfl)
    (hg : ∀ r, letTemporaryGo value (.ref t) r = pure () := by intro _; with_unfolding_all rfl) :
    wpAny (model prog w) A (subscriptTail value slice (.ref t) (.ref s.heap.objs.size)) Q E { s with heap := s.heap.push { cls := .type "slice", data := .fields #[.int 1 u, .none, .none] } } :=
  tup_sliceN (a := 1) (b := rest.length + 1) F N hm (.int 1 u) .none (adj_from 1 (rest.length + 1) (by omega)) (by omega) (by omega) (by simp; omega)
    (fun D h' F' N' l => h D h' F' (by simpa using N') l) hs hg
theorem tup_first {value slice : Expr} {t : Addr} {v v' : Value} {rest : List Value} {n : Nat} {u : Tok} {Q : Value → Shared → Prop}
    (F : Fr h₀ L s.heap m) (N : News h₀ L s.heap news) (hm : (t, ({ cls := .type "tuple", data := .seq (v :: v' :: rest).toArray n } : Obj)) ∈ news) (hz : rest.length ≤ 1000)
    (h : ∀ D h', Fr h₀ L h' m → News h₀ L h' ((D, tupO [v]) :: news) → (∀ p ∈ news, p.1 < D) → Q (.ref D) { s with heap := h' })
    (hs : subscripted slice false (.ref t) (.ref s.heap.objs.size) = operate [.ref s.heap.objs.size, .ref t] (getItem (.ref t) (.ref s.heap.objs.size)) := by with_unfolding_all rfl)
    (hg : ∀ r, letTemporaryGo value (.ref t) r = pure () := by intro _; with_unfolding_all rfl) :
    wpAny (model prog w) A (subscriptTail value slice (.ref t) (.ref s.heap.objs.size)) Q E { s with heap := s.heap.push { cls := .type "slice", data := .fields #[.none, .int 1 u, .none] } } :=
  tup_sliceN (a := 0) (b := 1) F N hm .none (.int 1 u) (adj_upto 1 (rest.length + 2) (by omega)) (by omega) (by simp) (by simp; omega)
    (fun D h' F' N' l => h D h' F' (by simpa using N') l) hs hg
theorem tup_whole {value slice : Expr} {t : Addr} {vs : List Value} {n : Nat} {u : Tok} {Q : Value → Shared → Prop}
    (F : Fr h₀ L s.heap m) (N : News h₀ L s.heap news) (hm : (t, ({ cls := .type "tuple", data := .seq vs.toArray n } : Obj)) ∈ news)
    (h : ∀ h', Fr h₀ L h' m → News h₀ L h' news → Q (.ref t) { s with heap := h' })
    (hs : subscripted slice false (.ref t) (.ref s.heap.objs.size) = operate [.ref s.heap.objs.size, .ref t] (getItem (.ref t) (.ref s.heap.objs.size)) := by with_unfolding_all rfl)
    (hg : ∀ r, letTemporaryGo value (.ref t) r = pure () := by intro _; with_unfolding_all rfl) :
    wpAny (model prog w) A (subscriptTail value slice (.ref t) (.ref s.heap.objs.size)) Q E { s with heap := s.heap.push { cls := .type "slice", data := .fields #[.int 0 u, .none, .none] } } :=
  tup_sliceA F N hm (.int 0 u) .none (adj_from 0 vs.length (Nat.zero_le _)) h hs hg
end
end
section
theorem noFill_tuple_mul : fillsNumberSlot (.type "tuple") "mul" = pure false :=
  PySem.fillsNumberSlot_seq (id := "tuple.__mul__") (r := some (.builtin "tuple.__rmul__")) F.slot_tuple_mul.lookup (by decide +kernel) F.slot_tuple_rmul.lookup (by decide +kernel)
theorem repeat_tuple : seqRepeat? (.type "tuple") = pure (some (.builtin "tuple.__mul__")) := by
  unfold seqRepeat?
  rw [PySem.seqSlot_of (T := "tuple") (name := "__mul__") (id := "tuple.__mul__") F.slot_tuple_mul.lookup (by decide +kernel), PySem.seqSlot_of (T := "tuple") (name := "__rmul__") (id := "tuple.__rmul__") F.slot_tuple_rmul.lookup (by decide +kernel)]
  rfl
theorem int_rmul_tuple (a : Int) (t : Tok) (l : Addr) (items : Array Value) (n : Nat) :
    Meets (Builtin.«int.__rmul__» ⟨[.int a t, .ref l], []⟩) (fun _ R s => s.heap.get? l = some { cls := .type "tuple", dict := none, data := .seq items n, slots := #[] } ∧ R (.ok (.ret Value.notImplemented)) s) :=
  .of_wp fun prog w A R s h => by obtain ⟨hp, g, d, tk, os⟩ := s; obtain ⟨hl, h⟩ := h; wp_walk; exact ⟨_, rfl, h⟩
theorem tuple_mul16 (l : Addr) (u : Tok) :
    Meets (Builtin.«tuple.__mul__» ⟨[.ref l, .int 16 u], []⟩) (fun _ R s => s.heap.get? l = some (tupO [.none]) ∧ R (.ok (.ret (Value.ref s.heap.objs.size))) { s with heap := s.heap.push (tupO (List.replicate 16 Value.none)) }) :=
  .of_wp fun prog w A R s h => by
    obtain ⟨hp, g, d, tk, os⟩ := s; obtain ⟨hl, h⟩ := h
    wp_walk
    exact ⟨_, rfl, h⟩
section
variable {prog : Program} {w : World} {A : Around} {E : Value → Shared → Prop} {s : Shared} {h₀ : Heap} {L : Addr} {m : Str → Option Value} {news : Led}
theorem mul_none16 {l : Addr} {u : Tok} {Q : Value → Shared → Prop} (Fm : Fr h₀ L s.heap m) (N : News h₀ L s.heap news) (hm : (l, tupO [.none]) ∈ news)
    (h : ∀ D h', Fr h₀ L h' m → News h₀ L h' ((D, tupO (List.replicate 16 Value.none)) :: news) → (∀ p ∈ news, p.1 < D) → Q (.ref D) { s with heap := h' }) : wpAny (model prog w) A (binaryOp .Mult (.ref l) (.int 16 u)) Q E s :=
  have hl := (N _ hm).1
  wpAny_binaryOp_repeat_ref (T := "tuple") (U := "int") (by decide) ⟨_, hl, rfl⟩ (fun s' => typeIs_int s' 16 u) noFill_tuple_mul F.fills_int_mul F.slot_int_rmul repeat_tuple F.slot_int_index.lookup
    (call_meets F.slot_int_rmul (typeIs_int s 16 u) F.entry_int_rmul (F.args_int_rmul_2 _ _) (int_rmul_tuple 16 u l _ 0)
      ⟨hl, rfl, ⟨_, hl, rfl⟩, call_meets F.slot_tuple_mul ⟨_, hl, rfl⟩ F.entry_tuple_mul (F.args_tuple_mul_2 _ _)
        (tuple_mul16 l u) ⟨hl, h _ _ (Fm.push _) (News.push Fm N _) fun p hp => Heap.lt_size (N p hp).1⟩⟩)
end
end
section
open PyProof.Rows.LCt PyProof.Rows.LCg
theorem compRest_ind {prog : Program} {w : World} {A : Around} {h₀ : Heap} {L : Addr} {m : Str → Option Value} {env : Env} {ct elt : Expr} {x : Str} {scope : Scope} {cl : List (Str × Addr)} {s : Shared} {S : Led → Prop} {P : Nat → Value → Prop} {Fin : List Value → Led → Prop} {n : Nat} {news : Led}
    (J : Nat → List Value → Led → Prop) (h0 : J 0 [] news) (fin : ∀ ys nw, J n ys nw → Fin ys nw)
    (turn : ∀ i ys nw, i < n → J i ys nw → ∀ v I oI C oC D m₂ h tk (E' : Value → Shared → Prop), P i v → NsObj oC m₂ → m₂ x = some v → Fr h₀ L h m → News h₀ L h ((I, oI) :: (C, oC) :: (D, lst ys) :: nw) → Off3 I C D nw → ((@Ne Nat I C) ∧ (@Ne Nat I D) ∧ (@Ne Nat C D)) →
      wpAny (model prog w) A (isTrue ct (compEnvC scope cl C env) (eval ct (compEnvC scope cl C env))) (fun ok s' => if ok = true then
        wpAny (model prog w) A (eval elt (compEnvC scope cl C env)) (CompEnd h₀ L m { s with heap := h, toks := tk } I oI C oC D (lst ys) S (fun y news' => J (i + 1) (ys ++ [y]) news')) E' s'
        else CompEnd h₀ L m { s with heap := h, toks := tk } I oI C oC D (lst ys) S (fun _ news' => J (i + 1) ys news') Value.none s') E' { s with heap := h, toks := tk }) :
    CompRestT prog w A h₀ L m env ct elt x scope cl s S P Fin n 0 [] news := by
  suffices H : ∀ k i ys nw, k + i = n → J i ys nw → CompRestT prog w A h₀ L m env ct elt x scope cl s S P Fin k i ys nw from H n 0 [] news rfl h0
  intro k
  induction k with
  | zero => intro i ys nw e j; exact CompRestT.zero (fin ys nw ((by omega : i = n) ▸ j))
  | succ k ih =>
    intro i ys nw e j
    refine CompRestT.succ fun v I oI C oC D m₂ h tk E' a1 a2 a3 a4 a5 a6 a7 => ?_
    refine wpAny_mono (turn i ys nw (by omega) j v I oI C oC D m₂ h tk E' a1 a2 a3 a4 a5 a6 a7) (fun ok s' p => ?_) fun _ _ z => z
    cases ok with
    | true =>
      simp only [if_true] at p ⊢
      refine wpAny_mono p (fun y s'' q => ?_) fun _ _ z => z
      obtain ⟨h', tk', nw', e1, e2, e3, e4, e5, e6⟩ := q
      exact ⟨h', tk', nw', e1, e2, e3, e4, e5, ih (i + 1) _ nw' (by omega) e6⟩
    | false =>
      simp only [Bool.false_eq_true, if_false] at p ⊢
      obtain ⟨h', tk', nw', e1, e2, e3, e4, e5, e6⟩ := p
      exact ⟨h', tk', nw', e1, e2, e3, e4, e5, ih (i + 1) _ nw' (by omega) e6⟩
end
section
theorem ints_ge {vs : List Value} {ns : List Int} (h : IntsAre vs ns) {j : Nat} (hj : j < vs.length) : ∃ t, vs[j] = .int (ns.getD j 0) t := by
  have hl := h.length
  obtain ⟨t, ht⟩ := h.get j (ns.getD j 0) (by rw [List.getD_eq_getElem?_getD, List.getElem?_eq_getElem (by omega)]; rfl)
  exact ⟨t, by rw [List.getElem?_eq_getElem hj] at ht; exact Option.some.inj ht⟩
theorem all_eq_ints : ∀ (xs ys : List Int), ((List.range (min xs.length ys.length)).all (fun j => xs.getD j 0 == ys.getD j 0) && xs.length == ys.length) = decide (xs = ys) := by
  intro xs ys
  by_cases h : xs = ys
  · subst h; simp
  · rw [decide_eq_false h]
    by_cases hl : xs.length = ys.length
    · rw [Bool.and_eq_false_iff]
      left
      rw [Bool.eq_false_iff]
      intro ha
      apply h
      apply List.ext_getElem hl
      intro i h1 h2
      have := List.all_eq_true.mp ha i (by simp; omega)
      simpa [h1, h2] using this
    · simp [hl]
section
variable {prog : Program} {w : World} {A : Around} {E : Value → Shared → Prop} {s : Shared} {h₀ : Heap} {L : Addr} {m : Str → Option Value} {news : Led}
theorem tup_eqI {a b : Addr} {va vb : List Value} {xs ys : List Int} {Q : Value → Shared → Prop} (N : News h₀ L s.heap news) (ha : (a, tupO va) ∈ news) (hb : (b, tupO vb) ∈ news) (ia : IntsAre va xs) (ib : IntsAre vb ys) (hu : A.units < cLine)
    (h : Q (.bool (decide (xs = ys))) s) : wpAny (model prog w) A (compareOp .Eq (.ref a) (.ref b)) Q E s := by
  refine PySem.SeqAt.eq_tupleAt (items := va.toArray) (items2 := vb.toArray) (e := fun j => xs.getD j 0 == ys.getD j 0) (News.isTup N ha) (News.isTup N hb) hu (fun j h1 h2 => ?_) ?_
  · rw [List.size_toArray] at h1 h2
    obtain ⟨t, et⟩ := ints_ge ia h1
    obtain ⟨u, eu⟩ := ints_ge ib h2
    rw [List.getElem_toArray, List.getElem_toArray, et, eu]
    exact (MeetsSeq.EqGives.int _ _ t u).at _ _
  · rw [List.size_toArray, List.size_toArray, ia.length, ib.length, all_eq_ints]
    exact h
end
end
section
theorem bytes_has_bytes : typeLookup (.type "bytes") "__bytes__" = pure (some (.builtin "bytes.__bytes__")) := by rw [typeLookup_type, builtinLookup_eq_fast]; kernel_rfl
section
variable {prog : Program} {w : World} {A : Around} {E : Value → Shared → Prop} {s : Shared} {h₀ : Heap} {L : Addr} {m : Str → Option Value} {news : Led}
theorem bytes_new {b : Array UInt8} {t : Tok} {Q : Value → Shared → Prop} (hQ : Q (.bytes b t) s) :
    codeAny (model prog w) A (.call (.builtin "bytes.__new__") ⟨[.type "bytes", .bytes b t], []⟩) (wants Q E) s := by
  refine codeAny_of_tree ?_
  show wpAny _ A.in1 (do checkBuiltinCall "bytes.__new__" ⟨[.type "bytes", .bytes b t], []⟩; again (.builtin "bytes.__new__" ⟨[.type "bytes", .bytes b t], []⟩)) _ _ s
  refine wpAny_bind (wpAny_of_eq (PySem.F.bm_newCall _) (wpAny_pure ⟨plainId_quiet PySem.F.bm_plain _, codeAny_builtin PySem.F.bm_entry ?_⟩))
  rw [Around.under_plainId PySem.F.bm_plain _]
  have hT : s.TypeIs (.bytes b t) "bytes" := PySem.W.typeIs_bytes _ _ _
  unfold Builtin.«bytes.__new__»
  refine wpAny_bind (wpAny_of_eq (a := true) rfl ?_)
  refine bm_if_false rfl ?_
  refine wpAny_bind (wpAny_of_eq PySem.F.bm_sub ?_)
  refine bm_if_false rfl ?_
  refine wpAny_bind (wpAny_of_eq (PySem.F.bm_bind _) ?_)
  refine wpAny_bind (wpAny_of_eq (a := ()) rfl ?_)
  refine wpAny_bind (wpAny_of_eq (a := ()) rfl ?_)
  refine bm_if_false rfl ?_
  refine wpAny_bind (wpAny_specialOf hT bytes_has_bytes ?_)
  exact wpAny_bind (wpAny_rule (wpAny_pure hQ))
theorem bytes_of_bytes {b : Array UInt8} {t : Tok} {Q : Value → Shared → Prop} (hQ : Q (.bytes b t) s) : wpAny (model prog w) A (call (.type "bytes") [.bytes b t]) Q E s := by
  refine callType_codes (Q₁ := fun obj s₁ => s₁.TypeIs obj "bytes" ∧ Q obj s₁) PySem.F.bm_called (PySem.F.bm_typeCall _) PySem.F.entry_object_init
    (bytes_new ⟨PySem.W.typeIs_bytes _ _ _, hQ⟩) fun obj s₁ h₁ => ?_
  exact ⟨h₁.1, PySem.F.args_object_init_2 obj _, object_init_meets PySem.F.bm_called.init.lookup PySem.F.bm_called.made (by decide) prog w A.in1 _ s₁ ⟨h₁.1, rfl, h₁.2⟩⟩
theorem fold_log (l : List UInt8) (hl : l.length ≤ 100000) : (l.foldl (fun (acc : Nat) (b : UInt8) => acc * 256 + b.toNat) 0).log2 < bitsLine := by
  have h1 := KFB.fold_lt l 0
  rw [Nat.zero_add, Nat.one_mul] at h1
  generalize l.foldl (fun (acc : Nat) (b : UInt8) => acc * 256 + b.toNat) 0 = x at h1
  have hb : bitsLine = 134217728 := by first | rfl | decide
  by_cases hz : x = 0
  · subst hz; rw [hb]; decide
  · rw [Nat.log2_lt hz, hb]
    refine Nat.lt_of_lt_of_le h1 ?_
    rw [show (256 : Nat) = 2 ^ 8 by decide, ← Nat.pow_mul]
    exact Nat.pow_le_pow_right (by decide) (by omega)
theorem fb_tree {b : Array UInt8} {t u : Tok} {P : Fin → Shared → Prop} (hl : b.size ≤ 100000) (h : P (.done (.ret (.int (KFB.value (KBw.bInts b)) s.toks))) { s with toks := s.toks + 1 }) :
    wpAny (model prog w) A (Builtin.«int.from_bytes» ⟨[.type "int", .bytes b t, .str (PySem.Str.ofString "big") u], []⟩) P E s := by
  have hv : ((b.toList.foldl (fun (acc : Nat) (b : UInt8) => acc * 256 + b.toNat) 0 : Nat) : Int) = KFB.value (KBw.bInts b) := KFB.fold_cast b.toList 0
  unfold Builtin.«int.from_bytes»
  refine wpAny_bind (wpAny_of_eq (a := true) KFB.type_int ?_)
  refine KFB.if_not rfl ?_
  refine wpAny_bind (wpAny_of_eq (a := true) PySem.F.conv_sub_int ?_)
  refine KFB.if_not rfl ?_
  refine wpAny_bind (wpAny_of_eq (a := [some (.bytes b t), some (.str (PySem.Str.ofString "big") u), none]) (by kernel_rfl) ?_)
  refine wpAny_bind (wpAny_of_eq (a := PySem.Str.ofString "big") (by kernel_rfl) ?_)
  refine wpAny_bind (wpAny_of_eq (a := false) rfl ?_)
  refine wpAny_bind (wpAny_of_eq (a := false) (by kernel_rfl) ?_)
  refine wpAny_bind (wpAny_of_eq (a := b) rfl ?_)
  show wpAny _ _ (mkIntGrown (b.toList.foldl (fun (acc : Int) (b : UInt8) => acc * 256 + (b.toNat : Int)) ((0 : Nat) : Int)) >>= fun v => _) _ _ _
  rw [KFB.foldI_eq]
  unfold mkIntGrown
  rw [if_neg (by rw [Int.natAbs_natCast]; exact Nat.not_le.mpr (fold_log _ (by rw [Array.length_toList]; exact hl)))]
  refine wpAny_bind (wpAny_mkInt ?_)
  rw [hv]
  refine KFB.if_so (by decide +kernel) ?_
  exact wpAny_bind (wpAny_pure (wpAny_pure h))
theorem to_big20 {x : Int} {t u v : Tok} {Q : Value → Shared → Prop} (h0 : 0 ≤ x) (h1 : x < 256 ^ 20) (h : ∀ (b : Array UInt8) t' k', KBw.bInts b = (KTBy.little 20 x).reverse → Q (.bytes b t') { s with toks := k' }) :
    wpAny (model prog w) A (call (.builtin "int.to_bytes") [.int x t, .int 20 u, .str (PySem.Str.ofString "big") v]) Q E s := by
  refine wpAny_call_entry KTBy.slot (typeIs_int s x t) KTBy.entry ?_ (KTBy.args _ _ _)
  have hb : Builtin.Int.intBits x ≤ 8 * 20 := KTBy.bits_le (B := 256 ^ 20) rfl h0 h1
  show wpAny _ _ (Builtin.Int.intOfSelf (.int x t) >>= fun y => _) _ _ s
  refine wpAny_bind (wpAny_of_eq (a := x) rfl ?_)
  show wpAny _ _ (Builtin.Int.intBindNamed "to_bytes" ["length", "byteorder", "signed"] 0 2 [.int 20 u, .str (PySem.Str.ofString "big") v] [] >>= fun l => _) _ _ s
  refine wpAny_bind (wpAny_of_eq (a := [some (.int 20 u), some (.str (PySem.Str.ofString "big") v), none]) (by kernel_rfl) ?_)
  show wpAny _ _ (Builtin.Int.intIndex "int.to_bytes" (.int 20 u) >>= fun n => _) _ _ s
  refine wpAny_bind (wpAny_of_eq (a := (20 : Int)) rfl ?_)
  refine KTBy.if_not (by decide) ?_
  refine wpAny_bind (wpAny_of_eq (a := PySem.Str.ofString "big") (by kernel_rfl) ?_)
  refine wpAny_bind (wpAny_of_eq (a := false) rfl ?_)
  refine wpAny_bind (wpAny_of_eq (a := false) (by kernel_rfl) ?_)
  refine wpAny_ite_false (by decide) ?_
  refine wpAny_ite_false (by decide) ?_
  refine wpAny_ite_false (decide_eq_false (show ¬ ((20 : Int) > (sizeLine : Int)) by rw [sizeLine_eq]; omega)) ?_
  refine KTBy.if_not (by show (decide (x < 0) && !false) = false; rw [decide_eq_false (show ¬ x < 0 by omega)]; rfl) ?_
  refine KTBy.if_not (by show (_ && decide ((Builtin.Int.intBits x : Int) > 8 * (20 : Int))) = false; rw [decide_eq_false (show ¬ ((Builtin.Int.intBits x : Int) > 8 * (20 : Int)) by omega), Bool.and_false]) ?_
  refine wpAny_bind (wpAny_mkBytes (wpAny_pure ⟨_, rfl, h _ _ _ ?_⟩) (by show (List.reverse (KTBy.low x (Int.toNat (20 : Int)))).length ≤ sizeLine; rw [List.length_reverse, KTBy.low_length, sizeLine_eq]; decide))
  show (List.map (fun c : UInt8 => ((c.toNat : Nat) : Int)) (List.reverse (KTBy.low x 20))) = (KTBy.little 20 x).reverse
  rw [List.map_reverse, KTBy.low_ints h0 h1, ← KTBy.little_eq]
end
end
section
noncomputable def keyOf (o : List UInt8) : Int := KFB.value (1 :: o.map fun c => (c.toNat : Int))
theorem keyOf_snoc (o : List UInt8) (c : UInt8) : keyOf (o ++ [c]) = keyOf o * 256 + (c.toNat : Int) := by
  unfold keyOf KFB.value
  rw [List.map_append, ← List.cons_append, List.foldl_append]; rfl
theorem list_snoc {α : Type} (l : List α) : l = [] ∨ ∃ r c, l = r ++ [c] := by
  rcases List.eq_nil_or_concat l with h | ⟨r, c, h⟩
  · exact .inl h
  · exact .inr ⟨r, c, by rw [h, List.concat_eq_append]⟩
theorem keyOf_pos : ∀ (n : Nat) (o : List UInt8), o.length = n → 1 ≤ keyOf o := by
  intro n
  induction n with
  | zero => intro o h; cases o with | nil => decide | cons _ _ => cases h
  | succ n ih =>
    intro o h
    rcases list_snoc o with rfl | ⟨r, c, rfl⟩
    · cases h
    · have := ih r (by simpa using h)
      rw [keyOf_snoc]; omega
theorem keyOf_inj : ∀ (n : Nat) (o p : List UInt8), o.length = n → keyOf o = keyOf p → o = p := by
  intro n
  induction n with
  | zero =>
    intro o p h e
    cases o with
    | cons _ _ => cases h
    | nil =>
      rcases list_snoc p with rfl | ⟨r, c, rfl⟩
      · rfl
      · have := keyOf_pos _ r rfl
        rw [keyOf_snoc] at e
        have e1 : keyOf [] = 1 := by decide
        omega
  | succ n ih =>
    intro o p h e
    rcases list_snoc o with rfl | ⟨r, c, rfl⟩
    · cases h
    · rcases list_snoc p with rfl | ⟨q, d, rfl⟩
      · have := keyOf_pos _ r rfl
        rw [keyOf_snoc] at e
        have e1 : keyOf [] = 1 := by decide
        omega
      · rw [keyOf_snoc, keyOf_snoc] at e
        have hc := c.toNat_lt
        have hd := d.toNat_lt
        have e2 : keyOf r = keyOf q := by omega
        have e3 : c = d := UInt8.toNat_inj.mp (by omega)
        rw [ih r q (by simpa using h) e2, e3]
noncomputable def tabFrom (i : Nat) : List (List UInt8) → List (PyData × PyData)
  | [] => []
  | o :: r => (PyData.int (keyOf o), PyData.int (i : Int)) :: tabFrom (i + 1) r
noncomputable abbrev tabOf (ds : List (List UInt8)) : List (PyData × PyData) := tabFrom 1 ds
theorem tabFrom_append (i : Nat) (ds es : List (List UInt8)) : tabFrom i (ds ++ es) = tabFrom i ds ++ tabFrom (i + ds.length) es := by
  induction ds generalizing i with
  | nil => rfl
  | cons a r ih => simp only [List.cons_append, tabFrom, ih, List.length_cons]; congr 3; omega
theorem tabFrom_length (i : Nat) (ds : List (List UInt8)) : (tabFrom i ds).length = ds.length := by
  induction ds generalizing i with
  | nil => rfl
  | cons a r ih => simp [tabFrom, ih]
theorem tab_look (i : Nat) (ds : List (List UInt8)) (o : List UInt8) : Spec.lookup (.int (keyOf o)) (tabFrom i ds) = if o ∈ ds then some (PyData.int ((i + ds.idxOf o : Nat) : Int)) else none := by
  induction ds generalizing i with
  | nil => rfl
  | cons a r ih =>
    have e : Spec.lookup (.int (keyOf o)) (tabFrom i (a :: r)) = if keyOf a = keyOf o then some (PyData.int (i : Int)) else Spec.lookup (.int (keyOf o)) (tabFrom (i + 1) r) := by
      by_cases h : keyOf a = keyOf o
      · simp [Spec.lookup, tabFrom, PyProof.V.same_int, h]
      · simp [Spec.lookup, tabFrom, PyProof.V.same_int, h]
    rw [e]
    by_cases h : a = o
    · subst h; simp
    · have hk : ¬ keyOf a = keyOf o := fun e => h (keyOf_inj _ a o rfl e)
      rw [if_neg hk, ih]
      by_cases hm : o ∈ r
      · rw [if_pos hm, if_pos (List.mem_cons_of_mem _ hm), List.idxOf_cons, show (a == o) = false from by simpa using h]; simp only [cond_false]; congr 3; omega
      · rw [if_neg hm, if_neg (by simp [hm]; exact fun e => h e.symm)]
noncomputable def addD (ds : List (List UInt8)) (o : List UInt8) : List (List UInt8) := if o ∈ ds then ds else ds ++ [o]
theorem mem_addD (ds : List (List UInt8)) (o : List UInt8) : o ∈ addD ds o := by
  unfold addD; split <;> simp_all
theorem addD_length (ds : List (List UInt8)) (o : List UInt8) : (addD ds o).length ≤ ds.length + 1 := by
  unfold addD; split <;> simp
theorem addD_pre (ds : List (List UInt8)) (o : List UInt8) : ∃ r, addD ds o = ds ++ r := by
  unfold addD; split
  · exact ⟨[], by simp⟩
  · exact ⟨_, rfl⟩
noncomputable def numOf (ds : List (List UInt8)) (o : List UInt8) : Nat := 1 + ds.idxOf o
theorem numOf_pre {ds r : List (List UInt8)} {o : List UInt8} (h : o ∈ ds) : numOf (ds ++ r) o = numOf ds o := by
  unfold numOf; rw [List.idxOf_append, if_pos h]
theorem numOf_inj {ds : List (List UInt8)} {o p : List UInt8} (h : o ∈ ds) (e : numOf ds o = numOf ds p) : o = p := by
  unfold numOf at e
  have e' : ds.idxOf o = ds.idxOf p := by omega
  have h1 := List.idxOf_lt_length_of_mem h
  have := List.getElem_idxOf h1
  have h2 : ds.idxOf p < ds.length := by omega
  have := List.getElem_idxOf h2
  simp_all
theorem numOf_le {ds : List (List UInt8)} {o : List UInt8} (h : o ∈ ds) : numOf ds o ≤ ds.length := by
  unfold numOf
  have h1 := List.idxOf_lt_length_of_mem h
  omega
theorem tab_put {ds : List (List UInt8)} {o : List UInt8} (h : o ∉ ds) : PyProof.V.putD (.int (keyOf o)) (.int ((ds.length : Int) + 1)) (tabOf ds) = tabOf (addD ds o) := by
  have hl : Spec.lookup (.int (keyOf o)) (tabOf ds) = none := by rw [tab_look, if_neg h]
  rw [putD_absent hl]
  unfold addD tabOf
  rw [if_neg h, tabFrom_append]
  simp only [tabFrom]
  congr 4
  omega
end
section
noncomputable def DigI (n : Nat) : List Int := KTBy.little 4 (n : Int) ++ ((KTBy.little 8 (((n : Int) * 281479271743489) % 18446744073709551616)).reverse ++ (KTBy.little 20 (605153021707326989568713251046585937826284568576 + (n : Int))).reverse)
noncomputable def dig (n : Nat) : List UInt8 := (DigI n).map fun i => i.toNat.toUInt8
theorem bInts_size {b : Array UInt8} {l : List Int} (h : KBw.bInts b = l) : b.size = l.length := by rw [← h]; simp [KBw.bInts]
theorem dig_of {b : Array UInt8} {n : Nat} (h : KBw.bInts b = DigI n) : b.toList = dig n := by
  unfold dig
  rw [← h]
  unfold KBw.bInts
  generalize b.toList = l
  induction l with
  | nil => rfl
  | cons a r ih => 
    simp only [List.map_cons]
    rw [← ih]
    simp
theorem dig_len (n : Nat) : (dig n).length = 32 := by
  unfold dig DigI
  simp [KTBy.little_length]
theorem little4 (n : Nat) (_ : n < 4294967296) : KTBy.little 4 (n : Int) = [((n % 256 : Nat) : Int), ((n / 256 % 256 : Nat) : Int), ((n / 65536 % 256 : Nat) : Int), ((n / 16777216 % 256 : Nat) : Int)] := by
  simp only [KTBy.little, List.cons.injEq, and_true]
  exact ⟨rfl, rfl, by rw [show 65536 = 256 * 256 from rfl, ← Nat.div_div_eq_div_mul]; rfl, by rw [show 16777216 = 256 * 256 * 256 from rfl, ← Nat.div_div_eq_div_mul, ← Nat.div_div_eq_div_mul]; rfl⟩
theorem dig_inj {n m : Nat} (hn : n < 4294967296) (hm : m < 4294967296) (h : dig n = dig m) : n = m := by
  unfold dig DigI at h
  rw [little4 n hn, little4 m hm] at h
  simp only [List.map_append, List.map_cons, List.map_nil, List.cons_append, List.nil_append, List.cons.injEq] at h
  obtain ⟨h1, h2, h3, h4, _⟩ := h
  have e (a : Nat) : ((a % 256 : Nat) : Int).toNat.toUInt8.toNat = a % 256 := by rw [Int.toNat_natCast]; simp
  have g1 := congrArg UInt8.toNat h1
  have g2 := congrArg UInt8.toNat h2
  have g3 := congrArg UInt8.toNat h3
  have g4 := congrArg UInt8.toNat h4
  rw [e, e] at g1 g2 g3 g4
  omega
end
section
/-- a contract's use, with what it gives back in pieces (out: a contract's own lemma) -/
theorem call_out {w : World} {f : Addr} {D U : Nat} {Pre : Led → List Value → Prop} {Post : Led → List Value → Led → Value → Prop} {mean : ExcName → Option Value} {mg mb : Str → Option Value} {dp un : Nat} {gd : Option (List Code)} {cn : Str} {cs : Scope} {a : Addr} {ccd : Value} {cl : List (Str × Addr)} {outer : List Env} {A₀ : Around} {base h₀ : Heap} {L : Addr} {m : Str → Option Value} {news : Led} {s : Shared} {vs : List Value}
    {Q E : Value → Shared → Prop} {K : (Value → Led → Prop) → Prop} (C : Tell w f D U Pre Post)
    (B : Below A₀ base outer h₀) (F : Fr h₀ L s.heap m) (X : (hd.heap_1 w.params).In h₀) (N : News h₀ L s.heap news) (T : Top hd.view_39 LS mean mg mb h₀) (hk : cs.kind = .function) (hp : Pre news vs) (hd : dp + D < recursionLimit) (hu : un + U < cLine)
    (out : ∀ P : Value → Led → Prop, K P → ∀ r news', Post news vs news' r → P r news') (ret : K (fun r news' => ∀ h' tk', Fr h₀ L h' m → News h₀ L h' news' → Q r { s with heap := h', toks := tk' })) :
    Stop (wpAny (model PP w) (ktrTop dp un gd cn cs L a ccd cl outer) (call (.ref f) vs) Q E s) := C _ _ _ _ _ _ _ _ _ _ _ _ _ _ _ _ _ _ _ _ _ _ B F X N T hk hp hd hu (fun r news' _ _ F' N' p => out _ ret r news' p _ _ F' N')
theorem sub_nil {α : Type} {P : α → Prop} : ∀ p ∈ ([] : List α), P p := fun _ h => nomatch h
theorem sub_cons {α : Type} {P : α → Prop} {x : α} {l : List α} (a : P x) (b : ∀ p ∈ l, P p) : ∀ p ∈ x :: l, P p := fun p hp => (List.mem_cons.mp hp).elim (fun e => e ▸ a) (b p)
theorem mem_r {α : Type} {x : α} {l l' : List α} (h : x ∈ l') : x ∈ l ++ l' := List.mem_append.mpr (.inr h)
theorem mem_l {α : Type} {x : α} {l l' : List α} (h : x ∈ l) : x ∈ l ++ l' := List.mem_append.mpr (.inl h)
end
theorem room1 {dp D D' : Nat} (h : dp + D < recursionLimit) (e : D' + 1 ≤ D) : dp + 1 + D' < recursionLimit := by omega
theorem units3 {un U U' : Nat} (h : un + U < cLine) (e : U' + 3 ≤ U) : un + 3 + U' < cLine := by omega
local macro_rules | `(tactic| ktr_room) => `(tactic| first | exact room1 (by assumption) (by first | exact Nat.le_of_ble_eq_true rfl | omega) | fail)
local macro_rules | `(tactic| ktr_units) => `(tactic| first | exact units3 (by assumption) (by first | exact Nat.le_of_ble_eq_true rfl | omega) | fail)
theorem stop_call {prog : Program} {w : World} {A : Around} {Q E : Value → Shared → Prop} {s : Shared} {f : Nat} {a : List Value} (_ : [65, 72, 79, 86, 93, 100, 107, 114, 121, 128, 135, 142, 147, 154, 161, 182, 189, 196, 217, 231, 245, 266, 273, 289, 296, 301, 308].contains f = true) (h : Stop (wpAny (model prog w) A (call (.ref f) a) Q E s)) : wpAny (model prog w) A (call (.ref f) a) Q E s := h
theorem stop_cr {prog : Program} {w : World} {A : Around} {Q E : Value → Shared → Prop} {s : Shared} {c : Value} {a : Addr} (h : Stop (wpAny (model prog w) A (call c [.ref a]) Q E s)) : wpAny (model prog w) A (call c [.ref a]) Q E s := h
set_option compiler.extract_closed false
section
open Lean
/-- a lemma's use: a word for each explicit argument: "_" is the goal that stays, any other word X is closed by the line "MY X"; those that open with '!' come first -/
def argsL (ws : List String) : MacroM (List Term × List (TSyntax `tactic) × List (TSyntax `tactic)) :=
  ws.zipIdx.foldr (fun (w, i) r => do
    let (a, e, l) ← r
    if w == "_" then return ((← `(?_)) :: a, e, l)
    if w.isNat then return (Syntax.mkNumLit w :: a, e, l)
    let k := mkIdent (Name.mkSimple s!"k{i}")
    let c ← `(tactic| case $k:ident => wtm_at $(Syntax.mkStrLit ("MY " ++ w)))
    let g ← `(?$k)
    if w.startsWith "!" then return (g :: a, c :: e, l)
    return (g :: a, e, c :: l)) (pure ([], [], []))
def useL (s : String) : MacroM (TSyntax `tactic) := do
  match s.splitOn " " with
  | [] => Macro.throwUnsupported
  | f :: ws =>
    let (a, e, l) ← argsL ws
    let f := mkIdent f.toName
    (e ++ l).foldlM (fun t c => `(tactic| ($t; $c))) (← `(tactic| refine' $f $a.toArray*))
def lineL (s p : String) : MacroM (TSyntax `tactic) := do
  `(tactic| (k_here; k_dflt ($(← useL s); k_whole); wtm_at $(Syntax.mkStrLit ("MY " ++ p))))
end
local macro_rules | `(tactic| wtm_at "MY -") => `(tactic| (skip))
local macro_rules | `(tactic| wtm_at "MY stop") => `(tactic| (with_reducible refine stop_here ?_))
local macro_rules | `(tactic| walk_at "call ref") => `(tactic| (with_reducible refine stop_call ?a ?_; (case a => k_dflt (exact rfl))))
local macro_rules | `(tactic| wtm_at "MY it") => `(tactic| ((with_reducible show wpAny _ _ (pyIter (Value.ref _)) (fun it s₂ => LoopAtV _ _ _ _ _ _ _ _ _ it s₂) _ _); wtm_at "MY stop"))
local macro_rules | `(tactic| wtm_at "MY cr") => `(tactic| (with_reducible refine stop_cr ?_))
local macro_rules | `(tactic| wtm_at "MY b") => `(tactic| (exact Nat.le_of_ble_eq_true rfl))
local macro_rules | `(tactic| wtm_at "MY o") => `(tactic| (omega))
local macro_rules | `(tactic| wtm_at "MY n") => `(tactic| (first | wtm_at "MY b" | omega | (simp only [List.length_cons, List.length_nil]; omega)))
local macro_rules | `(tactic| wtm_at "MY n2") => `(tactic| (first | wtm_at "MY b" | omega | (simp only [Array.size_append, List.size_toArray, List.length_cons, List.length_nil]; omega)))
local macro_rules | `(tactic| wtm_at "MY a") => `(tactic| (k_asm))
local macro_rules | `(tactic| wtm_at "MY m") => `(tactic| (k_mem))
local macro_rules | `(tactic| wtm_at "MY r") => `(tactic| (exact rfl))
local macro_rules | `(tactic| wtm_at "MY !r") => `(tactic| (exact rfl))
local macro_rules | `(tactic| wtm_at "MY A") => `(tactic| (assumption))
local macro_rules | `(tactic| wtm_at "MY !A") => `(tactic| (assumption))
local macro_rules | `(tactic| wtm_at "MY s") => `(tactic| (first | assumption | exact rfl))
local macro_rules | `(tactic| wtm_at "MY !s") => `(tactic| (first | assumption | exact rfl))
local macro_rules | `(tactic| wtm_at "MY is") => `(tactic| (k_is))
local macro_rules | `(tactic| wtm_at "MY w") => `(tactic| (with_unfolding_all rfl))
local macro_rules | `(tactic| wtm_at "MY d") => `(tactic| (decide))
local macro_rules | `(tactic| wtm_at "MY rm") => `(tactic| (ktr_room))
local macro_rules | `(tactic| wtm_at "MY bt") => `(tactic| (exact BindsTo.of_eq rfl))
local macro_rules | `(tactic| wtm_at "MY tp") => useL "News.isTup a m"
local macro_rules | `(tactic| wtm_at "MY in2") => `(tactic| (intro t' k'))
local macro_rules | `(tactic| wtm_at "MY in3") => `(tactic| (intro h' F' N'; (try k_sweep)))
local macro_rules | `(tactic| wtm_at "MY in5") => `(tactic| (intro D' h' F' N' l1; (try k_lt l1); (try k_sweep)))
local macro_rules | `(tactic| wtm_at "MY gR") => `(tactic| (with_reducible show wpAny _ _ (call _ [Value.ref _]) _ _ _))
local macro_rules | `(tactic| wtm_at "MY gB") => `(tactic| (with_reducible show wpAny _ _ (call _ [Value.bytes _ _]) _ _ _))
local macro_rules | `(tactic| walk_at "call builtin:len") => `(tactic| (wtm_at "MY gB"; k_here; refine len_bytes (by wtm_at "MY n2") ?_))
local macro_rules | `(tactic| walk_at "binaryOp Add bytes bytes") => `(tactic| (k_here; refine KBy.add_bytes (by wtm_at "MY n2") ?_; wtm_at "MY in2"))
local macro_rules | `(tactic| walk_at "exec For Name Name cons nil") => `(tactic| (k_here; (rename Fr _ _ _ _ => lF'); (with_unfolding_all refine' For_invVF lF' ?k1 ?k2 ?_; (case k1 => exact rfl); (case k2 => exact rfl); k_whole)))
local macro_rules | `(tactic| k_all) => `(tactic| first | assumption | exact ne_of_lt (by assumption) | exact ne_of_allLt (by assumption) | (refine ne_append ?_ ?_ <;> k_all))
local macro_rules | `(tactic| walk_at "call type:tuple") => lineL "call_tuple_tup tp _" "-"
local macro_rules | `(tactic| k_mem) => `(tactic| first | exact List.Mem.head _ | ktr_member | (refine List.mem_cons_of_mem _ ?_; k_mem) | (refine List.mem_append.mpr (Or.inl ?_); k_mem) | (refine List.mem_append.mpr (Or.inr ?_); k_mem))
local macro_rules | `(tactic| walk_at "UnrEnd") => `(tactic| (k_dflt (refine unr_end2 (by k_asm) (by k_asm) (by k_all) ?_)))
section
local macro_rules | `(tactic| walk_at "eval Name") => lineL "ld a r _" "-"
local macro_rules | `(tactic| wtm_at "MY item") => lineL "item_tupL a m r n s _" "-"
local macro_rules | `(tactic| walk_at "subscriptTail Name Name ref int") => `(tactic| (wtm_at "MY item"))
local macro_rules | `(tactic| walk_at "subscriptTail Name BinOp ref int") => `(tactic| (wtm_at "MY item"))
noncomputable def pk : List Nat → Bool → List UInt8
  | [], true => [32]
  | [l], true => [(48 + l).toUInt8]
  | [h, l], true => [32, (16 * h + l).toUInt8]
  | [h], false => [(16 + h).toUInt8]
  | _, _ => []
section PkBytes
local macro_rules | `(tactic| walk_at "call type:bytes") => `(tactic| wtm_at "MY cr")
theorem pk0_tell (w : World) (a : Addr) :
   Tell w 107 3 24 (fun news vs => vs = [.ref a, .bool true] ∧ (a, tupO []) ∈ news) (fun news _ news' r => news' = news ∧ ∃ b t, r = .bytes b t ∧ b.toList = pk [] true) := by
  intro mean mg mb dp un gd cn cs a₀ ccd cl outer A₀ base h₀ L m news s vs Q E B F X N T hk hpre hd' hu hret
  obtain ⟨rfl, hm⟩ := hpre
  refine wpAny_call ?_
  k_dflt ktr_enter
  k_steps
  refine stop_open (bytes_K (vs := [.int _ _]) (ns := [_]) (by k_asm) (by k_asm) (News.isList (by k_asm) (by k_mem)) (.cons _ _ .nil) (by simp only [List.mem_singleton, forall_eq]; omega) (Nat.le_of_ble_eq_true rfl) rfl ?_)
  intro h9 t9 k9 F9 N9 _
  k_steps
  refine hret _ _ _ _ (by k_asm) (news_sub (by k_asm) (by ktd_sub)) ⟨rfl, _, _, rfl, ?_⟩
  rfl
theorem pk1_tell (w : World) (a : Addr) (x : Nat) (hx : x < 16) (t : Tok) :
   Tell w 107 3 24 (fun news vs => vs = [.ref a, .bool true] ∧ (a, tupO [.int x t]) ∈ news) (fun news _ news' r => news' = news ∧ ∃ b t, r = .bytes b t ∧ b.toList = pk [x] true) := by
  intro mean mg mb dp un gd cn cs a₀ ccd cl outer A₀ base h₀ L m news s vs Q E B F X N T hk hpre hd' hu hret
  obtain ⟨rfl, hm⟩ := hpre
  have hx0 : (0 : Int) ≤ x := Int.natCast_nonneg x
  have hx1 : (x : Int) ≤ 15 := by omega
  refine wpAny_call ?_
  k_dflt ktr_enter
  k_steps
  refine stop_open (bytes_K (vs := [.int _ _]) (ns := [_]) (by k_asm) (by k_asm) (News.isList (by k_asm) (by k_mem)) (.cons _ _ .nil) (by simp only [List.mem_singleton, forall_eq]; omega) (Nat.le_of_ble_eq_true rfl) rfl ?_)
  intro h9 t9 k9 F9 N9 _
  k_steps
  refine hret _ _ _ _ (by k_asm) (news_sub (by k_asm) (by ktd_sub)) ⟨rfl, _, _, rfl, ?_⟩
  show [(16 * (2 + 1) + (x : Int)).toNat.toUInt8] = _
  rw [show (16 * (2 + 1) + (x : Int)).toNat = 48 + x by omega]
  rfl
theorem pkE_tell (w : World) (a : Addr) (x : Nat) (hx : x < 16) (t : Tok) :
   Tell w 107 3 24 (fun news vs => vs = [.ref a, .bool false] ∧ (a, tupO [.int x t]) ∈ news) (fun news _ news' r => news' = news ∧ ∃ b t, r = .bytes b t ∧ b.toList = pk [x] false) := by
  intro mean mg mb dp un gd cn cs a₀ ccd cl outer A₀ base h₀ L m news s vs Q E B F X N T hk hpre hd' hu hret
  obtain ⟨rfl, hm⟩ := hpre
  have hx0 : (0 : Int) ≤ x := Int.natCast_nonneg x
  have hx1 : (x : Int) ≤ 15 := by omega
  refine wpAny_call ?_
  k_dflt ktr_enter
  k_steps
  refine stop_open (bytes_K (vs := [.int _ _]) (ns := [_]) (by k_asm) (by k_asm) (News.isList (by k_asm) (by k_mem)) (.cons _ _ .nil) (by simp only [List.mem_singleton, forall_eq]; omega) (Nat.le_of_ble_eq_true rfl) rfl ?_)
  intro h9 t9 k9 F9 N9 _
  k_steps
  refine hret _ _ _ _ (by k_asm) (news_sub (by k_asm) (by ktd_sub)) ⟨rfl, _, _, rfl, ?_⟩
  show [(16 * (0 + 1) + (x : Int)).toNat.toUInt8] = _
  rw [show (16 * (0 + 1) + (x : Int)).toNat = 16 + x by omega]
  rfl
theorem pk2_tell (w : World) (a : Addr) (x y : Nat) (hx : x < 16) (hy : y < 16) (t u : Tok) :
   Tell w 107 3 24 (fun news vs => vs = [.ref a, .bool true] ∧ (a, tupO [.int x t, .int y u]) ∈ news) (fun news _ news' r => news' = news ∧ ∃ b t, r = .bytes b t ∧ b.toList = pk [x, y] true) := by
  intro mean mg mb dp un gd cn cs a₀ ccd cl outer A₀ base h₀ L m news s vs Q E B F X N T hk hpre hd' hu hret
  obtain ⟨rfl, hm⟩ := hpre
  have hx0 : (0 : Int) ≤ x := Int.natCast_nonneg x
  have hx1 : (x : Int) ≤ 15 := by omega
  have hy0 : (0 : Int) ≤ y := Int.natCast_nonneg y
  have hy1 : (y : Int) ≤ 15 := by omega
  refine wpAny_call ?_
  k_dflt ktr_enter
  k_steps
  refine stop_open (bytes_K (vs := [.int _ _, .int _ _]) (ns := [_, _]) (by k_asm) (by k_asm) (News.isList (by k_asm) (by k_mem)) (.cons _ _ (.cons _ _ .nil)) (by simp only [List.mem_cons, List.not_mem_nil, or_false, forall_eq_or_imp, forall_eq]; omega) (Nat.le_of_ble_eq_true rfl) rfl ?_)
  intro h9 t9 k9 F9 N9 _
  k_steps
  refine hret _ _ _ _ (by k_asm) (news_sub (by k_asm) (by ktd_sub)) ⟨rfl, _, _, rfl, ?_⟩
  show [(16 * 2 + 0 : Int).toNat.toUInt8, (16 * (x : Int) + (y : Int)).toNat.toUInt8] = _
  rw [show (16 * (x : Int) + (y : Int)).toNat = 16 * x + y by omega]
  rfl
end PkBytes
end
local macro_rules | `(tactic| walk_at "eval Name") => do `(tactic| (k_here; (with_reducible show wpAny _ _ (eval _ (envOf _ _ _ _ _)) _ _ _); k_dflt ($(← useL "ld a r _"); k_whole)))
local macro_rules | `(tactic| wtm_at "MY lt") => lineL "len_tupL a m n _" "-"
local macro_rules | `(tactic| wtm_at "MY ll") => lineL "len_lstL a m n _" "-"
local macro_rules | `(tactic| walk_at "call builtin:len") => `(tactic| (wtm_at "MY gR"; first | wtm_at "MY lt" | wtm_at "MY ll"))
local macro_rules | `(tactic| wtm_at "MY in6") => `(tactic| (intro D' c' h' F' N' l1; (try k_lt l1); (try k_sweep)))
local macro_rules | `(tactic| wtm_at "MY zt") => `(tactic| (rw [List.size_toArray, sizeLine_eq]; wtm_at "MY n"))
local macro_rules | `(tactic| walk_at "call type:list") => lineL "list_copyKT a a tp _ zt" "in6"
local macro_rules | `(tactic| wtm_at "MY u") => `(tactic| (k_upd))
local macro_rules | `(tactic| walk_at "setItem ref int") => lineL "set_lstL a a u o o _" "in3"
local macro_rules | `(tactic| wtm_at "MY ls") => useL "News.isList a m"
local macro_rules | `(tactic| wtm_at "MY zl") => `(tactic| (rw [List.size_toArray]; first | wtm_at "MY b" | omega | (simp only [List.length_set, List.length_cons, List.length_nil]; omega)))
local macro_rules | `(tactic| walk_at "call type:tuple") => lineL "kde_tupleOf a a ls zl r _" "in5"
local macro_rules | `(tactic| wtm_at "MY em") => `(tactic| (try simp only [List.isEmpty_cons, List.isEmpty_nil, Bool.not_false, Bool.not_true]))
local macro_rules | `(tactic| walk_at "truthy ref") => lineL "ktl_truthyK a m n _" "em"
local macro_rules | `(tactic| wtm_at "MY tt") => lineL "tup_tail a a m n _" "in5"
local macro_rules | `(tactic| wtm_at "MY tf") => lineL "tup_first a a m n _" "in5"
local macro_rules | `(tactic| wtm_at "MY tw") => lineL "tup_whole a a m _" "in3"
local macro_rules | `(tactic| walk_at "subscriptTail Name Slice ref ref") => `(tactic| (first | wtm_at "MY tt" | wtm_at "MY tf" | wtm_at "MY tw"))
local macro_rules | `(tactic| wtm_at "MY item") => lineL "item_tupL a m r n s _" "-"
local macro_rules | `(tactic| walk_at "subscriptTail Name Name ref int") => `(tactic| (wtm_at "MY item"))
local macro_rules | `(tactic| walk_at "subscriptTail Name BinOp ref int") => `(tactic| (wtm_at "MY item"))
local macro_rules | `(tactic| walk_at "subscriptTail Name Constant ref int") => `(tactic| (wtm_at "MY item"))
local macro_rules | `(tactic| walk_at "subscriptTail Name Subscript ref int") => `(tactic| (wtm_at "MY item"))
local macro_rules | `(tactic| walk_at "binaryOp Mult ref int") => lineL "mul_none16 a a m _" "in5"
local macro_rules | `(tactic| tb_start) => `(tactic| repeat (first | exact Grow.refl | (refine Grow.cons (by ktn_lt) ?_) | (refine Grow.app (by assumption) ?_)))
section
theorem no_tell (w : World) (n : Nat) (hn : n < 65536) :
   Tell w 65 1 16 (fun _ vs => ∃ t, vs = [.int n t]) (fun news _ news' r => news' = news ∧ ∃ b t, r = .bytes b t ∧ b.toList = beN n) := by
  intro mean mg mb dp un gd cn cs a ccd cl outer A₀ base h₀ L m news s vs Q E B F X N T hk hpre hd' hu hret
  obtain ⟨t, rfl⟩ := hpre
  have h0 : (0 : Int) ≤ n := Int.natCast_nonneg n
  refine wpAny_call ?_
  k_dflt ktr_enter
  k_steps
  rw [fdiv_kN hn]
  refine KTBy.to_big (kN_le n) rfl h0 (pow_kN hn) fun b t' k' hb _ => ?_
  k_steps
  exact hret _ _ _ _ (by k_asm) (by k_asm) ⟨rfl, _, _, rfl, beN_of hn hb⟩
noncomputable def hdR (low size : Nat) : List UInt8 := if size ≤ 55 then [(low+size).toUInt8] else (low + 55 + (beN size).length).toUInt8 :: beN size
theorem beN_length (n : Nat) : (beN n).length ≤ 2 := by unfold beN; split <;> (try split) <;> simp
theorem hdR_length (l n : Nat) : (hdR l n).length ≤ 3 := by
  unfold hdR; have := beN_length n; split <;> simp <;> omega
theorem hd_tell (w : World) (low n : Nat) (hl : low ≤ 192) (hn : n < 65536) :
   Tell w 72 2 24 (fun _ vs => ∃ t u, vs = [.int low t, .int n u]) (fun news _ news' r => news' = news ∧ ∃ b t, r = .bytes b t ∧ b.toList = hdR low n) := by
  intro mean mg mb dp un gd cn cs a ccd cl outer A₀ base h₀ L m news s vs Q E B F X N T hk hpre hd' hu hret
  obtain ⟨t, u, rfl⟩ := hpre
  have h0 : (0 : Int) ≤ n := Int.natCast_nonneg n
  have h0' : (0 : Int) ≤ low := Int.natCast_nonneg low
  refine wpAny_call ?_
  k_dflt ktr_enter
  by_cases hs : n ≤ 55
  · k_steps
    refine hret _ _ _ _ (by k_asm) (news_sub (by k_asm) (by ktd_sub)) ⟨rfl, _, _, rfl, ?_⟩
    rw [hdR, if_pos hs]
    congr 2
  · k_steps
    refine call_tell (no_tell w n hn) (by k_asm) (by k_asm) (by k_asm) (by k_asm) (by k_asm) rfl ⟨_, rfl⟩ (by ktr_room) (by ktr_units) ?_
    rintro _ _ h9 tk9 F9 N9 ⟨rfl, b, t, rfl, hb⟩
    have hz : b.size ≤ 2 := by have := beN_length n; rw [← hb, Array.length_toList] at this; exact this
    k_steps
    refine hret _ _ _ _ (by k_asm) (news_sub (by k_asm) (by ktd_sub)) ⟨rfl, _, _, rfl, ?_⟩
    rw [hdR, if_neg hs, Array.toList_append, hb]
    have : b.size = (beN n).length := by rw [← hb, Array.length_toList]
    rw [← this]
    rfl
end
section
local macro_rules | `(tactic| walk_at "pyIter ref") => `(tactic| wtm_at "MY it")
noncomputable def encB (b : List UInt8) : List UInt8 := if b.length = 1 ∧ (b.headD 0).toNat < 128 then b else hdR 128 b.length ++ b
noncomputable def encL (e : List UInt8) : List UInt8 := hdR 192 e.length ++ e
/-- the value's RLP encoding is e; lists at most k deep -/
noncomputable def EncTo : Nat → Led → Value → List UInt8 → Prop
  | 0, _, v, e => ∃ b t, v = .bytes b t ∧ b.size ≤ 600 ∧ e = encB b.toList
  | k + 1, news, v, e => (∃ b t, v = .bytes b t ∧ b.size ≤ 600 ∧ e = encB b.toList) ∨ ∃ (a : Addr) (vs : List Value) (n : Nat) (es : List (List UInt8)), v = .ref a ∧ (a, listOf vs.toArray n) ∈ news ∧ vs.length = es.length ∧ (∀ (i : Nat) v e, vs[i]? = some v → es[i]? = some e → EncTo k news v e) ∧ vs.length ≤ 20 ∧ e = encL es.flatten
theorem EncTo.bytes {b : Array UInt8} {t : Tok} {news : Led} (h : b.size ≤ 600) : ∀ k, EncTo k news (.bytes b t) (encB b.toList)
  | 0 => ⟨b, t, rfl, h, rfl⟩
  | _ + 1 => .inl ⟨b, t, rfl, h, rfl⟩
theorem EncTo.length_flatten {es : List (List UInt8)} {i : Nat} {e : List UInt8} (h : es[i]? = some e) : (es.take i).flatten.length + e.length ≤ es.flatten.length := by
  induction es generalizing i with
  | nil => simp at h
  | cons a r ih => cases i with
    | zero => simp at h; subst h; simp
    | succ i =>
      simp at h
      have := ih h
      simp only [List.take_succ_cons, List.flatten_cons, List.length_append]
      omega
theorem flatten_take_succ {es : List (List UInt8)} {i : Nat} {e : List UInt8} (h : es[i]? = some e) : (es.take (i + 1)).flatten = (es.take i).flatten ++ e := by
  rw [List.take_add_one, h]; simp
theorem EncTo.mono {news news' : Led} (hs : ∀ p ∈ news, p ∈ news') : ∀ {k : Nat} {v : Value} {e : List UInt8}, EncTo k news v e → EncTo k news' v e
  | 0, _, _, h => h
  | _ + 1, _, _, .inl h => .inl h
  | _ + 1, _, _, .inr ⟨a, vs, n, es, h1, h2, h3, h4, h5⟩ => .inr ⟨a, vs, n, es, h1, hs _ h2, h3, fun i v e hv he => EncTo.mono hs (h4 i v e hv he), h5⟩
theorem enc_bytes (w : World) (k : Nat) (e : List UInt8) (d : Nat) (he : e.length ≤ 60000) (hdk : d + k ≤ 60) :
   Tell w 79 4 48 (fun news vs => ∃ t b u, vs = [.bytes b u, .int d t] ∧ b.size ≤ 600 ∧ e = encB b.toList) (fun news _ news' r => news' = news ∧ ∃ b t, r = .bytes b t ∧ b.toList = e) := by
  intro mean mg mb dp un gd cn cs a ccd cl outer A₀ base h₀ L m news s vs Q E B F X N T hk hpre hd' hu hret
  obtain ⟨t, b, u, rfl, hb, rfl⟩ := hpre
  have hd0 : (0 : Int) ≤ d := Int.natCast_nonneg d
  have hd1 : (d : Int) + k ≤ 60 := by omega
  refine wpAny_call ?_
  k_dflt ktr_enter
  by_cases h1 : b.size = 1
  · obtain ⟨c, rfl⟩ : ∃ c, b = #[c] := Array.size_eq_one_iff.mp h1
    k_steps
    · have hc : ((([c].getD (Int.toNat 0) 0).toNat : Nat) : Int) < 128 := by assumption
      have hc' : c.toNat < 128 := Int.ofNat_lt.mp hc
      exact hret _ _ _ _ (by k_asm) (by k_asm) ⟨rfl, _, _, rfl, by rw [encB, if_pos ⟨rfl, hc'⟩]⟩
    · have hc : ¬ ((([c].getD (Int.toNat 0) 0).toNat : Nat) : Int) < 128 := by assumption
      have hc' : ¬ c.toNat < 128 := fun h => hc (Int.ofNat_lt.mpr h)
      refine call_tell (hd_tell w 128 1 (by omega) (by omega)) (by k_asm) (by k_asm) (by k_asm) (by k_asm) (by k_asm) rfl ⟨_, _, rfl⟩ (by ktr_room) (by ktr_units) ?_
      rintro _ _ h9 tk9 F9 N9 ⟨rfl, b', u', rfl, hb'⟩
      have hz2 : b'.size ≤ 3 := by rw [← Array.length_toList, hb']; exact hdR_length _ _
      k_steps
      refine hret _ _ _ _ (by k_asm) (by k_asm) ⟨rfl, _, _, rfl, ?_⟩
      rw [Array.toList_append, hb', encB, if_neg (fun h => hc' h.2)]
      rfl
    · have h9 : ¬ ((#[c].size : Nat) : Int) = 1 := by assumption
      exact absurd rfl h9
  · have h1' : ¬ (b.size : Int) = 1 := by omega
    k_steps
    · exact absurd (by assumption) h1'
    · refine call_tell (hd_tell w 128 b.size (by omega) (by omega)) (by k_asm) (by k_asm) (by k_asm) (by k_asm) (by k_asm) rfl ⟨_, _, rfl⟩ (by ktr_room) (by ktr_units) ?_
      rintro _ _ h9 tk9 F9 N9 ⟨rfl, b', u', rfl, hb'⟩
      have hz2 : b'.size ≤ 3 := by rw [← Array.length_toList, hb']; exact hdR_length _ _
      k_steps
      refine hret _ _ _ _ (by k_asm) (by k_asm) ⟨rfl, _, _, rfl, ?_⟩
      rw [Array.toList_append, hb', encB, if_neg (fun h => h1 (by rw [← Array.length_toList]; exact h.1)), Array.length_toList]
theorem Tell.weak {w : World} {f : Addr} {D U D' U' : Nat} {Pre Pre' : Led → List Value → Prop} {Post : Led → List Value → Led → Value → Prop} (C : Tell w f D U Pre Post) (hD : D ≤ D') (hU : U ≤ U') (hp : ∀ n v, Pre' n v → Pre n v) : Tell w f D' U' Pre' Post :=
  fun _ _ _ _ _ _ _ _ _ _ _ _ _ _ _ _ _ _ _ _ _ _ B F X N T hk p hd hu ret => C _ _ _ _ _ _ _ _ _ _ _ _ _ _ _ _ _ _ _ _ _ _ B F X N T hk (hp _ _ p) (Nat.lt_of_le_of_lt (Nat.add_le_add_left hD _) hd) (Nat.lt_of_le_of_lt (Nat.add_le_add_left hU _) hu) ret
section EncLoop
theorem enc_tell (w : World) : ∀ (k : Nat) (e : List UInt8) (d : Nat), e.length ≤ 60000 → d + k ≤ 60 →
   Tell w 79 (k + 4) (8 * k + 48) (fun news vs => ∃ v t, vs = [v, .int d t] ∧ EncTo k news v e) (fun news _ news' r => news' = news ∧ ∃ b t, r = .bytes b t ∧ b.toList = e) := by
  intro k
  induction k with
  | zero =>
    intro e d he hdk
    exact (enc_bytes w 0 e d he hdk).weak (by omega) (by omega) fun _ _ ⟨v, t, h1, b, u, h2, h3, h4⟩ => ⟨t, b, u, by rw [h1, h2], h3, h4⟩
  | succ k ih =>
    intro e d he hdk mean mg mb dp un gd cn cs a ccd cl outer A₀ base h₀ L m news s vs Q E B F X N T hk hpre hd' hu hret
    obtain ⟨v, t, rfl, hv⟩ := hpre
    have hd0 : (0 : Int) ≤ d := Int.natCast_nonneg d
    have hd1 : (d : Int) + k ≤ 60 := by omega
    rcases hv with hv | ⟨l, its, n, es, rfl, hm, hle, hes, hlen, rfl⟩
    · obtain ⟨b, u, rfl, hb, h4⟩ := hv
      exact ((enc_bytes w (k + 1) e d he hdk).weak (D' := k + 1 + 4) (U' := 8 * (k + 1) + 48) (Pre' := fun _ vs => ∃ t b u, vs = [.bytes b u, .int d t] ∧ b.size ≤ 600 ∧ e = encB b.toList) (by omega) (by omega) fun _ _ h => h) _ _ _ _ _ _ _ _ _ _ _ _ _ _ _ _ _ _ _ _ _ _ B F X N T hk ⟨t, b, u, rfl, hb, h4⟩ hd' hu hret
    · have hfl : es.flatten.length ≤ 60000 := by unfold encL at he; simp only [List.length_append] at he; omega
      refine wpAny_call ?_
      k_dflt ktr_enter
      k_steps
      (rename Fr _ _ _ _ => F1); (rename News _ _ _ _ => N1)
      obtain ⟨m₀, hm₀, F1⟩ := fr_abs F1
      refine loop_list (fun i m nx => nx = news ∧ (∃ b u, m "body" = some (.bytes b u) ∧ b.toList = (es.take i).flatten) ∧ ∀ z : Str, z ≠ "body" → z ≠ "part" → m z = m₀ z) rfl F1 N1 hm ⟨rfl, ⟨#[], _, (by rw [hm₀]; rfl), (by simp)⟩, fun _ _ _ => rfl⟩ ?_ ?_
      · rintro i v m₁ nx h tk I oI hv _ hne ⟨rfl, ⟨b, u, hb, hbl⟩, hm₁⟩ F2 N2
        clear F1 N1
        have F3 := fr_one F2 hb hm₁
        clear F2
        subst hm₀
        obtain ⟨e, he'⟩ : ∃ e, es[i]? = some e := ⟨es[i]'(by have := (List.getElem?_eq_some_iff.mp hv).1; omega), by simp⟩
        have hee := hes i v e hv he'
        have hlf := EncTo.length_flatten he'
        k_steps
        refine call_tell (ih e (d + 1) (by omega) (by omega)) (by k_asm) (by k_asm) (by k_asm) (by k_asm) (by k_asm) rfl ⟨v, _, rfl, hee.mono (fun _ h => .tail _ h)⟩ (by ktr_room) (by ktr_units) ?_
        rintro _ _ h9 tk9 F9 N9 ⟨rfl, b', u', rfl, hb'⟩
        have hz1 : b.size ≤ 60000 := by rw [← Array.length_toList, hbl]; omega
        have hz2 : b'.size ≤ 60000 := by rw [← Array.length_toList, hb']; omega
        k_steps
        refine LEnd.intro nx (by k_asm) (by k_asm) (.head _) (fun _ h => .tail _ h) hne (by simpa using hm) ⟨rfl, ⟨_, _, rfl, by rw [Array.toList_append, hbl, hb', flatten_take_succ he']⟩, ?_⟩
        intro z h1 h2
        simp [h1, h2]
      · rintro m₁ nx h tk ⟨rfl, ⟨b, u, hb, hbl⟩, hm₁⟩ F2 N2
        clear F1 N1
        have F3 := fr_know (m' := fun z => if z = "part" then m₁ z else if z = "body" then some (.bytes b u) else m₀ z) F2 (fun z => by
          by_cases e1 : z = "part"
          · simp [e1]
          · by_cases e2 : z = "body"
            · simp [e2, hb]
            · simp [e1, e2, hm₁ z e2 e1])
        clear F2
        subst hm₀
        rw [hle, List.take_length] at hbl
        have hz1 : b.size ≤ 60000 := by rw [← Array.length_toList, hbl]; exact hfl
        k_steps
        refine call_tell (hd_tell w 192 b.size (by omega) (by omega)) (by k_asm) (by k_asm) (by k_asm) (by k_asm) (by k_asm) rfl ⟨_, _, rfl⟩ (by ktr_room) (by ktr_units) ?_
        rintro _ _ h9 tk9 F9 N9 ⟨rfl, b', u', rfl, hb'⟩
        have hz2 : b'.size ≤ 3 := by rw [← Array.length_toList, hb']; exact hdR_length _ _
        k_steps
        refine hret _ _ _ _ (by k_asm) (by k_asm) ⟨rfl, _, _, rfl, ?_⟩
        rw [Array.toList_append, hbl, hb', encL, ← hbl, Array.length_toList]
end EncLoop
end
section
theorem e0_tell (w : World) (k : Nat) (e : List UInt8) (he : e.length ≤ 60000) (hk60 : k ≤ 60) :
   Tell w 86 (k + 5) (8 * k + 56) (fun news vs => ∃ v, vs = [v] ∧ EncTo k news v e) (fun news _ news' r => news' = news ∧ ∃ b t, r = .bytes b t ∧ b.toList = e) := by
  intro mean mg mb dp un gd cn cs a ccd cl outer A₀ base h₀ L m news s vs Q E B F X N T hk hpre hd' hu hret
  obtain ⟨v, rfl, hv⟩ := hpre
  refine wpAny_call ?_
  k_dflt ktr_enter
  k_steps
  refine call_tell (enc_tell w k e 0 he (by omega)) (by k_asm) (by k_asm) (by k_asm) (by k_asm) (by k_asm) rfl ⟨_, _, rfl, hv⟩ (by ktr_room) (by ktr_units) ?_
  rintro _ _ h9 tk9 F9 N9 ⟨rfl, b', u', rfl, hb'⟩
  k_steps
  exact hret _ _ _ _ (by k_asm) (by k_asm) ⟨rfl, _, _, rfl, hb'⟩
theorem nib_hi : ∀ n : Fin 256, ((n.val : Int)).fdiv (2 ^ Int.toNat 4) = ((n.val / 16 : Nat) : Int) := by decide +kernel
theorem nib_lo : ∀ n : Fin 256, Builtin.bitAnd (n.val : Int) 15 = ((n.val % 16 : Nat) : Int) := by decide +kernel
theorem nib_hi8 (c : UInt8) : ((c.toNat : Int)).fdiv (2 ^ Int.toNat 4) = ((c.toNat / 16 : Nat) : Int) := nib_hi ⟨c.toNat, c.toNat_lt⟩
theorem nib_lo8 (c : UInt8) : Builtin.bitAnd (c.toNat : Int) 15 = ((c.toNat % 16 : Nat) : Int) := nib_lo ⟨c.toNat, c.toNat_lt⟩
theorem nb_tell (w : World) (c : UInt8) :
   Tell w 93 3 24 (fun _ vs => ∃ b t, vs = [.bytes b t] ∧ b.toList = [c]) (fun news _ news' r => Grow news news' ∧ ∃ p t u, r = .ref p ∧ (p, tupO [.int (c.toNat / 16 : Nat) t, .int (c.toNat % 16 : Nat) u]) ∈ news') := by
  intro mean mg mb dp un gd cn cs a ccd cl outer A₀ base h₀ L m news s vs Q E B F X N T hk hpre hd' hu hret
  obtain ⟨b, t, rfl, hb⟩ := hpre
  obtain rfl : b = #[c] := by cases b; simp at hb; rw [hb]
  refine wpAny_call ?_
  k_dflt ktr_enter
  k_steps
  (rename Fr _ _ _ _ => F1); (rename News _ _ _ _ => N1)
  obtain ⟨m₀, hm₀, FA⟩ := fr_abs F1
  obtain ⟨d, e9, NA⟩ := news_head N1
  clear F1 N1
  subst e9
  have lt1 : ∀ p ∈ news, p.1 < d := by assumption
  refine KBmo.iter_bytesN (fun i m nx => (∀ z : Str, z ≠ "octet" → m z = m₀ z) ∧ ((i = 0 ∧ nx = (d, _) :: news) ∨ (i = 1 ∧ ∃ t u n, nx = (d, listOf #[.int (c.toNat / 16 : Nat) t, .int (c.toNat % 16 : Nat) u] n) :: news))) rfl rfl FA NA ⟨fun _ _ => rfl, .inl ⟨rfl, rfl⟩⟩ ?_ ?_
  · rintro i k t m₁ nx h tk own hk h0 h1 hoff ⟨hm₁, ⟨rfl, rfl⟩ | ⟨rfl, _⟩⟩ F2 N2
    · clear FA NA
      obtain rfl : (c.toNat : Int) = k := Option.some.inj hk
      have F3 := fr_know (m' := fun z => if z = "octet" then some (.int c.toNat t) else m₀ z) F2 (fun z => by
        by_cases e1 : z = "octet"
        · simp [e1]
        · simp [e1, hm₁ z e1])
      clear F2
      subst hm₀
      k_steps
      (rename News _ _ _ _ => N5)
      rw [nib_hi8, nib_lo8] at N5
      obtain ⟨o5, ho5, N6⟩ := news_headO N5
      refine InvEndN.intro (nx := (d, o5) :: news) (by k_asm) N6 ⟨fun z h1 => if_neg h1, .inr ⟨trivial, ⟨_, _, _, by rw [ho5]; rfl⟩⟩⟩ rfl ?_ ?_
      · intro p hp
        rcases List.mem_cons.mp hp with rfl | hp
        · exact .head _
        · exact .tail _ (List.mem_append.mpr (.inl hp))
      · exact fun p hp => .tail _ (List.mem_append.mpr (.inr hp))
    · exact absurd hk (by simp [KBw.bInts])
  · rintro m₁ nx h tk ⟨hm₁, ⟨h0, _⟩ | ⟨_, t, u, n, rfl⟩⟩ F2 N2
    · cases h0
    · clear FA NA
      have F3 := fr_know (m' := fun z => if z = "octet" then m₁ z else m₀ z) F2 (fun z => by
        by_cases e1 : z = "octet"
        · simp [e1]
        · simp [e1, hm₁ z e1])
      clear F2
      subst hm₀
      k_steps
      exact hret _ _ _ _ (by k_asm) (by k_asm) ⟨Grow.cons (by ktn_lt) (Grow.cons (by ktn_lt) Grow.refl), _, _, _, rfl, .head _⟩
end
section
/-- the length of the common beginning -/
noncomputable def cpl : List Nat → List Nat → Nat
  | x :: xs, y :: ys => if x = y then cpl xs ys + 1 else 0
  | _, _ => 0
theorem cpl_step : ∀ (xs ys : List Nat) (k : Nat), xs.take k = ys.take k → k ≤ xs.length → k ≤ ys.length → (¬ (k < xs.length ∧ k < ys.length) ∨ xs[k]? ≠ ys[k]?) → cpl xs ys = k
  | [], [], k, _, h, _, _ => by simp at h; simp [cpl, h]
  | [], _ :: _, k, _, h, _, _ => by simp at h; simp [cpl, h]
  | _ :: _, [], k, _, _, h, _ => by simp at h; simp [cpl, h]
  | x :: xs, y :: ys, 0, _, _, _, h => by
    have : x ≠ y := by simpa using h
    simp [cpl, this]
  | x :: xs, y :: ys, k + 1, h, h1, h2, h3 => by
    simp at h h1 h2 h3
    rw [cpl, if_pos h.1, cpl_step xs ys k h.2 h1 h2 (by simpa using h3)]
theorem vint_get {vs : List Value} {xs : List Nat} (h : IntsAre vs (xs.map (fun x : Nat => (x : Int)))) {k : Nat} {x : Nat} (hk : xs[k]? = some x) : ∃ t, vs[k]? = some (.int x t) :=
  h.get k x (by simp [hk])
section ShW
local macro_rules | `(tactic| walk_at "exec While") => `(tactic| wtm_at "MY stop")
theorem sh_tell (w : World) (a b : Addr) (va vb : List Value) (xs ys : List Nat) (hlx : xs.length ≤ 64) (hly : ys.length ≤ 64) :
   Tell w 100 3 24 (fun news vs => vs = [.ref a, .ref b] ∧ (a, tupO va) ∈ news ∧ (b, tupO vb) ∈ news ∧ IntsAre va (xs.map (fun x : Nat => (x : Int))) ∧ IntsAre vb (ys.map (fun x : Nat => (x : Int))))
    (fun news _ news' r => news' = news ∧ ∃ t, r = .int (cpl xs ys : Nat) t) := by
  intro mean mg mb dp un gd cn cs a₀ ccd cl outer A₀ base h₀ L m news s vs Q E B F X N T hk hpre hd' hu hret
  obtain ⟨rfl, hma, hmb, ia, ib⟩ := hpre
  have la : va.length = xs.length := by rw [ia.length]; simp
  have lb : vb.length = ys.length := by rw [ib.length]; simp
  refine wpAny_call ?_
  k_dflt ktr_enter
  k_steps
  (rename Fr _ _ _ _ => F1); (rename News _ _ _ _ => N1)
  obtain ⟨m₀, hm₀, FA⟩ := fr_abs F1
  obtain ⟨led, hled, NA⟩ := news_abs N1
  clear F1 N1
  refine stop_open (While_inv2 (fun n m nx => nx = led ∧ ∃ (k : Nat) (t : Tok), m "many" = some (.int k t) ∧ (∀ z : Str, z ≠ "many" → m z = m₀ z) ∧ k ≤ xs.length ∧ k ≤ ys.length ∧ xs.take k = ys.take k ∧ n = xs.length - k) FA NA ⟨rfl, 0, _, (by rw [hm₀]; rfl), fun _ _ => rfl, Nat.zero_le _, Nat.zero_le _, rfl, rfl⟩ ?_)
  rintro n m₁ nx h tk F2 N2 ⟨rfl, k, t, hk0, hm₁, hk1, hk2, hk3, rfl⟩
  have F3 := fr_look F2 hk0 hm₁
  clear F2 FA NA
  subst hm₀ hled
  k_steps
  · have hc : (k : Int) < if (vb.length : Int) < va.length then (vb.length : Int) else va.length := by assumption
    have he : (List.map (fun x : Nat => (x : Int)) xs).getD (k : Int).toNat 0 = (List.map (fun x : Nat => (x : Int)) ys).getD (k : Int).toNat 0 := by assumption
    have hkx : k < xs.length := by split at hc <;> omega
    have hky : k < ys.length := by split at hc <;> omega
    have he' : xs[k] = ys[k] := Int.ofNat_inj.mp (by simpa [hkx, hky] using he)
    refine ⟨_, _, _, _, xs.length - (k + 1), rfl, by k_asm, by k_asm, by omega, rfl, k + 1, _, rfl, fun z hz => by simp [hz], hkx, hky, ?_, rfl⟩
    rw [List.take_add_one, List.take_add_one, hk3]
    simp [hkx, hky, he']
  · have hc : (k : Int) < if (vb.length : Int) < va.length then (vb.length : Int) else va.length := by assumption
    have he : (List.map (fun x : Nat => (x : Int)) xs).getD (k : Int).toNat 0 ≠ (List.map (fun x : Nat => (x : Int)) ys).getD (k : Int).toNat 0 := by assumption
    have hkx : k < xs.length := by split at hc <;> omega
    have hky : k < ys.length := by split at hc <;> omega
    have hne : xs[k]? ≠ ys[k]? := fun h => he (by
      have h' : xs[k] = ys[k] := by simpa [hkx, hky] using h
      simp [hkx, hky, h'])
    rw [← cpl_step xs ys k hk3 hk1 hk2 (.inr hne)]
    exact hret _ _ _ _ (by k_asm) (news_sub (by k_asm) (by ktd_sub)) ⟨rfl, _, rfl⟩
  · have hc : ¬ (k : Int) < if (vb.length : Int) < va.length then (vb.length : Int) else va.length := by assumption
    rw [← cpl_step xs ys k hk3 hk1 hk2 (.inl (by intro h; apply hc; split <;> omega))]
    exact hret _ _ _ _ (by k_asm) (news_sub (by k_asm) (by ktd_sub)) ⟨rfl, _, rfl⟩
end ShW
end
section
theorem wk_tell (w : World) (b ka : Addr) (ws : List Value) (kind hld kid : Value) (i : Nat) (t : Tok) (hi : i < 16) (hw : ws.length = 16) :
   Tell w 114 3 24 (fun news vs => vs = [.ref b, .int (i : Nat) t, kid] ∧ (b, tupO [kind, .ref ka, hld]) ∈ news ∧ (ka, tupO ws) ∈ news)
    (fun news _ news' r => Grow news news' ∧ ∃ a k t, r = .ref a ∧ (a, tupO [.str "branch" t, .ref k, hld]) ∈ news' ∧ (k, tupO (ws.set i kid)) ∈ news') := by
  intro mean mg mb dp un gd cn cs a ccd cl outer A₀ base h₀ L m news s vs Q E B F X N T hk hpre hd' hu hret
  obtain ⟨rfl, hb, hka⟩ := hpre
  have hz : (ws.set i kid).length = 16 := by rw [List.length_set]; exact hw
  refine wpAny_call ?_
  k_dflt ktr_enter
  k_steps
  exact hret _ _ _ _ (by k_asm) (by k_asm) ⟨Grow.cons (by ktn_lt) (Grow.cons (by ktn_lt) (Grow.cons (by ktn_lt) Grow.refl)), _, _, _, rfl, .head _, .tail _ (.head _)⟩

theorem pib_tell (w : World) (b ka pa : Addr) (ws : List Value) (kind hld kv val : Value) (i : Nat) (t : Tok) (rest : List Value) (hi : i < 16) (hw : ws.length = 16) (hr : rest.length ≤ 3) (hkv : ws[i]? = some kv) (D U : Nat) (Side : Led → Prop) (R : Led → Value → Prop)
   (mS : ∀ n n', (∀ p ∈ n, p ∈ n') → Side n → Side n') (mR : ∀ n n' v, (∀ p ∈ n, p ∈ n') → R n v → R n' v)
   (H : ∀ pa', Tell w 135 D U (fun news vs => vs = [kv, .ref pa', val] ∧ (pa', tupO rest) ∈ news ∧ Side news) (fun news _ news' r => Grow news news' ∧ R news' r)) :
   Tell w 121 (D + 5) (U + 40) (fun news vs => vs = [.ref b, .ref pa, val] ∧ (b, tupO [kind, .ref ka, hld]) ∈ news ∧ (ka, tupO ws) ∈ news ∧ (pa, tupO (.int (i : Nat) t :: rest)) ∈ news ∧ Side news)
    (fun news _ news' r => Grow news news' ∧ ∃ a k t kid, r = .ref a ∧ (a, tupO [.str "branch" t, .ref k, hld]) ∈ news' ∧ (k, tupO (ws.set i kid)) ∈ news' ∧ R news' kid) := by
  intro mean mg mb dp un gd cn cs a ccd cl outer A₀ base h₀ L m news s vs Q E B F X N T hk hpre hd' hu hret
  obtain ⟨rfl, hb, hka, hpa, hs⟩ := hpre
  refine wpAny_call ?_
  k_dflt ktr_enter
  k_steps
  refine call_tell (H _) (by k_asm) (by k_asm) (by k_asm) (by k_asm) (by k_asm) rfl ⟨rfl, .head _, mS _ _ (by ktd_sub) hs⟩ (by ktr_room) (by ktr_units) ?_
  rintro kid news1 h9 tk9 F9 N9 ⟨g1, hR⟩
  have gs : Grow news news1 := (Grow.cons (by ktn_lt) Grow.refl).trans g1
  have hb1 := gs.sub _ hb
  have hka1 := gs.sub _ hka
  k_steps
  refine call_tell (wk_tell w b ka ws kind hld kid i t hi hw) (by k_asm) (by k_asm) (by k_asm) (by k_asm) (by k_asm) rfl ⟨rfl, hb1, hka1⟩ (by ktr_room) (by ktr_units) ?_
  rintro _ news2 h8 tk8 F8 N8 ⟨g2, a2, k2, t2, rfl, ha2, hk2⟩
  k_steps
  exact hret _ _ _ _ (by k_asm) (by k_asm) ⟨gs.trans g2, _, _, _, _, rfl, ha2, hk2, mR _ _ _ g2.sub hR⟩
end
section
theorem pn_tell (w : World) (pa : Addr) (val : Value) :
   Tell w 135 3 24 (fun _ vs => vs = [.none, .ref pa, val]) (fun news _ news' r => Grow news news' ∧ ∃ a t, r = .ref a ∧ (a, tupO [.str "leaf" t, .ref pa, val]) ∈ news') := by
  intro mean mg mb dp un gd cn cs a ccd cl outer A₀ base h₀ L m news s vs Q E B F X N T hk hpre hd' hu hret
  obtain rfl := hpre
  refine wpAny_call ?_
  k_dflt ktr_enter
  k_steps
  exact hret _ _ _ _ (by k_asm) (by k_asm) ⟨Grow.cons (by ktn_lt) Grow.refl, _, _, rfl, .head _⟩
/-- a branch of leaves and the like: its kids' values -/
def BranchAt (news : Led) (r : Value) (kids : List Value) (hld : Value) : Prop := ∃ a k t, r = .ref a ∧ (a, tupO [.str "branch" t, .ref k, hld]) ∈ news ∧ (k, tupO kids) ∈ news
/-- a leaf's value -/
def LeafAt (rest : List Value) (hld : Value) (news : Led) (r : Value) : Prop := ∃ a p t, r = .ref a ∧ (a, tupO [.str "leaf" t, .ref p, hld]) ∈ news ∧ (p, tupO rest) ∈ news
theorem LeafAt.mono {rest : List Value} {hld : Value} (n n' : Led) (v : Value) (hs : ∀ p ∈ n, p ∈ n') (h : LeafAt rest hld n v) : LeafAt rest hld n' v :=
  let ⟨a, p, t, h1, h2, h3⟩ := h; ⟨a, p, t, h1, hs _ h2, hs _ h3⟩
theorem pnH (w : World) (rest : List Value) (val : Value) (pa' : Addr) : Tell w 135 3 24 (fun news vs => vs = [.none, .ref pa', val] ∧ (pa', tupO rest) ∈ news ∧ True) (fun news _ news' r => Grow news news' ∧ LeafAt rest val news' r) :=
  (pn_tell w pa' val).conv (Nat.le_refl _) (Nat.le_refl _) (fun _ _ h => h.1) fun n v n' r h q => ⟨q.1, let ⟨a, t, h1, h2⟩ := q.2; ⟨a, pa', t, h1, h2, q.1.sub _ h.2.1⟩⟩
theorem rep16 {i : Nat} (hi : i < 16) : (List.replicate 16 Value.none)[i]? = some .none := by rw [List.getElem?_replicate, if_pos hi]
theorem par0_tell (w : World) (b wa : Addr) (i : Nat) (t t' tt : Tok) (rest : List Value) (hld : Value) (hi : i < 16) (hr : rest.length ≤ 3) :
   Tell w 128 9 72 (fun news vs => vs = [.ref b, .int 0 t] ∧ (b, tupO [.str "leaf" tt, .ref wa, hld]) ∈ news ∧ (wa, tupO (.int (i : Nat) t' :: rest)) ∈ news)
    (fun news _ news' r => Grow news news' ∧ ∃ kid u, BranchAt news' r ((List.replicate 16 Value.none).set i kid) (.bytes #[] u) ∧ LeafAt rest hld news' kid) := by
  intro mean mg mb dp un gd cn cs a ccd cl outer A₀ base h₀ L m news s vs Q E B F X N T hk hpre hd' hu hret
  obtain ⟨rfl, hb, hwa⟩ := hpre
  refine wpAny_call ?_
  k_dflt ktr_enter
  k_steps
  refine call_tell (pib_tell w _ _ _ (List.replicate 16 .none) _ _ .none hld i t' rest hi rfl hr (rep16 hi) 3 24 (fun _ => True) (LeafAt rest hld) (fun _ _ _ h => h) LeafAt.mono (pnH w rest hld)) (by k_asm) (by k_asm) (by k_asm) (by k_asm) (by k_asm) rfl ⟨rfl, by k_mem, by k_mem, by k_mem, trivial⟩ (by ktr_room) (by ktr_units) ?_
  rintro _ news1 h9 tk9 F9 N9 ⟨g1, a1, k1, t1, kid, rfl, ha1, hk1, hkid⟩
  k_steps
  exact hret _ _ _ _ (by k_asm) (by k_asm) ⟨Grow.trans (by tb_start) g1, kid, _, ⟨_, _, _, rfl, ha1, hk1⟩, hkid⟩
theorem par1_tell (w : World) (b wa : Addr) (i : Nat) (t t' tt : Tok) (v₀ : Value) (rest : List Value) (hld : Value) (hi : i < 16) (hr : rest.length ≤ 3) :
   Tell w 128 9 72 (fun news vs => vs = [.ref b, .int 1 t] ∧ (b, tupO [.str "leaf" tt, .ref wa, hld]) ∈ news ∧ (wa, tupO (v₀ :: .int (i : Nat) t' :: rest)) ∈ news)
    (fun news _ news' r => Grow news news' ∧ ∃ kid u, BranchAt news' r ((List.replicate 16 Value.none).set i kid) (.bytes #[] u) ∧ LeafAt rest hld news' kid) := by
  intro mean mg mb dp un gd cn cs a ccd cl outer A₀ base h₀ L m news s vs Q E B F X N T hk hpre hd' hu hret
  obtain ⟨rfl, hb, hwa⟩ := hpre
  refine wpAny_call ?_
  k_dflt ktr_enter
  k_steps
  refine call_tell (pib_tell w _ _ _ (List.replicate 16 .none) _ _ .none hld i t' rest hi rfl hr (rep16 hi) 3 24 (fun _ => True) (LeafAt rest hld) (fun _ _ _ h => h) LeafAt.mono (pnH w rest hld)) (by k_asm) (by k_asm) (by k_asm) (by k_asm) (by k_asm) rfl ⟨rfl, by k_mem, by k_mem, by k_mem, trivial⟩ (by ktr_room) (by ktr_units) ?_
  rintro _ news1 h9 tk9 F9 N9 ⟨g1, a1, k1, t1, kid, rfl, ha1, hk1, hkid⟩
  k_steps
  exact hret _ _ _ _ (by k_asm) (by k_asm) ⟨Grow.trans (by tb_start) g1, kid, _, ⟨_, _, _, rfl, ha1, hk1⟩, hkid⟩
theorem parE_tell (w : World) (b wa : Addr) (i : Nat) (t t' tt : Tok) (hld : Value) (hi : i < 16) :
   Tell w 128 9 72 (fun news vs => vs = [.ref b, .int 0 t] ∧ (b, tupO [.str "ext" tt, .ref wa, hld]) ∈ news ∧ (wa, tupO [.int (i : Nat) t']) ∈ news)
    (fun news _ news' r => Grow news news' ∧ ∃ u, BranchAt news' r ((List.replicate 16 Value.none).set i hld) (.bytes #[] u)) := by
  intro mean mg mb dp un gd cn cs a ccd cl outer A₀ base h₀ L m news s vs Q E B F X N T hk hpre hd' hu hret
  obtain ⟨rfl, hb, hwa⟩ := hpre
  refine wpAny_call ?_
  k_dflt ktr_enter
  k_steps
  · refine call_tell (wk_tell w _ _ (List.replicate 16 .none) _ _ hld i t' hi rfl) (by k_asm) (by k_asm) (by k_asm) (by k_asm) (by k_asm) rfl ⟨rfl, by k_mem, by k_mem⟩ (by ktr_room) (by ktr_units) ?_
    rintro _ news1 h9 tk9 F9 N9 ⟨g1, a1, k1, t1, rfl, ha1, hk1⟩
    k_steps
    exact hret _ _ _ _ (by k_asm) (by k_asm) ⟨Grow.trans (by tb_start) g1, _, ⟨_, _, _, rfl, ha1, hk1⟩⟩
  · have h9 : ¬ (([Value.int (i : Int) t'].length : Nat) : Int) = 1 := by assumption
    exact absurd rfl h9
end
section
theorem LeafAt.up {rest : List Value} {hld : Value} {n n' : Led} {v : Value} (h : LeafAt rest hld n v) (g : Grow n n') : LeafAt rest hld n' v := LeafAt.mono _ _ _ g.sub h
theorem set_other {i i' : Nat} (ws : List Value) (v : Value) (h : i' ≠ i) : (ws.set i' v)[i]? = ws[i]? := List.getElem?_set_ne h
theorem pil0_tell (w : World) (b pa wa : Addr) (i i' : Nat) (t t' tt : Tok) (rest rest' : List Value) (rs rs' : List Nat) (hld val : Value) (hi : i < 16) (hi' : i' < 16) (hne : i' ≠ i) (hl : rest.length ≤ 2) (hl' : rest'.length ≤ 2)
   (ia : IntsAre rest (rs.map (fun x : Nat => (x : Int)))) (ia' : IntsAre rest' (rs'.map (fun x : Nat => (x : Int)))) :
   Tell w 135 11 100 (fun news vs => vs = [.ref b, .ref pa, val] ∧ (b, tupO [.str "leaf" tt, .ref wa, hld]) ∈ news ∧ (wa, tupO (.int (i' : Nat) t' :: rest')) ∈ news ∧ (pa, tupO (.int (i : Nat) t :: rest)) ∈ news)
    (fun news _ news' r => Grow news news' ∧ ∃ kid kid2 u, BranchAt news' r (((List.replicate 16 Value.none).set i' kid).set i kid2) (.bytes #[] u) ∧ LeafAt rest' hld news' kid ∧ LeafAt rest val news' kid2) := by
  intro mean mg mb dp un gd cn cs a ccd cl outer A₀ base h₀ L m news s vs Q E B F X N T hk hpre hd' hu hret
  obtain ⟨rfl, hb, hwa, hpa⟩ := hpre
  have lr : rs.length ≤ 2 := by have := ia.length; simp at this; omega
  have lr' : rs'.length ≤ 2 := by have := ia'.length; simp at this; omega
  refine wpAny_call ?_
  k_dflt ktr_enter
  k_steps
  refine call_tell (sh_tell w wa pa (.int (i' : Nat) t' :: rest') (.int (i : Nat) t :: rest) (i' :: rs') (i :: rs) (by simp; omega) (by simp; omega)) (by k_asm) (by k_asm) (by k_asm) (by k_asm) (by k_asm) rfl ⟨rfl, by k_mem, by k_mem, .cons _ _ ia', .cons _ _ ia⟩ (by ktr_room) (by ktr_units) ?_
  rintro _ n9 h9 tk9 F9 N9 ⟨e9, t9, rfl⟩
  rw [e9] at N9; clear e9
  rw [show cpl (i' :: rs') (i :: rs) = 0 by simp [cpl, hne]]
  have hq : ((0 : Nat) : Int) ≠ (((Value.int (i' : Nat) t' :: rest').length : Nat) : Int) := by simp; omega
  k_steps
  exact absurd (by assumption) hq
  refine call_tell (par0_tell w b wa i' t9 t' tt rest' hld hi' (by omega)) (by k_asm) (by k_asm) (by k_asm) (by k_asm) (by k_asm) rfl ⟨rfl, by k_mem, by k_mem⟩ (by ktr_room) (by ktr_units) ?_
  rintro _ news1 h8 tk8 F8 N8 ⟨g1, kid, u1, ⟨a1, k1, t1, rfl, ha1, hk1⟩, hkid⟩
  have gs : Grow news news1 := Grow.trans (by tb_start) g1
  have hpa1 := gs.sub _ hpa
  k_steps
  refine call_tell (pib_tell w _ _ _ ((List.replicate 16 .none).set i' kid) _ _ .none val i t rest hi (by simp) (by omega) ((set_other _ _ hne).trans (rep16 hi)) 3 24 (fun _ => True) (LeafAt rest val) (fun _ _ _ h => h) LeafAt.mono (pnH w rest val)) (by k_asm) (by k_asm) (by k_asm) (by k_asm) (by k_asm) rfl ⟨rfl, ha1, hk1, hpa1, trivial⟩ (by ktr_room) (by ktr_units) ?_
  rintro _ news2 h7 tk7 F7 N7 ⟨g2, a2, k2, t2, kid2, rfl, ha2, hk2, hkid2⟩
  k_steps
  exact hret _ _ _ _ (by k_asm) (by k_asm) ⟨gs.trans g2, kid, kid2, _, ⟨_, _, _, rfl, ha2, hk2⟩, hkid.up g2, hkid2⟩
end
section
def ExtAt (way : List Value) (c : Value) (news : Led) (r : Value) : Prop := ∃ e q t, r = .ref e ∧ (e, tupO [.str "ext" t, .ref q, c]) ∈ news ∧ (q, tupO way) ∈ news
theorem ExtAt.up {way : List Value} {c : Value} {n n' : Led} {v : Value} (h : ExtAt way c n v) (g : Grow n n') : ExtAt way c n' v :=
  let ⟨a, p, t, h1, h2, h3⟩ := h; ⟨a, p, t, h1, g.sub _ h2, g.sub _ h3⟩
theorem BranchAt.up {kids : List Value} {c : Value} {n n' : Led} {v : Value} (h : BranchAt n v kids c) (g : Grow n n') : BranchAt n' v kids c :=
  let ⟨a, p, t, h1, h2, h3⟩ := h; ⟨a, p, t, h1, g.sub _ h2, g.sub _ h3⟩
theorem pil1_tell (w : World) (b pa wa : Addr) (h i i' : Nat) (t t' tt u u' : Tok) (hld val : Value) (hi : i < 16) (hi' : i' < 16) (hne : i' ≠ i) :
   Tell w 135 11 100 (fun news vs => vs = [.ref b, .ref pa, val] ∧ (b, tupO [.str "leaf" tt, .ref wa, hld]) ∈ news ∧ (wa, tupO [.int (h : Nat) u', .int (i' : Nat) t']) ∈ news ∧ (pa, tupO [.int (h : Nat) u, .int (i : Nat) t]) ∈ news)
    (fun news _ news' r => Grow news news' ∧ ∃ fork kid kid2 v t, ExtAt [.int (h : Nat) t] fork news' r ∧ BranchAt news' fork (((List.replicate 16 Value.none).set i' kid).set i kid2) (.bytes #[] v) ∧ LeafAt [] hld news' kid ∧ LeafAt [] val news' kid2) := by
  intro mean mg mb dp un gd cn cs a ccd cl outer A₀ base h₀ L m news s vs Q E B F X N T hk hpre hd' hu hret
  obtain ⟨rfl, hb, hwa, hpa⟩ := hpre
  refine wpAny_call ?_
  k_dflt ktr_enter
  k_steps
  refine call_tell (sh_tell w wa pa [.int (h : Nat) u', .int (i' : Nat) t'] [.int (h : Nat) u, .int (i : Nat) t] [h, i'] [h, i] (by simp) (by simp)) (by k_asm) (by k_asm) (by k_asm) (by k_asm) (by k_asm) rfl ⟨rfl, by k_mem, by k_mem, .cons _ _ (.cons _ _ .nil), .cons _ _ (.cons _ _ .nil)⟩ (by ktr_room) (by ktr_units) ?_
  rintro _ n9 h9 tk9 F9 N9 ⟨e9, t9, rfl⟩
  rw [e9] at N9; clear e9
  rw [show cpl [h, i'] [h, i] = 1 by simp [cpl, hne]]
  k_steps
  exact absurd (by assumption) (show ¬ ((1 : Nat) : Int) = (([Value.int (h : Nat) u', .int (i' : Nat) t'].length : Nat) : Int) by simp)
  exact absurd (by assumption) (show ¬ ((1 : Nat) : Int) = (([Value.int (h : Nat) u', .int (i' : Nat) t'].length : Nat) : Int) by simp)
  refine call_tell (par1_tell w b wa i' t9 t' tt (.int (h : Nat) u') [] hld hi' (by simp)) (by k_asm) (by k_asm) (by k_asm) (by k_asm) (by k_asm) rfl ⟨rfl, by k_mem, by k_mem⟩ (by ktr_room) (by ktr_units) ?_
  rintro _ news1 h8 tk8 F8 N8 ⟨g1, kid, u1, ⟨a1, k1, t1, rfl, ha1, hk1⟩, hkid⟩
  have gs : Grow news news1 := Grow.trans (by tb_start) g1
  have hpa1 := gs.sub _ hpa
  k_steps
  refine call_tell (pib_tell w _ _ _ ((List.replicate 16 .none).set i' kid) _ _ .none val i t [] hi (by simp) (by simp) ((set_other _ _ hne).trans (rep16 hi)) 3 24 (fun _ => True) (LeafAt [] val) (fun _ _ _ h => h) LeafAt.mono (pnH w [] val)) (by k_asm) (by k_asm) (by k_asm) (by k_asm) (by k_asm) rfl ⟨rfl, by k_mem, by k_mem, by k_mem, trivial⟩ (by ktr_room) (by ktr_units) ?_
  rintro _ news2 h7 tk7 F7 N7 ⟨g2, a2, k2, t2, kid2, rfl, ha2, hk2, hkid2⟩
  have gs2 : Grow news1 news2 := Grow.trans (by tb_start) g2
  have hpa2 := gs2.sub _ hpa1
  k_steps
  exact hret _ _ _ _ (by k_asm) (by k_asm) ⟨gs.trans (gs2.trans (by tb_start)), .ref a2, kid, kid2, _, _, ⟨_, _, _, rfl, .head _, .tail _ (.head _)⟩, ⟨_, _, _, rfl, .tail _ (.tail _ ha2), .tail _ (.tail _ hk2)⟩, LeafAt.mono _ _ _ (fun _ h => .tail _ (.tail _ (gs2.sub _ h))) hkid, LeafAt.mono _ _ _ (fun _ h => .tail _ (.tail _ h)) hkid2⟩
theorem pie0_tell (w : World) (b pa wa : Addr) (i i' : Nat) (t t' tt : Tok) (rest : List Value) (rs : List Nat) (hld val : Value) (hi : i < 16) (hi' : i' < 16) (hne : i' ≠ i) (hl : rest.length ≤ 2)
   (ia : IntsAre rest (rs.map (fun x : Nat => (x : Int)))) :
   Tell w 135 11 100 (fun news vs => vs = [.ref b, .ref pa, val] ∧ (b, tupO [.str "ext" tt, .ref wa, hld]) ∈ news ∧ (wa, tupO [.int (i' : Nat) t']) ∈ news ∧ (pa, tupO (.int (i : Nat) t :: rest)) ∈ news)
    (fun news _ news' r => Grow news news' ∧ ∃ kid2 u, BranchAt news' r (((List.replicate 16 Value.none).set i' hld).set i kid2) (.bytes #[] u) ∧ LeafAt rest val news' kid2) := by
  intro mean mg mb dp un gd cn cs a ccd cl outer A₀ base h₀ L m news s vs Q E B F X N T hk hpre hd' hu hret
  obtain ⟨rfl, hb, hwa, hpa⟩ := hpre
  have lr : rs.length ≤ 2 := by have := ia.length; simp at this; omega
  refine wpAny_call ?_
  k_dflt ktr_enter
  k_steps
  refine call_tell (sh_tell w wa pa [.int (i' : Nat) t'] (.int (i : Nat) t :: rest) [i'] (i :: rs) (by simp) (by simp; omega)) (by k_asm) (by k_asm) (by k_asm) (by k_asm) (by k_asm) rfl ⟨rfl, by k_mem, by k_mem, .cons _ _ .nil, .cons _ _ ia⟩ (by ktr_room) (by ktr_units) ?_
  rintro _ n9 h9 tk9 F9 N9 ⟨e9, t9, rfl⟩
  rw [e9] at N9; clear e9
  rw [show cpl [i'] (i :: rs) = 0 by simp [cpl, hne]]
  k_steps
  exact absurd (by assumption) (show ¬ ((0 : Nat) : Int) = (([Value.int (i' : Nat) t'].length : Nat) : Int) by simp)
  refine call_tell (parE_tell w b wa i' t9 t' tt hld hi') (by k_asm) (by k_asm) (by k_asm) (by k_asm) (by k_asm) rfl ⟨rfl, by k_mem, by k_mem⟩ (by ktr_room) (by ktr_units) ?_
  rintro _ news1 h8 tk8 F8 N8 ⟨g1, u1, ⟨a1, k1, t1, rfl, ha1, hk1⟩⟩
  have gs : Grow news news1 := Grow.trans (by tb_start) g1
  have hpa1 := gs.sub _ hpa
  k_steps
  refine call_tell (pib_tell w _ _ _ ((List.replicate 16 .none).set i' hld) _ _ .none val i t rest hi (by simp) (by omega) ((set_other _ _ hne).trans (rep16 hi)) 3 24 (fun _ => True) (LeafAt rest val) (fun _ _ _ h => h) LeafAt.mono (pnH w rest val)) (by k_asm) (by k_asm) (by k_asm) (by k_asm) (by k_asm) rfl ⟨rfl, ha1, hk1, hpa1, trivial⟩ (by ktr_room) (by ktr_units) ?_
  rintro _ news2 h7 tk7 F7 N7 ⟨g2, a2, k2, t2, kid2, rfl, ha2, hk2, hkid2⟩
  k_steps
  exact hret _ _ _ _ (by k_asm) (by k_asm) ⟨gs.trans g2, kid2, _, ⟨_, _, _, rfl, ha2, hk2⟩, hkid2⟩
theorem pie1_tell (w : World) (b pa wa : Addr) (i : Nat) (t t' tt : Tok) (rest : List Value) (rs : List Nat) (hld val : Value) (hl : rest.length ≤ 2)
   (ia : IntsAre rest (rs.map (fun x : Nat => (x : Int)))) (D U : Nat) (Side : Led → Prop) (R : Led → Value → Prop)
   (mS : ∀ n n', (∀ p ∈ n, p ∈ n') → Side n → Side n') (mR : ∀ n n' v, (∀ p ∈ n, p ∈ n') → R n v → R n' v)
   (H : ∀ pa', Tell w 135 D U (fun news vs => vs = [hld, .ref pa', val] ∧ (pa', tupO rest) ∈ news ∧ Side news) (fun news _ news' r => Grow news news' ∧ R news' r)) :
   Tell w 135 (D + 4) (U + 40) (fun news vs => vs = [.ref b, .ref pa, val] ∧ (b, tupO [.str "ext" tt, .ref wa, hld]) ∈ news ∧ (wa, tupO [.int (i : Nat) t']) ∈ news ∧ (pa, tupO (.int (i : Nat) t :: rest)) ∈ news ∧ Side news)
    (fun news _ news' r => Grow news news' ∧ ∃ kid, ExtAt [.int (i : Nat) t'] kid news' r ∧ R news' kid) := by
  intro mean mg mb dp un gd cn cs a ccd cl outer A₀ base h₀ L m news s vs Q E B F X N T hk hpre hd' hu hret
  obtain ⟨rfl, hb, hwa, hpa, hs⟩ := hpre
  have lr : rs.length ≤ 2 := by have := ia.length; simp at this; omega
  refine wpAny_call ?_
  k_dflt ktr_enter
  k_steps
  refine call_tell (sh_tell w wa pa [.int (i : Nat) t'] (.int (i : Nat) t :: rest) [i] (i :: rs) (by simp) (by simp; omega)) (by k_asm) (by k_asm) (by k_asm) (by k_asm) (by k_asm) rfl ⟨rfl, by k_mem, by k_mem, .cons _ _ .nil, .cons _ _ ia⟩ (by ktr_room) (by ktr_units) ?_
  rintro _ n9 h9 tk9 F9 N9 ⟨e9, t9, rfl⟩
  rw [e9] at N9; clear e9
  rw [show cpl [i] (i :: rs) = 1 by simp [cpl]]
  k_steps
  rotate_left
  · have h9 : ¬ ((1 : Nat) : Int) = (([Value.int (i : Nat) t'].length : Nat) : Int) := by assumption
    exact absurd rfl h9
  refine call_tell (H _) (by k_asm) (by k_asm) (by k_asm) (by k_asm) (by k_asm) rfl ⟨rfl, .head _, mS _ _ (by ktd_sub) hs⟩ (by ktr_room) (by ktr_units) ?_
  rintro kid news1 h8 tk8 F8 N8 ⟨g1, hR⟩
  have gs : Grow news news1 := Grow.trans (by tb_start) g1
  have hwa1 := gs.sub _ hwa
  k_steps
  exact hret _ _ _ _ (by k_asm) (by k_asm) ⟨gs.trans (by tb_start), kid, ⟨_, _, _, rfl, .head _, .tail _ hwa1⟩, mR _ _ _ (fun _ h => .tail _ h) hR⟩
theorem pibr_tell (w : World) (b ka pa : Addr) (ws : List Value) (hld kv val : Value) (i : Nat) (t tt : Tok) (rest : List Value) (hi : i < 16) (hw : ws.length = 16) (hr : rest.length ≤ 3) (hkv : ws[i]? = some kv) (D U : Nat) (Side : Led → Prop) (R : Led → Value → Prop)
   (mS : ∀ n n', (∀ p ∈ n, p ∈ n') → Side n → Side n') (mR : ∀ n n' v, (∀ p ∈ n, p ∈ n') → R n v → R n' v)
   (H : ∀ pa', Tell w 135 D U (fun news vs => vs = [kv, .ref pa', val] ∧ (pa', tupO rest) ∈ news ∧ Side news) (fun news _ news' r => Grow news news' ∧ R news' r)) :
   Tell w 135 (D + 6) (U + 48) (fun news vs => vs = [.ref b, .ref pa, val] ∧ (b, tupO [.str "branch" tt, .ref ka, hld]) ∈ news ∧ (ka, tupO ws) ∈ news ∧ (pa, tupO (.int (i : Nat) t :: rest)) ∈ news ∧ Side news)
    (fun news _ news' r => Grow news news' ∧ ∃ kid, BranchAt news' r (ws.set i kid) hld ∧ R news' kid) := by
  intro mean mg mb dp un gd cn cs a ccd cl outer A₀ base h₀ L m news s vs Q E B F X N T hk hpre hd' hu hret
  obtain ⟨rfl, hb, hka, hpa, hs⟩ := hpre
  refine wpAny_call ?_
  k_dflt ktr_enter
  k_steps
  refine call_tell (pib_tell w b ka pa ws _ hld kv val i t rest hi hw hr hkv D U Side R mS mR H) (by k_asm) (by k_asm) (by k_asm) (by k_asm) (by k_asm) rfl ⟨rfl, by k_mem, by k_mem, by k_mem, mS _ _ (by ktd_sub) hs⟩ (by ktr_room) (by ktr_units) ?_
  rintro _ news2 h7 tk7 F7 N7 ⟨g2, a2, k2, t2, kid2, rfl, ha2, hk2, hkid2⟩
  k_steps
  exact hret _ _ _ _ (by k_asm) (by k_asm) ⟨Grow.trans (by tb_start) g2, kid2, ⟨_, _, _, rfl, ha2, hk2⟩, hkid2⟩
end
section
theorem led_tell (w : World) (wa nb : Addr) (v : Value) (rest : List Value) (k2 hld : Value) (t : Tok) (hr : rest.length ≤ 3) :
   Tell w 142 3 24 (fun news vs => vs = [.ref wa, .ref nb] ∧ (wa, tupO (v :: rest)) ∈ news ∧ (nb, tupO [.str "branch" t, k2, hld]) ∈ news)
    (fun news _ news' r => Grow news news' ∧ ∃ e t, r = .ref e ∧ (e, tupO [.str "ext" t, .ref wa, .ref nb]) ∈ news') := by
  intro mean mg mb dp un gd cn cs a ccd cl outer A₀ base h₀ L m news s vs Q E B F X N T hk hpre hd' hu hret
  obtain ⟨rfl, hwa, hnb⟩ := hpre
  refine wpAny_call ?_
  k_dflt ktr_enter
  k_steps
  exact hret _ _ _ _ (by k_asm) (by k_asm) ⟨by tb_start, _, _, rfl, .head _⟩
section CellEnter
local macro_rules | `(tactic| ktr_enter) => do `(tactic| ($(← useL "code_defC a a a a a !r !r !A is is rm bt r dk _ r r r"); k_whole; intro g' L' h' tk' cells' FG' F' N' Y' B' X' T' l1; (try k_lt l1); k_cells Y'; (try simp only [List.cons_append, List.nil_append] at N'); (try dsimp only); (try k_fold)))
local macro_rules | `(tactic| wtm_at "MY dk") => `(tactic| (decide +kernel))
local macro_rules | `(tactic| walk_at "exec Assign cons ListComp") => `(tactic| (k_here; k_dflt (refine LCt.Assign_ListComp_T (F₀ := by k_asm) (by rfl) (by with_unfolding_all rfl) (by with_unfolding_all rfl) (by decide) (by rfl) (by decide) (by rfl) (by rfl) (by rfl) ?_)))
local macro_rules | `(tactic| walk_at "CompSrcT") => `(tactic| wtm_at "MY stop")
local macro_rules | `(tactic| walk_at "subscriptTail Name Name ref int") => `(tactic| wtm_at "MY stop")
theorem set_tell (w : World) (b ka : Addr) (ws : List Value) (tt u : Tok) (hw : ws.length = 16) (i j : Nat) (hij : i < j) (hj : j < 16) (x y : Addr) (hx : ws[i]? = some (.ref x)) (hy : ws[j]? = some (.ref y)) (hall : ∀ v ∈ ws, v = .none ∨ ∃ a, v = .ref a) :
   Tell w 147 3 24 (fun news vs => vs = [.ref b] ∧ (b, tupO [.str "branch" tt, .ref ka, .bytes #[] u]) ∈ news ∧ (ka, tupO ws) ∈ news)
    (fun news _ news' r => Grow news news' ∧ r = .ref b) := by
  intro mean mg mb dp un gd cn cs a ccd cl outer A₀ base h₀ L m news s vs Q E B F X N T hk hpre hd' hu hret
  obtain ⟨rfl, hb, hka⟩ := hpre
  refine wpAny_call ?_
  k_dflt ktr_enter
  have lc := lt_succ_ne (a := news) (by assumption)
  k_steps
  rotate_left 6
  obtain ⟨led, hled, NA⟩ := news_abs (by assumption : News _ _ _ _)
  refine stop_open (LCt.CompSrcT.range rfl (by k_asm) NA (by assumption) (by decide) (n := 16) (by rfl) (by rw [sizeLine_eq]; decide) ?_)
  intro g
  refine compRest_ind (fun n ys nw => nw = led ∧ (i < n → 1 ≤ ys.length) ∧ (j < n → 2 ≤ ys.length) ∧ ys.length ≤ n) ⟨rfl, fun h => absurd h (by omega), fun h => absurd h (by omega), Nat.zero_le _⟩ ?_ ?_
  · rintro ys nw ⟨rfl, _, h2, h3⟩
    have hlen := h2 hj
    subst hled
    clear NA
    intro D h tk F2 N2 off
    have hl1 : ¬ ((ys.length : Nat) : Int) = 1 := by omega
    have hem : ys.isEmpty = false := by cases ys with
      | nil => simp at hlen
      | cons _ _ => rfl
    k_steps
    all_goals first
      | exact absurd (by assumption) hl1
      | exact absurd ((by assumption : ys.isEmpty = true).symm.trans hem) (by decide)
      | exact hret _ news _ _ (by k_asm) (news_sub (by k_asm) (by ktd_sub)) ⟨Grow.refl, rfl⟩
  · rintro n ys nw hn ⟨rfl, h1, h2, h3⟩ v I oI C oC D m₂ h tk E' ⟨tv, rfl⟩ hC hx2 F2 N2 off ne
    clear NA
    subst hled
    obtain ⟨v, hv⟩ : ∃ v, ws[n]? = some v := ⟨ws[n]'(by omega), by simp⟩
    rcases hall v (List.mem_of_getElem? hv) with rfl | ⟨a9, rfl⟩
    · k_steps
      refine stop_open (item_tupL (j := n) (by k_asm) (by k_mem) (by omega) (by omega) hv ?_)
      k_steps
      have ni : n ≠ i := fun e => by subst e; rw [hx] at hv; cases hv
      have nj : n ≠ j := fun e => by subst e; rw [hy] at hv; cases hv
      exact ⟨_, _, _, rfl, F2, N2, off, trivial, rfl, fun h9 => h1 (by omega), fun h9 => h2 (by omega), by omega⟩
    · k_steps
      refine stop_open (item_tupL (j := n) (by k_asm) (by k_mem) (by omega) (by omega) hv ?_)
      k_steps
      refine ⟨_, _, _, rfl, F2, N2, off, trivial, rfl, fun h9 => by simp, fun h9 => ?_, by rw [List.length_append, List.length_singleton]; omega⟩
      rw [List.length_append, List.length_singleton]
      by_cases e : j < n
      · have := h2 e; omega
      · have := h1 (by omega); omega
  all_goals first | exact Str.empty | exact (0 : Nat) | exact Value.none
end CellEnter
end
section
theorem tn_tell (w : World) (pa : Addr) :
   Tell w 154 3 24 (fun _ vs => vs = [.none, .ref pa]) (fun news _ news' r => news' = news ∧ r = .none) := by
  intro mean mg mb dp un gd cn cs a ccd cl outer A₀ base h₀ L m news s vs Q E B F X N T hk hpre hd' hu hret
  obtain rfl := hpre
  refine wpAny_call ?_
  k_dflt ktr_enter
  k_steps
  exact hret _ _ _ _ (by k_asm) (by k_asm) ⟨rfl, rfl⟩
section ToEq
local macro_rules | `(tactic| walk_at "compareOp Eq ref ref") => `(tactic| wtm_at "MY stop")
theorem tl_tell (w : World) (b wa pa : Addr) (va vb : List Value) (xs ys : List Int) (t : Tok) (hld : Value) (ia : IntsAre va xs) (ib : IntsAre vb ys) (hne : xs ≠ ys) :
   Tell w 154 3 24 (fun news vs => vs = [.ref b, .ref pa] ∧ (b, tupO [.str "leaf" t, .ref wa, hld]) ∈ news ∧ (wa, tupO va) ∈ news ∧ (pa, tupO vb) ∈ news) (fun news _ news' r => news' = news ∧ r = .ref b) := by
  intro mean mg mb dp un gd cn cs a ccd cl outer A₀ base h₀ L m news s vs Q E B F X N T hk hpre hd' hu hret
  obtain ⟨rfl, hb, hwa, hpa⟩ := hpre
  refine wpAny_call ?_
  k_dflt ktr_enter
  k_steps
  refine stop_open (tup_eqI (by k_asm) (by k_mem) (by k_mem) ia ib (by ktr_units) ?_)
  rw [decide_eq_false hne]
  k_steps
  exact hret _ _ _ _ (by k_asm) (by k_asm) ⟨rfl, rfl⟩
end ToEq
theorem te0_tell (w : World) (b wa pa : Addr) (i i' : Nat) (t t' tt : Tok) (v : Value) (rest : List Value) (hld : Value) (hne : i' ≠ i) (hr : rest.length ≤ 2) :
   Tell w 154 3 100 (fun news vs => vs = [.ref b, .ref pa] ∧ (b, tupO [.str "ext" tt, .ref wa, hld]) ∈ news ∧ (wa, tupO [.int (i' : Nat) t']) ∈ news ∧ (pa, tupO (.int (i : Nat) t :: v :: rest)) ∈ news) (fun news _ news' r => news' = news ∧ r = .ref b) := by
  intro mean mg mb dp un gd cn cs a ccd cl outer A₀ base h₀ L m news s vs Q E B F X N T hk hpre hd' hu hret
  obtain ⟨rfl, hb, hwa, hpa⟩ := hpre
  refine wpAny_call ?_
  k_dflt ktr_enter
  k_steps
  · exact absurd (by assumption : (i : Int) = (i' : Int)) (fun e => hne (Int.ofNat_inj.mp e).symm)
  · exact hret _ news _ _ (by k_asm) (news_sub (by k_asm) (by ktd_sub)) ⟨rfl, rfl⟩
theorem te1_tell (w : World) (b wa pa : Addr) (i : Nat) (t t' tt : Tok) (v : Value) (rest : List Value) (hld : Value) (hr : rest.length ≤ 2) (D U : Nat) (Side : Led → Prop) (R : Led → Value → Prop)
   (mS : ∀ n n', (∀ p ∈ n, p ∈ n') → Side n → Side n') (mR : ∀ n n' v, (∀ p ∈ n, p ∈ n') → R n v → R n' v)
   (hB : ∀ n v, R n v → ∃ nb k2 h2 t2, v = .ref nb ∧ (nb, tupO [.str "branch" t2, k2, h2]) ∈ n)
   (H : ∀ pa', Tell w 154 D U (fun news vs => vs = [hld, .ref pa'] ∧ (pa', tupO (v :: rest)) ∈ news ∧ Side news) (fun news _ news' r => Grow news news' ∧ R news' r)) :
   Tell w 154 (D + 4) (U + 100) (fun news vs => vs = [.ref b, .ref pa] ∧ (b, tupO [.str "ext" tt, .ref wa, hld]) ∈ news ∧ (wa, tupO [.int (i : Nat) t']) ∈ news ∧ (pa, tupO (.int (i : Nat) t :: v :: rest)) ∈ news ∧ Side news)
    (fun news _ news' r => Grow news news' ∧ ∃ kid, ExtAt [.int (i : Nat) t'] kid news' r ∧ R news' kid) := by
  intro mean mg mb dp un gd cn cs a ccd cl outer A₀ base h₀ L m news s vs Q E B F X N T hk hpre hd' hu hret
  obtain ⟨rfl, hb, hwa, hpa, hs⟩ := hpre
  refine wpAny_call ?_
  k_dflt ktr_enter
  k_steps
  refine call_tell (H _) (by k_asm) (by k_asm) (by k_asm) (by k_asm) (by k_asm) rfl ⟨rfl, .head _, mS _ _ (by ktd_sub) hs⟩ (by ktr_room) (by ktr_units) ?_
  rintro kid news1 h8 tk8 F8 N8 ⟨g1, hR⟩
  have gs : Grow news news1 := Grow.trans (by tb_start) g1
  have hwa1 := gs.sub _ hwa
  obtain ⟨nb, k2, h2, t2, rfl, hnb⟩ := hB _ _ hR
  k_steps
  refine call_tell (led_tell w wa nb _ [] k2 h2 t2 (by simp)) (by k_asm) (by k_asm) (by k_asm) (by k_asm) (by k_asm) rfl ⟨rfl, hwa1, hnb⟩ (by ktr_room) (by ktr_units) ?_
  rintro _ news2 h7 tk7 F7 N7 ⟨g2, e2, t3, rfl, he2⟩
  k_steps
  exact hret _ _ _ _ (by k_asm) (by k_asm) ⟨gs.trans g2, .ref nb, ⟨_, _, _, rfl, he2, g2.sub _ hwa1⟩, mR _ _ _ g2.sub hR⟩
def TwoKids (ws : List Value) : Prop := (∃ i j x y, i < j ∧ j < 16 ∧ ws[i]? = some (.ref x) ∧ ws[j]? = some (.ref y)) ∧ ∀ v ∈ ws, v = .none ∨ ∃ a, v = .ref a
theorem tb_tell (w : World) (b ka pa : Addr) (ws : List Value) (kv : Value) (i : Nat) (t tt u : Tok) (rest : List Value) (hi : i < 16) (hw : ws.length = 16) (hr : rest.length ≤ 3) (hkv : ws[i]? = some kv) (D U : Nat) (Side : Led → Prop) (R : Led → Value → Prop)
   (mS : ∀ n n', (∀ p ∈ n, p ∈ n') → Side n → Side n') (mR : ∀ n n' v, (∀ p ∈ n, p ∈ n') → R n v → R n' v)
   (hT : ∀ n kid, R n kid → TwoKids (ws.set i kid))
   (H : ∀ pa', Tell w 154 D U (fun news vs => vs = [kv, .ref pa'] ∧ (pa', tupO rest) ∈ news ∧ Side news) (fun news _ news' r => Grow news news' ∧ R news' r)) :
   Tell w 154 (D + 5) (U + 48) (fun news vs => vs = [.ref b, .ref pa] ∧ (b, tupO [.str "branch" tt, .ref ka, .bytes #[] u]) ∈ news ∧ (ka, tupO ws) ∈ news ∧ (pa, tupO (.int (i : Nat) t :: rest)) ∈ news ∧ Side news)
    (fun news _ news' r => Grow news news' ∧ ∃ kid u, BranchAt news' r (ws.set i kid) (.bytes #[] u) ∧ R news' kid) := by
  intro mean mg mb dp un gd cn cs a ccd cl outer A₀ base h₀ L m news s vs Q E B F X N T hk hpre hd' hu hret
  obtain ⟨rfl, hb, hka, hpa, hs⟩ := hpre
  refine wpAny_call ?_
  k_dflt ktr_enter
  k_steps
  refine call_tell (H _) (by k_asm) (by k_asm) (by k_asm) (by k_asm) (by k_asm) rfl ⟨rfl, .head _, mS _ _ (by ktd_sub) hs⟩ (by ktr_room) (by ktr_units) ?_
  rintro kid news1 h8 tk8 F8 N8 ⟨g1, hR⟩
  have gs : Grow news news1 := Grow.trans (by tb_start) g1
  have hb1 := gs.sub _ hb
  have hka1 := gs.sub _ hka
  k_steps
  refine call_tell (wk_tell w b ka ws _ _ kid i t hi hw) (by k_asm) (by k_asm) (by k_asm) (by k_asm) (by k_asm) rfl ⟨rfl, hb1, hka1⟩ (by ktr_room) (by ktr_units) ?_
  rintro _ news2 h7 tk7 F7 N7 ⟨g2, a2, k2, t2, rfl, ha2, hk2⟩
  obtain ⟨⟨i1, j1, x1, y1, hij, hj, hx1, hy1⟩, hall⟩ := hT _ _ hR
  k_steps
  refine call_tell (set_tell w a2 k2 (ws.set i kid) t2 u (by simp [hw]) i1 j1 hij hj x1 y1 hx1 hy1 hall) (by k_asm) (by k_asm) (by k_asm) (by k_asm) (by k_asm) rfl ⟨rfl, ha2, hk2⟩ (by ktr_room) (by ktr_units) ?_
  rintro _ news3 h6 tk6 F6 N6 ⟨g3, rfl⟩
  k_steps
  exact hret _ _ _ _ (by k_asm) (by k_asm) ⟨(gs.trans g2).trans g3, kid, _, ⟨_, _, _, rfl, g3.sub _ ha2, g3.sub _ hk2⟩, mR _ _ _ (fun p h => g3.sub _ (g2.sub _ h)) hR⟩
/-- put_or_taken: a value of no octet is taken out -/
theorem pot0_tell (w : World) (nv : Value) (pa : Addr) (u : Tok) (D U : Nat) (Side : Led → Prop) (R : Led → Value → Prop) (mS : ∀ n n', (∀ p ∈ n, p ∈ n') → Side n → Side n')
   (H : Tell w 154 D U (fun news vs => vs = [nv, .ref pa] ∧ Side news) (fun news _ news' r => Grow news news' ∧ R news' r)) :
   Tell w 161 (D + 1) (U + 24) (fun news vs => vs = [nv, .ref pa, .bytes #[] u] ∧ Side news) (fun news _ news' r => Grow news news' ∧ R news' r) := by
  intro mean mg mb dp un gd cn cs a ccd cl outer A₀ base h₀ L m news s vs Q E B F X N T hk hpre hd' hu hret
  obtain ⟨rfl, hs⟩ := hpre
  refine wpAny_call ?_
  k_dflt ktr_enter
  k_steps
  refine call_tell H (by k_asm) (by k_asm) (by k_asm) (by k_asm) (by k_asm) rfl ⟨rfl, mS _ _ (by ktd_sub) hs⟩ (by ktr_room) (by ktr_units) ?_
  rintro kid news1 h8 tk8 F8 N8 ⟨g1, hR⟩
  k_steps
  exact hret _ _ _ _ (by k_asm) (by k_asm) ⟨Grow.trans (by tb_start) g1, hR⟩
theorem pot1_tell (w : World) (nv : Value) (pa : Addr) (val : Array UInt8) (u : Tok) (hv : val.toList ≠ []) (D U : Nat) (Side : Led → Prop) (R : Led → Value → Prop) (mS : ∀ n n', (∀ p ∈ n, p ∈ n') → Side n → Side n')
   (H : Tell w 135 D U (fun news vs => vs = [nv, .ref pa, .bytes val u] ∧ Side news) (fun news _ news' r => Grow news news' ∧ R news' r)) :
   Tell w 161 (D + 1) (U + 24) (fun news vs => vs = [nv, .ref pa, .bytes val u] ∧ Side news) (fun news _ news' r => Grow news news' ∧ R news' r) := by
  intro mean mg mb dp un gd cn cs a ccd cl outer A₀ base h₀ L m news s vs Q E B F X N T hk hpre hd' hu hret
  obtain ⟨rfl, hs⟩ := hpre
  refine wpAny_call ?_
  k_dflt ktr_enter
  k_steps
  · exact absurd (eq_of_beq (by assumption : (val.toList == #[].toList) = true)) hv
  · refine call_tell H (by k_asm) (by k_asm) (by k_asm) (by k_asm) (by k_asm) rfl ⟨rfl, mS _ _ (by ktd_sub) hs⟩ (by ktr_room) (by ktr_units) ?_
    rintro kid news1 h8 tk8 F8 N8 ⟨g1, hR⟩
    k_steps
    exact hret _ _ _ _ (by k_asm) (by k_asm) ⟨Grow.trans (by tb_start) g1, hR⟩
end
section
section NuLines
local macro_rules | `(tactic| walk_at "call type:bytes") => `(tactic| (wtm_at "MY gB"; refine bytes_of_bytes ?_))
local macro_rules | `(tactic| walk_at "setItem ref int") => `(tactic| wtm_at "MY stop")
def KD (w : World) (ds : List (List UInt8)) (o : Obj) : Prop := ∃ kvs, o.IsDictOf (intKind PP w) kvs ∧ PyProof.V.FlatPairs PyData.int kvs (tabOf ds)
def DigAt (w : World) (dg kd : Addr) (news : Led) : Prop := ∃ dd t n, (dg, instObj 276 dd) ∈ news ∧ (dd, dictOf [⟨PyData.keyHash w.params "known", .str "known" t, .ref kd⟩] n) ∈ news
def DSt (w : World) (kd : Addr) (ds : List (List UInt8)) (rest news : Led) : Prop := ∃ o, news = (kd, o) :: rest ∧ KD w ds o ∧ (kd == sysModules) = false ∧ ∀ p ∈ rest, p.1 ≠ kd
theorem DigAt.mk {w : World} {dg kd dd : Addr} {t : Tok} {n : Nat} {news : Led} (h1 : (dg, instObj 276 dd) ∈ news) (h2 : (dd, dictOf [⟨PyData.keyHash w.params "known", .str "known" t, .ref kd⟩] n) ∈ news) : DigAt w dg kd news := ⟨dd, t, n, h1, h2⟩
theorem DSt.mk {w : World} {kd : Addr} {ds : List (List UInt8)} {o : Obj} {rest : Led} (h : KD w ds o) (hlo : (kd == sysModules) = false) (hne : ∀ p ∈ rest, p.1 ≠ kd) : DSt w kd ds rest ((kd, o) :: rest) := ⟨o, rfl, h, hlo, hne⟩
theorem nu_tell (w : World) (dg kd : Addr) (ds : List (List UInt8)) (rest : Led) (b : Array UInt8) (t : Tok) (hb : b.size ≤ 5000) (hds : ds.length ≤ 100000) :
   Tell w 266 3 40 (fun news vs => vs = [.ref dg, .bytes b t] ∧ DSt w kd ds rest news ∧ DigAt w dg kd rest)
    (fun news _ news' r => DSt w kd (addD ds b.toList) rest news' ∧ ∃ t', r = .int ((numOf (addD ds b.toList) b.toList : Nat) : Int) t') := by
  intro mean mg mb dp un gd cn cs a ccd cl outer A₀ base h₀ L m news s vs Q E B F X N T hk hpre hd' hu hret
  obtain ⟨rfl, ⟨o, rfl, ⟨kvs, hdo, hfl⟩, hlo, hne⟩, dd, t1, n1, hdg, hdd⟩ := hpre
  refine wpAny_call ?_
  k_dflt ktr_enter
  k_steps
  refine stop_open (KFB.call_of (KFB.at_of (by k_asm) (by k_mem)) (fun z => fb_tree (by simp only [Array.size_append, List.size_toArray, List.length_cons, List.length_nil]; omega) z) ?_)
  rw [show KFB.value (KBw.bInts (#[1] ++ b)) = keyOf b.toList by simp [KBw.bInts, keyOf]]
  k_steps
  · have hm : b.toList ∈ ds := by
      have h1 := tab_look 1 ds b.toList
      by_cases hm : b.toList ∈ ds
      · exact hm
      · rw [if_neg hm] at h1
        have h2 : (Spec.lookup (.int (keyOf b.toList)) (tabOf ds)).isSome = true := by with_reducible assumption
        rw [h1] at h2; cases h2
    have hl := tab_look 1 ds b.toList
    rw [if_pos hm] at hl
    have ea : addD ds b.toList = ds := if_pos hm
    rw [ea] at hret
    refine getItem_tab (knd := intKind PP w) (enc := PyData.int) PyProof.V.same_int (intKind_is _ _ _ _) (TabAt.ofNews (by k_asm) (by k_mem) hlo hdo hfl) hl ?_
    intro v hv
    obtain ⟨t', rfl⟩ := PyProof.V.Flat.int_inv hv
    k_steps
    exact hret _ _ _ _ (by k_asm) (news_sub (by k_asm) (by ktd_sub)) ⟨⟨o, rfl, ⟨kvs, hdo, hfl⟩, hlo, hne⟩, _, rfl⟩
  · have hm : b.toList ∉ ds := by
      have h1 := tab_look 1 ds b.toList
      intro hm
      rw [if_pos hm] at h1
      have h2 : (Spec.lookup (.int (keyOf b.toList)) (tabOf ds)).isSome = false := by with_reducible assumption
      rw [h1] at h2; cases h2
    refine len_tab (knd := intKind PP w) (enc := PyData.int) (TabAt.ofNews (by k_asm) (by k_mem) hlo hdo hfl) (by rw [tabFrom_length]; omega) ?_
    rw [tabFrom_length]
    k_steps
    refine stop_open (setItem_K (knd := intKind PP w) (enc := PyData.int) PyProof.V.same_int (intKind_is _ _ _ _) (PyProof.V.Flat.int _ _) (by k_asm) (news_sub (by k_asm) (by ktd_sub) : News _ _ _ ((kd, o) :: rest)) (.head hne) hdo hfl ?_ (by rw [tabFrom_length, sizeLine_eq]; omega))
    intro h5 o5 F5 N5 hdo5 hfl5
    rw [tab_put hm] at hfl5
    have hl := tab_look 1 (addD ds b.toList) b.toList
    rw [if_pos (mem_addD ds b.toList)] at hl
    k_steps
    exact hret _ _ _ _ (by k_asm) (news_sub (by k_asm) (by ktd_sub)) ⟨⟨o5, rfl, ⟨_, hdo5, hfl5⟩, hlo, hne⟩, _, rfl⟩
end NuLines
end
section
section OfLines
local macro_rules | `(tactic| walk_at "call builtin:int.to_bytes") => `(tactic| wtm_at "MY stop")
theorem of_out {w : World} {kd : Addr} {ds : List (List UInt8)} {rest : Led} {b : Array UInt8} (P : Value → Led → Prop) (k : ∀ (o : Obj) (b' : Array UInt8) (t' : Tok), KD w (addD ds b.toList) o → b'.toList = dig (numOf (addD ds b.toList) b.toList) → P (.bytes b' t') ((kd, o) :: rest)) :
   ∀ r news', (DSt w kd (addD ds b.toList) rest news' ∧ ∃ b' t', r = .bytes b' t' ∧ b'.toList = dig (numOf (addD ds b.toList) b.toList)) → P r news' := by
  rintro r n ⟨⟨o, rfl, h1, -, -⟩, b', t', rfl, h2⟩
  exact k o b' t' h1 h2
theorem of_tell (w : World) (dg kd : Addr) (ds : List (List UInt8)) (rest : Led) (b : Array UInt8) (t : Tok) (hb : b.size ≤ 5000) (hds : ds.length ≤ 100000) :
   Tell w 273 4 80 (fun news vs => vs = [.ref dg, .bytes b t] ∧ DSt w kd ds rest news ∧ DigAt w dg kd rest)
    (fun news _ news' r => DSt w kd (addD ds b.toList) rest news' ∧ ∃ b' t', r = .bytes b' t' ∧ b'.toList = dig (numOf (addD ds b.toList) b.toList)) := by
  intro mean mg mb dp un gd cn cs a ccd cl outer A₀ base h₀ L m news s vs Q E B F X N T hk hpre hd' hu hret
  obtain ⟨rfl, ⟨o, rfl, hKD, hlo, hne⟩, dd, t1, n1, hdg, hdd⟩ := hpre
  refine wpAny_call ?_
  k_dflt ktr_enter
  k_steps
  refine call_tell (nu_tell w dg kd ds rest b t hb hds) (by k_asm) (by k_asm) (by k_asm) (by k_asm) (by k_asm) rfl ⟨rfl, ⟨o, rfl, hKD, hlo, hne⟩, dd, t1, n1, hdg, hdd⟩ (by ktr_room) (by ktr_units) ?_
  rintro r n' h9 tk9 F9 N9 ⟨⟨o', rfl, hKD', -, -⟩, t', rfl⟩
  have hnum : numOf (addD ds b.toList) b.toList ≤ 100001 := Nat.le_trans (numOf_le (mem_addD ds b.toList)) (by have := addD_length ds b.toList; omega)
  generalize hn : numOf (addD ds b.toList) b.toList = n at *
  k_steps
  refine stop_open (KTBy.to_little (k := 4) (B := 4294967296) (by decide) (by decide) (by omega) (by omega) ?_)
  intro b1 tb1 kb1 e1 _
  have z1 : b1.size = 4 := (bInts_size e1).trans (by simp [KTBy.little_length])
  k_steps
  have e64 : ((1 : Int) * 2 ^ Int.toNat 64) = 18446744073709551616 := by decide
  rw [e64, Int.fmod_eq_emod_of_nonneg _ (by decide)]
  refine stop_open (KTBy.to_big (k := 8) (B := 18446744073709551616) (by decide) (by decide) (by omega) (by omega) ?_)
  intro b2 tb2 kb2 e2 _
  have z2 : b2.size = 8 := (bInts_size e2).trans (by simp [KTBy.little_length])
  k_steps
  refine stop_open (to_big20 (by omega) (by omega) ?_)
  intro b3 tb3 kb3 e3
  have z3 : b3.size = 20 := (bInts_size e3).trans (by simp [KTBy.little_length])
  k_steps
  refine hret _ _ _ _ (by k_asm) (news_sub (by k_asm) (by ktd_sub)) ⟨⟨o', rfl, hKD', hlo, hne⟩, _, _, rfl, ?_⟩
  refine dig_of ?_
  show KBw.bInts (b1 ++ b2 ++ b3) = _
  unfold DigI
  rw [← e1, ← e2, ← e3]
  simp [KBw.bInts]
end OfLines
end
section
/-- what a def tells of a node: P says what the node is (over a base of the ledger), F ds e that e is the value's encoding once the digest knows ds -/
def Tells (w : World) (f : Addr) (D U : Nat) (dg kd : Addr) (c kk : Nat) (P : Led → Value → Prop) (F : List (List UInt8) → List UInt8 → Prop) : Prop :=
  ∀ (v : Value) (ds : List (List UInt8)) (base rest : Led), ds.length + c ≤ 100000 → (∀ p ∈ base, p ∈ rest) →
  Tell w f D U (fun news vs => vs = [v, .ref dg] ∧ DSt w kd ds rest news ∧ DigAt w dg kd rest ∧ P base v)
   (fun _ _ news' r => ∃ ds' tl e, ds <+: ds' ∧ ds'.length ≤ ds.length + c ∧ DSt w kd ds' (tl ++ rest) news' ∧ Abv rest tl ∧ EncTo kk (tl ++ base) r e ∧ F ds' e)
def Told (F : List (List UInt8) → List UInt8 → Prop) (ds : List (List UInt8)) (i : List UInt8) : Prop :=
  ∃ e, F ds e ∧ (e.length < 32 ∧ i = e ∨ 32 ≤ e.length ∧ e ∈ ds ∧ i = encB (dig (numOf ds e)))
theorem DigAt.up {w : World} {dg kd : Addr} {a b : Led} (h : DigAt w dg kd a) (hs : ∀ p ∈ a, p ∈ b) : DigAt w dg kd b :=
  let ⟨dd, t, n, h1, h2⟩ := h; ⟨dd, t, n, hs _ h1, hs _ h2⟩
theorem addD_pre' (ds : List (List UInt8)) (o : List UInt8) : ds <+: addD ds o := let ⟨r, e⟩ := addD_pre ds o; ⟨r, e.symm⟩
section NiLines
theorem ni_tell (w : World) (D U : Nat) (dg kd : Addr) (c kk : Nat) (P : Led → Value → Prop) (F : List (List UInt8) → List UInt8 → Prop) (hD : kk + 5 ≤ D) (hU : 8 * kk + 80 ≤ U) (hkk : kk ≤ 20)
   (hF : ∀ ds e, F ds e → e.length ≤ 4000) (mF : ∀ ds ds' e, ds <+: ds' → F ds e → F ds' e) (C : Tells w 182 D U dg kd c kk P F) : Tells w 189 (D + 3) (U + 24) dg kd (c + 1) kk P (Told F) := by
  intro v ds base rest hsz hbr mean mg mb dp un gd cn cs a ccd cl outer A₀ base' h₀ L m news s vs Q E B F0 X N T hk hpre hd' hu hret
  obtain ⟨rfl, ⟨o, rfl, hKD, hlo, hne⟩, hdg, hP⟩ := hpre
  refine wpAny_call ?_
  k_dflt ktr_enter
  k_steps
  refine call_tell (C v ds base rest (by omega) hbr) (by k_asm) (by k_asm) (by k_asm) (by k_asm) (by k_asm) rfl ⟨rfl, ⟨o, rfl, hKD, hlo, hne⟩, hdg, hP⟩ (by ktr_room) (by ktr_units) ?_
  rintro r n' h9 tk9 F9 N9 ⟨ds', tl, e, hpre, hlen, ⟨o', rfl, hKD', -, hne'⟩, habv, henc, hFe⟩
  obtain ⟨dd, t1, n1, hdg, hdd⟩ := hdg
  have hdg : (dg, instObj 276 dd) ∈ tl ++ rest := List.mem_append.mpr (.inr hdg)
  have hdd : (dd, dictOf [⟨PyData.keyHash w.params "known", .str "known" t1, .ref kd⟩] n1) ∈ tl ++ rest := List.mem_append.mpr (.inr hdd)
  obtain ⟨R, hR⟩ : ∃ R, R = tl ++ rest := ⟨_, rfl⟩
  have hencR : EncTo kk R r e := henc.mono (fun p hp => hR ▸ (List.mem_append.mp hp).elim (fun h => List.mem_append.mpr (.inl h)) fun h => List.mem_append.mpr (.inr (hbr _ h)))
  have hDS : ∀ news', DSt w kd (addD ds' e) R news' → DSt w kd (addD ds' e) (tl ++ rest) news' := fun _ h => hR ▸ h
  have hD1 : DSt w kd ds' (tl ++ rest) ((kd, o') :: R) := ⟨o', by rw [hR], hKD', hlo, hne'⟩
  rw [← hR] at hdg hdd hne' N9
  k_steps
  have he4 := hF _ _ hFe
  refine call_tell (e0_tell w kk e (by omega) (by omega)) (by k_asm) (by k_asm) (by k_asm) (by k_asm) (by k_asm) rfl ⟨_, rfl, hencR.mono (fun p hp => List.mem_cons_of_mem _ hp)⟩ (by ktr_room) (by ktr_units) ?_
  rintro r2 n2 h8 tk8 F8 N8 ⟨e8, b, t, rfl, hb⟩
  rw [e8] at N8
  have hbz : b.size ≤ 4000 := by rw [← Array.length_toList, hb]; exact he4
  k_steps
  · exact hret _ _ _ _ (by k_asm) (by k_asm) ⟨ds', tl, e, hpre, by omega, hD1, habv, henc, e, hFe, .inl ⟨by rw [← hb, Array.length_toList]; omega, rfl⟩⟩
  · refine call_tell (of_tell w dg kd ds' R b t (by omega) (by omega)) (by k_asm) (by k_asm) (by k_asm) (by k_asm) (by k_asm) rfl ⟨rfl, ⟨o', rfl, hKD', hlo, hne'⟩, dd, t1, n1, hdg, hdd⟩ (by ktr_room) (by ktr_units) ?_
    rintro r3 n3 h7 tk7 F7 N7 ⟨hD3, b', t', rfl, hb'⟩
    rw [hb] at hD3 hb'
    have hb32 : b'.size = 32 := by rw [← Array.length_toList, hb', dig_len]
    k_steps
    have hal := addD_length ds' e
    exact hret _ _ _ _ (by k_asm) (by k_asm) ⟨addD ds' e, tl, encB (dig (numOf (addD ds' e) e)), hpre.trans (addD_pre' _ _), by omega, hDS _ hD3, habv, hb' ▸ EncTo.bytes (by omega) kk, e, mF _ _ _ (addD_pre' _ _) hFe, .inr ⟨by rw [← hb, Array.length_toList]; omega, mem_addD _ _, rfl⟩⟩
end NiLines
end
section
section FoLines
theorem encTo_two {k : Nat} {news : Led} {a : Addr} {x y : Value} {n : Nat} {e1 e2 : List UInt8} (hm : (a, listOf #[x, y] n) ∈ news) (h1 : EncTo k news x e1) (h2 : EncTo k news y e2) : EncTo (k + 1) news (.ref a) (encL (e1 ++ e2)) :=
  .inr ⟨a, [x, y], n, [e1, e2], rfl, hm, rfl, fun i v e hv he => by
    match i, hv, he with
    | 0, hv, he => cases hv; cases he; exact h1
    | 1, hv, he => cases hv; cases he; exact h2
    | _ + 2, hv, _ => simp at hv, by simp, by simp⟩
theorem two_post {w : World} {kd : Addr} {o : Obj} {ds : List (List UInt8)} {rest base tl : Led} {la : Addr} {n k : Nat} {x y : Value} {e1 e2 : List UInt8} (hlt : AllLt la ((kd, o) :: (tl ++ rest))) (hKD : KD w ds o) (hlo : (kd == sysModules) = false)
   (hne : ∀ p ∈ tl ++ rest, p.1 ≠ kd) (habv : Abv rest tl) (h1 : EncTo k (tl ++ base) x e1) (h2 : EncTo k (tl ++ base) y e2) :
   DSt w kd ds ((la, listOf #[x, y] n) :: tl ++ rest) ((kd, o) :: ((la, listOf #[x, y] n) :: tl ++ rest)) ∧ Abv rest ((la, listOf #[x, y] n) :: tl) ∧ EncTo (k + 1) ((la, listOf #[x, y] n) :: tl ++ base) (.ref la) (encL (e1 ++ e2)) := by
  refine ⟨⟨o, rfl, hKD, hlo, fun p hp => ?_⟩, fun q hq z hz => ?_, encTo_two (.head _) (h1.mono fun _ h => .tail _ h) (h2.mono fun _ h => .tail _ h)⟩
  · rcases List.mem_cons.mp hp with rfl | hp
    · exact Nat.ne_of_gt (tb_ltOf hlt (kd, o) (.head _))
    · exact hne p hp
  · rcases List.mem_cons.mp hz with rfl | hz
    · exact tb_ltOf hlt q (.tail _ (List.mem_append.mpr (.inr hq)))
    · exact habv q hq z hz
theorem mem_swap2 {α : Type} {a b : α} {l : List α} : ∀ p ∈ b :: a :: l, p ∈ a :: b :: l := fun p hp => by
  simp only [List.mem_cons] at hp ⊢
  rcases hp with h | h | h
  · exact .inr (.inl h)
  · exact .inl h
  · exact .inr (.inr h)
theorem fl_tell (w : World) (dg kd : Addr) (way : List Value) (p : List UInt8) (b : Array UInt8) (u : Tok) (hb : b.size ≤ 600) (hp : p.length ≤ 600)
   (pkc : ∀ a, Tell w 107 3 24 (fun news vs => vs = [.ref a, .bool true] ∧ (a, tupO way) ∈ news) (fun news _ news' r => news' = news ∧ ∃ b t, r = .bytes b t ∧ b.toList = p)) :
   Tells w 182 8 72 dg kd 0 1 (LeafAt way (.bytes b u)) (fun _ e => e = encL (encB p ++ encB b.toList)) := by
  intro v ds base rest hsz hbr mean mg mb dp un gd cn cs a ccd cl outer A₀ base' h₀ L m news s vs Q E B F X N T hk hpre hd' hu hret
  obtain ⟨rfl, ⟨o, rfl, hKD, hlo, hne⟩, hdg, nd, wy, tt, rfl, hm1, hm2⟩ := hpre
  have hm1 := hbr _ hm1
  have hm2 := hbr _ hm2
  refine wpAny_call ?_
  k_dflt ktr_enter
  k_steps
  refine call_tell (pkc wy) (by k_asm) (by k_asm) (by k_asm) (by k_asm) (by k_asm) rfl ⟨rfl, .tail _ hm2⟩ (by ktr_room) (by ktr_units) ?_
  rintro r n' h9 tk9 F9 N9 ⟨e9, b', t, rfl, hb'⟩
  rw [e9] at N9
  k_steps
  (rename _ < _ ∧ AllLt _ _ => hlt)
  have hz : b'.size ≤ 600 := by rw [← Array.length_toList, hb']; exact hp
  obtain ⟨p1, p2, p3⟩ := two_post (n := 0) (base := base) (tl := []) (k := 0) hlt hKD hlo hne (fun _ _ _ h => nomatch h) (EncTo.bytes (b := b') (t := t) hz 0) (EncTo.bytes (b := b) (t := u) hb 0)
  exact hret _ _ _ _ (by k_asm) (news_sub (by k_asm) mem_swap2) ⟨ds, _, _, ⟨[], by simp⟩, by omega, p1, p2, p3, by rw [hb']⟩
theorem fe_tell (w : World) (D U : Nat) (dg kd : Addr) (c kk : Nat) (P : Led → Value → Prop) (FF : List (List UInt8) → List UInt8 → Prop) (way : List Value) (p : List UInt8) (hp : p.length ≤ 600) (hD : 3 ≤ D) (hU : 24 ≤ U)
   (pkc : ∀ a, Tell w 107 3 24 (fun news vs => vs = [.ref a, .bool false] ∧ (a, tupO way) ∈ news) (fun news _ news' r => news' = news ∧ ∃ b t, r = .bytes b t ∧ b.toList = p))
   (C : Tells w 189 D U dg kd c kk P FF) :
   Tells w 182 (D + 3) (U + 48) dg kd c (kk + 1) (fun base v => ∃ child, ExtAt way child base v ∧ P base child) (fun ds e => ∃ i, FF ds i ∧ e = encL (encB p ++ i)) := by
  intro v ds base rest hsz hbr mean mg mb dp un gd cn cs a ccd cl outer A₀ base' h₀ L m news s vs Q E B F X N T hk hpre hd' hu hret
  obtain ⟨rfl, ⟨o, rfl, hKD, hlo, hne⟩, hdg, child, ⟨nd, wy, tt, rfl, hm1, hm2⟩, hP⟩ := hpre
  have hm1 := hbr _ hm1
  have hm2 := hbr _ hm2
  refine wpAny_call ?_
  k_dflt ktr_enter
  k_steps
  refine call_tell (pkc wy) (by k_asm) (by k_asm) (by k_asm) (by k_asm) (by k_asm) rfl ⟨rfl, .tail _ hm2⟩ (by ktr_room) (by ktr_units) ?_
  rintro r n' h9 tk9 F9 N9 ⟨e9, b', t, rfl, hb'⟩
  rw [e9] at N9
  k_steps
  refine call_tell (C child ds base rest (by omega) hbr) (by k_asm) (by k_asm) (by k_asm) (by k_asm) (by k_asm) rfl ⟨rfl, ⟨o, rfl, hKD, hlo, hne⟩, hdg, hP⟩ (by ktr_room) (by ktr_units) ?_
  rintro r n' h8 tk8 F8 N8 ⟨ds', tl, e, hpre, hlen, ⟨o', rfl, hKD', -, hne'⟩, habv, henc, hFe⟩
  k_steps
  (rename _ < _ ∧ AllLt _ _ => hlt)
  have hz : b'.size ≤ 600 := by rw [← Array.length_toList, hb']; exact hp
  obtain ⟨p1, p2, p3⟩ := two_post (n := 0) hlt hKD' hlo hne' habv (EncTo.bytes (b := b') (t := t) hz kk) henc
  exact hret _ _ _ _ (by k_asm) (news_sub (by k_asm) mem_swap2) ⟨ds', _, _, hpre, by omega, p1, p2, p3, e, hFe, by rw [hb']⟩
end FoLines
end
section
theorem app_headL {prog : Program} {w : World} {A : Around} {E : Value → Shared → Prop} {s : Shared} {h₀ : Heap} {L D : Addr} {m : Str → Option Value} {post : Led} {vs : List Value} {n : Nat} {x : Value} {Q : Value → Shared → Prop} (F : Fr h₀ L s.heap m) (N : News h₀ L s.heap ((D, listOf vs.toArray n) :: post)) (hne : ∀ p ∈ post, p.1 ≠ D) (hz : vs.length ≤ 1000000)
    (h : ∀ h', Fr h₀ L h' m → News h₀ L h' ((D, listOf (vs ++ [x]).toArray (n + 1)) :: post) → Q .none { s with heap := h' }) : Stop (wpAny (model prog w) A (call (.builtin "list.append") [.ref D, x]) Q E s) := by
  have e : vs.toArray.push x = (vs ++ [x]).toArray := by simp
  refine append_K F N (.head hne) ?_ (by rw [List.size_toArray, sizeLine_eq]; omega)
  rw [e]
  exact h
theorem encTo_list {k : Nat} {news : Led} {a : Addr} {vs : List Value} {n : Nat} {es : List (List UInt8)} (hm : (a, listOf vs.toArray n) ∈ news) (hl : vs.length = es.length) (hz : vs.length ≤ 20) (h : ∀ (i : Nat) v e, vs[i]? = some v → es[i]? = some e → EncTo k news v e) : EncTo (k + 1) news (.ref a) (encL es.flatten) :=
  .inr ⟨a, vs, n, es, rfl, hm, hl, h, hz, rfl⟩
theorem get_snoc {α : Type} {l : List α} {x y : α} {i : Nat} (h : (l ++ [x])[i]? = some y) : l[i]? = some y ∨ i = l.length ∧ y = x := by
  rw [List.getElem?_append] at h
  split at h
  · exact .inl h
  · rename_i hi
    have h2 := List.getElem?_eq_some_iff.mp h
    obtain ⟨h3, h4⟩ := h2
    simp only [List.length_cons, List.length_nil] at h3
    have e : i = l.length := by omega
    subst e
    right
    simp at h4
    exact ⟨rfl, h4.symm⟩
theorem enc_snoc {k : Nat} {news news' : Led} {vs : List Value} {es : List (List UInt8)} {v : Value} {e : List UInt8} (hs : ∀ p ∈ news, p ∈ news') (hl : vs.length = es.length) (h : ∀ (i : Nat) v e, vs[i]? = some v → es[i]? = some e → EncTo k news v e) (hv : EncTo k news' v e) :
   ∀ (i : Nat) v' e', (vs ++ [v])[i]? = some v' → (es ++ [e])[i]? = some e' → EncTo k news' v' e' := by
  intro i v' e' h1 h2
  rcases get_snoc h1 with h3 | ⟨h3, h4⟩
  · have hi := (List.getElem?_eq_some_iff.mp h3).1
    rw [List.getElem?_append_left (by omega)] at h2
    exact (h i v' e' h3 h2).mono hs
  · rcases get_snoc h2 with h5 | ⟨h5, h6⟩
    · have hi := (List.getElem?_eq_some_iff.mp h5).1
      omega
    · rw [h4, h6]; exact hv
theorem ff_snoc {FF : Nat → List (List UInt8) → List UInt8 → Prop} (mF : ∀ i ds ds' e, ds <+: ds' → FF i ds e → FF i ds' e) {ds ds' : List (List UInt8)} {es : List (List UInt8)} {e : List UInt8} {i : Nat} (hp : ds <+: ds') (hl : es.length = i) (h : ∀ j e, es[j]? = some e → FF j ds e) (he : FF i ds' e) : ∀ j e', (es ++ [e])[j]? = some e' → FF j ds' e' := by
  intro j e' h1
  rcases get_snoc h1 with h3 | ⟨h3, h4⟩
  · exact mF _ _ _ _ hp (h j e' h3)
  · rw [h3, h4, hl]; exact he
section FbLines
local macro_rules | `(tactic| walk_at "call builtin:list.append") => `(tactic| wtm_at "MY stop")
local macro_rules | `(tactic| walk_at "pyIter ref") => `(tactic| wtm_at "MY it")
/-- a kid of a branch -/
def KidIs (K : Nat → Led → Value → Prop) (FF : Nat → List (List UInt8) → List UInt8 → Prop) (i : Nat) (base : Led) (v : Value) : Prop := (v = .none ∧ ∀ ds, FF i ds (encB [])) ∨ (∃ a, v = .ref a) ∧ K i base v
def FormB (FF : Nat → List (List UInt8) → List UInt8 → Prop) (ds : List (List UInt8)) (e : List UInt8) : Prop := ∃ es : List (List UInt8), es.length = 16 ∧ (∀ i e, es[i]? = some e → FF i ds e) ∧ e = encL (es ++ [encB []]).flatten
/-- between the turns -/
def FbJ (w : World) (fl kd : Addr) (ds : List (List UInt8)) (base rest : Led) (c kk : Nat) (FF : Nat → List (List UInt8) → List UInt8 → Prop) (i : Nat) (nx : Led) : Prop :=
  ∃ (ds' : List (List UInt8)) (o' : Obj) (tl : Led) (vs : List Value) (es : List (List UInt8)) (n : Nat), nx = (fl, listOf vs.toArray n) :: (kd, o') :: (tl ++ rest) ∧ KD w ds' o' ∧ (∀ p ∈ tl ++ rest, p.1 ≠ kd) ∧ (∀ p ∈ tl ++ rest, p.1 ≠ fl) ∧ ds <+: ds' ∧ ds'.length ≤ ds.length + c * i ∧ Abv rest tl ∧ vs.length = i ∧ es.length = i ∧
    (∀ (i : Nat) v e, vs[i]? = some v → es[i]? = some e → EncTo kk (tl ++ base) v e) ∧ ∀ j e, es[j]? = some e → FF j ds' e
theorem Abv.nil {news : Led} : Abv news [] := fun _ _ _ h => nomatch h
theorem FbJ.step {w : World} {fl kd : Addr} {ds ds' ds'' : List (List UInt8)} {base rest tl tl' : Led} {c kk i n : Nat} {FF : Nat → List (List UInt8) → List UInt8 → Prop} {vs : List Value} {es : List (List UInt8)} {x : Value} {e : List UInt8} {o'' : Obj} (mF : ∀ i ds ds' e, ds <+: ds' → FF i ds e → FF i ds' e)
   (hKD : KD w ds'' o'') (h1 : ∀ p ∈ (tl' ++ tl) ++ rest, p.1 ≠ kd) (h2 : ∀ p ∈ (tl' ++ tl) ++ rest, p.1 ≠ fl) (hp : ds <+: ds') (hp' : ds' <+: ds'') (hl : ds'.length ≤ ds.length + c * i) (hl' : ds''.length ≤ ds'.length + c) (ha : Abv rest tl) (ha' : Abv rest tl') (hv : vs.length = i) (he : es.length = i)
   (hE : ∀ (i : Nat) v e, vs[i]? = some v → es[i]? = some e → EncTo kk (tl ++ base) v e) (hF : ∀ j e, es[j]? = some e → FF j ds' e) (hx : EncTo kk (tl' ++ base) x e) (hfx : FF i ds'' e) :
   FbJ w fl kd ds base rest c kk FF (i + 1) ((fl, listOf (vs ++ [x]).toArray (n + 1)) :: (kd, o'') :: ((tl' ++ tl) ++ rest)) :=
  ⟨ds'', o'', tl' ++ tl, vs ++ [x], es ++ [e], n + 1, rfl, hKD, h1, h2, hp.trans hp', by rw [Nat.mul_succ]; omega, fun q hq z hz => (List.mem_append.mp hz).elim (ha' q hq z) (ha q hq z), by simp [hv], by simp [he],
    enc_snoc (news := tl ++ base) (fun p hp => by rw [List.append_assoc]; exact List.mem_append.mpr (.inr hp)) (by omega) hE (hx.mono fun p hp => (List.mem_append.mp hp).elim (fun h => List.mem_append.mpr (.inl (List.mem_append.mpr (.inl h)))) fun h => List.mem_append.mpr (.inr h)), ff_snoc mF hp' he hF hfx⟩
theorem fb_tell (w : World) (D U : Nat) (dg kd : Addr) (c kk : Nat) (K : Nat → Led → Value → Prop) (FF : Nat → List (List UInt8) → List UInt8 → Prop) (mF : ∀ i ds ds' e, ds <+: ds' → FF i ds e → FF i ds' e) (hD : 3 ≤ D) (hU : 24 ≤ U)
   (C : ∀ i, i < 16 → Tells w 189 D U dg kd c kk (K i) (FF i)) :
   Tells w 182 (D + 3) (U + 48) dg kd (16 * c) (kk + 1) (fun base v => ∃ kids u, BranchAt base v kids (.bytes #[] u) ∧ kids.length = 16 ∧ ∀ i v, kids[i]? = some v → KidIs K FF i base v) (FormB FF) := by
  intro v ds base rest hsz hbr mean mg mb dp un gd cn cs a ccd cl outer A₀ base' h₀ L m news s vs Q E B F X N T hk hpre hd' hu hret
  obtain ⟨rfl, ⟨o, rfl, hKD, hlo, hne⟩, hdg, kids, u, ⟨nd, wy, tt, rfl, hm1, hm2⟩, hkl, hkid⟩ := hpre
  have hm1 := hbr _ hm1
  have hm2 := hbr _ hm2
  refine wpAny_call ?_
  k_dflt ktr_enter
  k_steps
  (rename Fr _ _ _ _ => F1); (rename News _ _ _ _ => N1); (rename _ < _ ∧ AllLt _ _ => hlt)
  obtain ⟨m₀, hm₀, F1⟩ := fr_abs F1
  obtain ⟨fl, hfl, N1⟩ := news_head N1
  subst hfl
  have hfk : kd ≠ fl := Nat.ne_of_lt hlt.1
  have hfr : ∀ p ∈ rest, p.1 ≠ fl := ne_of_allLt hlt.2
  refine loop_tuple (fun i m nx => FbJ w fl kd ds base rest c kk FF i nx ∧ ∀ z : Str, z ≠ "kid" → m z = m₀ z) rfl F1 N1 (.tail _ (.tail _ hm2)) ⟨⟨ds, o, [], [], [], 0, rfl, hKD, hne, hfr, List.prefix_refl _, by omega, (fun _ _ _ h => nomatch h), rfl, rfl, (fun _ _ _ h => by simp at h), fun _ _ h => by simp at h⟩, fun _ _ => by rw [hm₀]⟩ ?_ ?_
  · rintro i v m₁ nx h tk I oI hv hin hI ⟨⟨ds', o', tl, vs, es, n, rfl, hKD', hnk, hnf, hpre, hlen, habv, hvl, hel, hEn, hFF⟩, hm₁⟩ F2 N2
    clear F1 N1
    have F3 := fr_know (m' := fun z => if z = "kid" then some v else m₀ z) F2 (fun z => by
      by_cases e1 : z = "kid"
      · simp [e1]
      · simp [e1, hm₁ z e1])
    clear F2
    subst hm₀
    have hi16 : i < 16 := by have := (List.getElem?_eq_some_iff.mp hv).1; omega
    rcases hkid i v hv with ⟨rfl, hnone⟩ | ⟨⟨ka, rfl⟩, hK⟩
    · k_steps
      refine app_headL (by k_asm) (news_sub (by k_asm) mem_swap2 : News _ _ _ ((fl, listOf vs.toArray n) :: (I, oI) :: (kd, o') :: (tl ++ rest))) ?_ (by omega) ?_
      · intro p hp
        rcases List.mem_cons.mp hp with rfl | hp
        · exact fun e => hI _ (.head _) e.symm
        · rcases List.mem_cons.mp hp with rfl | hp
          · exact hfk
          · exact hnf p hp
      · intro h5 F5 N5
        k_steps
        refine LEnd.intro ((fl, listOf (vs ++ [_]).toArray (n + 1)) :: (kd, o') :: (([] ++ tl) ++ rest)) (by k_asm) (by k_asm) (.tail _ (.head _)) (fun p hp => by
          rcases List.mem_cons.mp hp with rfl | hp
          · exact .head _
          · exact .tail _ (.tail _ hp)) (fun p hp => by
          rcases List.mem_cons.mp hp with rfl | hp
          · exact fun e => hI _ (.head _) e
          · exact hI p (.tail _ hp)) (fun p hp => by
          obtain rfl := List.mem_singleton.mp hp
          exact .tail _ (.tail _ (List.mem_append.mpr (.inr hm2)))) ⟨FbJ.step mF hKD' hnk hnf hpre (List.prefix_refl _) hlen (by omega) habv Abv.nil hvl hel hEn hFF (EncTo.bytes (by decide) kk) (hnone _), fun z hz => by simp [hz]⟩
    · k_steps
      have hci : c * i + c ≤ 16 * c := by rw [← Nat.mul_succ, Nat.mul_comm 16 c]; exact Nat.mul_le_mul_left c hi16
      have hne9 : ∀ p ∈ (I, oI) :: (fl, listOf vs.toArray n) :: (tl ++ rest), p.1 ≠ kd := fun p hp => by
        rcases List.mem_cons.mp hp with rfl | hp
        · exact fun e => hI _ (.tail _ (.head _)) e.symm
        · rcases List.mem_cons.mp hp with rfl | hp
          · exact fun e => hfk e.symm
          · exact hnk p hp
      have hsubr : ∀ p ∈ rest, p ∈ (I, oI) :: (fl, listOf vs.toArray n) :: (tl ++ rest) := fun p hp => .tail _ (.tail _ (List.mem_append.mpr (.inr hp)))
      refine call_tell (C i hi16 (.ref ka) ds' base ((I, oI) :: (fl, listOf vs.toArray n) :: (tl ++ rest)) (by omega) (fun p hp => hsubr p (hbr p hp))) (by k_asm) (by k_asm) (by k_asm) (news_sub (by k_asm) (fun p hp => by
          rcases List.mem_cons.mp hp with rfl | hp
          · exact .tail _ (.tail _ (.head _))
          · rcases List.mem_cons.mp hp with rfl | hp
            · exact .head _
            · rcases List.mem_cons.mp hp with rfl | hp
              · exact .tail _ (.head _)
              · exact .tail _ (.tail _ (.tail _ hp)))) (by k_asm) rfl ⟨rfl, ⟨o', rfl, hKD', hlo, hne9⟩, hdg.up hsubr, hK⟩ (by ktr_room) (by ktr_units) ?_
      rintro r n' h9 tk9 F9 N9 ⟨ds'', tl', e, hpre', hlen', ⟨o'', rfl, hKD'', -, hne''⟩, habv', henc, hFe⟩
      k_steps
      have hz2 : ∀ p ∈ (tl' ++ tl) ++ rest, p.1 ≠ fl := fun p hp => by
        rw [List.append_assoc] at hp
        rcases List.mem_append.mp hp with hp | hp
        · exact Nat.ne_of_gt (habv' (fl, listOf vs.toArray n) (.tail _ (.head _)) p hp)
        · exact hnf p hp
      have hzI : ∀ p ∈ (tl' ++ tl) ++ rest, p.1 ≠ I := fun p hp => by
        rw [List.append_assoc] at hp
        rcases List.mem_append.mp hp with hp | hp
        · exact Nat.ne_of_gt (habv' (I, oI) (.head _) p hp)
        · exact hI p (.tail _ (.tail _ hp))
      have hz1 : ∀ p ∈ (tl' ++ tl) ++ rest, p.1 ≠ kd := fun p hp => by
        rw [List.append_assoc] at hp
        rcases List.mem_append.mp hp with hp | hp
        · exact hne'' p (List.mem_append.mpr (.inl hp))
        · exact hnk p hp
      refine app_headL (by k_asm) (news_sub (by k_asm) (fun p hp => by
          rcases List.mem_cons.mp hp with rfl | hp
          · exact .tail _ (List.mem_append.mpr (.inr (.tail _ (.head _))))
          · rcases List.mem_cons.mp hp with rfl | hp
            · exact .tail _ (List.mem_append.mpr (.inr (.head _)))
            · rcases List.mem_cons.mp hp with rfl | hp
              · exact .head _
              · rw [List.append_assoc] at hp
                exact .tail _ (List.mem_append.mpr ((List.mem_append.mp hp).imp id fun h => .tail _ (.tail _ h)))) : News _ _ _ ((fl, listOf vs.toArray n) :: (I, oI) :: (kd, o'') :: ((tl' ++ tl) ++ rest))) ?_ (by omega) ?_
      · intro p hp
        rcases List.mem_cons.mp hp with rfl | hp
        · exact fun e => hI _ (.head _) e.symm
        · rcases List.mem_cons.mp hp with rfl | hp
          · exact hfk
          · exact hz2 p hp
      · intro h5 F5 N5
        k_steps
        refine LEnd.intro ((fl, listOf (vs ++ [_]).toArray (n + 1)) :: (kd, o'') :: ((tl' ++ tl) ++ rest)) (by k_asm) (by k_asm) (.tail _ (.head _)) (fun p hp => by
          rcases List.mem_cons.mp hp with rfl | hp
          · exact .head _
          · exact .tail _ (.tail _ hp)) (fun p hp => by
          rcases List.mem_cons.mp hp with rfl | hp
          · exact fun e => hI _ (.head _) e
          · rcases List.mem_cons.mp hp with rfl | hp
            · exact fun e => hI _ (.tail _ (.head _)) e
            · exact hzI p hp) (fun p hp => by
          obtain rfl := List.mem_singleton.mp hp
          exact .tail _ (.tail _ (List.mem_append.mpr (.inr hm2)))) ⟨FbJ.step mF hKD'' hz1 hz2 hpre hpre' hlen hlen' habv (fun q hq z hz => habv' q (hsubr q hq) z hz) hvl hel hEn hFF henc hFe, fun z hz => by simp [hz]⟩
  · rintro m₁ nx h tk ⟨⟨ds', o', tl, vs, es, n, rfl, hKD', hnk, hnf, hpre, hlen, habv, hvl, hel, hEn, hFF⟩, hm₁⟩ F2 N2
    clear F1 N1
    rw [hkl] at hvl hel hlen
    have F3 := fr_know (m' := fun z => if z = "kid" then m₁ z else m₀ z) F2 (fun z => by
      by_cases e1 : z = "kid"
      · simp [e1]
      · simp [e1, hm₁ z e1])
    clear F2
    subst hm₀
    k_steps
    refine app_headL (by k_asm) (by k_asm) ?_ (by omega) ?_
    · intro p hp
      rcases List.mem_cons.mp hp with rfl | hp
      · exact hfk
      · exact hnf p hp
    · intro h5 F5 N5
      k_steps
      refine hret _ _ _ _ (by k_asm) (news_sub (by k_asm) mem_swap2) ⟨ds', (fl, listOf (vs ++ [_]).toArray (n + 1)) :: tl, _, hpre, by omega, ⟨o', rfl, hKD', hlo, fun p hp => ?_⟩, fun q hq z hz => ?_, encTo_list (es := es ++ [encB []]) (.head _) (by simp; omega) (by simp; omega) (enc_snoc (news := tl ++ base) (fun p hp => .tail _ hp) (by omega) hEn (EncTo.bytes (by decide) kk)), es, by omega, hFF, rfl⟩
      · rcases List.mem_cons.mp hp with rfl | hp
        · exact fun e => hfk e.symm
        · exact hnk p hp
      · rcases List.mem_cons.mp hz with rfl | hz
        · exact tb_ltOf hlt.2 q hq
        · exact habv q hq z hz
end FbLines
end
section
section RtLines
theorem fn_tell (w : World) (dg kd : Addr) : Tells w 182 8 72 dg kd 0 1 (fun _ v => v = .none) (fun _ e => e = encB []) := by
  intro v ds base rest hsz hbr mean mg mb dp un gd cn cs a ccd cl outer A₀ base' h₀ L m news s vs Q E B F X N T hk hpre hd' hu hret
  obtain ⟨rfl, ⟨o, rfl, hKD, hlo, hne⟩, hdg, rfl⟩ := hpre
  refine wpAny_call ?_
  k_dflt ktr_enter
  k_steps
  exact hret _ _ _ _ (by k_asm) (by k_asm) ⟨ds, [], _, List.prefix_refl _, by omega, ⟨o, rfl, hKD, hlo, hne⟩, Abv.nil, EncTo.bytes (b := #[]) (by decide) 1, rfl⟩
theorem rt_tell (w : World) (D U : Nat) (dg kd : Addr) (c kk : Nat) (P : Led → Value → Prop) (F : List (List UInt8) → List UInt8 → Prop) (hD : kk + 5 ≤ D) (hU : 8 * kk + 80 ≤ U) (hkk : kk ≤ 20)
   (hF : ∀ ds e, F ds e → e.length ≤ 4000) (mF : ∀ ds ds' e, ds <+: ds' → F ds e → F ds' e) (C : Tells w 182 D U dg kd c kk P F) (v : Value) (ds : List (List UInt8)) (base rest : Led) (hsz : ds.length + c + 1 ≤ 100000) (hbr : ∀ p ∈ base, p ∈ rest) :
   Tell w 196 (D + 3) (U + 24) (fun news vs => vs = [v, .ref dg] ∧ DSt w kd ds rest news ∧ DigAt w dg kd rest ∧ P base v)
    (fun _ _ news' r => ∃ ds' tl e b t, ds <+: ds' ∧ ds'.length ≤ ds.length + c + 1 ∧ DSt w kd ds' (tl ++ rest) news' ∧ Abv rest tl ∧ r = .bytes b t ∧ b.toList = dig (numOf ds' e) ∧ e ∈ ds' ∧ F ds' e) := by
  intro mean mg mb dp un gd cn cs a ccd cl outer A₀ base' h₀ L m news s vs Q E B F0 X N T hk hpre hd' hu hret
  obtain ⟨rfl, ⟨o, rfl, hKD, hlo, hne⟩, ⟨dd, t1, n1, hdg, hdd⟩, hP⟩ := hpre
  refine wpAny_call ?_
  k_dflt ktr_enter
  k_steps
  refine call_tell (C v ds base rest (by omega) hbr) (by k_asm) (by k_asm) (by k_asm) (by k_asm) (by k_asm) rfl ⟨rfl, ⟨o, rfl, hKD, hlo, hne⟩, ⟨dd, t1, n1, hdg, hdd⟩, hP⟩ (by ktr_room) (by ktr_units) ?_
  rintro r n' h9 tk9 F9 N9 ⟨ds', tl, e, hpre, hlen, ⟨o', rfl, hKD', -, hne'⟩, habv, henc, hFe⟩
  have hdg : (dg, instObj 276 dd) ∈ tl ++ rest := List.mem_append.mpr (.inr hdg)
  have hdd : (dd, dictOf [⟨PyData.keyHash w.params "known", .str "known" t1, .ref kd⟩] n1) ∈ tl ++ rest := List.mem_append.mpr (.inr hdd)
  obtain ⟨R, hR⟩ : ∃ R, R = tl ++ rest := ⟨_, rfl⟩
  have hencR : EncTo kk R r e := henc.mono (fun p hp => hR ▸ (List.mem_append.mp hp).elim (fun h => List.mem_append.mpr (.inl h)) fun h => List.mem_append.mpr (.inr (hbr _ h)))
  have hDS : ∀ news', DSt w kd (addD ds' e) R news' → DSt w kd (addD ds' e) (tl ++ rest) news' := fun _ h => hR ▸ h
  rw [← hR] at hdg hdd hne' N9
  k_steps
  have he4 := hF _ _ hFe
  refine call_tell (e0_tell w kk e (by omega) (by omega)) (by k_asm) (by k_asm) (by k_asm) (by k_asm) (by k_asm) rfl ⟨_, rfl, hencR.mono (fun p hp => List.mem_cons_of_mem _ hp)⟩ (by ktr_room) (by ktr_units) ?_
  rintro r2 n2 h8 tk8 F8 N8 ⟨e8, b, t, rfl, hb⟩
  rw [e8] at N8
  have hbz : b.size ≤ 4000 := by rw [← Array.length_toList, hb]; exact he4
  k_steps
  refine call_tell (of_tell w dg kd ds' R b t (by omega) (by omega)) (by k_asm) (by k_asm) (by k_asm) (by k_asm) (by k_asm) rfl ⟨rfl, ⟨o', rfl, hKD', hlo, hne'⟩, dd, t1, n1, hdg, hdd⟩ (by ktr_room) (by ktr_units) ?_
  rintro r3 n3 h7 tk7 F7 N7 ⟨hD3, b', t', rfl, hb'⟩
  rw [hb] at hD3 hb'
  k_steps
  have hal := addD_length ds' e
  exact hret _ _ _ _ (by k_asm) (by k_asm) ⟨addD ds' e, tl, e, b', t', hpre.trans (addD_pre' _ _), by omega, hDS _ hD3, habv, rfl, hb', mem_addD _ _, mF _ _ _ (addD_pre' _ _) hFe⟩
end RtLines
end
section
def SubT (a b : Led) : Prop := ∀ p ∈ a, p.2.cls = .type "tuple" → p ∈ b
noncomputable def TD (w : World) (dg : Addr) (t t' : Tok) (nv : Value) : Obj := dictOf [⟨PyData.keyHash w.params "digest", .str "digest" t, .ref dg⟩, ⟨PyData.keyHash w.params "node", .str "node" t', nv⟩] 2
theorem perm3 {α : Type} {x : α} {a b c : List α} : ∀ p ∈ x :: ((a ++ b) ++ c), p ∈ a ++ (b ++ x :: c) := fun p hp => by
  simp only [List.mem_cons, List.mem_append] at hp ⊢
  rcases hp with h | (h | h) | h
  · exact .inr (.inr (.inl h))
  · exact .inl h
  · exact .inr (.inl h)
  · exact .inr (.inr (.inr h))
section TrLines
local macro_rules | `(tactic| k_handed) => `(tactic| (with_reducible assumption))
theorem put_tell (w : World) (tr td dg : Addr) (nv : Value) (c : UInt8) (k : Array UInt8) (kt : Tok) (val : Value) (t t' : Tok) (rest : Led) (hk1 : k.toList = [c]) (hnv : handedIn nv = true) (D U : Nat) (hD : 5 ≤ D) (hU : 30 ≤ U) (S S' : Led → Value → Prop) (mS : ∀ a b v, SubT a b → S a v → S b v) (mS' : ∀ a b v, SubT a b → S' a v → S' b v)
   (H : ∀ pa t u, Tell w 161 D U (fun news vs => vs = [nv, .ref pa, val] ∧ (pa, tupO [.int (c.toNat / 16 : Nat) t, .int (c.toNat % 16 : Nat) u]) ∈ news ∧ S news nv) (fun news _ news' r => Grow news news' ∧ S' news' r ∧ handedIn r = true)) :
   Tell w 217 (D + 5) (U + 60) (fun news vs => vs = [.ref tr, .bytes k kt, val] ∧ news = (td, TD w dg t t' nv) :: rest ∧ (∀ p ∈ rest, p.1 ≠ td) ∧ (tr, instObj 234 td) ∈ rest ∧ S rest nv)
    (fun news _ news' r => r = .none ∧ ∃ tl nv' t'', news' = (td, TD w dg t t'' nv') :: (tl ++ rest) ∧ (∀ q ∈ (td, TD w dg t t' nv) :: rest, ∀ z ∈ tl, q.1 < z.1) ∧ S' (tl ++ rest) nv' ∧ handedIn nv' = true) := by
  intro mean mg mb dp un gd cn cs a ccd cl outer A₀ base h₀ L m news s vs Q E B F X N T hk hpre hd' hu hret
  obtain ⟨rfl, rfl, hne, htr, hS⟩ := hpre
  unfold TD at N
  obtain rfl : k = #[c] := by cases k; simp at hk1; rw [hk1]
  refine wpAny_call ?_
  k_dflt ktr_enter
  k_steps
  · rename 32 < _ => h5
    simp at h5
  · refine call_tell (nb_tell w c) (by k_asm) (by k_asm) (by k_asm) (by k_asm) (by k_asm) rfl ⟨_, _, rfl, rfl⟩ (by ktr_room) (by ktr_units) ?_
    rintro r1 n1 h9 tk9 F9 N9 ⟨⟨tl1, rfl, ha1⟩, pa, t1, u1, rfl, hpa⟩
    k_steps
    refine call_tell (H pa t1 u1) (by k_asm) (by k_asm) (by k_asm) (by k_asm) (by k_asm) rfl ⟨rfl, hpa, mS _ _ _ (fun p hp _ => List.mem_append.mpr (.inr (.tail _ hp))) hS⟩ (by ktr_room) (by ktr_units) ?_
    rintro r2 n2 h8 tk8 F8 N8 ⟨⟨tl2, rfl, ha2⟩, hS2, hr2⟩
    have hab : ∀ q ∈ (td, TD w dg t t' nv) :: rest, ∀ z ∈ tl2 ++ tl1, q.1 < z.1 := fun q hq z hz => by
      rcases List.mem_append.mp hz with hz | hz
      · exact ha2 q (List.mem_append.mpr (.inr hq)) z hz
      · exact ha1 q hq z hz
    have hne2 : ∀ p ∈ (tl2 ++ tl1) ++ rest, p.1 ≠ td := fun p hp => by
      rcases List.mem_append.mp hp with hp | hp
      · exact Nat.ne_of_gt (hab _ (.head _) p hp)
      · exact hne p hp
    have hS3 : S' ((tl2 ++ tl1) ++ rest) r2 := mS' _ _ _ (fun p hp hc => by
      simp only [List.mem_cons, List.mem_append] at hp ⊢
      rcases hp with h | h | h | h
      · exact .inl (.inl h)
      · exact .inl (.inr h)
      · subst h; exact absurd hc (by intro e; injection e with e; exact absurd e (by decide))
      · exact .inr h) hS2
    have N10 := news_sub N8 perm3
    clear N8
    have htr2 : (tr, instObj 234 td) ∈ (tl2 ++ tl1) ++ rest := List.mem_append.mpr (.inr htr)
    generalize hTL : tl2 ++ tl1 = tl at *
    generalize hRR : tl ++ rest = R at *
    k_steps
    exact hret _ _ _ _ (by k_asm) (by k_asm) ⟨rfl, tl, r2, _, by unfold TD; rw [hRR], hab, hRR ▸ hS3, hr2⟩
end TrLines
end
section
section RmLines
local macro_rules | `(tactic| k_handed) => `(tactic| (with_reducible assumption))
theorem rm_tell (w : World) (D U : Nat) (dg kd tr td : Addr) (c kk : Nat) (P : Led → Value → Prop) (F : List (List UInt8) → List UInt8 → Prop) (hD : kk + 5 ≤ D) (hU : 8 * kk + 80 ≤ U) (hkk : kk ≤ 20)
   (hF : ∀ ds e, F ds e → e.length ≤ 4000) (mF : ∀ ds ds' e, ds <+: ds' → F ds e → F ds' e) (C : Tells w 182 D U dg kd c kk P F) (v : Value) (ds : List (List UInt8)) (base rest : Led) (t t' : Tok) (hsz : ds.length + c + 1 ≤ 100000) (hbr : ∀ p ∈ base, p ∈ rest) (hnv : handedIn v = true) :
   Tell w 231 (D + 6) (U + 60) (fun news vs => vs = [.ref tr] ∧ DSt w kd ds rest news ∧ DigAt w dg kd rest ∧ (tr, instObj 234 td) ∈ rest ∧ (td, TD w dg t t' v) ∈ rest ∧ P base v)
    (fun _ _ news' r => ∃ ds' tl e b t, ds <+: ds' ∧ ds'.length ≤ ds.length + c + 1 ∧ DSt w kd ds' (tl ++ rest) news' ∧ Abv rest tl ∧ r = .bytes b t ∧ b.toList = dig (numOf ds' e) ∧ e ∈ ds' ∧ F ds' e) := by
  intro mean mg mb dp un gd cn cs a ccd cl outer A₀ base' h₀ L m news s vs Q E B F0 X N T hk hpre hd' hu hret
  obtain ⟨rfl, ⟨o, rfl, hKD, hlo, hne⟩, hdg, htr, htd, hP⟩ := hpre
  unfold TD at htd
  refine wpAny_call ?_
  k_dflt ktr_enter
  k_steps
  refine call_tell (rt_tell w D U dg kd c kk P F hD hU hkk hF mF C v ds base rest hsz hbr) (by k_asm) (by k_asm) (by k_asm) (by k_asm) (by k_asm) rfl ⟨rfl, ⟨o, rfl, hKD, hlo, hne⟩, hdg, hP⟩ (by ktr_room) (by ktr_units) ?_
  rintro r n' h9 tk9 F9 N9 ⟨ds', tl, e, b, t, h1, h2, ⟨o', rfl, h3⟩, h4, rfl, h5, h6, h7⟩
  k_steps
  exact hret _ _ _ _ (by k_asm) (by k_asm) ⟨ds', tl, e, b, t, h1, h2, ⟨o', rfl, h3⟩, h4, rfl, h5, h6, h7⟩
end RmLines
end
section
section LrLines
local macro_rules | `(tactic| ktr_enter) => do `(tactic| ($(← useL "code_def a a a a a !r !r !s is is rm bt lr _ r r r d"); k_whole; intro g' L' h' FG' F' N' B' X' T'; (try dsimp only); (try k_fold)))
local macro_rules | `(tactic| wtm_at "MY lr") => `(tactic| (exact locs rfl))
local macro_rules | `(tactic| walk_at "call ref") => do `(tactic| ((with_reducible show wpAny _ _ (call (Value.ref 234) _) _ _ _); ($(← useL "call_cls a a a is is is _"); k_whole; intro x' d' h' F' N' l1 l2; k_lt l1; k_lt2 l2; k_dflt ktr_enter)))
local macro_rules | `(tactic| walk_at "exec For Tuple Call cons nil") => `(tactic| (k_here; (rename Fr _ _ _ _ => lF'); (with_unfolding_all refine' For_turns lF' ?_; k_whole)))
local macro_rules | `(tactic| walk_at "call type:enumerate") => `(tactic| wtm_at "MY stop")
theorem perm_lr {α : Type} {a b c d e : α} {l : List α} : ∀ p ∈ c :: a :: b :: d :: e :: l, p ∈ a :: b :: c :: d :: e :: l := fun p hp => by
  simp only [List.mem_cons] at hp ⊢
  rcases hp with h | h | h | h
  · exact .inr (.inr (.inl h))
  · exact .inl h
  · exact .inr (.inl h)
  · exact .inr (.inr (.inr h))
noncomputable def keyB (i : Nat) : UInt8 := if i = 0 then 128 else i.toUInt8
theorem keyB_enc : ∀ i : Fin 128, encB (beN i.val) = [keyB i.val] := by decide +kernel
theorem KD.cls {w : World} {ds : List (List UInt8)} {o : Obj} (h : KD w ds o) : o.cls = .type "dict" := by
  obtain ⟨_, ⟨_, _, hx, _⟩, _⟩ := h
  exact hx.1
def LrJ (w : World) (dg kd tr td : Addr) (o : Obj) (rest : Led) (S : Nat → Led → Value → Prop) (i : Nat) (nx : Led) : Prop :=
  ∃ (nv : Value) (tl : Led) (t t' : Tok), nx = (td, TD w dg t t' nv) :: (tr, instObj 234 td) :: (kd, o) :: (tl ++ rest) ∧ handedIn nv = true ∧ S i (tl ++ rest) nv ∧ (∀ q ∈ (td, TD w dg t t' nv) :: (tr, instObj 234 td) :: (kd, o) :: rest, ∀ z ∈ tl, q.1 < z.1)
theorem lr_tell (w : World) (rw dg kd : Addr) (rows : List (List UInt8)) (vs : List Value) (n : Nat) (ds : List (List UInt8)) (rest : Led) (hvl : vs.length = rows.length) (hrl : rows.length ≤ 100) (hvs : ∀ (i : Nat) r, rows[i]? = some r → ∃ b t, vs[i]? = some (.bytes b t) ∧ b.toList = r)
   (S : Nat → Led → Value → Prop) (S0 : ∀ base, S 0 base .none) (mS : ∀ i a b v, SubT a b → S i a v → S i b v) (D U : Nat) (hD : 8 ≤ D) (hU : 100 ≤ U) (D' U' c kk : Nat) (hD' : kk + 5 ≤ D') (hU' : 8 * kk + 80 ≤ U') (hkk : kk ≤ 20) (FF : List (List UInt8) → List UInt8 → Prop) (hF : ∀ ds e, FF ds e → e.length ≤ 4000) (mF : ∀ ds ds' e, ds <+: ds' → FF ds e → FF ds' e) (C : Tells w 182 D' U' dg kd c kk (S rows.length) FF) (hsz : ds.length + c + 1 ≤ 100000)
   (H : ∀ i r b u, rows[i]? = some r → b.toList = r → ∀ nv pa t u2, handedIn nv = true → Tell w 161 D U (fun news vs => vs = [nv, .ref pa, .bytes b u] ∧ (pa, tupO [.int ((keyB i).toNat / 16 : Nat) t, .int ((keyB i).toNat % 16 : Nat) u2]) ∈ news ∧ S i news nv) (fun news _ news' r => Grow news news' ∧ S (i + 1) news' r ∧ handedIn r = true)) :
   Tell w 245 (D + D' + 60) (U + U' + 600) (fun news ws => ws = [.ref rw, .ref dg] ∧ DSt w kd ds rest news ∧ DigAt w dg kd rest ∧ (rw, listOf vs.toArray n) ∈ rest)
    (fun news _ news' r => ∃ ds' tl e b t, ds <+: ds' ∧ ds'.length ≤ ds.length + c + 1 ∧ DSt w kd ds' (tl ++ rest) news' ∧ Abv rest tl ∧ r = .bytes b t ∧ b.toList = dig (numOf ds' e) ∧ e ∈ ds' ∧ FF ds' e) := by
  intro mean mg mb dp un gd cn cs a ccd cl outer A₀ base h₀ L m news s ws Q E B F X N T hk hpre hd' hu hret
  obtain ⟨rfl, ⟨o, rfl, hKD, hlo, hne⟩, hdg, hrw⟩ := hpre
  refine wpAny_call ?_
  k_dflt ktr_enter
  k_steps
  (rename Fr _ _ _ _ => F1); (rename News _ _ _ _ => N1)
  obtain ⟨m₀, hm₀, F1⟩ := fr_abs F1
  obtain ⟨tr, htr, N1⟩ := news_head N1
  obtain ⟨td, htd, N1⟩ : ∃ td, td = _ ∧ News _ _ _ (_ :: (td, _) :: _) := ⟨_, rfl, N1⟩
  subst htr htd
  (rename _ < _ ∧ AllLt _ _ => hlt)
  have hdt : td < tr := by assumption
  have hdr : ∀ p ∈ rest, p.1 < td := fun p hp => tb_ltOf hlt.2 p hp
  refine loop_enum (fun i m nx => LrJ w dg kd tr td o rest S i nx ∧ ∀ z : Str, z ≠ "place" → z ≠ "row" → m z = m₀ z) rfl F1 (news_sub N1 mem_swap2) (by k_mem) ⟨⟨.none, [], _, _, rfl, rfl, S0 _, fun _ _ _ h => nomatch h⟩, fun _ _ _ => by rw [hm₀]⟩ ?_ ?_
  · rintro i v m₁ nx h tk T t I oI I2 oI2 hv hc1 hc2 hl hsep hT ⟨⟨nv, tl, t1, t2, rfl, hnv, hS, hab⟩, hm₁⟩ F2 N2
    clear F1 N1
    have F3 := fr_know (m' := fun z => if z = "place" then m₁ z else if z = "row" then m₁ z else m₀ z) F2 (fun z => by
      by_cases e1 : z = "place"
      · simp [e1]
      · by_cases e2 : z = "row"
        · simp [e2]
        · simp [e1, e2, hm₁ z e1 e2])
    clear F2
    subst hm₀
    have hi : i < 100 := by have := (List.getElem?_eq_some_iff.mp hv).1; omega
    obtain ⟨row, hrow⟩ : ∃ row, rows[i]? = some row := ⟨rows[i]'(by have := (List.getElem?_eq_some_iff.mp hv).1; omega), by simp⟩
    obtain ⟨b, u, hbv, hbr⟩ := hvs i row hrow
    obtain rfl : v = .bytes b u := by rw [hv] at hbv; exact Option.some.inj hbv
    k_steps
    refine call_tell (no_tell w i (by omega)) (by k_asm) (by k_asm) (by k_asm) (by k_asm) (by k_asm) rfl ⟨_, rfl⟩ (by ktr_room) (by ktr_units) ?_
    rintro r1 n1 h9 tk9 F9 N9 ⟨rfl, b1, u1, rfl, hb1⟩
    k_steps
    have hb1z : b1.size ≤ 600 := by
      have := beN_length i
      rw [← Array.length_toList, hb1]; omega
    have hke : encB b1.toList = [keyB i] := by rw [hb1]; exact keyB_enc ⟨i, by omega⟩
    refine call_tell (e0_tell w 0 [keyB i] (by simp) (by omega)) (by k_asm) (by k_asm) (by k_asm) (by k_asm) (by k_asm) rfl ⟨_, rfl, hke ▸ EncTo.bytes hb1z 0⟩ (by ktr_room) (by ktr_units) ?_
    rintro r1 n1 h8 tk8 F8 N8 ⟨rfl, b2, u2, rfl, hb2⟩
    k_steps
    have hneI : ∀ p ∈ (I, oI) :: (I2, oI2) :: (tr, instObj 234 td) :: (kd, o) :: (tl ++ rest), p.1 ≠ td := fun p hp => by
      rcases List.mem_cons.mp hp with rfl | hp
      · exact fun e => hsep _ (.head _) _ (.head _) e.symm
      · rcases List.mem_cons.mp hp with rfl | hp
        · exact fun e => hsep _ (.head _) _ (.tail _ (.head _)) e.symm
        · rcases List.mem_cons.mp hp with rfl | hp
          · exact Nat.ne_of_gt hdt
          · rcases List.mem_cons.mp hp with rfl | hp
            · exact Nat.ne_of_lt hlt.1
            · rcases List.mem_append.mp hp with hp | hp
              · exact Nat.ne_of_gt (hab _ (.head _) p hp)
              · exact Nat.ne_of_lt (hdr p hp)
    have htl : ∀ p ∈ tl ++ rest, p ∈ (I, oI) :: (I2, oI2) :: (tr, instObj 234 td) :: (kd, o) :: (tl ++ rest) := fun p hp => .tail _ (.tail _ (.tail _ (.tail _ hp)))
    refine call_tell (put_tell w tr td dg nv (keyB i) b2 u2 (.bytes b u) t1 t2 ((I, oI) :: (I2, oI2) :: (tr, instObj 234 td) :: (kd, o) :: (tl ++ rest)) hb2 hnv D U (by omega) (by omega) (S i) (S (i + 1)) (mS i) (mS (i + 1)) (fun pa t u2 => H i row b u hrow hbr nv pa t u2 hnv)) (by k_asm) (by k_asm) (by k_asm) (news_sub (by k_asm) perm_lr) (by k_asm) rfl ⟨rfl, rfl, hneI, .tail _ (.tail _ (.head _)), mS _ _ _ _ (fun p hp _ => htl p hp) hS⟩ (by ktr_room) (by ktr_units) ?_
    rintro r1 n1 h7 tk7 F7 N7 ⟨rfl, tl', nv', t3, rfl, hab', hS', hnv'⟩
    k_steps
    have hodict : o.cls = .type "dict" := hKD.cls
    have hS4 : S (i + 1) ((tl' ++ tl) ++ rest) nv' := mS _ _ _ _ (fun p hp hc => by
      simp only [List.mem_cons, List.mem_append] at hp ⊢
      rcases hp with h | h | h | h | h | h | h
      · exact .inl (.inl h)
      · subst h; rw [hc1] at hc; injection hc with hc; exact absurd hc (by decide)
      · subst h; rw [hc2] at hc; injection hc with hc; exact absurd hc (by decide)
      · subst h; cases hc
      · subst h; rw [hodict] at hc; injection hc with hc; exact absurd hc (by decide)
      · exact .inl (.inr h)
      · exact .inr h) hS'
    refine LEndN.intro ((td, TD w dg t1 t3 nv') :: (tr, instObj 234 td) :: (kd, o) :: ((tl' ++ tl) ++ rest)) (by k_asm) (by k_asm) ?_ ?_ ?_ ?_ ⟨⟨nv', tl' ++ tl, t1, t3, rfl, hnv', hS4, ?_⟩, ?_⟩
    · intro p hp
      simp only [List.mem_cons, List.mem_append, List.not_mem_nil, or_false] at hp ⊢
      rcases hp with h | h
      · exact .inr (.inr (.inl h))
      · exact .inr (.inr (.inr (.inl h)))
    · intro p hp
      simp only [List.mem_cons, List.mem_append] at hp ⊢
      rcases hp with h | h | h | (h | h) | h
      · exact .inl h
      · exact .inr (.inr (.inr (.inr (.inl h))))
      · exact .inr (.inr (.inr (.inr (.inr (.inl h)))))
      · exact .inr (.inl h)
      · exact .inr (.inr (.inr (.inr (.inr (.inr (.inl h))))))
      · exact .inr (.inr (.inr (.inr (.inr (.inr (.inr h))))))
    · intro p hp q hq
      simp only [List.mem_cons, List.mem_append] at hp
      rcases hp with h | h | h | (h | h) | h
      · rw [h]; exact hsep _ (.head _) q hq
      · exact hsep p (by rw [h]; exact .tail _ (.head _)) q hq
      · exact hsep p (by rw [h]; exact .tail _ (.tail _ (.head _))) q hq
      · refine Nat.ne_of_gt (hab' q (.tail _ ?_) p h)
        rcases List.mem_cons.mp hq with hq | hq
        · rw [hq]; exact .head _
        · rw [List.mem_singleton.mp hq]; exact .tail _ (.head _)
      · exact hsep p (.tail _ (.tail _ (.tail _ (List.mem_append.mpr (.inl h))))) q hq
      · exact hsep p (.tail _ (.tail _ (.tail _ (List.mem_append.mpr (.inr h))))) q hq
    · intro p hp
      rw [List.mem_singleton.mp hp]
      exact .tail _ (.tail _ (.tail _ (List.mem_append.mpr (.inr hrw))))
    · intro q hq z hz
      rcases List.mem_cons.mp hq with h | hq
      · rw [h]
        rcases List.mem_append.mp hz with hz | hz
        · exact hab' (td, TD w dg t1 t2 nv) (.head _) z hz
        · exact hab (td, TD w dg t1 t2 nv) (.head _) z hz
      · rcases List.mem_append.mp hz with hz | hz
        · refine hab' q (.tail _ (.tail _ (.tail _ (?_ : q ∈ (tr, instObj 234 td) :: (kd, o) :: (tl ++ rest))))) z hz
          simp only [List.mem_cons, List.mem_append] at hq ⊢
          rcases hq with h | h | h
          · exact .inl h
          · exact .inr (.inl h)
          · exact .inr (.inr (.inr h))
        · exact hab q (.tail _ hq) z hz
    · intro z h1 h2
      simp [h1, h2]
  · rintro m₁ nx h tk ⟨⟨nv, tl, t1, t2, rfl, hnv, hS, hab⟩, hm₁⟩ F2 N2
    clear F1 N1
    have F3 := fr_know (m' := fun z => if z = "place" then m₁ z else if z = "row" then m₁ z else m₀ z) F2 (fun z => by
      by_cases e1 : z = "place"
      · simp [e1]
      · by_cases e2 : z = "row"
        · simp [e2]
        · simp [e1, e2, hm₁ z e1 e2])
    clear F2
    subst hm₀
    k_steps
    have hrest : ∀ p ∈ rest, p ∈ (td, TD w dg t1 t2 nv) :: (tr, instObj 234 td) :: (tl ++ rest) := fun p hp => .tail _ (.tail _ (List.mem_append.mpr (.inr hp)))
    have hnk : ∀ p ∈ (td, TD w dg t1 t2 nv) :: (tr, instObj 234 td) :: (tl ++ rest), p.1 ≠ kd := fun p hp => by
      rcases List.mem_cons.mp hp with rfl | hp
      · exact Nat.ne_of_gt hlt.1
      · rcases List.mem_cons.mp hp with rfl | hp
        · exact Nat.ne_of_gt (Nat.lt_trans hlt.1 hdt)
        · rcases List.mem_append.mp hp with hp | hp
          · exact Nat.ne_of_gt (hab (kd, o) (.tail _ (.tail _ (.head _))) p hp)
          · exact hne p hp
    refine call_tell (rm_tell w D' U' dg kd tr td c kk (S rows.length) FF hD' hU' hkk hF mF C nv ds (tl ++ rest) ((td, TD w dg t1 t2 nv) :: (tr, instObj 234 td) :: (tl ++ rest)) t1 t2 hsz (fun p hp => .tail _ (.tail _ hp)) hnv) (by k_asm) (by k_asm) (by k_asm) (news_sub (by k_asm) (fun p hp => by
        simp only [List.mem_cons] at hp ⊢
        rcases hp with h | h | h | h
        · exact .inr (.inr (.inl h))
        · exact .inl h
        · exact .inr (.inl h)
        · exact .inr (.inr (.inr h)))) (by k_asm) rfl ⟨rfl, ⟨o, rfl, hKD, hlo, hnk⟩, hdg.up hrest, .tail _ (.head _), .head _, hvl ▸ hS⟩ (by ktr_room) (by ktr_units) ?_
    rintro r n' h9 tk9 F9 N9 ⟨ds', tl2, e, b, t, h1, h2, ⟨o', rfl, h3a, -, h3b⟩, h4, rfl, h5, h6, h7⟩
    k_steps
    refine hret _ _ _ _ (by k_asm) (by k_asm) ⟨ds', tl2 ++ ((td, TD w dg t1 t2 nv) :: (tr, instObj 234 td) :: tl), e, b, t, h1, h2, ⟨o', by simp, h3a, hlo, by simpa using h3b⟩, ?_, rfl, h5, h6, h7⟩
    intro q hq z hz
    rcases List.mem_append.mp hz with hz | hz
    · exact h4 q (hrest q hq) z hz
    · rcases List.mem_cons.mp hz with rfl | hz
      · exact hdr q hq
      · rcases List.mem_cons.mp hz with rfl | hz
        · exact Nat.lt_trans (hdr q hq) hdt
        · exact hab q (.tail _ (.tail _ (.tail _ hq))) z hz
end LrLines
end
section
theorem Tell.pick {w : World} {f : Addr} {D U : Nat} {Pre : Led → List Value → Prop} {Post : Led → List Value → Led → Value → Prop}
   (H : ∀ news vs, Pre news vs → ∃ D' U' Pre' Post', Tell w f D' U' Pre' Post' ∧ D' ≤ D ∧ U' ≤ U ∧ Pre' news vs ∧ ∀ n' r, Post' news vs n' r → Post news vs n' r) : Tell w f D U Pre Post := by
  intro mean mg mb dp un gd cn cs a ccd cl outer A₀ base h₀ L m news s vs Q E B F X N T hk hpre hd' hu hret
  obtain ⟨D', U', Pre', Post', C, h1, h2, h3, h4⟩ := H news vs hpre
  exact C _ _ _ _ _ _ _ _ _ _ _ _ _ _ _ _ _ _ _ _ _ _ B F X N T hk h3 (by omega) (by omega) fun r n' h' tk' F' N' q => hret r n' h' tk' F' N' (h4 _ _ q)
theorem EncTo.up1 {news : Led} : ∀ {k : Nat} {v : Value} {e : List UInt8}, EncTo k news v e → EncTo (k + 1) news v e
  | 0, _, _, h => .inl h
  | _ + 1, _, _, .inl h => .inl h
  | _ + 1, _, _, .inr ⟨a, vs, n, es, h1, h2, h3, h4, h5⟩ => .inr ⟨a, vs, n, es, h1, h2, h3, fun i v e hv he => EncTo.up1 (h4 i v e hv he), h5⟩
theorem EncTo.ups {news : Led} {k k' : Nat} {v : Value} {e : List UInt8} (hk : k ≤ k') (h : EncTo k news v e) : EncTo k' news v e := by
  induction hk with
  | refl => exact h
  | step _ ih => exact ih.up1
theorem Tells.pick {w : World} {f : Addr} {D U : Nat} {dg kd : Addr} {c kk : Nat} {P : Led → Value → Prop} {F : List (List UInt8) → List UInt8 → Prop}
   (H : ∀ base v, P base v → ∃ D' U' c' kk' P' F', Tells w f D' U' dg kd c' kk' P' F' ∧ D' ≤ D ∧ U' ≤ U ∧ c' ≤ c ∧ kk' ≤ kk ∧ P' base v ∧ ∀ ds e, F' ds e → F ds e) : Tells w f D U dg kd c kk P F := by
  intro v ds base rest hsz hbr
  refine Tell.pick fun news vs ⟨p1, p2, p3, p4⟩ => ?_
  obtain ⟨D', U', c', kk', P', F', C, h1, h2, h3, h4, h5, h6⟩ := H base v p4
  exact ⟨D', U', _, _, C v ds base rest (by omega) hbr, h1, h2, ⟨p1, p2, p3, h5⟩, fun n' r ⟨ds', tl, e, q1, q2, q3, q4, q5, q6⟩ => ⟨ds', tl, e, q1, by omega, q3, q4, q5.ups h4, h6 _ _ q6⟩⟩
abbrev Row := List UInt8
abbrev M1 := Nat → Option Row
abbrev M2 := Nat → M1
def Emp1 (g : M1) : Prop := ∀ l, g l = none
def Sin1 (g : M1) (l : Nat) (r : Row) : Prop := l < 16 ∧ g l = some r ∧ ∀ x, x ≠ l → g x = none
def Two1 (g : M1) : Prop := ∃ i j, i < j ∧ j < 16 ∧ g i ≠ none ∧ g j ≠ none
noncomputable def upd1 (g : M1) (l : Nat) (r : Row) : M1 := fun x => if x = l then some r else g x
noncomputable def upd2 (f : M2) (h l : Nat) (r : Row) : M2 := fun x => if x = h then upd1 (f h) l r else f x
def Two2 (f : M2) : Prop := ∃ i j, i < j ∧ j < 16 ∧ ¬ Emp1 (f i) ∧ ¬ Emp1 (f j)
theorem SubT.of {a b : Led} (h : ∀ p ∈ a, p ∈ b) : SubT a b := fun p hp _ => h p hp
theorem SubT.get {a b : Led} (h : SubT a b) {x : Addr} {vs : List Value} (hm : (x, tupO vs) ∈ a) : (x, tupO vs) ∈ b := h _ hm rfl
theorem LeafAt.sb {rest : List Value} {hld : Value} {n n' : Led} {v : Value} (s : SubT n n') (h : LeafAt rest hld n v) : LeafAt rest hld n' v :=
  let ⟨a, p, t, h1, h2, h3⟩ := h; ⟨a, p, t, h1, s.get h2, s.get h3⟩
theorem ExtAt.sb {way : List Value} {c : Value} {n n' : Led} {v : Value} (s : SubT n n') (h : ExtAt way c n v) : ExtAt way c n' v :=
  let ⟨a, p, t, h1, h2, h3⟩ := h; ⟨a, p, t, h1, s.get h2, s.get h3⟩
theorem BranchAt.sb {kids : List Value} {c : Value} {n n' : Led} {v : Value} (s : SubT n n') (h : BranchAt n v kids c) : BranchAt n' v kids c :=
  let ⟨a, p, t, h1, h2, h3⟩ := h; ⟨a, p, t, h1, s.get h2, s.get h3⟩
def R0 (r : Row) (base : Led) (v : Value) : Prop := ∃ b u, b.toList = r ∧ LeafAt [] (.bytes b u) base v
def K0 (g : M1) (l : Nat) (base : Led) (v : Value) : Prop := (g l = none ∧ v = .none) ∨ ∃ r, g l = some r ∧ R0 r base v
def B1 (g : M1) (base : Led) (v : Value) : Prop := ∃ kids u, BranchAt base v kids (.bytes #[] u) ∧ kids.length = 16 ∧ (∀ l, 16 ≤ l → g l = none) ∧ ∀ l k, kids[l]? = some k → K0 g l base k
def R1 (g : M1) (base : Led) (v : Value) : Prop :=
  (Emp1 g ∧ v = .none) ∨ (∃ l r b u t, Sin1 g l r ∧ b.toList = r ∧ LeafAt [.int (l : Nat) t] (.bytes b u) base v) ∨ (Two1 g ∧ B1 g base v)
def R2 (f : M2) (base : Led) (v : Value) : Prop :=
  ((∀ h, Emp1 (f h)) ∧ v = .none) ∨ (∃ h l r b u t t', h < 16 ∧ (∀ x, x ≠ h → Emp1 (f x)) ∧ Sin1 (f h) l r ∧ b.toList = r ∧ LeafAt [.int (h : Nat) t, .int (l : Nat) t'] (.bytes b u) base v) ∨
  (∃ h t c, h < 16 ∧ (∀ x, x ≠ h → Emp1 (f x)) ∧ Two1 (f h) ∧ ExtAt [.int (h : Nat) t] c base v ∧ B1 (f h) base c) ∨
  (Two2 f ∧ ∃ kids u, BranchAt base v kids (.bytes #[] u) ∧ kids.length = 16 ∧ (∀ h, 16 ≤ h → Emp1 (f h)) ∧ ∀ h k, kids[h]? = some k → R1 (f h) base k)
theorem R0.sb {r : Row} {a b : Led} {v : Value} (s : SubT a b) : R0 r a v → R0 r b v := fun ⟨x, u, h1, h2⟩ => ⟨x, u, h1, h2.sb s⟩
theorem K0.sb {g : M1} {l : Nat} {a b : Led} {v : Value} (s : SubT a b) : K0 g l a v → K0 g l b v := Or.imp id fun ⟨r, h1, h2⟩ => ⟨r, h1, h2.sb s⟩
theorem B1.sb {g : M1} {a b : Led} {v : Value} (s : SubT a b) : B1 g a v → B1 g b v := fun ⟨kids, u, h1, h2, h3, h4⟩ => ⟨kids, u, h1.sb s, h2, h3, fun l k hk => (h4 l k hk).sb s⟩
theorem R1.sb {g : M1} {a b : Led} {v : Value} (s : SubT a b) : R1 g a v → R1 g b v := Or.imp id (Or.imp (fun ⟨l, r, b, u, t, h1, h2, h3⟩ => ⟨l, r, b, u, t, h1, h2, h3.sb s⟩) (And.imp id (B1.sb s)))
theorem R2.sb {f : M2} {a b : Led} {v : Value} (s : SubT a b) : R2 f a v → R2 f b v :=
  Or.imp id (Or.imp (fun ⟨h, l, r, b, u, t, t', h1, h2, h3, h4, h5⟩ => ⟨h, l, r, b, u, t, t', h1, h2, h3, h4, h5.sb s⟩) (Or.imp (fun ⟨h, t, c, h1, h2, h3, h4, h5⟩ => ⟨h, t, c, h1, h2, h3, h4.sb s, h5.sb s⟩)
    (And.imp id fun ⟨kids, u, h1, h2, h3, h4⟩ => ⟨kids, u, h1.sb s, h2, h3, fun l k hk => (h4 l k hk).sb s⟩)))
theorem R0.ref {r : Row} {a : Led} {v : Value} : R0 r a v → ∃ x, v = .ref x := fun ⟨_, _, _, x, _, _, h, _⟩ => ⟨x, h⟩
theorem B1.ref {g : M1} {a : Led} {v : Value} : B1 g a v → ∃ x, v = .ref x := fun ⟨_, _, ⟨x, _, _, h, _⟩, _⟩ => ⟨x, h⟩
theorem K0.nr {g : M1} {l : Nat} {a : Led} {v : Value} : K0 g l a v → v = .none ∨ ∃ x, v = .ref x := Or.imp And.right fun ⟨_, _, h⟩ => h.ref
theorem K0.ref {g : M1} {l : Nat} {a : Led} {v : Value} (h : K0 g l a v) (hg : g l ≠ none) : ∃ x, v = .ref x := h.elim (fun e => absurd e.1 hg) fun ⟨_, _, h⟩ => h.ref
theorem Two1.ne {g : M1} (h : Two1 g) : ¬ Emp1 g := fun e => let ⟨i, _, _, _, h1, _⟩ := h; h1 (e i)
theorem Sin1.ne {g : M1} {l : Nat} {r : Row} (h : Sin1 g l r) : ¬ Emp1 g := fun e => by have := h.2.1; rw [e l] at this; cases this
theorem LeafAt.ref {l : List Value} {h : Value} {a : Led} {v : Value} (q : LeafAt l h a v) : ∃ x, v = .ref x := q.elim fun x q => q.elim fun _ q => q.elim fun _ q => ⟨x, q.1⟩
theorem ExtAt.ref {l : List Value} {h : Value} {a : Led} {v : Value} (q : ExtAt l h a v) : ∃ x, v = .ref x := q.elim fun x q => q.elim fun _ q => q.elim fun _ q => ⟨x, q.1⟩
theorem BranchAt.ref {l : List Value} {h : Value} {a : Led} {v : Value} (q : BranchAt a v l h) : ∃ x, v = .ref x := q.elim fun x q => q.elim fun _ q => q.elim fun _ q => ⟨x, q.1⟩
theorem R1.ref {g : M1} {a : Led} {v : Value} (hg : ¬ Emp1 g) (q : R1 g a v) : ∃ x, v = .ref x := by
  rcases q with h | h | h
  · exact absurd h.1 hg
  · obtain ⟨_, _, _, _, _, _, _, h⟩ := h; exact h.ref
  · exact h.2.ref
theorem R1.nr {g : M1} {a : Led} {v : Value} (q : R1 g a v) : v = .none ∨ ∃ x, v = .ref x := by
  by_cases hg : Emp1 g
  · rcases q with h | h | h
    · exact .inl h.2
    · obtain ⟨_, _, _, _, _, h, _⟩ := h; exact absurd hg h.ne
    · exact absurd hg h.1.ne
  · exact .inr (R1.ref hg q)
theorem handed_ref {v : Value} (h : ∃ x, v = .ref x) : handedIn v = true := by
  obtain ⟨x, rfl⟩ := h; rfl
theorem R2.handed {f : M2} {a : Led} {v : Value} (q : R2 f a v) : handedIn v = true := by
  rcases q with h | h | h | h
  · rw [h.2]; rfl
  · obtain ⟨_, _, _, _, _, _, _, _, _, _, _, h⟩ := h; exact handed_ref h.ref
  · obtain ⟨_, _, _, _, _, _, h, _⟩ := h; exact handed_ref h.ref
  · obtain ⟨_, _, _, h, _⟩ := h; exact handed_ref h.ref
theorem upd1_self {g : M1} {l : Nat} {r : Row} : upd1 g l r l = some r := if_pos rfl
theorem upd1_ne {g : M1} {l x : Nat} {r : Row} (h : x ≠ l) : upd1 g l r x = g x := if_neg h
theorem set_some {α : Type} {l : List α} {i j : Nat} {x k : α} (h : (l.set i x)[j]? = some k) : (j = i ∧ k = x) ∨ (j ≠ i ∧ l[j]? = some k) := by
  by_cases e : j = i
  · subst e
    rw [List.getElem?_set_self' ] at h
    left
    cases h2 : l[j]? with
    | none => rw [h2] at h; simp at h
    | some y => rw [h2] at h; exact ⟨rfl, by simpa using h.symm⟩
  · rw [List.getElem?_set_ne (fun h => e h.symm)] at h
    exact .inr ⟨e, h⟩
theorem two_mk {g : M1} {i j : Nat} (hn : i ≠ j) (hi : i < 16) (hj : j < 16) (h1 : g i ≠ none) (h2 : g j ≠ none) : Two1 g := by
  rcases Nat.lt_or_ge i j with h | h
  · exact ⟨i, j, h, hj, h1, h2⟩
  · exact ⟨j, i, by omega, hi, h2, h1⟩
theorem two2_mk {f : M2} {i j : Nat} (hn : i ≠ j) (hi : i < 16) (hj : j < 16) (h1 : ¬ Emp1 (f i)) (h2 : ¬ Emp1 (f j)) : Two2 f := by
  rcases Nat.lt_or_ge i j with h | h
  · exact ⟨i, j, h, hj, h1, h2⟩
  · exact ⟨j, i, by omega, hi, h2, h1⟩
theorem Two1.upd {g : M1} {l : Nat} {r : Row} (h : Two1 g) : Two1 (upd1 g l r) := by
  obtain ⟨i, j, h1, h2, h3, h4⟩ := h
  refine ⟨i, j, h1, h2, ?_, ?_⟩ <;> (unfold upd1; split) <;> first | assumption | simp
theorem kids2 {g : M1} {i j : Nat} {x y : Value} {n : Led} (hij : i ≠ j) (ho : ∀ z, z ≠ i → z ≠ j → g z = none) (hx : K0 g i n x) (hy : K0 g j n y) (l : Nat) (k : Value) (h : (((List.replicate 16 Value.none).set i x).set j y)[l]? = some k) : K0 g l n k := by
  rcases set_some h with ⟨rfl, rfl⟩ | ⟨h1, h⟩
  · exact hy
  · rcases set_some h with ⟨rfl, rfl⟩ | ⟨h2, h⟩
    · exact hx
    · rw [List.getElem?_replicate] at h
      split at h
      · exact .inl ⟨ho l h2 h1, (Option.some.inj h).symm⟩
      · cases h
section
variable {w : World}
/-- put, one nibble left, into a branch -/
theorem putB1 {g : M1} {l : Nat} {r : Row} {b : Array UInt8} {u : Tok} (hb : b.toList = r) (hl : l < 16) (hg : g l = none) (v : Value) (pa : Addr) (t : Tok) :
   Tell w 135 11 100 (fun news vs => vs = [v, .ref pa, .bytes b u] ∧ (pa, tupO [.int (l : Nat) t]) ∈ news ∧ B1 g news v) (fun news _ news' r' => Grow news news' ∧ B1 (upd1 g l r) news' r') := by
  refine Tell.pick ?_
  rintro news vs ⟨rfl, hpa, kids, u2, ⟨a, k, t2, rfl, ha, hk⟩, hlen, hhi, hkids⟩
  have hkv : kids[l]? = some .none := by
    have h1 : kids[l]? = some (kids[l]'(by omega)) := List.getElem?_eq_getElem (by omega)
    rcases hkids l _ h1 with ⟨_, e⟩ | ⟨r', e, _⟩
    · rw [h1, e]
    · rw [hg] at e; cases e
  refine ⟨_, _, _, _, pibr_tell w a k pa kids (.bytes #[] u2) .none (.bytes b u) l t t2 [] hl hlen (by simp) hkv 3 24 (fun _ => True) (LeafAt [] (.bytes b u)) (fun _ _ _ h => h) LeafAt.mono (pnH w [] (.bytes b u)), by omega, by omega, ⟨rfl, ha, hk, hpa, trivial⟩, ?_⟩
  rintro n' r' ⟨g1, kid, hbr, hkid⟩
  refine ⟨g1, kids.set l kid, u2, hbr, by rw [List.length_set, hlen], fun x hx => by rw [upd1_ne (by omega), hhi x hx], fun x k hxk => ?_⟩
  rcases set_some hxk with ⟨rfl, rfl⟩ | ⟨h1, h2⟩
  · exact .inr ⟨r, upd1_self, b, u, hb, hkid⟩
  · rcases hkids x k h2 with ⟨e, e2⟩ | ⟨r', e, e2⟩
    · exact .inl ⟨by rw [upd1_ne h1, e], e2⟩
    · exact .inr ⟨r', by rw [upd1_ne h1, e], e2.sb (.of g1.sub)⟩
theorem put1 {g : M1} {l : Nat} {r : Row} {b : Array UInt8} {u : Tok} (hb : b.toList = r) (hl : l < 16) (hg : g l = none) (v : Value) (pa : Addr) (t : Tok) :
   Tell w 135 11 100 (fun news vs => vs = [v, .ref pa, .bytes b u] ∧ (pa, tupO [.int (l : Nat) t]) ∈ news ∧ R1 g news v) (fun news _ news' r' => Grow news news' ∧ R1 (upd1 g l r) news' r') := by
  refine Tell.pick ?_
  rintro news vs ⟨rfl, hpa, ⟨he, rfl⟩ | ⟨l', r', b', u', t', ⟨hl', hs1, hs2⟩, hb', a, p, tt, rfl, ha, hp⟩ | ⟨h2, hB⟩⟩
  · exact ⟨_, _, _, _, pnH w [.int (l : Nat) t] (.bytes b u) pa, by omega, by omega, ⟨rfl, hpa, trivial⟩, fun n' r' ⟨g1, h⟩ => ⟨g1, .inr (.inl ⟨l, r, b, u, t, ⟨hl, upd1_self, fun x hx => by rw [upd1_ne hx, he x]⟩, hb, h⟩)⟩⟩
  · have hne : l' ≠ l := fun e => by subst e; rw [hg] at hs1; cases hs1
    refine ⟨_, _, _, _, pil0_tell w a pa p l l' t t' tt [] [] [] [] (.bytes b' u') (.bytes b u) hl hl' hne (by simp) (by simp) .nil .nil, by omega, by omega, ⟨rfl, ha, hp, hpa⟩, ?_⟩
    rintro n' r2 ⟨g1, k1, k2, u3, hbr, hk1, hk2⟩
    refine ⟨g1, .inr (.inr ⟨two_mk hne hl' hl (by rw [upd1_ne hne, hs1]; simp) (by rw [upd1_self]; simp), _, u3, hbr, by simp, fun x hx => by rw [upd1_ne (by omega), hs2 x (by omega)], ?_⟩)⟩
    exact kids2 hne (fun z h1 h2 => by rw [upd1_ne h2, hs2 z h1]) (.inr ⟨r', by rw [upd1_ne hne, hs1], b', u', hb', hk1⟩) (.inr ⟨r, upd1_self, b, u, hb, hk2⟩)
  · exact ⟨_, _, _, _, putB1 hb hl hg v pa t, by omega, by omega, ⟨rfl, hpa, hB⟩, fun n' r' ⟨g1, h⟩ => ⟨g1, .inr (.inr ⟨h2.upd, h⟩)⟩⟩
theorem upd2_self {f : M2} {h l : Nat} {r : Row} : upd2 f h l r h = upd1 (f h) l r := if_pos rfl
theorem upd2_ne {f : M2} {h l x : Nat} {r : Row} (hx : x ≠ h) : upd2 f h l r x = f x := if_neg hx
theorem upd1_sin {g : M1} {l : Nat} {r : Row} (hl : l < 16) (h : Emp1 g) : Sin1 (upd1 g l r) l r := ⟨hl, upd1_self, fun x hx => by rw [upd1_ne hx, h x]⟩
theorem upd1_nemp {g : M1} {l : Nat} {r : Row} : ¬ Emp1 (upd1 g l r) := fun h => by have := h l; rw [upd1_self] at this; cases this
/-- a kid that was put -/
theorem R1.sin {g : M1} {l : Nat} {r : Row} {n : Led} {v : Value} {b : Array UInt8} {u t : Tok} (h : Sin1 g l r) (hb : b.toList = r) (hv : LeafAt [.int (l : Nat) t] (.bytes b u) n v) : R1 g n v := .inr (.inl ⟨l, r, b, u, t, h, hb, hv⟩)
theorem kids2R {f : M2} {i j : Nat} {x y : Value} {n : Led} (ho : ∀ z, z ≠ i → z ≠ j → Emp1 (f z)) (hx : R1 (f i) n x) (hy : R1 (f j) n y) (l : Nat) (k : Value) (h : (((List.replicate 16 Value.none).set i x).set j y)[l]? = some k) : R1 (f l) n k := by
  rcases set_some h with ⟨rfl, rfl⟩ | ⟨h1, h⟩
  · exact hy
  · rcases set_some h with ⟨rfl, rfl⟩ | ⟨h2, h⟩
    · exact hx
    · rw [List.getElem?_replicate] at h
      split at h
      · exact .inl ⟨ho l h2 h1, (Option.some.inj h).symm⟩
      · cases h
theorem put2 {f : M2} {h l : Nat} {r : Row} {b : Array UInt8} {u : Tok} (hb : b.toList = r) (hh : h < 16) (hl : l < 16) (hg : f h l = none) (v : Value) (pa : Addr) (t t2 : Tok) :
   Tell w 135 20 200 (fun news vs => vs = [v, .ref pa, .bytes b u] ∧ (pa, tupO [.int (h : Nat) t, .int (l : Nat) t2]) ∈ news ∧ R2 f news v) (fun news _ news' r' => Grow news news' ∧ R2 (upd2 f h l r) news' r') := by
  refine Tell.pick ?_
  rintro news vs ⟨rfl, hpa, ⟨he, rfl⟩ | ⟨h', l', r', b', u', t', t3, hh', ho, hs, hb', a, p, tt, rfl, ha, hp⟩ | ⟨h', t', c, hh', ho, htw, ⟨a, p, tt, rfl, ha, hp⟩, hc⟩ | ⟨htw, kids, u', ⟨a, k, tt, rfl, ha, hk⟩, hlen, hhi, hkids⟩⟩
  · refine ⟨_, _, _, _, pnH w [.int (h : Nat) t, .int (l : Nat) t2] (.bytes b u) pa, by omega, by omega, ⟨rfl, hpa, trivial⟩, fun n' r' ⟨g1, hv⟩ => ⟨g1, .inr (.inl ⟨h, l, r, b, u, t, t2, hh, fun x hx => by rw [upd2_ne hx]; exact he x, by rw [upd2_self]; exact upd1_sin hl (he h), hb, hv⟩)⟩⟩
  · by_cases e : h' = h
    · subst e
      have hne : l' ≠ l := fun e => by subst e; rw [hs.2.1] at hg; cases hg
      refine ⟨_, _, _, _, pil1_tell w a pa p h' l l' t2 t3 tt t t' (.bytes b' u') (.bytes b u) hl hs.1 hne, by omega, by omega, ⟨rfl, ha, hp, hpa⟩, ?_⟩
      rintro n' r2 ⟨g1, fork, k1, k2, u3, t4, hx, hbr, hk1, hk2⟩
      refine ⟨g1, .inr (.inr (.inl ⟨h', t4, fork, hh', fun x hx => by rw [upd2_ne hx]; exact ho x hx, ?_, hx, ?_⟩))⟩
      · rw [upd2_self]; exact two_mk hne hs.1 hl (by rw [upd1_ne hne, hs.2.1]; simp) (by rw [upd1_self]; simp)
      · rw [upd2_self]
        exact ⟨_, u3, hbr, by simp, fun x hx => by have := hs.1; rw [upd1_ne (by omega), hs.2.2 x (by omega)], kids2 hne (fun z h1 h2 => by rw [upd1_ne h2, hs.2.2 z h1]) (.inr ⟨r', by rw [upd1_ne hne, hs.2.1], b', u', hb', hk1⟩) (.inr ⟨r, upd1_self, b, u, hb, hk2⟩)⟩
    · refine ⟨_, _, _, _, pil0_tell w a pa p h h' t t' tt [.int (l : Nat) t2] [.int (l' : Nat) t3] [l] [l'] (.bytes b' u') (.bytes b u) hh hh' e (by simp) (by simp) (.cons _ _ .nil) (.cons _ _ .nil), by omega, by omega, ⟨rfl, ha, hp, hpa⟩, ?_⟩
      rintro n' r2 ⟨g1, k1, k2, u3, hbr, hk1, hk2⟩
      have e1 : R1 (upd2 f h l r h') n' k1 := by rw [upd2_ne e]; exact .sin hs hb' hk1
      have e2 : R1 (upd2 f h l r h) n' k2 := by rw [upd2_self]; exact .sin (upd1_sin hl (ho h (fun e' => e e'.symm))) hb hk2
      refine ⟨g1, .inr (.inr (.inr ⟨two2_mk e hh' hh (by rw [upd2_ne e]; exact hs.ne) (by rw [upd2_self]; exact upd1_nemp), _, u3, hbr, by simp, fun x hx => by rw [upd2_ne (by omega)]; exact ho x (by omega), kids2R (fun z h1 h2 => by rw [upd2_ne h2]; exact ho z h1) e1 e2⟩))⟩
  · by_cases e : h' = h
    · subst e
      refine ⟨_, _, _, _, pie1_tell w a pa p h' t t' tt [.int (l : Nat) t2] [l] c (.bytes b u) (by simp) (.cons _ _ .nil) 11 100 (fun n => B1 (f h') n c) (B1 (upd1 (f h') l r)) (fun _ _ s => B1.sb (.of s)) (fun _ _ _ s => B1.sb (.of s)) (fun pa' => putB1 hb hl hg c pa' t2), by omega, by omega, ⟨rfl, ha, hp, hpa, hc⟩, ?_⟩
      rintro n' r2 ⟨g1, kid, hx, hkid⟩
      exact ⟨g1, .inr (.inr (.inl ⟨h', t', kid, hh', fun x hx => by rw [upd2_ne hx]; exact ho x hx, by rw [upd2_self]; exact htw.upd, hx, by rw [upd2_self]; exact hkid⟩))⟩
    · refine ⟨_, _, _, _, pie0_tell w a pa p h h' t t' tt [.int (l : Nat) t2] [l] c (.bytes b u) hh hh' e (by simp) (.cons _ _ .nil), by omega, by omega, ⟨rfl, ha, hp, hpa⟩, ?_⟩
      rintro n' r2 ⟨g1, k2, u3, hbr, hk2⟩
      have e1 : R1 (upd2 f h l r h') n' c := by rw [upd2_ne e]; exact .inr (.inr ⟨htw, hc.sb (.of g1.sub)⟩)
      have e2 : R1 (upd2 f h l r h) n' k2 := by rw [upd2_self]; exact .sin (upd1_sin hl (ho h (fun e' => e e'.symm))) hb hk2
      refine ⟨g1, .inr (.inr (.inr ⟨two2_mk e hh' hh (by rw [upd2_ne e]; exact htw.ne) (by rw [upd2_self]; exact upd1_nemp), _, u3, hbr, by simp, fun x hx => by rw [upd2_ne (by omega)]; exact ho x (by omega), kids2R (fun z h1 h2 => by rw [upd2_ne h2]; exact ho z h1) e1 e2⟩))⟩
  · have hkv : kids[h]? = some (kids[h]'(by omega)) := List.getElem?_eq_getElem (by omega)
    refine ⟨_, _, _, _, pibr_tell w a k pa kids (.bytes #[] u') _ (.bytes b u) h t tt [.int (l : Nat) t2] hh hlen (by simp) hkv 11 100 (fun n => R1 (f h) n _) (R1 (upd1 (f h) l r)) (fun _ _ s => R1.sb (.of s)) (fun _ _ _ s => R1.sb (.of s)) (fun pa' => put1 hb hl hg _ pa' t2), by omega, by omega, ⟨rfl, ha, hk, hpa, hkids _ _ hkv⟩, ?_⟩
    rintro n' r2 ⟨g1, kid, hbr, hkid⟩
    refine ⟨g1, .inr (.inr (.inr ⟨?_, _, u', hbr, by rw [List.length_set, hlen], fun x hx => by rw [upd2_ne (by omega)]; exact hhi x hx, fun x k hxk => ?_⟩))⟩
    · obtain ⟨i, j, h1, h2, h3, h4⟩ := htw
      refine ⟨i, j, h1, h2, ?_, ?_⟩ <;> (unfold upd2; split) <;> first | assumption | exact upd1_nemp
    · rcases set_some hxk with ⟨rfl, rfl⟩ | ⟨h1, h2⟩
      · rw [upd2_self]; exact hkid
      · rw [upd2_ne h1]; exact (hkids x k h2).sb (.of g1.sub)
/-- taking out of a branch what is not there -/
theorem takeB1 {g : M1} {l : Nat} (hl : l < 16) (hg : g l = none) (h2 : Two1 g) (v : Value) (pa : Addr) (t : Tok) :
   Tell w 154 8 72 (fun news vs => vs = [v, .ref pa] ∧ (pa, tupO [.int (l : Nat) t]) ∈ news ∧ B1 g news v) (fun news _ news' r' => Grow news news' ∧ B1 g news' r') := by
  refine Tell.pick ?_
  rintro news vs ⟨rfl, hpa, kids, u2, ⟨a, k, t2, rfl, ha, hk⟩, hlen, hhi, hkids⟩
  have hkv : kids[l]? = some .none := by
    have h1 : kids[l]? = some (kids[l]'(by omega)) := List.getElem?_eq_getElem (by omega)
    rcases hkids l _ h1 with ⟨_, e⟩ | ⟨r', e, _⟩
    · rw [h1, e]
    · rw [hg] at e; cases e
  have hset : kids.set l .none = kids := by
    apply List.ext_getElem?
    intro i
    by_cases e : l = i
    · subst e; rw [List.getElem?_set_self (by omega), hkv]
    · rw [List.getElem?_set_ne e]
  refine ⟨_, _, _, _, tb_tell w a k pa kids .none l t t2 u2 [] hl hlen (by simp) hkv 3 24 (fun _ => True) (fun _ v => v = .none) (fun _ _ _ h => h) (fun _ _ _ _ h => h) ?_ (fun pa' => (tn_tell w pa').conv (Nat.le_refl _) (Nat.le_refl _) (fun _ _ h => h.1) fun n v n' r h q => ⟨q.1 ▸ Grow.refl, q.2⟩), by omega, by omega, ⟨rfl, ha, hk, hpa, trivial⟩, ?_⟩
  · rintro n kid rfl
    rw [hset]
    obtain ⟨i, j, hij, hj, hi1, hj1⟩ := h2
    have e1 : kids[i]? = some (kids[i]'(by omega)) := List.getElem?_eq_getElem (by omega)
    have e2 : kids[j]? = some (kids[j]'(by omega)) := List.getElem?_eq_getElem (by omega)
    obtain ⟨x, hx⟩ := (hkids i _ e1).ref hi1
    obtain ⟨y, hy⟩ := (hkids j _ e2).ref hj1
    refine ⟨⟨i, j, x, y, hij, hj, by rw [e1, hx], by rw [e2, hy]⟩, fun v hv => ?_⟩
    obtain ⟨n, hn⟩ := List.mem_iff_getElem?.mp hv
    exact (hkids n v hn).nr
  · rintro n' r' ⟨g1, kid, u3, hbr, rfl⟩
    rw [hset] at hbr
    exact ⟨g1, kids, u3, hbr, hlen, hhi, fun x k h => (hkids x k h).sb (.of g1.sub)⟩
theorem take1 {g : M1} {l : Nat} (hl : l < 16) (hg : g l = none) (v : Value) (pa : Addr) (t : Tok) :
   Tell w 154 8 72 (fun news vs => vs = [v, .ref pa] ∧ (pa, tupO [.int (l : Nat) t]) ∈ news ∧ R1 g news v) (fun news _ news' r' => Grow news news' ∧ R1 g news' r') := by
  refine Tell.pick ?_
  rintro news vs ⟨rfl, hpa, ⟨he, rfl⟩ | ⟨l', r', b', u', t', ⟨hl', hs1, hs2⟩, hb', a, p, tt, rfl, ha, hp⟩ | ⟨h2, hB⟩⟩
  · exact ⟨_, _, _, _, tn_tell w pa, by omega, by omega, rfl, fun n' r ⟨e, e2⟩ => by subst e; exact ⟨Grow.refl, .inl ⟨he, e2⟩⟩⟩
  · have hne : l' ≠ l := fun e => by subst e; rw [hg] at hs1; cases hs1
    refine ⟨_, _, _, _, tl_tell w a p pa [.int (l' : Nat) t'] [.int (l : Nat) t] [(l' : Int)] [(l : Int)] tt (.bytes b' u') (.cons _ _ .nil) (.cons _ _ .nil) (fun e => hne (by injection e with e; omega)), by omega, by omega, ⟨rfl, ha, hp, hpa⟩, fun n' r ⟨e, e2⟩ => ?_⟩
    subst e
    exact ⟨Grow.refl, .inr (.inl ⟨l', r', b', u', t', ⟨hl', hs1, hs2⟩, hb', a, p, tt, e2, ha, hp⟩)⟩
  · exact ⟨_, _, _, _, takeB1 hl hg h2 v pa t, by omega, by omega, ⟨rfl, hpa, hB⟩, fun n' r' ⟨g1, h⟩ => ⟨g1, .inr (.inr ⟨h2, h⟩)⟩⟩
theorem take2 {f : M2} {h l : Nat} (hh : h < 16) (hl : l < 16) (hg : f h l = none) (v : Value) (pa : Addr) (t t2 : Tok) :
   Tell w 154 20 200 (fun news vs => vs = [v, .ref pa] ∧ (pa, tupO [.int (h : Nat) t, .int (l : Nat) t2]) ∈ news ∧ R2 f news v) (fun news _ news' r' => Grow news news' ∧ R2 f news' r') := by
  refine Tell.pick ?_
  rintro news vs ⟨rfl, hpa, ⟨he, rfl⟩ | ⟨h', l', r', b', u', t', t3, hh', ho, hs, hb', a, p, tt, rfl, ha, hp⟩ | ⟨h', t', c, hh', ho, htw, ⟨a, p, tt, rfl, ha, hp⟩, hc⟩ | ⟨htw, kids, u', ⟨a, k, tt, rfl, ha, hk⟩, hlen, hhi, hkids⟩⟩
  · exact ⟨_, _, _, _, tn_tell w pa, by omega, by omega, rfl, fun n' r ⟨e, e2⟩ => by subst e; exact ⟨Grow.refl, .inl ⟨he, e2⟩⟩⟩
  · have hne : ¬ (h' = h ∧ l' = l) := fun ⟨e1, e2⟩ => by subst e1 e2; rw [hs.2.1] at hg; cases hg
    refine ⟨_, _, _, _, tl_tell w a p pa [.int (h' : Nat) t', .int (l' : Nat) t3] [.int (h : Nat) t, .int (l : Nat) t2] [(h' : Int), (l' : Int)] [(h : Int), (l : Int)] tt (.bytes b' u') (.cons _ _ (.cons _ _ .nil)) (.cons _ _ (.cons _ _ .nil)) (fun e => hne (by injection e with e1 e; injection e with e e3; omega)), by omega, by omega, ⟨rfl, ha, hp, hpa⟩, fun n' r ⟨e, e2⟩ => ?_⟩
    subst e
    exact ⟨Grow.refl, .inr (.inl ⟨h', l', r', b', u', t', t3, hh', ho, hs, hb', a, p, tt, e2, ha, hp⟩)⟩
  · by_cases e : h' = h
    · subst e
      refine ⟨_, _, _, _, te1_tell w a p pa h' t t' tt (.int (l : Nat) t2) [] c (by simp) 8 72 (fun n => B1 (f h') n c) (B1 (f h')) (fun _ _ s => B1.sb (.of s)) (fun _ _ _ s => B1.sb (.of s)) (fun n v ⟨_, u3, ⟨x, k3, t3, h1, h2, _⟩, _⟩ => ⟨x, .ref k3, .bytes #[] u3, t3, h1, h2⟩) (fun pa' => takeB1 hl hg htw c pa' t2), by omega, by omega, ⟨rfl, ha, hp, hpa, hc⟩, ?_⟩
      rintro n' r2 ⟨g1, kid, hx, hkid⟩
      exact ⟨g1, .inr (.inr (.inl ⟨h', t', kid, hh', ho, htw, hx, hkid⟩))⟩
    · refine ⟨_, _, _, _, te0_tell w a p pa h h' t t' tt (.int (l : Nat) t2) [] c e (by simp), by omega, by omega, ⟨rfl, ha, hp, hpa⟩, fun n' r ⟨e1, e2⟩ => ?_⟩
      subst e1
      exact ⟨Grow.refl, .inr (.inr (.inl ⟨h', t', c, hh', ho, htw, ⟨a, p, tt, e2, ha, hp⟩, hc⟩))⟩
  · have hkv : kids[h]? = some (kids[h]'(by omega)) := List.getElem?_eq_getElem (by omega)
    refine ⟨_, _, _, _, tb_tell w a k pa kids _ h t tt u' [.int (l : Nat) t2] hh hlen (by simp) hkv 8 72 (fun n => R1 (f h) n _) (R1 (f h)) (fun _ _ s => R1.sb (.of s)) (fun _ _ _ s => R1.sb (.of s)) ?_ (fun pa' => take1 hl hg _ pa' t2), by omega, by omega, ⟨rfl, ha, hk, hpa, hkids _ _ hkv⟩, ?_⟩
    · intro n kid hkid
      obtain ⟨i, j, hij, hj, hi1, hj1⟩ := htw
      have hall : ∀ i, i < 16 → ∃ v n, (kids.set h kid)[i]? = some v ∧ R1 (f i) n v := fun i hi => by
        by_cases e : h = i
        · subst e; exact ⟨kid, n, List.getElem?_set_self (by omega), hkid⟩
        · exact ⟨kids[i]'(by omega), news, by rw [List.getElem?_set_ne e, List.getElem?_eq_getElem], hkids _ _ (List.getElem?_eq_getElem (by omega))⟩
      obtain ⟨v1, n1, e1, q1⟩ := hall i (by omega)
      obtain ⟨v2, n2, e2, q2⟩ := hall j hj
      obtain ⟨x, rfl⟩ := q1.ref hi1
      obtain ⟨y, rfl⟩ := q2.ref hj1
      refine ⟨⟨i, j, x, y, hij, hj, e1, e2⟩, fun v hv => ?_⟩
      obtain ⟨m, hm⟩ := List.mem_iff_getElem?.mp hv
      have hm16 : m < 16 := by have := (List.getElem?_eq_some_iff.mp hm).1; rw [List.length_set] at this; omega
      obtain ⟨v3, n3, e3, q3⟩ := hall m hm16
      rw [hm] at e3
      obtain rfl := Option.some.inj e3
      exact q3.nr
    · rintro n' r2 ⟨g1, kid, u3, hbr, hkid⟩
      refine ⟨g1, .inr (.inr (.inr ⟨htw, _, u3, hbr, by rw [List.length_set, hlen], hhi, fun x k hxk => ?_⟩))⟩
      rcases set_some hxk with ⟨rfl, rfl⟩ | ⟨h1, h2⟩
      · exact hkid
      · exact (hkids x k h2).sb (.of g1.sub)
end
end
section
/-! the encodings -/
def E0 (r : Row) (_ : List (List UInt8)) (e : List UInt8) : Prop := e = encL (encB (pk [] true) ++ encB r)
def EK0 (g : M1) (l : Nat) (ds : List (List UInt8)) (i : List UInt8) : Prop := (g l = none ∧ i = encB []) ∨ ∃ r, g l = some r ∧ Told (E0 r) ds i
def EB1 (g : M1) (ds : List (List UInt8)) (e : List UInt8) : Prop := FormB (EK0 g) ds e
def E1 (g : M1) (ds : List (List UInt8)) (e : List UInt8) : Prop :=
  (∃ l r, Sin1 g l r ∧ e = encL (encB (pk [l] true) ++ encB r)) ∨ (Two1 g ∧ EB1 g ds e)
def EK1 (f : M2) (h : Nat) (ds : List (List UInt8)) (i : List UInt8) : Prop := (Emp1 (f h) ∧ i = encB []) ∨ (¬ Emp1 (f h) ∧ Told (E1 (f h)) ds i)
def E2 (f : M2) (ds : List (List UInt8)) (e : List UInt8) : Prop :=
  ((∀ h, Emp1 (f h)) ∧ e = encB []) ∨ (∃ h l r, h < 16 ∧ (∀ x, x ≠ h → Emp1 (f x)) ∧ Sin1 (f h) l r ∧ e = encL (encB (pk [h, l] true) ++ encB r)) ∨
  (∃ h i, h < 16 ∧ (∀ x, x ≠ h → Emp1 (f x)) ∧ Two1 (f h) ∧ Told (EB1 (f h)) ds i ∧ e = encL (encB (pk [h] false) ++ i)) ∨ (Two2 f ∧ (∀ h, 16 ≤ h → Emp1 (f h)) ∧ FormB (EK1 f) ds e)
/-! they stand when the digest learns more -/
theorem Told.mono {F : List (List UInt8) → List UInt8 → Prop} (mF : ∀ ds ds' e, ds <+: ds' → F ds e → F ds' e) {ds ds' : List (List UInt8)} {i : List UInt8} (hp : ds <+: ds') (h : Told F ds i) : Told F ds' i := by
  obtain ⟨e, h1, h2⟩ := h
  refine ⟨e, mF _ _ _ hp h1, h2.imp id ?_⟩
  rintro ⟨h3, h4, h5⟩
  obtain ⟨t, rfl⟩ := hp
  exact ⟨h3, List.mem_append.mpr (.inl h4), by rw [numOf_pre h4]; exact h5⟩
theorem FormB.mono {FF : Nat → List (List UInt8) → List UInt8 → Prop} (mF : ∀ i ds ds' e, ds <+: ds' → FF i ds e → FF i ds' e) {ds ds' : List (List UInt8)} {e : List UInt8} (hp : ds <+: ds') : FormB FF ds e → FormB FF ds' e :=
  fun ⟨es, h1, h2, h3⟩ => ⟨es, h1, fun i e h => mF _ _ _ _ hp (h2 i e h), h3⟩
theorem E0.mono (r : Row) (ds ds' e) (_ : ds <+: ds') (h : E0 r ds e) : E0 r ds' e := h
theorem EK0.mono (g : M1) (l : Nat) (ds ds' e) (hp : ds <+: ds') (h : EK0 g l ds e) : EK0 g l ds' e := h.imp id fun ⟨r, h1, h2⟩ => ⟨r, h1, h2.mono (E0.mono r) hp⟩
theorem EB1.mono (g : M1) (ds ds' e) (hp : ds <+: ds') (h : EB1 g ds e) : EB1 g ds' e := FormB.mono (EK0.mono g) hp h
theorem E1.mono (g : M1) (ds ds' e) (hp : ds <+: ds') (h : E1 g ds e) : E1 g ds' e := h.imp id (And.imp id (EB1.mono g _ _ _ hp))
theorem EK1.mono (f : M2) (l : Nat) (ds ds' e) (hp : ds <+: ds') (h : EK1 f l ds e) : EK1 f l ds' e := h.imp id (And.imp id fun h => h.mono (E1.mono _) hp)
theorem E2.mono (f : M2) (ds ds' e) (hp : ds <+: ds') (h : E2 f ds e) : E2 f ds' e :=
  Or.imp id (Or.imp id (Or.imp (fun ⟨h, i, h1, h2, h3, h4, h5⟩ => ⟨h, i, h1, h2, h3, h4.mono (EB1.mono _) hp, h5⟩) (And.imp id (And.imp id (FormB.mono (EK1.mono f) hp))))) h
/-! their lengths -/
theorem encB_length (b : List UInt8) : (encB b).length ≤ b.length + 3 := by
  unfold encB; split
  · omega
  · have := hdR_length 128 b.length; simp; omega
theorem encL_length (b : List UInt8) : (encL b).length ≤ b.length + 3 := by
  unfold encL
  have := hdR_length 192 b.length; simp; omega
theorem pk_length (l : List Nat) (b : Bool) : (pk l b).length ≤ 2 := by unfold pk; split <;> simp
theorem encB_dig (n : Nat) : (encB (dig n)).length = 33 := by
  unfold encB
  rw [if_neg (by rw [dig_len]; omega), dig_len]
  simp [hdR, dig_len]
theorem Told.length {F : List (List UInt8) → List UInt8 → Prop} {ds : List (List UInt8)} {i : List UInt8} (h : Told F ds i) : i.length ≤ 33 := by
  obtain ⟨e, _, ⟨h1, rfl⟩ | ⟨_, _, rfl⟩⟩ := h
  · omega
  · rw [encB_dig]; exact Nat.le_refl _
theorem flat_length : ∀ {es : List (List UInt8)}, (∀ e ∈ es, e.length ≤ 33) → es.flatten.length ≤ 33 * es.length
  | [], _ => by simp
  | a :: r, h => by
    have := flat_length fun e he => h e (.tail _ he)
    have := h a (.head _)
    simp only [List.flatten_cons, List.length_append, List.length_cons]; omega
theorem FormB.length {FF : Nat → List (List UInt8) → List UInt8 → Prop} {ds : List (List UInt8)} {e : List UInt8} (hF : ∀ i e, FF i ds e → e.length ≤ 33) (h : FormB FF ds e) : e.length ≤ 600 := by
  obtain ⟨es, h1, h2, rfl⟩ := h
  have := flat_length (es := es ++ [encB []]) (fun e he => by
    rcases List.mem_append.mp he with he | he
    · obtain ⟨i, hi⟩ := List.mem_iff_getElem?.mp he
      exact hF i e (h2 i e hi)
    · rw [List.mem_singleton.mp he]; decide)
  have := encL_length (es ++ [encB []]).flatten
  simp only [List.length_append, List.length_cons, List.length_nil] at *
  omega
theorem EK0.length {g : M1} {ds i e} (h : EK0 g i ds e) : e.length ≤ 33 := h.elim (fun h => by rw [h.2]; decide) fun ⟨_, _, h⟩ => h.length
theorem EK1.length {g : M2} {ds i e} (h : EK1 g i ds e) : e.length ≤ 33 := h.elim (fun h => by rw [h.2]; decide) fun ⟨_, h⟩ => h.length
theorem two_length (p r : List UInt8) (hp : p.length ≤ 2) (hr : r.length ≤ 100) : (encL (encB p ++ encB r)).length ≤ 4000 := by
  have := encB_length p
  have := encB_length r
  have := encL_length (encB p ++ encB r)
  simp only [List.length_append] at this
  omega
def Sm1 (g : M1) : Prop := ∀ l r, g l = some r → r.length ≤ 100
def Sm2 (f : M2) : Prop := ∀ h, Sm1 (f h)
theorem E0.length {r : Row} {ds e} (hr : r.length ≤ 100) (h : E0 r ds e) : e.length ≤ 4000 := by
  rw [h]; exact two_length _ _ (pk_length _ _) hr
theorem EB1.length {g : M1} {ds e} (h : EB1 g ds e) : e.length ≤ 4000 := Nat.le_trans (FormB.length (fun _ _ h => h.length) h) (by omega)
theorem E1.length {g : M1} {ds e} (hg : Sm1 g) (h : E1 g ds e) : e.length ≤ 4000 := by
  obtain ⟨l, r, h1, rfl⟩ | ⟨_, h⟩ := h
  · exact two_length _ _ (pk_length _ _) (hg _ _ h1.2.1)
  · exact h.length
theorem E2.length {f : M2} {ds e} (hf : Sm2 f) (h : E2 f ds e) : e.length ≤ 4000 := by
  obtain ⟨_, rfl⟩ | ⟨h, l, r, _, _, h1, rfl⟩ | ⟨h, i, _, _, _, h2, rfl⟩ | ⟨_, _, h⟩ := h
  · decide
  · exact two_length _ _ (pk_length _ _) (hf _ _ _ h1.2.1)
  · have := h2.length
    have := encB_length (pk [h] false)
    have := pk_length [h] false
    have := encL_length (encB (pk [h] false) ++ i)
    simp only [List.length_append] at this
    omega
  · exact Nat.le_trans (FormB.length (fun _ _ h => h.length) h) (by omega)
/-! the forms told -/
section
variable (w : World) (dg kd : Addr)
theorem bz {b : Array UInt8} {r : Row} (hb : b.toList = r) (hr : r.length ≤ 100) : b.size ≤ 600 := by
  subst hb
  rw [Array.length_toList] at hr
  omega
theorem f0_tell {r : Row} (hr : r.length ≤ 100) : Tells w 182 8 96 dg kd 0 1 (R0 r) (E0 r) := by
  refine Tells.pick fun base v ⟨b, u, hb, hv⟩ => ?_
  exact ⟨_, _, _, _, _, _, fl_tell w dg kd [] (pk [] true) b u (bz hb hr) (by have := pk_length [] true; omega) (fun a => pk0_tell w a), by omega, by omega, by omega, by omega, hv, fun ds e h => by rw [E0, h, hb]⟩
theorem n0_tell {r : Row} (hr : r.length ≤ 100) : Tells w 189 11 120 dg kd 1 1 (R0 r) (Told (E0 r)) :=
  ni_tell w 8 96 dg kd 0 1 (R0 r) (E0 r) (by omega) (by omega) (by omega) (fun _ _ h => h.length hr) (E0.mono r) (f0_tell w dg kd hr)
theorem b1_tell {g : M1} (hg : Sm1 g) : Tells w 182 14 168 dg kd 16 2 (B1 g) (EB1 g) := by
  refine Tells.pick fun base v ⟨kids, u, h1, h2, h3, h4⟩ => ?_
  refine ⟨_, _, _, _, _, _, fb_tell w 11 120 dg kd 1 1 (fun l base v => ∃ r, g l = some r ∧ R0 r base v) (EK0 g) (EK0.mono g) (by omega) (by omega) (fun i hi => ?_), by omega, by omega, by omega, by omega, ⟨kids, u, h1, h2, fun i v hv => ?_⟩, fun ds e h => h⟩
  · refine Tells.pick fun base v ⟨r, hr, hv⟩ => ?_
    exact ⟨_, _, _, _, _, _, n0_tell w dg kd (hg _ _ hr), by omega, by omega, by omega, by omega, hv, fun ds e h => .inr ⟨r, hr, h⟩⟩
  · rcases h4 i v hv with ⟨e1, e2⟩ | ⟨r, e1, e2⟩
    · exact .inl ⟨e2, fun _ => .inl ⟨e1, rfl⟩⟩
    · exact .inr ⟨e2.ref, r, e1, e2⟩
theorem f1_tell {g : M1} (hg : Sm1 g) (hne : ¬ Emp1 g) : Tells w 182 14 168 dg kd 16 2 (R1 g) (E1 g) := by
  refine Tells.pick fun base v hv => ?_
  rcases hv with ⟨e, _⟩ | ⟨l, r, b, u, t, h1, h2, h3⟩ | ⟨h1, h2⟩
  · exact absurd e hne
  · exact ⟨_, _, _, _, _, _, fl_tell w dg kd [.int (l : Nat) t] (pk [l] true) b u (bz h2 (hg _ _ h1.2.1)) (by have := pk_length [l] true; omega) (fun a => pk1_tell w a l h1.1 t), by omega, by omega, by omega, by omega, h3, fun ds e h => .inl ⟨l, r, h1, by rw [h, h2]⟩⟩
  · exact ⟨_, _, _, _, _, _, b1_tell w dg kd hg, by omega, by omega, by omega, by omega, h2, fun ds e h => .inr ⟨h1, h⟩⟩
theorem f2_tell {f : M2} (hf : Sm2 f) : Tells w 182 20 240 dg kd 272 3 (R2 f) (E2 f) := by
  refine Tells.pick fun base v hv => ?_
  rcases hv with ⟨he, rfl⟩ | ⟨h, l, r, b, u, t, t', hh, ho, hs, hb, h3⟩ | ⟨h, t, c, hh, ho, htw, hx, hc⟩ | ⟨htw, kids, u, h1, h2, h3, h4⟩
  · exact ⟨_, _, _, _, _, _, fn_tell w dg kd, by omega, by omega, by omega, by omega, rfl, fun ds e h => .inl ⟨he, h⟩⟩
  · exact ⟨_, _, _, _, _, _, fl_tell w dg kd [.int (h : Nat) t, .int (l : Nat) t'] (pk [h, l] true) b u (bz hb (hf _ _ _ hs.2.1)) (by have := pk_length [h, l] true; omega) (fun a => pk2_tell w a h l hh hs.1 t t'), by omega, by omega, by omega, by omega, h3, fun ds e h' => .inr (.inl ⟨h, l, r, hh, ho, hs, by rw [h', hb]⟩)⟩
  · refine ⟨_, _, _, _, _, _, fe_tell w 17 192 dg kd 17 2 (B1 (f h)) (Told (EB1 (f h))) [.int (h : Nat) t] (pk [h] false) (by have := pk_length [h] false; omega) (by omega) (by omega) (fun a => pkE_tell w a h hh t) (ni_tell w 14 168 dg kd 16 2 (B1 (f h)) (EB1 (f h)) (by omega) (by omega) (by omega) (fun _ _ h => h.length) (EB1.mono _) (b1_tell w dg kd (hf h))), by omega, by omega, by omega, by omega, ⟨c, hx, hc⟩, ?_⟩
    rintro ds e ⟨i, hi, rfl⟩
    exact .inr (.inr (.inl ⟨h, i, hh, ho, htw, hi, rfl⟩))
  · refine ⟨_, _, _, _, _, _, fb_tell w 17 192 dg kd 17 2 (fun h base v => ¬ Emp1 (f h) ∧ R1 (f h) base v) (EK1 f) (EK1.mono f) (by omega) (by omega) (fun i hi => ?_), by omega, by omega, by omega, by omega, ⟨kids, u, h1, h2, fun i v hv => ?_⟩, fun ds e h => .inr (.inr (.inr ⟨htw, h3, h⟩))⟩
    · refine Tells.pick fun base v ⟨hne, hv⟩ => ?_
      exact ⟨_, _, _, _, _, _, ni_tell w 14 168 dg kd 16 2 (R1 (f i)) (E1 (f i)) (by omega) (by omega) (by omega) (fun _ _ h => h.length (hf i)) (E1.mono _) (f1_tell w dg kd (hf i) hne), by omega, by omega, by omega, by omega, hv, fun ds e h => .inr ⟨hne, h⟩⟩
    · by_cases he : Emp1 (f i)
      · rcases h4 i v hv with ⟨_, e⟩ | ⟨l, r, b, u, t, h5, _⟩ | ⟨h5, _⟩
        · exact .inl ⟨e, fun _ => .inl ⟨he, rfl⟩⟩
        · exact absurd he h5.ne
        · exact absurd he h5.ne
      · exact .inr ⟨(h4 i v hv).ref he, he, h4 i v hv⟩
end
end
section
noncomputable def b0 (r : List UInt8) : Nat := (r.getD 0 0).toNat
noncomputable def b1 (r : List UInt8) : Nat := (r.getD 1 0).toNat
/-- how long the first item of a row of octets is -/
noncomputable def ilen : List UInt8 → Nat
  | [] => 0
  | c :: r => if c.toNat < 128 then 1 else if c.toNat ≤ 183 then 1 + (c.toNat - 128) else if c.toNat = 184 then 2 + b0 r else if c.toNat < 192 then 3 + (b0 r * 256 + b1 r)
    else if c.toNat ≤ 247 then 1 + (c.toNat - 192) else if c.toNat = 248 then 2 + b0 r else 3 + (b0 r * 256 + b1 r)
theorem u8 {n : Nat} (h : n < 256) : n.toUInt8.toNat = n := by simp; omega
theorem hdR_cases (low n : Nat) : (n ≤ 55 ∧ hdR low n = [(low + n).toUInt8]) ∨ (55 < n ∧ n < 256 ∧ hdR low n = [(low + 56).toUInt8, n.toUInt8]) ∨ (256 ≤ n ∧ hdR low n = [(low + 57).toUInt8, (n / 256).toUInt8, (n % 256).toUInt8]) := by
  unfold hdR
  by_cases h : n ≤ 55
  · exact .inl ⟨h, by rw [if_pos h]⟩
  · rw [if_neg h]
    by_cases h2 : n < 256
    · refine .inr (.inl ⟨by omega, h2, ?_⟩)
      unfold beN
      rw [if_neg (by omega), if_pos h2]; rfl
    · refine .inr (.inr ⟨by omega, ?_⟩)
      unfold beN
      rw [if_neg (by omega), if_neg h2]; rfl
theorem ilen_hd {low n : Nat} (hl : low = 128 ∨ low = 192) (hn : n < 65536) (s : List UInt8) : ilen (hdR low n ++ s) = (hdR low n).length + n := by
  rcases hdR_cases low n with ⟨h, e⟩ | ⟨h, h2, e⟩ | ⟨h, e⟩ <;> rw [e]
  · have e1 := u8 (n := low + n) (by omega)
    simp only [List.cons_append, List.nil_append, ilen, e1, List.length_cons, List.length_nil]
    split <;> (try omega)
    split <;> (try omega)
    split <;> (try omega)
    split <;> (try omega)
    split <;> omega
  · have e1 := u8 (n := low + 56) (by omega)
    have e2 := u8 h2
    have e3 : b0 (n.toUInt8 :: s) = n := e2
    simp only [List.cons_append, List.nil_append, ilen, e1, e3, List.length_cons, List.length_nil]
    rcases hl with rfl | rfl <;> simp <;> omega
  · have e1 := u8 (n := low + 57) (by omega)
    have e2 := u8 (n := n / 256) (by omega)
    have e3 := u8 (n := n % 256) (by omega)
    have e4 : b0 ((n / 256).toUInt8 :: (n % 256).toUInt8 :: s) = n / 256 := e2
    have e5 : b1 ((n / 256).toUInt8 :: (n % 256).toUInt8 :: s) = n % 256 := e3
    simp only [List.cons_append, List.nil_append, ilen, e1, e4, e5, List.length_cons, List.length_nil]
    rcases hl with rfl | rfl <;> simp <;> omega
/-- an encoding -/
def IsEnc (x : List UInt8) : Prop := (∃ b : List UInt8, b.length < 65536 ∧ x = encB b) ∨ ∃ b : List UInt8, b.length < 65536 ∧ x = encL b
theorem IsEnc.ilen {x : List UInt8} (h : IsEnc x) (s : List UInt8) : Mine.ilen (x ++ s) = x.length := by
  rcases h with ⟨b, hb, rfl⟩ | ⟨b, hb, rfl⟩
  · unfold encB
    split
    · rename_i h
      obtain ⟨h1, h2⟩ := h
      obtain ⟨c, rfl⟩ := List.length_eq_one_iff.mp h1
      have h2 : c.toNat < 128 := h2
      simp [Mine.ilen, h2]
    · rw [List.append_assoc, ilen_hd (.inl rfl) hb, List.length_append]
  · unfold encL
    rw [List.append_assoc, ilen_hd (.inr rfl) hb, List.length_append]
theorem hdR_pos (low n : Nat) : 1 ≤ (hdR low n).length := by
  rcases hdR_cases low n with ⟨h, e⟩ | ⟨h, h2, e⟩ | ⟨h, e⟩ <;> rw [e] <;> simp
theorem IsEnc.pos {x : List UInt8} (h : IsEnc x) : 1 ≤ x.length := by
  rcases h with ⟨b, hb, rfl⟩ | ⟨b, hb, rfl⟩
  · unfold encB
    split
    · omega
    · have := hdR_pos 128 b.length
      simp; omega
  · unfold encL
    have := hdR_pos 192 b.length
    simp; omega
theorem IsEnc.cut {x y s t : List UInt8} (hx : IsEnc x) (hy : IsEnc y) (h : x ++ s = y ++ t) : x = y ∧ s = t := by
  have h1 := hx.ilen s
  rw [h, hy.ilen t] at h1
  exact List.append_inj h h1.symm
theorem flat_inj : ∀ {xs ys : List (List UInt8)}, (∀ x ∈ xs, IsEnc x) → (∀ y ∈ ys, IsEnc y) → xs.flatten = ys.flatten → xs = ys
  | [], [], _, _, _ => rfl
  | [], y :: ys, _, hy, h => by
    have := (hy y (.head _)).pos
    have h2 := congrArg List.length h
    simp only [List.flatten_nil, List.flatten_cons, List.length_nil, List.length_append] at h2
    omega
  | x :: xs, [], hx, _, h => by
    have := (hx x (.head _)).pos
    have h2 := congrArg List.length h
    simp only [List.flatten_nil, List.flatten_cons, List.length_nil, List.length_append] at h2
    omega
  | x :: xs, y :: ys, hx, hy, h => by
    obtain ⟨e1, e2⟩ := (hx x (.head _)).cut (hy y (.head _)) h
    rw [e1, flat_inj (fun z hz => hx z (.tail _ hz)) (fun z hz => hy z (.tail _ hz)) e2]
theorem hdR_inj {low n m : Nat} {a b : List UInt8} (hl : low = 128 ∨ low = 192) (hn : a.length = n) (hm : b.length = m) (hn2 : n < 65536) (hm2 : m < 65536) (h : hdR low n ++ a = hdR low m ++ b) : a = b := by
  have h1 := ilen_hd hl hn2 a
  rw [h, ilen_hd hl hm2 b] at h1
  have e : n = m := by
    rcases hdR_cases low n with ⟨h2, e⟩ | ⟨h2, h3, e⟩ | ⟨h2, e⟩ <;> rw [e] at h1 <;> rcases hdR_cases low m with ⟨h4, e'⟩ | ⟨h4, h5, e'⟩ | ⟨h4, e'⟩ <;> rw [e'] at h1 <;> simp only [List.length_cons, List.length_nil] at h1 <;> omega
  subst e
  exact (List.append_inj h rfl).2
theorem encL_inj {a b : List UInt8} (ha : a.length < 65536) (hb : b.length < 65536) (h : encL a = encL b) : a = b := hdR_inj (.inr rfl) rfl rfl ha hb h
theorem hdR_head {low n : Nat} (hl : low = 128 ∨ low = 192) (s : List UInt8) : low ≤ b0 (hdR low n ++ s) ∧ b0 (hdR low n ++ s) < low + 64 := by
  rcases hdR_cases low n with ⟨h, e⟩ | ⟨h, h2, e⟩ | ⟨h, e⟩ <;> rw [e]
  · have e1 : b0 ([(low + n).toUInt8] ++ s) = low + n := u8 (by omega)
    omega
  · have e1 : b0 ([(low + 56).toUInt8, n.toUInt8] ++ s) = low + 56 := u8 (by omega)
    omega
  · have e1 : b0 ([(low + 57).toUInt8, (n / 256).toUInt8, (n % 256).toUInt8] ++ s) = low + 57 := u8 (by omega)
    omega
theorem encB_inj {a b : List UInt8} (ha : a.length < 65536) (hb : b.length < 65536) (h : encB a = encB b) : a = b := by
  unfold encB at h
  split at h <;> split at h
  · exact h
  · rename_i h1 h2
    obtain ⟨c, rfl⟩ := List.length_eq_one_iff.mp h1.1
    have := (hdR_head (n := b.length) (.inl rfl) b).1
    rw [← h] at this
    exact absurd h1.2 (Nat.not_lt.mpr this)
  · rename_i h1 h2
    obtain ⟨c, rfl⟩ := List.length_eq_one_iff.mp h2.1
    have := (hdR_head (n := a.length) (.inl rfl) a).1
    rw [h] at this
    exact absurd h2.2 (Nat.not_lt.mpr this)
  · exact hdR_inj (.inl rfl) rfl rfl ha hb h
theorem encBL {a b : List UInt8} (h : encB a = encL b) : False := by
  have h2 := (hdR_head (n := b.length) (.inr rfl) b).1
  unfold encB encL at h
  rw [← h] at h2
  split at h2
  · rename_i h3
    obtain ⟨c, rfl⟩ := List.length_eq_one_iff.mp h3.1
    have : c.toNat < 128 := h3.2
    have : 192 ≤ c.toNat := h2
    omega
  · have := (hdR_head (n := a.length) (.inl rfl) a).2
    omega
theorem isB {b : List UInt8} (h : b.length < 65536) : IsEnc (encB b) := .inl ⟨b, h, rfl⟩
theorem isL {b : List UInt8} (h : b.length < 65536) : IsEnc (encL b) := .inr ⟨b, h, rfl⟩
/-! lists of two -/
theorem two_inj {p q x y : List UInt8} (hp : p.length ≤ 2) (hq : q.length ≤ 2) (hx : IsEnc x) (hy : IsEnc y) (hx2 : x.length ≤ 600) (hy2 : y.length ≤ 600) (h : encL (encB p ++ x) = encL (encB q ++ y)) : p = q ∧ x = y := by
  have l1 := encB_length p
  have l2 := encB_length q
  have e := encL_inj (by rw [List.length_append]; omega) (by rw [List.length_append]; omega) h
  obtain ⟨e1, e2⟩ := (isB (by omega)).cut (isB (by omega)) e
  exact ⟨encB_inj (by omega) (by omega) e1, e2⟩
theorem formB_enc {FF : Nat → List (List UInt8) → List UInt8 → Prop} {ds : List (List UInt8)} (hF : ∀ i e, FF i ds e → IsEnc e ∧ e.length ≤ 33) {es : List (List UInt8)} (h2 : ∀ i e, es[i]? = some e → FF i ds e) (h1 : es.length = 16) :
   (∀ x ∈ es ++ [encB []], IsEnc x) ∧ (es ++ [encB []]).flatten.length < 65536 := by
  have ha : ∀ x ∈ es ++ [encB []], IsEnc x ∧ x.length ≤ 33 := fun e he => by
    rcases List.mem_append.mp he with he | he
    · obtain ⟨i, hi⟩ := List.mem_iff_getElem?.mp he
      exact hF i e (h2 i e hi)
    · rw [List.mem_singleton.mp he]; exact ⟨isB (by decide), by decide⟩
  refine ⟨fun x hx => (ha x hx).1, ?_⟩
  have := flat_length fun x hx => (ha x hx).2
  simp only [List.length_append, List.length_cons, List.length_nil] at this
  omega
theorem formB_inj {FF GG : Nat → List (List UInt8) → List UInt8 → Prop} {ds : List (List UInt8)} {e : List UInt8} (hF : ∀ i e, FF i ds e → IsEnc e ∧ e.length ≤ 33) (hG : ∀ i e, GG i ds e → IsEnc e ∧ e.length ≤ 33) (h : FormB FF ds e) (h' : FormB GG ds e) : ∀ i, i < 16 → ∃ x, FF i ds x ∧ GG i ds x := by
  obtain ⟨es, h1, h2, h3⟩ := h
  obtain ⟨es', h1', h2', h3'⟩ := h'
  obtain ⟨q1, q2⟩ := formB_enc hF h2 h1
  obtain ⟨q1', q2'⟩ := formB_enc hG h2' h1'
  have e1 := flat_inj q1 q1' (encL_inj q2 q2' (h3.symm.trans h3'))
  have e2 : es = es' := (List.append_inj e1 (by omega)).1
  subst e2
  intro i hi
  have e3 : es[i]? = some (es[i]'(by omega)) := List.getElem?_eq_getElem (by omega)
  exact ⟨_, h2 i _ e3, h2' i _ e3⟩
theorem formB_fun {FF : Nat → List (List UInt8) → List UInt8 → Prop} {ds : List (List UInt8)} {e e' : List UInt8} (hF : ∀ i x y, FF i ds x → FF i ds y → x = y) (h : FormB FF ds e) (h' : FormB FF ds e') : e = e' := by
  obtain ⟨es, h1, h2, rfl⟩ := h
  obtain ⟨es', h1', h2', rfl⟩ := h'
  have : es = es' := by
    apply List.ext_getElem (by omega)
    intro i hi hi'
    exact hF i _ _ (h2 i _ (List.getElem?_eq_getElem hi)) (h2' i _ (List.getElem?_eq_getElem hi'))
  rw [this]
theorem formB_two {FF : Nat → List (List UInt8) → List UInt8 → Prop} {ds : List (List UInt8)} {p x : List UInt8} (hF : ∀ i e, FF i ds e → IsEnc e ∧ e.length ≤ 33) (hp : p.length ≤ 2) (hx : IsEnc x) (hx2 : x.length ≤ 600) (h : FormB FF ds (encL (encB p ++ x))) : False := by
  obtain ⟨es, h1, h2, h3⟩ := h
  obtain ⟨q1, q2⟩ := formB_enc hF h2 h1
  have l1 := encB_length p
  have e := encL_inj (by rw [List.length_append]; omega) q2 h3
  have e2 : [encB p, x].flatten = (es ++ [encB []]).flatten := by rw [← e]; simp
  have e3 := congrArg List.length (flat_inj (fun y hy => by
    rcases List.mem_cons.mp hy with rfl | hy
    · exact isB (by omega)
    · rw [List.mem_singleton.mp hy]; exact hx) q1 e2)
  simp at e3
  omega
/-! what is told -/
theorem told_fun {F : List (List UInt8) → List UInt8 → Prop} {ds : List (List UInt8)} {i j : List UInt8} (hF : ∀ x y, F ds x → F ds y → x = y) (h : Told F ds i) (h' : Told F ds j) : i = j := by
  obtain ⟨e, h1, h2⟩ := h
  obtain ⟨e', h1', h2'⟩ := h'
  obtain rfl := hF _ _ h1 h1'
  rcases h2 with ⟨a, b⟩ | ⟨a, _, b⟩ <;> rcases h2' with ⟨a', b'⟩ | ⟨a', _, b'⟩
  · rw [b, b']
  · omega
  · omega
  · rw [b, b']
theorem dig_num {ds : List (List UInt8)} {e e' : List UInt8} (hd : ds.length ≤ 1000000) (h1 : e ∈ ds) (h2 : e' ∈ ds) (h : dig (numOf ds e) = dig (numOf ds e')) : e = e' := by
  have l1 := numOf_le h1
  have l2 := numOf_le h2
  exact numOf_inj h1 (dig_inj (by omega) (by omega) h)
theorem told_inj {F G : List (List UInt8) → List UInt8 → Prop} {ds : List (List UInt8)} {i : List UInt8} {Q : Prop} (hd : ds.length ≤ 1000000) (hF : ∀ x, F ds x → G ds x → Q) (h : Told F ds i) (h' : Told G ds i) : Q := by
  obtain ⟨e, h1, h2⟩ := h
  obtain ⟨e', h1', h2'⟩ := h'
  rcases h2 with ⟨a, rfl⟩ | ⟨a, m, b⟩ <;> rcases h2' with ⟨a', b'⟩ | ⟨a', m', b'⟩
  · exact hF _ h1 (b' ▸ h1')
  · rw [b', encB_dig] at a; omega
  · rw [← b', b, encB_dig] at a'; omega
  · rw [b] at b'
    have e1 := encB_inj (by rw [dig_len]; omega) (by rw [dig_len]; omega) b'
    have e2 := dig_num hd m m' e1
    exact hF _ h1 (e2 ▸ h1')
theorem told_enc {F : List (List UInt8) → List UInt8 → Prop} {ds : List (List UInt8)} {i : List UInt8} (hF : ∀ x, F ds x → IsEnc x) (h : Told F ds i) : IsEnc i ∧ i.length ≤ 33 := by
  refine ⟨?_, h.length⟩
  obtain ⟨e, h1, ⟨_, rfl⟩ | ⟨_, _, rfl⟩⟩ := h
  · exact hF _ h1
  · exact isB (by rw [dig_len]; omega)
theorem told_ne {F : List (List UInt8) → List UInt8 → Prop} {ds : List (List UInt8)} {i : List UInt8} (hF : ∀ x, F ds x → ∃ y, x = encL y) (h : Told F ds i) (e : i = encB []) : False := by
  obtain ⟨x, h1, ⟨_, rfl⟩ | ⟨_, _, h2⟩⟩ := h
  · obtain ⟨y, rfl⟩ := hF _ h1
    exact encBL e.symm
  · have := congrArg List.length (h2.symm.trans e)
    rw [encB_dig] at this
    cases this
/-! the levels -/
def Sp1 (g : M1) : Prop := ∀ l, 16 ≤ l → g l = none
theorem pk2 (l : List Nat) (b : Bool) : (pk l b).length ≤ 2 := pk_length l b
theorem rowB {r : Row} (hr : r.length ≤ 100) : IsEnc (encB r) ∧ (encB r).length ≤ 600 ∧ r.length < 65536 := by
  have h : List.length r ≤ 100 := hr
  have := encB_length r
  exact ⟨isB (Nat.lt_of_le_of_lt h (by decide)), Nat.le_trans this (by omega), Nat.lt_of_le_of_lt h (by decide)⟩
theorem two_enc {p x : List UInt8} (hp : p.length ≤ 2) (hx : x.length ≤ 600) : IsEnc (encL (encB p ++ x)) := by
  have := encB_length p
  exact isL (by rw [List.length_append]; omega)
theorem E0.enc {r : Row} {ds e} (hr : r.length ≤ 100) (h : E0 r ds e) : IsEnc e := by
  rw [h]; exact two_enc (pk2 _ _) (rowB hr).2.1
theorem E0.inj {r r' : Row} {ds e} (hr : r.length ≤ 100) (hr' : r'.length ≤ 100) (h : E0 r ds e) (h' : E0 r' ds e) : r = r' :=
  encB_inj (rowB hr).2.2 (rowB hr').2.2 (two_inj (pk2 _ _) (pk2 _ _) (rowB hr).1 (rowB hr').1 (rowB hr).2.1 (rowB hr').2.1 (h.symm.trans h')).2
theorem EK0.enc {g : M1} {i ds e} (hg : Sm1 g) (h : EK0 g i ds e) : IsEnc e ∧ e.length ≤ 33 := by
  rcases h with ⟨_, rfl⟩ | ⟨r, h1, h2⟩
  · exact ⟨isB (by decide), by decide⟩
  · exact told_enc (fun x hx => hx.enc (hg _ _ h1)) h2
theorem EK0.inj {g g' : M1} {i ds e} (hd : ds.length ≤ 1000000) (hg : Sm1 g) (hg' : Sm1 g') (h : EK0 g i ds e) (h' : EK0 g' i ds e) : g i = g' i := by
  rcases h with ⟨a, rfl⟩ | ⟨r, a, b⟩ <;> rcases h' with ⟨a', b'⟩ | ⟨r', a', b'⟩
  · rw [a, a']
  · exact (told_ne (fun x hx => ⟨_, hx⟩) b' rfl).elim
  · exact (told_ne (fun x hx => ⟨_, hx⟩) b b').elim
  · rw [a, a', told_inj hd (fun x h1 h2 => E0.inj (hg _ _ a) (hg' _ _ a') h1 h2) b b']
theorem EK0.fn {g : M1} {i ds e e'} (h : EK0 g i ds e) (h' : EK0 g i ds e') : e = e' := by
  rcases h with ⟨a, rfl⟩ | ⟨r, a, b⟩ <;> rcases h' with ⟨a', b'⟩ | ⟨r', a', b'⟩
  · exact b'.symm
  · rw [a] at a'; cases a'
  · rw [a] at a'; cases a'
  · rw [a] at a'
    obtain rfl := Option.some.inj a'
    exact told_fun (fun x y hx hy => hx.trans hy.symm) b b'
theorem EB1.enc {g : M1} {ds e} (hg : Sm1 g) (h : EB1 g ds e) : IsEnc e := by
  obtain ⟨es, h1, h2, rfl⟩ := h
  exact isL (formB_enc (fun i e h => EK0.enc hg h) h2 h1).2
theorem EB1.inj {g g' : M1} {ds e} (hd : ds.length ≤ 1000000) (hg : Sm1 g) (hg' : Sm1 g') (hs : Sp1 g) (hs' : Sp1 g') (h : EB1 g ds e) (h' : EB1 g' ds e) : g = g' := by
  funext i
  by_cases hi : i < 16
  · obtain ⟨x, h1, h2⟩ := formB_inj (fun i e h => EK0.enc hg h) (fun i e h => EK0.enc hg' h) h h' i hi
    exact EK0.inj hd hg hg' h1 h2
  · rw [hs i (by omega), hs' i (by omega)]
theorem EB1.fn {g : M1} {ds e e'} (h : EB1 g ds e) (h' : EB1 g ds e') : e = e' := formB_fun (fun i x y => EK0.fn) h h'
theorem Sin1.eq {g g' : M1} {l : Nat} {r : Row} (h : Sin1 g l r) (h' : Sin1 g' l r) : g = g' := by
  funext x
  by_cases e : x = l
  · subst e; rw [h.2.1, h'.2.1]
  · rw [h.2.2 x e, h'.2.2 x e]
theorem Sin1.un {g : M1} {l l' : Nat} {r r' : Row} (h : Sin1 g l r) (h' : Sin1 g l' r') : l = l' ∧ r = r' := by
  by_cases e : l' = l
  · subst e
    exact ⟨rfl, Option.some.inj (h.2.1.symm.trans h'.2.1)⟩
  · have := h.2.2 l' e
    rw [h'.2.1] at this; cases this
theorem Sin1.two {g : M1} {l : Nat} {r : Row} (h : Sin1 g l r) (h' : Two1 g) : False := by
  obtain ⟨i, j, h1, h2, h3, h4⟩ := h'
  have a : i = l := Classical.byContradiction fun e => h3 (h.2.2 i e)
  have b : j = l := Classical.byContradiction fun e => h4 (h.2.2 j e)
  omega
theorem pk1_inj : ∀ l l' : Fin 16, pk [l.val] true = pk [l'.val] true → l = l' := by decide +kernel
theorem pkE_inj : ∀ l l' : Fin 16, pk [l.val] false = pk [l'.val] false → l = l' := by decide +kernel
theorem pk2_inj {h l h' l' : Nat} (a : h < 16) (b : l < 16) (a' : h' < 16) (b' : l' < 16) (e : pk [h, l] true = pk [h', l'] true) : h = h' ∧ l = l' := by
  have e1 : (16 * h + l).toUInt8 = (16 * h' + l').toUInt8 := by
    unfold pk at e; injection e with _ e; injection e
  have e2 := congrArg UInt8.toNat e1
  rw [u8 (by omega), u8 (by omega)] at e2
  omega
theorem pk2E {h l h' : Nat} (e : pk [h, l] true = pk [h'] false) : False := by
  unfold pk at e; injection e with _ e; cases e
theorem E1.enc {g : M1} {ds e} (hg : Sm1 g) (h : E1 g ds e) : IsEnc e := by
  rcases h with ⟨l, r, h1, rfl⟩ | ⟨_, h⟩
  · exact two_enc (pk2 _ _) (rowB (hg _ _ h1.2.1)).2.1
  · exact h.enc hg
theorem E1.list {g : M1} {ds e} (h : E1 g ds e) : ∃ y, e = encL y := by
  rcases h with ⟨l, r, h1, rfl⟩ | ⟨_, es, _, _, rfl⟩
  · exact ⟨_, rfl⟩
  · exact ⟨_, rfl⟩
theorem E1.inj {g g' : M1} {ds e} (hd : ds.length ≤ 1000000) (hg : Sm1 g) (hg' : Sm1 g') (hs : Sp1 g) (hs' : Sp1 g') (h : E1 g ds e) (h' : E1 g' ds e) : g = g' := by
  rcases h with ⟨l, r, h1, rfl⟩ | ⟨_, h⟩ <;> rcases h' with ⟨l', r', h1', e'⟩ | ⟨_, h'⟩
  · have q := rowB (hg _ _ h1.2.1)
    have q' := rowB (hg' _ _ h1'.2.1)
    obtain ⟨a, b⟩ := two_inj (pk2 _ _) (pk2 _ _) q.1 q'.1 q.2.1 q'.2.1 e'
    have e1 : l = l' := congrArg Fin.val (pk1_inj ⟨l, h1.1⟩ ⟨l', h1'.1⟩ a)
    have e2 := encB_inj q.2.2 q'.2.2 b
    subst e1 e2
    exact h1.eq h1'
  · exact (formB_two (fun i e h => EK0.enc hg' h) (pk2 _ _) (rowB (hg _ _ h1.2.1)).1 (rowB (hg _ _ h1.2.1)).2.1 h').elim
  · subst e'
    exact (formB_two (fun i e h => EK0.enc hg h) (pk2 _ _) (rowB (hg' _ _ h1'.2.1)).1 (rowB (hg' _ _ h1'.2.1)).2.1 h).elim
  · exact h.inj hd hg hg' hs hs' h'
theorem E1.fn {g : M1} {ds e e'} (h : E1 g ds e) (h' : E1 g ds e') : e = e' := by
  rcases h with ⟨l, r, h1, rfl⟩ | ⟨t, h⟩ <;> rcases h' with ⟨l', r', h1', e'⟩ | ⟨t', h'⟩
  · obtain ⟨rfl, rfl⟩ := h1.un h1'
    exact e'.symm
  · exact (h1.two t').elim
  · exact (h1'.two t).elim
  · exact h.fn h'
theorem emp_eq {g g' : M1} (h : Emp1 g) (h' : Emp1 g') : g = g' := funext fun x => by rw [h x, h' x]
theorem EK1.enc {f : M2} {i ds e} (hf : Sm2 f) (h : EK1 f i ds e) : IsEnc e ∧ e.length ≤ 33 := by
  rcases h with ⟨_, rfl⟩ | ⟨_, h2⟩
  · exact ⟨isB (by decide), by decide⟩
  · exact told_enc (fun x hx => hx.enc (hf i)) h2
theorem EK1.inj {f f' : M2} {i ds e} (hd : ds.length ≤ 1000000) (hf : Sm2 f) (hf' : Sm2 f') (hs : Sp1 (f i)) (hs' : Sp1 (f' i)) (h : EK1 f i ds e) (h' : EK1 f' i ds e) : f i = f' i := by
  rcases h with ⟨a, rfl⟩ | ⟨a, b⟩ <;> rcases h' with ⟨a', b'⟩ | ⟨a', b'⟩
  · exact emp_eq a a'
  · exact (told_ne (fun x hx => hx.list) b' rfl).elim
  · exact (told_ne (fun x hx => hx.list) b b').elim
  · exact told_inj hd (fun x h1 h2 => E1.inj hd (hf i) (hf' i) hs hs' h1 h2) b b'
theorem EK1.fn {f : M2} {i ds e e'} (h : EK1 f i ds e) (h' : EK1 f i ds e') : e = e' := by
  rcases h with ⟨a, rfl⟩ | ⟨a, b⟩ <;> rcases h' with ⟨a', b'⟩ | ⟨a', b'⟩
  · exact b'.symm
  · exact absurd a a'
  · exact absurd a' a
  · exact told_fun (fun x y hx hy => hx.fn hy) b b'
def Sp2 (f : M2) : Prop := (∀ h, Sp1 (f h)) ∧ ∀ h, 16 ≤ h → Emp1 (f h)
theorem one_eq {f f' : M2} {h : Nat} (ho : ∀ x, x ≠ h → Emp1 (f x)) (ho' : ∀ x, x ≠ h → Emp1 (f' x)) (e : f h = f' h) : f = f' := by
  funext x
  by_cases hx : x = h
  · subst hx; exact e
  · exact emp_eq (ho x hx) (ho' x hx)
theorem E2.inj {f f' : M2} {ds e} (hd : ds.length ≤ 1000000) (hf : Sm2 f) (hf' : Sm2 f') (hs : Sp2 f) (hs' : Sp2 f') (h : E2 f ds e) (h' : E2 f' ds e) : f = f' := by
  have K := fun i e (h : EK1 f i ds e) => EK1.enc hf h
  have K' := fun i e (h : EK1 f' i ds e) => EK1.enc hf' h
  rcases h with ⟨h1, rfl⟩ | ⟨x, l, r, hx, ho, h1, rfl⟩ | ⟨x, i, hx, ho, h1, h2, rfl⟩ | ⟨_, _, h⟩ <;> rcases h' with ⟨h1', e'⟩ | ⟨x', l', r', hx', ho', h1', e'⟩ | ⟨x', i', hx', ho', h1', h2', e'⟩ | ⟨_, _, h'⟩
  · funext z; exact emp_eq (h1 z) (h1' z)
  · exact (encBL e').elim
  · exact (encBL e').elim
  · obtain ⟨_, _, _, e'⟩ := h'
    exact (encBL e').elim
  · exact (encBL e'.symm).elim
  · have q := rowB (hf _ _ _ h1.2.1)
    have q' := rowB (hf' _ _ _ h1'.2.1)
    obtain ⟨a, b⟩ := two_inj (pk2 _ _) (pk2 _ _) q.1 q'.1 q.2.1 q'.2.1 e'
    obtain ⟨rfl, rfl⟩ := pk2_inj hx h1.1 hx' h1'.1 a
    obtain rfl := encB_inj q.2.2 q'.2.2 b
    exact one_eq ho ho' (h1.eq h1')
  · have q := rowB (hf _ _ _ h1.2.1)
    have q' := told_enc (fun x hx => EB1.enc (hf' _) hx) h2'
    exact (pk2E (two_inj (pk2 _ _) (pk2 _ _) q.1 q'.1 q.2.1 (by have := q'.2; omega) e').1).elim
  · have q := rowB (hf _ _ _ h1.2.1)
    exact (formB_two K' (pk2 _ _) q.1 q.2.1 h').elim
  · exact (encBL e'.symm).elim
  · have q := rowB (hf' _ _ _ h1'.2.1)
    have q' := told_enc (fun x hx => EB1.enc (hf _) hx) h2
    exact (pk2E (two_inj (pk2 _ _) (pk2 _ _) q.1 q'.1 q.2.1 (by have := q'.2; omega) e'.symm).1).elim
  · have q := told_enc (fun x hx => EB1.enc (hf _) hx) h2
    have q' := told_enc (fun x hx => EB1.enc (hf' _) hx) h2'
    obtain ⟨a, b⟩ := two_inj (pk2 _ _) (pk2 _ _) q.1 q'.1 (by have := q.2; omega) (by have := q'.2; omega) e'
    have e1 : x = x' := congrArg Fin.val (pkE_inj ⟨x, hx⟩ ⟨x', hx'⟩ a)
    subst e1 b
    exact one_eq ho ho' (told_inj hd (fun y a b => EB1.inj hd (hf _) (hf' _) (hs.1 _) (hs'.1 _) a b) h2 h2')
  · have q := told_enc (fun x hx => EB1.enc (hf _) hx) h2
    exact (formB_two K' (pk2 _ _) q.1 (by have := q.2; omega) h').elim
  · obtain ⟨_, _, _, e⟩ := h
    exact (encBL (e'.symm.trans e)).elim
  · subst e'
    have q := rowB (hf' _ _ _ h1'.2.1)
    exact (formB_two K (pk2 _ _) q.1 q.2.1 h).elim
  · subst e'
    have q := told_enc (fun x hx => EB1.enc (hf' _) hx) h2'
    exact (formB_two K (pk2 _ _) q.1 (by have := q.2; omega) h).elim
  · funext i
    by_cases hi : i < 16
    · obtain ⟨y, a, b⟩ := formB_inj K K' h h' i hi
      exact EK1.inj hd hf hf' (hs.1 i) (hs'.1 i) a b
    · exact emp_eq (hs.2 i (by omega)) (hs'.2 i (by omega))
theorem one_two {f : M2} {h : Nat} (ho : ∀ x, x ≠ h → Emp1 (f x)) (t : Two2 f) : False := by
  obtain ⟨i, j, h1, h2, h3, h4⟩ := t
  have a : i = h := Classical.byContradiction fun e => h3 (ho i e)
  have b : j = h := Classical.byContradiction fun e => h4 (ho j e)
  omega
theorem one_one {f : M2} {h h' : Nat} (ho : ∀ x, x ≠ h → Emp1 (f x)) (t : ¬ Emp1 (f h')) : h' = h := Classical.byContradiction fun e => t (ho h' e)
theorem E2.fn {f : M2} {ds e e'} (h : E2 f ds e) (h' : E2 f ds e') : e = e' := by
  rcases h with ⟨h1, rfl⟩ | ⟨x, l, r, hx, ho, h1, rfl⟩ | ⟨x, i, hx, ho, h1, h2, rfl⟩ | ⟨t, _, h⟩ <;> rcases h' with ⟨h1', rfl⟩ | ⟨x', l', r', hx', ho', h1', rfl⟩ | ⟨x', i', hx', ho', h1', h2', rfl⟩ | ⟨t', _, h'⟩
  · rfl
  · exact absurd (h1 _) h1'.ne
  · exact absurd (h1 _) h1'.ne
  · obtain ⟨i, _, _, _, t, _⟩ := t'
    exact absurd (h1 i) t
  · exact absurd (h1' _) h1.ne
  · obtain rfl := one_one ho h1'.ne
    obtain ⟨rfl, rfl⟩ := h1.un h1'
    rfl
  · obtain rfl := one_one ho h1'.ne
    exact (h1.two h1').elim
  · exact (one_two ho t').elim
  · exact absurd (h1' _) h1.ne
  · obtain rfl := one_one ho h1'.ne
    exact (h1'.two h1).elim
  · obtain rfl := one_one ho h1'.ne
    rw [told_fun (fun x y a b => EB1.fn a b) h2 h2']
  · exact (one_two ho t').elim
  · obtain ⟨i, _, _, _, t, _⟩ := t
    exact absurd (h1' i) t
  · exact (one_two ho' t).elim
  · exact (one_two ho' t).elim
  · exact formB_fun (fun i x y => EK1.fn) h h'
end
section
noncomputable def kh (i : Nat) : Nat := (keyB i).toNat / 16
noncomputable def kl (i : Nat) : Nat := (keyB i).toNat % 16
theorem keyN {i : Nat} (h : i < 100) : (keyB i).toNat = if i = 0 then 128 else i := by
  unfold keyB
  split
  · rfl
  · exact u8 (by omega)
theorem kh_lt {i : Nat} : kh i < 16 := by
  have := (keyB i).toNat_lt
  unfold kh; omega
theorem kl_lt {i : Nat} : kl i < 16 := by unfold kl; omega
theorem key_inj {i j : Nat} (hi : i < 100) (hj : j < 100) (h1 : kh i = kh j) (h2 : kl i = kl j) : i = j := by
  have e1 := keyN hi
  have e2 := keyN hj
  unfold kh at h1
  unfold kl at h2
  have e : (keyB i).toNat = (keyB j).toNat := by omega
  rw [e1, e2] at e
  split at e <;> split at e <;> omega
noncomputable def val (rows : List Row) (i : Nat) : Option Row := match rows[i]? with
  | some r => if r = [] then none else some r
  | none => none
noncomputable def fm (rows : List Row) : Nat → M2
  | 0 => fun _ _ => none
  | i + 1 => match val rows i with
    | some r => upd2 (fm rows i) (kh i) (kl i) r
    | none => fm rows i
theorem fm_iff (rows : List Row) : ∀ n, n ≤ 100 → ∀ h l r, fm rows n h l = some r ↔ ∃ i, i < n ∧ kh i = h ∧ kl i = l ∧ val rows i = some r := by
  intro n
  induction n with
  | zero => intro _ h l r; simp [fm]
  | succ n ih =>
    intro hn h l r
    have ih' := ih (by omega)
    cases hv : val rows n with
    | none =>
      have e : fm rows (n + 1) = fm rows n := by rw [fm, hv]
      rw [e, ih']
      constructor
      · rintro ⟨i, h1, h2⟩; exact ⟨i, by omega, h2⟩
      · rintro ⟨i, h1, h2, h3, h4⟩
        by_cases ei : i = n
        · subst ei; rw [hv] at h4; cases h4
        · exact ⟨i, by omega, h2, h3, h4⟩
    | some q =>
      have e : fm rows (n + 1) = upd2 (fm rows n) (kh n) (kl n) q := by rw [fm, hv]
      rw [e]
      by_cases hk : h = kh n ∧ l = kl n
      · obtain ⟨rfl, rfl⟩ := hk
        rw [upd2_self, upd1_self]
        constructor
        · intro e; exact ⟨n, by omega, rfl, rfl, hv.trans e⟩
        · rintro ⟨i, h1, h2, h3, h4⟩
          obtain rfl := key_inj (by omega) (by omega) h2 h3
          rw [← hv, h4]
      · have e2 : upd2 (fm rows n) (kh n) (kl n) q h l = fm rows n h l := by
          by_cases e3 : h = kh n
          · subst e3
            rw [upd2_self, upd1_ne (fun e4 => hk ⟨rfl, e4⟩)]
          · rw [upd2_ne e3]
        rw [e2, ih']
        constructor
        · rintro ⟨i, h1, h2⟩; exact ⟨i, by omega, h2⟩
        · rintro ⟨i, h1, h2, h3, h4⟩
          by_cases ei : i = n
          · subst ei; exact absurd ⟨h2.symm, h3.symm⟩ hk
          · exact ⟨i, by omega, h2, h3, h4⟩
theorem fm_none {rows : List Row} {n : Nat} (hn : n < 100) : fm rows n (kh n) (kl n) = none := by
  cases h : fm rows n (kh n) (kl n) with
  | none => rfl
  | some r =>
    obtain ⟨i, h1, h2, h3, _⟩ := (fm_iff rows n (by omega) _ _ _).mp h
    have := key_inj (by omega) hn h2 h3
    omega
theorem val_out {rows : List Row} {i : Nat} (h : rows.length ≤ i) : val rows i = none := by unfold val; rw [List.getElem?_eq_none h]
theorem fm_val {rows : List Row} (hr : rows.length ≤ 100) {i : Nat} (hi : i < 100) : fm rows rows.length (kh i) (kl i) = val rows i := by
  apply Option.ext
  intro r
  rw [fm_iff rows _ hr]
  constructor
  · rintro ⟨j, h1, h2, h3, h4⟩
    obtain rfl := key_inj (by omega) hi h2 h3
    exact h4
  · intro h
    refine ⟨i, ?_, rfl, rfl, h⟩
    by_cases hl : i < rows.length
    · exact hl
    · rw [val_out (by omega)] at h; cases h
theorem fm_eq {rows rows' : List Row} (hr : rows.length ≤ 100) (hr' : rows'.length ≤ 100) : fm rows rows.length = fm rows' rows'.length ↔ ∀ i, val rows i = val rows' i := by
  constructor
  · intro h i
    by_cases hi : i < 100
    · rw [← fm_val hr hi, ← fm_val hr' hi, h]
    · rw [val_out (by omega), val_out (by omega)]
  · intro h
    funext a b
    apply Option.ext
    intro r
    rw [fm_iff rows _ hr, fm_iff rows' _ hr']
    constructor
    · rintro ⟨j, h1, h2, h3, h4⟩
      refine ⟨j, ?_, h2, h3, (h j) ▸ h4⟩
      by_cases hl : j < rows'.length
      · exact hl
      · rw [h, val_out (by omega)] at h4; cases h4
    · rintro ⟨j, h1, h2, h3, h4⟩
      refine ⟨j, ?_, h2, h3, (h j).symm ▸ h4⟩
      by_cases hl : j < rows.length
      · exact hl
      · rw [← h, val_out (by omega)] at h4; cases h4
/-- how many rows are left when those of no octet at the end are dropped -/
noncomputable def hln (rows : List Row) : Nat → Nat
  | 0 => 0
  | n + 1 => if rows[n]? = some [] then hln rows n else n + 1
noncomputable def held (rows : List Row) : List Row := rows.take (hln rows rows.length)
theorem hln_le (rows : List Row) : ∀ n, hln rows n ≤ n
  | 0 => Nat.le_refl _
  | n + 1 => by
    unfold hln; split
    · exact Nat.le_succ_of_le (hln_le rows n)
    · exact Nat.le_refl _
theorem hln_above (rows : List Row) : ∀ n i, hln rows n ≤ i → i < n → rows[i]? = some []
  | 0, _, _, h => absurd h (by omega)
  | n + 1, i, h1, h2 => by
    unfold hln at h1
    split at h1
    · rename_i hn
      by_cases e : i = n
      · subst e; exact hn
      · exact hln_above rows n i h1 (by omega)
    · omega
theorem hln_top (rows : List Row) : ∀ n m, hln rows n = m + 1 → rows[m]? ≠ some []
  | 0, _, h => by cases h
  | n + 1, m, h => by
    unfold hln at h
    split at h
    · exact hln_top rows n m h
    · rename_i hn
      obtain rfl : n = m := by omega
      exact hn
theorem val_above {rows : List Row} {i : Nat} (h : hln rows rows.length ≤ i) : val rows i = none := by
  by_cases hl : i < rows.length
  · unfold val; rw [hln_above rows _ i h hl]; simp
  · exact val_out (by omega)
theorem val_below {rows : List Row} {i : Nat} (h : hln rows rows.length = i + 1) : val rows i ≠ none := by
  have h1 := hln_top rows _ i h
  have h2 := hln_le rows rows.length
  have h3 : rows[i]? = some (rows[i]'(by omega)) := List.getElem?_eq_getElem (by omega)
  unfold val
  rw [h3] at h1 ⊢
  simp only
  rw [if_neg (fun e => h1 (by rw [e]))]
  simp
theorem held_val {rows rows' : List Row} : held rows = held rows' ↔ ∀ i, val rows i = val rows' i := by
  have hl := hln_le rows rows.length
  have hl' := hln_le rows' rows'.length
  constructor
  · intro h i
    have e : hln rows rows.length = hln rows' rows'.length := by
      have := congrArg List.length h
      unfold held at this
      rw [List.length_take, List.length_take] at this
      omega
    by_cases hi : i < hln rows rows.length
    · have e2 : (held rows)[i]? = (held rows')[i]? := by rw [h]
      unfold held at e2
      rw [List.getElem?_take_of_lt hi, List.getElem?_take_of_lt (by omega)] at e2
      unfold val
      rw [e2]
    · rw [val_above (by omega), val_above (by omega)]
  · intro h
    have e : hln rows rows.length = hln rows' rows'.length := by
      rcases Nat.lt_trichotomy (hln rows rows.length) (hln rows' rows'.length) with hlt | he | hlt
      · obtain ⟨m, hm⟩ : ∃ m, hln rows' rows'.length = m + 1 := ⟨hln rows' rows'.length - 1, by omega⟩
        exact absurd ((h m).symm.trans (val_above (by omega))) (val_below hm)
      · exact he
      · obtain ⟨m, hm⟩ : ∃ m, hln rows rows.length = m + 1 := ⟨hln rows rows.length - 1, by omega⟩
        exact absurd ((h m).trans (val_above (by omega))) (val_below hm)
    apply List.ext_getElem?
    intro i
    unfold held
    by_cases hi : i < hln rows rows.length
    · rw [List.getElem?_take_of_lt hi, List.getElem?_take_of_lt (by omega)]
      have h3 : rows[i]? = some (rows[i]'(by omega)) := List.getElem?_eq_getElem (by omega)
      have h4 : rows'[i]? = some (rows'[i]'(by omega)) := List.getElem?_eq_getElem (by omega)
      have h5 := h i
      unfold val at h5
      rw [h3, h4] at h5 ⊢
      simp only at h5
      split at h5 <;> split at h5
      · rename_i a b; rw [a, b]
      · cases h5
      · cases h5
      · exact h5
    · rw [List.getElem?_eq_none (by rw [List.length_take]; omega), List.getElem?_eq_none (by rw [List.length_take]; omega)]
theorem fm_sm {rows : List Row} (hs : ∀ r ∈ rows, r.length ≤ 100) {n : Nat} (hn : n ≤ 100) : Sm2 (fm rows n) := by
  intro h l r hr
  obtain ⟨i, _, _, _, h4⟩ := (fm_iff rows n hn _ _ _).mp hr
  unfold val at h4
  split at h4
  · rename_i q hq
    split at h4
    · cases h4
    · obtain rfl := Option.some.inj h4
      exact hs _ (List.mem_of_getElem? hq)
  · cases h4
theorem fm_sp {rows : List Row} {n : Nat} (hn : n ≤ 100) : Sp2 (fm rows n) := by
  have key : ∀ h l, 16 ≤ h ∨ 16 ≤ l → fm rows n h l = none := fun h l hh => by
    cases hv : fm rows n h l with
    | none => rfl
    | some r =>
      obtain ⟨i, _, h2, h3, _⟩ := (fm_iff rows n hn _ _ _).mp hv
      have := @kh_lt i
      have := @kl_lt i
      omega
  exact ⟨fun h l hl => key h l (.inr hl), fun h hh l => key h l (.inl hh)⟩
theorem law_pure {rows rows' : List Row} (hr : rows.length ≤ 100) (hr' : rows'.length ≤ 100) (hs : ∀ r ∈ rows, r.length ≤ 100) (hs' : ∀ r ∈ rows', r.length ≤ 100) {ds ds' : List (List UInt8)} {e e' : List UInt8} (hd : ds'.length ≤ 1000000) (hp : ds <+: ds')
   (h : E2 (fm rows rows.length) ds e) (h' : E2 (fm rows' rows'.length) ds' e') (m : e ∈ ds) (m' : e' ∈ ds') : dig (numOf ds e) = dig (numOf ds' e') ↔ held rows = held rows' := by
  have h1 := E2.mono _ _ _ _ hp h
  obtain ⟨t, rfl⟩ := hp
  rw [← numOf_pre (r := t) m, held_val, ← fm_eq hr hr']
  have m2 : e ∈ ds ++ t := List.mem_append.mpr (.inl m)
  constructor
  · intro hdg
    have e1 := dig_num hd m2 m' hdg
    subst e1
    exact E2.inj hd (fm_sm hs hr) (fm_sm hs' hr') (fm_sp hr) (fm_sp hr') h1 h'
  · intro hf
    rw [hf] at h1
    rw [E2.fn h1 h']
theorem law_empty {rows : List Row} (hr : rows.length ≤ 100) {ds : List (List UInt8)} {e : List UInt8} (hh : held rows = []) (h : E2 (fm rows rows.length) ds e) : e = [128] := by
  have h0 : held ([] : List Row) = [] := rfl
  have h1 := (fm_eq hr (by simp)).mpr (held_val.mp (hh.trans h0.symm))
  rw [h1] at h
  exact E2.fn h (.inl ⟨fun _ _ => rfl, rfl⟩)
theorem lrc_out {w : World} {kd : Addr} {rows ds : List (List UInt8)} {rest : Led} (P : Value → Led → Prop) (k : ∀ (ds' : List (List UInt8)) (tl : Led) (e : List UInt8) (b : Array UInt8) (t : Tok) (o : Obj), ds <+: ds' → ds'.length ≤ ds.length + 273 → KD w ds' o → b.toList = dig (numOf ds' e) → e ∈ ds' → E2 (fm rows rows.length) ds' e → P (.bytes b t) ((kd, o) :: (tl ++ rest))) :
   ∀ r news', (∃ ds' tl e b t, ds <+: ds' ∧ ds'.length ≤ ds.length + 273 ∧ DSt w kd ds' (tl ++ rest) news' ∧ Abv rest tl ∧ r = .bytes b t ∧ b.toList = dig (numOf ds' e) ∧ e ∈ ds' ∧ E2 (fm rows rows.length) ds' e) → P r news' := by
  rintro r n ⟨ds', tl, e, b, t, h1, h2, ⟨o, rfl, h3, -, -⟩, -, rfl, h4, h5, h6⟩
  exact k ds' tl e b t o h1 h2 h3 h4 h5 h6
theorem lrc_tell (w : World) (rw dg kd : Addr) (rows : List (List UInt8)) (vs : List Value) (n : Nat) (ds : List (List UInt8)) (rest : Led) (hvl : vs.length = rows.length) (hrl : rows.length ≤ 100) (hvs : ∀ (i : Nat) r, rows[i]? = some r → ∃ b t, vs[i]? = some (.bytes b t) ∧ b.toList = r)
   (hs : ∀ r ∈ rows, r.length ≤ 100) (hsz : ds.length ≤ 90000) :
   Tell w 245 101 1064 (fun news ws => ws = [.ref rw, .ref dg] ∧ DSt w kd ds rest news ∧ DigAt w dg kd rest ∧ (rw, listOf vs.toArray n) ∈ rest)
    (fun news _ news' r => ∃ ds' tl e b t, ds <+: ds' ∧ ds'.length ≤ ds.length + 273 ∧ DSt w kd ds' (tl ++ rest) news' ∧ Abv rest tl ∧ r = .bytes b t ∧ b.toList = dig (numOf ds' e) ∧ e ∈ ds' ∧ E2 (fm rows rows.length) ds' e) := by
  refine (lr_tell w rw dg kd rows vs n ds rest hvl hrl hvs (fun i base v => R2 (fm rows i) base v) (fun _ => .inl ⟨fun _ _ => rfl, rfl⟩) (fun i a b v s h => h.sb s) 21 224 (by omega) (by omega) 20 240 272 3 (by omega) (by omega) (by omega) (E2 (fm rows rows.length)) (fun ds e h => h.length (fm_sm hs hrl)) (E2.mono _) (f2_tell w dg kd (fm_sm hs hrl)) (by omega) ?_).conv (by omega) (by omega) (fun _ _ h => h) (fun _ _ _ _ _ h => h)
  intro i r b u hr hb nv pa t u2 hnv
  have hi : i < 100 := by have := (List.getElem?_eq_some_iff.mp hr).1; omega
  have sb : ∀ (i : Nat) (n n' : Led) (v : Value), (∀ p ∈ n, p ∈ n') → R2 (fm rows i) n v → R2 (fm rows i) n' v := fun i n n' v s h => h.sb (.of s)
  by_cases he : r = []
  · have hb0 : b = #[] := by rw [he] at hb; exact Array.toList_inj.mp hb
    have ev : val rows i = none := by unfold val; rw [hr]; simp [he]
    have ef : fm rows (i + 1) = fm rows i := by rw [fm, ev]
    subst hb0
    refine (pot0_tell w nv pa u 20 200 (fun n => (pa, tupO [.int (kh i : Nat) t, .int (kl i : Nat) u2]) ∈ n ∧ R2 (fm rows i) n nv) (R2 (fm rows (i + 1))) (fun n n' s h => ⟨s _ h.1, sb i n n' nv s h.2⟩) ?_).conv (by omega) (by omega) (fun n v h => h) (fun n v n' r h q => ⟨q.1, q.2, q.2.handed⟩)
    rw [ef]
    exact (take2 kh_lt kl_lt (fm_none hi) nv pa t u2).conv (by omega) (by omega) (fun n v h => h) (fun n v n' r h q => q)
  · have ev : val rows i = some r := by unfold val; rw [hr]; simp [he]
    have ef : fm rows (i + 1) = upd2 (fm rows i) (kh i) (kl i) r := by rw [fm, ev]
    refine (pot1_tell w nv pa b u (by rw [hb]; exact he) 20 200 (fun n => (pa, tupO [.int (kh i : Nat) t, .int (kl i : Nat) u2]) ∈ n ∧ R2 (fm rows i) n nv) (R2 (fm rows (i + 1))) (fun n n' s h => ⟨s _ h.1, sb i n n' nv s h.2⟩) ?_).conv (by omega) (by omega) (fun n v h => h) (fun n v n' r h q => ⟨q.1, q.2, q.2.handed⟩)
    rw [ef]
    exact (put2 hb kh_lt kl_lt (fm_none hi) nv pa t u2).conv (by omega) (by omega) (fun n v h => h) (fun n v n' r h q => q)
end
section
def WL (wl src : Addr) (spot : Nat) (rest news : Led) : Prop := ∃ (c : Nat) (t u : Tok) (n : Nat), news = (wl, listOf #[.ref src, .int (spot : Nat) t, .int (c : Nat) u] n) :: rest ∧ c ≤ 100 ∧ ∀ p ∈ rest, p.1 ≠ wl
def SrcAt (src : Addr) (rest : Led) : Prop := ∃ (vs : List Value) (ns : List Int) (n : Nat), (src, listOf vs.toArray n) ∈ rest ∧ IntsAre vs ns ∧ vs.length ≤ 100
theorem fmod_nat (x : Int) {m : Nat} (hm : 0 < m) : ∃ v : Nat, v < m ∧ x.fmod (m : Int) = (v : Nat) := by
  have h1 := Int.emod_nonneg x (b := (m : Int)) (by omega)
  have h2 := Int.emod_lt_of_pos x (b := (m : Int)) (by omega)
  exact ⟨(x % m).toNat, by omega, by rw [Int.fmod_eq_emod_of_nonneg _ (by omega)]; omega⟩
theorem WL.mk {wl src : Addr} {spot c : Nat} {t u : Tok} {n : Nat} {rest : Led} (hc : c ≤ 100) (hne : ∀ p ∈ rest, p.1 ≠ wl) : WL wl src spot rest ((wl, listOf #[.ref src, .int (spot : Nat) t, .int (c : Nat) u] n) :: rest) := ⟨c, t, u, n, rfl, hc, hne⟩
theorem SrcAt.mk {src : Addr} {vs : List Value} {ns : List Int} {n : Nat} {rest : Led} (h : (src, listOf vs.toArray n) ∈ rest) (ia : IntsAre vs ns) (hl : vs.length ≤ 100) : SrcAt src rest := ⟨vs, ns, n, h, ia, hl⟩
theorem dr_out {wl src : Addr} {spot many : Nat} {rest : Led} (P : Value → Led → Prop) (k : ∀ (c : Nat) (t1 u : Tok) (n v : Nat) (t : Tok), c ≤ 100 → v < many → P (.int (v : Nat) t) ((wl, listOf #[.ref src, .int ((spot + 1 : Nat) : Nat) t1, .int (c : Nat) u] n) :: rest)) :
   ∀ r news', (WL wl src (spot + 1) rest news' ∧ ∃ (v : Nat) (t : Tok), v < many ∧ r = .int (v : Nat) t) → P r news' := by
  rintro r n ⟨⟨c, t1, u, n1, rfl, hc, -⟩, v, t, hv, rfl⟩
  exact k c t1 u n1 v t hc hv
theorem dr_tell (w : World) (wl src : Addr) (spot many : Nat) (rest : Led) (hs : spot ≤ 1000) (hm : 0 < many) (hm2 : many ≤ 1000) :
   Tell w 289 4 60 (fun news vs => ∃ t, vs = [.ref wl, .int (many : Nat) t] ∧ WL wl src spot rest news ∧ SrcAt src rest)
    (fun _ _ news' r => WL wl src (spot + 1) rest news' ∧ ∃ (v : Nat) (t : Tok), v < many ∧ r = .int (v : Nat) t) := by
  intro mean mg mb dp un gd cn cs a ccd cl outer A₀ base h₀ L m news s vs Q E B F X N T hk hpre hd' hu hret
  obtain ⟨t, rfl, ⟨c, t1, u1, n1, rfl, hc, hne⟩, vs, ns, n2, hsrc, ia, hvl⟩ := hpre
  have ln := ia.length
  refine wpAny_call ?_
  k_dflt ktr_enter
  k_steps
  · (rename News _ _ _ _ => N1)
    obtain ⟨c2, hc2, e2⟩ := fmod_nat ((c : Int) * 7 + (ns.getD (spot : Int).toNat 0).fmod 101 + 3) (m := 101) (by omega)
    obtain ⟨v, hv, e3⟩ := fmod_nat (ns.getD (spot : Int).toNat 0) hm
    rw [show ((101 : Nat) : Int) = 101 from rfl] at e2
    rw [e2] at N1
    rw [e3]
    exact hret _ _ _ _ (by k_asm) (news_sub N1 (fun p hp => .tail _ hp)) ⟨⟨c2, _, _, n1, rfl, by omega, hne⟩, v, _, hv, rfl⟩
  · (rename News _ _ _ _ => N1)
    obtain ⟨c2, hc2, e2⟩ := fmod_nat ((c : Int) * 7 + (spot : Int).fmod 101 + 3) (m := 101) (by omega)
    rw [show ((101 : Nat) : Int) = 101 from rfl] at e2
    rw [e2] at N1 ⊢
    obtain ⟨v, hv, e3⟩ := fmod_nat (c2 : Int) hm
    rw [e3]
    exact hret _ _ _ _ (by k_asm) (news_sub N1 (fun p hp => .tail _ hp)) ⟨⟨c2, _, _, n1, rfl, by omega, hne⟩, v, _, hv, rfl⟩
end
section
/-- the values are the rows -/
def BA (vs : List Value) (rows : List Row) : Prop := vs.length = rows.length ∧ ∀ (i : Nat) r, rows[i]? = some r → ∃ b t, vs[i]? = some (.bytes b t) ∧ b.toList = r
section HeItem
variable {prog : Program} {w : World} {A : Around} {E : Value → Shared → Prop} {s : Shared} {h₀ : Heap} {L : Addr} {news : Led}
theorem item_lstL {value slice : Expr} {t : Addr} {l : List Value} {n j : Nat} {k : Int} {u : Tok} {x : Value} {Q : Value → Shared → Prop} (N : News h₀ L s.heap news) (hm : (t, listOf l.toArray n) ∈ news)
    (hk : k = (j : Nat)) (hz : l.length ≤ 1000000) (hx : l[j]? = some x) (h : Q x s)
    (hs : subscripted slice false (.ref t) (.int k u) = operate [.ref t, .int k u] (getItem (.ref t) (.int k u)) := by with_unfolding_all rfl) (hg : ∀ r, letTemporaryGo value (.ref t) r = pure () := by intro _; with_unfolding_all rfl) :
    wpAny (model prog w) A (subscriptTail value slice (.ref t) (.int k u)) Q E s := by
  subst hk
  have hj : j < l.length := (List.getElem?_eq_some_iff.mp hx).1
  exact kim_list N hm rfl rfl (by omega) (by omega) hx h hs hg
theorem pick_upto {l : List Value} {k : Nat} (h : k ≤ l.length) : kms_pick l none (some (k : Int)) = l.take k := by
  unfold kms_pick kms_lo kms_hi
  simp only
  rw [if_neg (by omega)]
  simp
theorem sl_upto {value slice : Expr} {l : Addr} {vs : List Value} {n k : Nat} {t : Tok} {m : Str → Option Value} {Q : Value → Shared → Prop} (F : Fr h₀ L s.heap m) (N : News h₀ L s.heap news) (hm : (l, listOf vs.toArray n) ∈ news) (hk : k ≤ vs.length) (hz : vs.length ≤ 10000)
    (h : ∀ D h', Fr h₀ L h' m → News h₀ L h' ((D, listOf (vs.take k).toArray 0) :: news) → (∀ p ∈ news, p.1 < D) → Q (.ref D) { s with heap := h' })
    (hs : subscripted slice false (.ref l) (.ref s.heap.objs.size) = operate [.ref s.heap.objs.size, .ref l] (getItem (.ref l) (.ref s.heap.objs.size)) := by with_unfolding_all rfl) (ht : ∀ r, letTemporaryGo value (.ref l) r = pure () := by intro _; with_unfolding_all rfl) :
    Stop (wpAny (model prog w) A (subscriptTail value slice (.ref l) (.ref s.heap.objs.size)) Q E { s with heap := s.heap.push { cls := .type "slice", data := .fields #[.none, .int (k : Int) t, .none] } }) :=
  kms_slice_lit F N (News.isList N hm) .none (.int _ _) (pick_upto hk) h hs ht (by rw [List.size_toArray, sizeLine_eq]; omega)
end HeItem
section HeLines
local macro_rules | `(tactic| walk_at "exec While") => `(tactic| wtm_at "MY stop")
local macro_rules | `(tactic| walk_at "subscriptTail Name BinOp ref int") => `(tactic| wtm_at "MY stop")
local macro_rules | `(tactic| walk_at "subscriptTail Name Slice ref ref") => `(tactic| wtm_at "MY stop")
theorem he_out {vs : List Value} {rows : List Row} {news : Led} (P : Value → Led → Prop) (k : ∀ (a : Addr) (news' : Led), Grow news news' → (a, listOf (vs.take (hln rows rows.length)).toArray 0) ∈ news' → P (.ref a) news') :
   ∀ r news', (Grow news news' ∧ ∃ a, r = .ref a ∧ (a, listOf (vs.take (hln rows rows.length)).toArray 0) ∈ news') → P r news' := by
  rintro r n ⟨h1, a, rfl, h2⟩
  exact k a n h1 h2
theorem he_tell (w : World) (rw : Addr) (vs : List Value) (n : Nat) (rows : List Row) (hb : BA vs rows) (hl : rows.length ≤ 100) :
   Tell w 308 4 60 (fun news ws => ws = [.ref rw] ∧ (rw, listOf vs.toArray n) ∈ news)
    (fun news _ news' r => Grow news news' ∧ ∃ a, r = .ref a ∧ (a, listOf (vs.take (hln rows rows.length)).toArray 0) ∈ news') := by
  intro mean mg mb dp un gd cn cs a ccd cl outer A₀ base h₀ L m news s ws Q E B F X N T hk hpre hd' hu hret
  obtain ⟨rfl, hm⟩ := hpre
  obtain ⟨hvl, hbv⟩ := hb
  refine wpAny_call ?_
  k_dflt ktr_enter
  k_steps
  (rename Fr _ _ _ _ => F1); (rename News _ _ _ _ => N1)
  obtain ⟨m₀, hm₀, FA⟩ := fr_abs F1
  obtain ⟨led, hled, NA⟩ := news_abs N1
  clear F1 N1
  refine stop_open (While_inv2 (fun n m nx => nx = led ∧ ∃ (k : Nat) (t : Tok), m "many" = some (.int k t) ∧ (∀ z : Str, z ≠ "many" → m z = m₀ z) ∧ k ≤ rows.length ∧ hln rows k = hln rows rows.length ∧ n = k) FA NA ⟨rfl, vs.length, _, (by rw [hm₀]; rfl), fun _ _ => rfl, by omega, by rw [hvl], rfl⟩ ?_)
  rintro n m₁ nx h tk F2 N2 ⟨rfl, k, t, hk0, hm₁, hk1, hk2, rfl⟩
  have F3 := fr_look F2 hk0 hm₁
  clear F2 FA NA
  subst hm₀ hled
  k_steps
  · have hn : 0 < n := by
      have : (0 : Int) < n := by assumption
      omega
    obtain ⟨row, hrow⟩ : ∃ row, rows[n - 1]? = some row := ⟨rows[n - 1]'(by omega), by simp⟩
    obtain ⟨b, u, hbn, hbr⟩ := hbv (n - 1) row hrow
    refine stop_open (item_lstL (j := n - 1) (by k_asm) (by k_mem) (by omega) (by omega) hbn ?_)
    k_steps
    · have he : row = [] := by
        have h1 : (b.toList == #[].toList) = true := by assumption
        rw [← hbr]; exact eq_of_beq h1
      have e1 : (n : Int) - 1 = ((n - 1 : Nat) : Int) := by omega
      refine ⟨_, _, _, _, n - 1, rfl, by k_asm, by k_asm, by omega, rfl, n - 1, _, (by rw [← e1]; rfl), fun z hz => by simp [hz], by omega, ?_, rfl⟩
      rw [← hk2]
      obtain ⟨k, rfl⟩ : ∃ k, n = k + 1 := ⟨n - 1, by omega⟩
      show _ = if rows[k]? = some [] then hln rows k else k + 1
      rw [if_pos (by rw [← he]; exact hrow)]
      rfl
    · have he : row ≠ [] := fun e => by
        have h1 : (b.toList == #[].toList) = false := by first | assumption | (apply Bool.eq_false_iff.mpr; assumption)
        rw [hbr, e] at h1; cases h1
      have hh : hln rows rows.length = n := by
        rw [← hk2]
        obtain ⟨k, rfl⟩ : ∃ k, n = k + 1 := ⟨n - 1, by omega⟩
        show (if rows[k]? = some [] then hln rows k else k + 1) = k + 1
        rw [if_neg (fun e => he (by have := hrow.symm.trans e; exact Option.some.inj this))]
      refine sl_upto (by k_asm) (by k_asm) (by k_mem) (by omega) (by omega) ?_
      intro D1 h1 F1 N1 l1
      k_steps
      exact hret _ _ _ _ (by k_asm) (by k_asm) ⟨Grow.cons (by ktn_lt) Grow.refl, _, rfl, by rw [hh]; exact .head _⟩
  · have hn : n = 0 := by
      have : ¬ (0 : Int) < n := by assumption
      omega
    subst hn
    have hh : hln rows rows.length = 0 := hk2.symm
    refine sl_upto (by k_asm) (by k_asm) (by k_mem) (by omega) (by omega) ?_
    intro D1 h1 F1 N1 l1
    k_steps
    exact hret _ _ _ _ (by k_asm) (by k_asm) ⟨Grow.cons (by ktn_lt) Grow.refl, _, rfl, by rw [hh]; exact .head _⟩
end HeLines
end
section
theorem ints_rep (s : Int) (t : Tok) : ∀ n, IntsAre (List.replicate n [Value.int s t]).flatten (List.replicate n [s]).flatten
  | 0 => .nil
  | n + 1 => by
    rw [List.replicate_succ, List.replicate_succ, List.flatten_cons, List.flatten_cons]
    exact .cons _ _ (ints_rep s t n)
theorem rep_len {α : Type} (x : α) (n : Nat) : (List.replicate n [x]).flatten.length = n := by
  induction n with
  | zero => rfl
  | succ n ih => rw [List.replicate_succ, List.flatten_cons, List.length_append, ih]; simp; omega
section LiLines
local macro_rules | `(tactic| walk_at "call type:range") => `(tactic| wtm_at "MY stop")
local macro_rules | `(tactic| walk_at "call type:bytes") => `(tactic| wtm_at "MY cr")
local macro_rules | `(tactic| walk_at "call builtin:list.append") => `(tactic| wtm_at "MY stop")
local macro_rules | `(tactic| walk_at "binaryOp Mult ref int") => `(tactic| wtm_at "MY stop")
theorem li_out {wl src : Addr} {spot : Nat} {rest : Led} (P : Value → Led → Prop) (k : ∀ (sp : Nat) (tl : Led) (a : Addr) (vs : List Value) (n c : Nat) (t u : Tok) (n1 : Nat), sp ≤ spot + 18 → c ≤ 100 → Abv rest tl → (a, listOf (List.toArray vs) n) ∈ tl → AB 60 vs → vs.length ≤ 17 → P (.ref a) ((wl, listOf #[.ref src, .int (sp : Nat) t, .int (c : Nat) u] n1) :: (tl ++ rest))) :
   ∀ r news', (∃ spot' tl a vs n, spot ≤ spot' ∧ spot' ≤ spot + 18 ∧ WL wl src spot' (tl ++ rest) news' ∧ Abv rest tl ∧ r = .ref a ∧ (a, listOf (List.toArray vs) n) ∈ tl ∧ AB 60 vs ∧ vs.length ≤ 17) → P r news' := by
  rintro r n9 ⟨sp, tl, a, vs, n, -, h1, ⟨c, t, u, n1, rfl, hc, -⟩, h2, rfl, h3, h4, h5⟩
  exact k sp tl a vs n c t u n1 h1 hc h2 h3 h4 h5
theorem li_tell (w : World) (wl src : Addr) (spot : Nat) (rest : Led) (hs : spot ≤ 900) :
   Tell w 296 9 200 (fun news vs => vs = [.ref wl] ∧ WL wl src spot rest news ∧ SrcAt src rest)
    (fun _ _ news' r => ∃ spot' tl a vs n, spot ≤ spot' ∧ spot' ≤ spot + 18 ∧ WL wl src spot' (tl ++ rest) news' ∧ Abv rest tl ∧ r = .ref a ∧ (a, listOf (List.toArray vs) n) ∈ tl ∧ AB 60 vs ∧ vs.length ≤ 17) := by
  intro mean mg mb dp un gd cn cs a ccd cl outer A₀ base h₀ L m news s vs Q E B F X N T hk hpre hd' hu hret
  obtain ⟨rfl, ⟨c, t1, u1, n1, rfl, hc, hne⟩, hsrc⟩ := hpre
  refine wpAny_call ?_
  k_dflt ktr_enter
  k_steps
  (rename _ < _ ∧ AllLt _ _ => hlt)
  obtain ⟨D, hD, N1⟩ := news_head (by assumption : News _ _ _ _)
  subst hD
  have hDw : wl < D := hlt.1
  have hDr : ∀ p ∈ rest, p.1 < D := fun p hp => tb_ltOf hlt.2 p hp
  have hne1 : ∀ p ∈ (D, listOf #[] 0) :: rest, p.1 ≠ wl := fun p hp => (List.mem_cons.mp hp).elim (fun e => by rw [e]; exact Nat.ne_of_gt hDw) (hne p)
  have hsrc1 : SrcAt src ((D, listOf #[] 0) :: rest) := let ⟨a, b, c, h1, h2⟩ := hsrc; ⟨a, b, c, .tail _ h1, h2⟩
  refine call_tell (dr_tell w wl src spot 18 ((D, listOf #[] 0) :: rest) (by omega) (by omega) (by omega)) (by k_asm) (by k_asm) (by k_asm) (news_sub N1 mem_swap2) (by k_asm) rfl ⟨_, rfl, ⟨c, t1, u1, n1, rfl, hc, hne1⟩, hsrc1⟩ (by ktr_room) (by ktr_units) ?_
  rintro r n9 h9 tk9 F9 N9 ⟨⟨c2, t2, u2, n2, rfl, hc2, -⟩, v, t3, hv, rfl⟩
  k_steps
  (rename Fr _ _ _ _ => F1); (rename News _ _ _ _ => N1)
  obtain ⟨m₀, hm₀, FA⟩ := fr_abs F1
  clear F1
  refine loop_range (fun i m nx => (∃ (c : Nat) (t u : Tok) (n k spot' : Nat) (vs : List Value), nx = (wl, listOf #[.ref src, .int (spot' : Nat) t, .int (c : Nat) u] n) :: (D, listOf vs.toArray k) :: rest ∧ c ≤ 100 ∧ spot < spot' ∧ spot' ≤ spot + 1 + i ∧ AB 60 vs ∧ vs.length = i) ∧ ∀ z : Str, z ≠ "turn" → z ≠ "which" → m z = m₀ z) (by omega) rfl FA N1 ⟨⟨c2, t2, u2, n2, 0, spot + 1, [], rfl, hc2, by omega, by omega, (fun _ h => nomatch h), rfl⟩, fun _ _ _ => rfl⟩ ?_ ?_
  · rintro i t m₁ nx h tk I oI hi hcl hsep ⟨⟨c, t4, u4, n4, k4, spot', vs, rfl, hc4, hs4, hs5, hAB, hlen⟩, hm₁⟩ F2 N2
    clear FA N1
    have F3 := fr_know (m' := fun z => if z = "turn" then some (.int (i : Nat) t) else if z = "which" then m₁ z else m₀ z) F2 (fun z => by
      by_cases e1 : z = "turn"
      · simp [e1]
      · by_cases e2 : z = "which"
        · simp [e2]
        · simp [e1, e2, hm₁ z e1 e2])
    clear F2
    subst hm₀
    k_steps
    have hIw : wl ≠ I := hsep _ (.head _)
    have hID : D ≠ I := hsep _ (.tail _ (.head _))
    have hIr : ∀ p ∈ rest, p.1 ≠ I := fun p hp => hsep p (.tail _ (.tail _ hp))
    refine call_tell (dr_tell w wl src spot' 24 ((I, oI) :: (D, listOf vs.toArray k4) :: rest) (by omega) (by omega) (by omega)) (by k_asm) (by k_asm) (by k_asm) (news_sub N2 mem_swap2) (by k_asm) rfl ⟨_, rfl, ⟨c, t4, u4, n4, rfl, hc4, fun p hp => ?_⟩, ?_⟩ (by ktr_room) (by ktr_units) ?_
    · rcases List.mem_cons.mp hp with e | hp
      · rw [e]; exact fun e => hIw e.symm
      · rcases List.mem_cons.mp hp with e | hp
        · rw [e]; exact Nat.ne_of_gt hDw
        · exact hne p hp
    · exact let ⟨a, b, c, h1, h2⟩ := hsrc; ⟨a, b, c, .tail _ (.tail _ h1), h2⟩
    rintro r n9 h8 tk8 F8 N8 ⟨⟨c5, t5, u5, n5, rfl, hc5, -⟩, v5, t6, hv5, rfl⟩
    k_steps
    have b1 := kmn_any (l := [1, 0, 27, 28, 29, 32, 60, 2]) (i := ((v5 : Int).fmod 8).toNat) (d := 0) (lo := 0) (hi := 60) (by decide)
    have b2 := kmn_any (l := [0, 1, 128]) (i := ((v5 : Int).fdiv 8).toNat) (d := 0) (lo := 0) (hi := 255) (by decide)
    generalize ([1, 0, 27, 28, 29, 32, 60, 2] : List Int).getD ((v5 : Int).fmod 8).toNat 0 = sz at *
    generalize ([0, 1, 128] : List Int).getD ((v5 : Int).fdiv 8).toNat 0 = sg at *
    refine stop_open (KMa.mul (vs := [.int sg _]) (by k_asm) (by k_asm) (News.isList (by k_asm) (by k_mem)) (by omega) (by omega) (by simp; omega) rfl ?_)
    intro D7 h7 F7 N7 l7
    k_steps
    refine stop_open (bytes_K (vs := (List.replicate sz.toNat [Value.int sg _]).flatten) (ns := (List.replicate sz.toNat [sg]).flatten) (by k_asm) (by k_asm) (News.isList (by k_asm) (by k_mem)) (ints_rep _ _ _) ?_ ?_ rfl ?_)
    · intro x hx
      rw [List.mem_flatten] at hx
      obtain ⟨l, h1, h2⟩ := hx
      rw [List.eq_of_mem_replicate h1] at h2
      rw [List.mem_singleton.mp h2]
      omega
    · rw [rep_len, sizeLine_eq]; omega
    intro h6 t7 k6 F6 N6 _
    k_steps
    refine app_headL (vs := vs) (by k_asm) (news_sub (l' := (D, listOf vs.toArray k4) :: (wl, listOf #[.ref src, .int ((spot' + 1 : Nat) : Int) t5, .int (c5 : Nat) u5] n5) :: (I, oI) :: rest) (by k_asm) ?_) ?_ (by omega) ?_
    · intro p hp
      simp only [List.mem_cons] at hp ⊢
      rcases hp with h | h | h | h <;> simp [h]
    · intro p hp
      rcases List.mem_cons.mp hp with e | hp
      · rw [e]; exact Nat.ne_of_lt hDw
      · rcases List.mem_cons.mp hp with e | hp
        · rw [e]; exact fun e => hID e.symm
        · exact Nat.ne_of_lt (hDr p hp)
    intro h5 F5 N5
    k_steps
    refine LEnd.intro ((wl, listOf #[.ref src, .int ((spot' + 1 : Nat) : Int) t5, .int (c5 : Nat) u5] n5) :: (D, listOf (vs ++ [Value.bytes ((List.replicate sz.toNat [sg]).flatten.map fun n : Int => n.toNat.toUInt8).toArray t7]).toArray (k4 + 1)) :: rest) (by k_asm) (by k_asm) ?_ ?_ ?_ (fun _ h => nomatch h) ⟨⟨c5, t5, u5, n5, k4 + 1, spot' + 1, vs ++ [Value.bytes ((List.replicate sz.toNat [sg]).flatten.map fun n : Int => n.toNat.toUInt8).toArray t7], rfl, hc5, by omega, by omega, ?_, by simp [hlen]⟩, ?_⟩
    · simp
    · intro p hp
      simp only [List.mem_cons] at hp ⊢
      rcases hp with h | h | h <;> simp [h]
    · intro p hp
      rcases List.mem_cons.mp hp with e | hp
      · rw [e]; exact hIw
      · rcases List.mem_cons.mp hp with e | hp
        · rw [e]; exact hID
        · exact hIr p hp
    · intro x hx
      rcases List.mem_append.mp hx with hx | hx
      · exact hAB x hx
      · rw [List.mem_singleton.mp hx]
        exact ⟨_, _, rfl, by rw [List.size_toArray, List.length_map, rep_len]; omega⟩
    · intro z h1 h2
      simp [h1, h2]
  · rintro m₁ nx h tk ⟨⟨c, t4, u4, n4, k4, spot', vs, rfl, hc4, hs4, hs5, hAB, hlen⟩, hm₁⟩ F2 N2
    clear FA N1
    have F3 := fr_know (m' := fun z => if z = "turn" then m₁ z else if z = "which" then m₁ z else m₀ z) F2 (fun z => by
      by_cases e1 : z = "turn"
      · simp [e1]
      · by_cases e2 : z = "which"
        · simp [e2]
        · simp [e1, e2, hm₁ z e1 e2])
    clear F2
    subst hm₀
    k_steps
    refine hret _ _ _ _ (by k_asm) (by k_asm) ⟨spot', [(D, listOf vs.toArray k4)], D, vs, k4, by omega, by omega, ⟨c, t4, u4, n4, rfl, hc4, ?_⟩, ?_, rfl, .head _, hAB, by omega⟩
    · intro p hp
      rcases List.mem_cons.mp hp with e | hp
      · rw [e]; exact Nat.ne_of_gt hDw
      · exact hne p hp
    · intro q hq z hz
      rw [List.mem_singleton.mp hz]; exact hDr q hq
end LiLines
end
section
def MarkT : Prop := True
def MarkU : Prop := True
def MarkV : Prop := True
theorem se_post {a : Addr} {zs : List Value} {n : Nat} {post rest : Led} (h : AllLt a post) (hs : ∀ p ∈ rest, p ∈ post) (hA : AB 61 zs) (hl : zs.length ≤ 100) : ∃ a' vs' n', Value.ref a = .ref a' ∧ (a', listOf (List.toArray vs') n') ∈ (a, listOf zs.toArray n) :: post ∧ (∀ q ∈ rest, q.1 < a') ∧ (∀ p ∈ rest, p ∈ (a, listOf zs.toArray n) :: post) ∧ AB 61 vs' ∧ vs'.length ≤ 100 :=
  ⟨a, zs, n, rfl, .head _, fun q hq => tb_ltOf h q (hs q hq), fun p hp => .tail _ (hs p hp), hA, hl⟩
theorem one_len {vs zs : List Value} {k : Nat} (e : zs = kms_pick vs (some (k : Int)) (some ((k : Int) + 1))) : zs.length ≤ 1 := by
  rw [e]
  unfold kms_pick kms_lo kms_hi
  simp only
  rw [if_neg (by omega), if_neg (by omega), List.length_take, List.length_drop, Int.toNat_natCast, show ((k : Int) + 1).toNat = k + 1 from rfl]
  refine Nat.le_trans (Nat.min_le_left _ _) ?_
  rcases Nat.lt_or_ge k vs.length with h | h
  · rw [Nat.min_eq_left h, Nat.min_eq_left (Nat.le_of_lt h)]; exact Nat.le_of_eq (Nat.add_sub_cancel_left k 1)
  · rw [Nat.min_eq_right (Nat.le_succ_of_le h), Nat.min_eq_right h, Nat.sub_self]; exact Nat.zero_le _
theorem one_cases {α : Type} {l : List α} (h : l.length ≤ 1) : l = [] ∨ ∃ x, l = [x] := by
  match l, h with
  | [], _ => exact .inl rfl
  | [x], _ => exact .inr ⟨x, rfl⟩
  | _ :: _ :: _, h => simp at h
theorem se_out {rest : Led} (P : Value → Led → Prop) (k : ∀ (a : Addr) (vs' : List Value) (n' : Nat) (news' : Led), (a, listOf (List.toArray vs') n') ∈ news' → (∀ q ∈ rest, q.1 < a) → (∀ p ∈ rest, p ∈ news') → AB 61 vs' → vs'.length ≤ 100 → P (.ref a) news') :
   ∀ r news', (∃ a vs' n', r = .ref a ∧ (a, listOf (List.toArray vs') n') ∈ news' ∧ (∀ q ∈ rest, q.1 < a) ∧ (∀ p ∈ rest, p ∈ news') ∧ AB 61 vs' ∧ vs'.length ≤ 100) → P r news' := by
  rintro r n ⟨a, vs', n', rfl, h1, h2, h3, h4, h5⟩
  exact k a vs' n' n h1 h2 h3 h4 h5
theorem se_in {P : Prop} {h₀ h : Heap} {L : Addr} {a b c : Addr × Obj} {news : Led} (N : News h₀ L h (a :: b :: c :: news)) (k : News h₀ L h (b :: news) → P) : P :=
  k (news_sub N (fun p hp => (List.mem_cons.mp hp).elim (fun e => .tail _ (e ▸ .head _)) (fun h => .tail _ (.tail _ (.tail _ h)))))
section SeLines
local macro_rules | `(tactic| wtm_at "MY p") => `(tactic| (kmk_part))
local macro_rules | `(tactic| wtm_at "MY P") => `(tactic| (kmk_pure))
local macro_rules | `(tactic| wtm_at "MY i") => `(tactic| (exact IsPart.int _ _))
local macro_rules | `(tactic| wtm_at "MY l") => `(tactic| (first | assumption | exact Nat.le_refl _))
local macro_rules | `(tactic| wtm_at "MY B") => `(tactic| (first | assumption | exact AB.one (by first | omega | decide)))
local macro_rules | `(tactic| wtm_at "MY in4") => `(tactic| (intro b' t' hb'))
local macro_rules | `(tactic| wtm_at "MY in8") => `(tactic| (intro D' h' zs' F' N' A' z' l1; (try k_lt l1); (try k_sweep)))
local macro_rules | `(tactic| wtm_at "MY in9") => `(tactic| (intro D' h' zs' F' N' ez' A' z' l1; (try k_lt l1); (try k_sweep)))
local macro_rules | `(tactic| walk_at "subscriptTail Name Slice ref ref") => do `(tactic| (k_here; (with_reducible show wpAny _ _ (subscriptTail _ (PySem.Expr.Slice _ _ none _) (Value.ref _) (Value.ref _)) _ _ _); k_dflt ($(← useL "sl_any 61 a a m p p A A b _ w P"); k_whole); wtm_at "MY in9"))
local macro_rules | `(tactic| walk_at "subscriptTail Name Slice ref ref") => do `(tactic| (k_here; (with_reducible show wpAny _ _ (subscriptTail _ (PySem.Expr.Slice none none (some _) _) (Value.ref _) (Value.ref _)) _ _ _); k_dflt ($(← useL "rev_any 61 a a m i A A b _ w P"); k_whole); wtm_at "MY in8"))
local macro_rules | `(tactic| walk_at "binaryOp Add ref ref") => lineL "add_any 61 a a m m B B l l b _" "in8"
local macro_rules | `(tactic| walk_at "binaryOp Mult ref int") => lineL "mul_any 61 a a m B o o _" "in8"
local macro_rules | `(tactic| walk_at "subscriptTail Name Name ref int") => lineL "item_any 61 a m A o o o _ w P" "in4"
local macro_rules | `(tactic| walk_at "eval ListComp") => `(tactic| ((fail_if_success (have hq9 : MarkT := by with_reducible assumption)); wtm_at "MY stop"))
local macro_rules | `(tactic| walk_at "eval ListComp") => `(tactic| ((have hq9 : MarkT := by with_reducible assumption); clear hq9; k_here; k_dflt (refine LCg.ListComp_U (F₀ := by k_asm) (by with_unfolding_all rfl) (by decide) (by rfl) (by decide) (by rfl) ?_)))
local macro_rules | `(tactic| walk_at "subscriptTail Name Slice bytes ref") => `(tactic| (k_here; (with_reducible show wpAny _ _ (subscriptTail _ (Expr.Slice _ _ none _) (Value.bytes _ _) (Value.ref _)) _ _ _); (with_reducible rename Fr _ _ _ _ => F'); (with_reducible rename News _ _ _ _ => N'); (refine KBc.slice_K (s := ⟨_, _, _, _, _⟩) F' N' rfl (by constructor) (by constructor) (by rw [KBw.ints_length]; omega) ?_); intro h' t' k' F' N' kbcK; clear kbcK; skip))
local macro_rules | `(tactic| walk_at "isTrue Compare") => `(tactic| ((fail_if_success (have hq9 : MarkV := by with_reducible assumption)); wtm_at "MY stop"))
local macro_rules | `(tactic| walk_at "isTrue BoolOp") => `(tactic| ((fail_if_success (have hq9 : MarkU := by with_reducible assumption)); wtm_at "MY stop"))
theorem se_tell (w : World) (wl src rw : Addr) (spot : Nat) (rest : Led) (vs : List Value) (n : Nat) (mb : Array UInt8) (mt : Tok) (hs : spot ≤ 800) (hA60 : AB 60 vs) (hl : vs.length ≤ 17) (hmb : mb.size ≤ 61) :
   Tell w 301 14 400 (fun news ws => ws = [.ref wl, .ref rw, .bytes mb mt] ∧ WL wl src spot rest news ∧ SrcAt src rest ∧ (rw, listOf vs.toArray n) ∈ rest)
    (fun _ _ news' r => ∃ a vs' n', r = .ref a ∧ (a, listOf (List.toArray vs') n') ∈ news' ∧ (∀ q ∈ rest, q.1 < a) ∧ (∀ p ∈ rest, p ∈ news') ∧ AB 61 vs' ∧ vs'.length ≤ 100) := by
  intro mean mg mb' dp un gd cn cs a ccd cl outer A₀ base h₀ L m news s ws Q E B F X N T hk hpre hd' hu hret
  obtain ⟨rfl, ⟨c, t1, u1, n1, rfl, hc, hne⟩, hsrc, hrw⟩ := hpre
  have mv : MarkV := trivial
  have hA : AB 61 vs := hA60.mono (by omega)
  refine wpAny_call ?_
  k_dflt ktr_enter
  k_steps
  refine call_out (dr_tell w wl src spot 9 rest (by omega) (by omega) (by omega)) (by k_asm) (by k_asm) (by k_asm) (by k_asm) (by k_asm) rfl ⟨_, rfl, WL.mk hc hne, hsrc⟩ (by ktr_room) (by ktr_units) dr_out ?_
  intro c2 t2 u2 n2 v t3 hc2 hv h9 tk9 F9 N9
  k_steps
  · refine call_out (li_tell w wl src (spot + 1) rest (by omega)) (by k_asm) (by k_asm) (by k_asm) (by k_asm) (by k_asm) rfl ⟨rfl, WL.mk hc2 hne, hsrc⟩ (by ktr_room) (by ktr_units) li_out ?_
    intro spot' tl a1 vs' n' c3 t4 u3 n3 _ _ hab hm hA' hl' h8 tk8 F8 N8
    k_steps
    exact hret _ _ _ _ (by k_asm) (by k_asm) ⟨a1, vs', n', rfl, .tail _ (List.mem_append.mpr (.inl hm)), fun q hq => hab q hq _ hm, fun p hp => .tail _ (List.mem_append.mpr (.inr hp)), hA'.mono (by omega), by omega⟩
  refine call_out (dr_tell w wl src (spot + 1) (vs.length + 1) rest (by omega) (by omega) (by omega)) (by k_asm) (by k_asm) (by k_asm) (by k_asm) (by k_asm) rfl ⟨_, rfl, WL.mk hc2 hne, hsrc⟩ (by ktr_room) (by ktr_units) dr_out ?_
  intro c3 t4 u3 n3 v1 t5 hc3 hv1 h8 tk8 F8 N8
  k_steps
  refine call_out (dr_tell w wl src (spot + 2) (vs.length + 1) rest (by omega) (by omega) (by omega)) (by k_asm) (by k_asm) (by k_asm) (by k_asm) (by k_asm) rfl ⟨_, rfl, WL.mk hc3 hne, hsrc⟩ (by ktr_room) (by ktr_units) dr_out ?_
  intro c4 t6 u4 n4 v2 t7 hc4 hv2 h7 tk7 F7 N7
  clear mv
  k_steps
  have g1 : (0 : Int) ≤ (if (v2 : Int) < (v1 : Int) then (v2 : Int) else (v1 : Int)) := by split <;> omega
  have g2 : (0 : Int) ≤ (if (v2 : Int) > (v1 : Int) then (v2 : Int) else (v1 : Int)) := by split <;> omega
  have g3 : (if (v2 : Int) < (v1 : Int) then (v2 : Int) else (v1 : Int)) ≤ (if (v2 : Int) > (v1 : Int) then (v2 : Int) else (v1 : Int)) := by split <;> split <;> omega
  generalize (if (v2 : Int) < (v1 : Int) then (v2 : Int) else (v1 : Int)) = lo at *
  generalize (if (v2 : Int) > (v1 : Int) then (v2 : Int) else (v1 : Int)) = hi at *
  generalize (if (v2 : Int) < (v1 : Int) then t7 else t5) = tlo at *
  generalize (if (v2 : Int) > (v1 : Int) then t7 else t5) = thi at *
  (rename News _ _ _ _ => N1)
  refine se_in N1 ?_
  clear N1
  intro N1
  refine stop_open ?_
  have mv : MarkV := trivial
  k_steps
  iterate 6 exact hret _ _ _ _ (by k_asm) (by k_asm) (se_post (by ktn_lt) (fun p hp => by repeat (first | exact hp | refine List.mem_cons_of_mem _ ?_)) (by assumption) (Nat.le_trans (by assumption) (Nat.le_of_ble_eq_true rfl)))
  (rename Fr _ _ _ _ => F1); (rename News _ _ _ _ => N1)
  refine mono_fs (fun ok => ok = true → hi < (vs.length : Int)) F1 N1 ?_ ?_
  · have mu : MarkU := trivial
    k_steps
    all_goals exact Met.intro (by first | exact fun _ => by assumption | (intro h; cases h)) (by k_asm) (by k_asm)
  rintro ok h6 tk6 hok F6 N6
  clear F1 N1
  cases ok
  rotate_left 1
  · have hlt := hok rfl
    k_steps
    exact hret _ _ _ _ (by k_asm) (by k_asm) (se_post (by ktn_lt) (fun p hp => by repeat (first | exact hp | refine List.mem_cons_of_mem _ ?_)) (by assumption) (Nat.le_trans (by assumption) (Nat.le_of_ble_eq_true rfl)))
  · clear hok
    k_steps
    (rename _ = kms_pick _ (some _) (some _) => ez)
    have mk : MarkT := trivial
    obtain h0 | ⟨x, h0⟩ := one_cases (one_len ez)
    · clear ez
      subst h0
      refine stop_open ?_
      k_steps
      exact hret _ _ _ _ (by k_asm) (by k_asm) (se_post (by ktn_lt) (fun p hp => by repeat (first | exact hp | refine List.mem_cons_of_mem _ ?_)) (by assumption) (Nat.le_trans (by assumption) (Nat.le_of_ble_eq_true rfl)))
    · have A1 := hA60.pick (lo := some (v1 : Int)) (hi := some ((v1 : Int) + 1))
      rw [← ez, h0] at A1
      clear ez
      subst h0
      obtain ⟨b, t, rfl, hb⟩ := A1 x (.head _)
      have hsz := KBc.size_picked_le b none (some (-1))
      have hx5 : (KBy.picked b none (some (-1)) ++ #[5]).size ≤ 61 := by
        rw [Array.size_append]
        simp only [List.size_toArray, List.length_cons, List.length_nil]
        omega
      refine stop_open ?_
      k_steps
      refine LCg.CompEnd.intro (by k_asm) (by k_asm) _ (fun p hp => hp) (by assumption) (.inr ⟨_, by k_mem, rfl, _, rfl⟩) (LCg.CompRest.zero ?_)
      intro D9 h9 tk9 F9 N9 off9
      simp only [List.nil_append] at N9
      k_steps
      exact hret _ _ _ _ (by k_asm) (by k_asm) (se_post (by ktn_lt) (fun p hp => by repeat (first | exact hp | refine List.mem_cons_of_mem _ ?_)) (by assumption) (Nat.le_trans (by assumption) (Nat.le_of_ble_eq_true rfl)))
end SeLines
end
section
noncomputable def rowOf : Value → Row
  | .bytes b _ => b.toList
  | _ => []
theorem AB.ba {k : Nat} {vs : List Value} (h : AB k vs) : BA vs (vs.map rowOf) := by
  refine ⟨by simp, fun i r hr => ?_⟩
  rw [List.getElem?_map] at hr
  cases hv : vs[i]? with
  | none => rw [hv] at hr; cases hr
  | some v =>
    rw [hv] at hr
    obtain ⟨b, t, rfl, _⟩ := h v (List.mem_of_getElem? hv)
    exact ⟨b, t, rfl, Option.some.inj hr⟩
theorem AB.sm {k : Nat} {vs : List Value} (h : AB k vs) (hk : k ≤ 100) : ∀ r ∈ vs.map rowOf, r.length ≤ 100 := fun r hr => by
  obtain ⟨v, hv, rfl⟩ := List.mem_map.mp hr
  obtain ⟨b, t, rfl, h2⟩ := h v hv
  show b.toList.length ≤ 100
  rw [Array.length_toList]; omega
theorem BA.take {vs : List Value} {rows : List Row} (h : BA vs rows) (k : Nat) : BA (vs.take k) (rows.take k) := by
  refine ⟨by rw [List.length_take, List.length_take, h.1], fun i r hr => ?_⟩
  by_cases hi : i < k
  · rw [List.getElem?_take_of_lt hi] at hr ⊢
    exact h.2 i r hr
  · rw [List.getElem?_eq_none (by rw [List.length_take]; omega)] at hr
    cases hr
theorem BA.nil : BA [] [] := ⟨rfl, fun i r h => by simp at h⟩
theorem all_eq_rows (xs ys : List Row) (hl : xs.length = ys.length) : (List.range xs.length).all (fun j => xs.getD j [] == ys.getD j []) = decide (xs = ys) := by
  by_cases h : xs = ys
  · subst h; simp
  · rw [decide_eq_false h, Bool.eq_false_iff]
    intro ha
    apply h
    apply List.ext_getElem hl
    intro i h1 h2
    have := List.all_eq_true.mp ha i (by simp; omega)
    simpa [h1, h2] using this
section
variable {prog : Program} {w : World} {A : Around} {E : Value → Shared → Prop} {s : Shared} {h₀ : Heap} {L : Addr} {m : Str → Option Value} {news : Led}
theorem eqBool_bytes {b c : Array UInt8} {t u : Tok} {Q : Bool → Shared → Prop} (h : Q (b.toList == c.toList) s) : wpAny (model prog w) A (eqBool (.bytes b t) (.bytes c u)) Q E s := by
  unfold eqBool
  show wpAny _ _ (if (Value.bytes b t == Value.bytes c u) = true then _ else _) Q E s
  by_cases hab : (Value.bytes b t == Value.bytes c u) = true
  · rw [if_pos hab]
    have e : b = c := by have := eq_of_beq hab; injection this
    subst e
    exact wpAny_bind (wpAny_rule (wpAny_pure (by simpa using h)))
  · rw [if_neg hab]
    exact wpAny_bind (richCompare_gives (op := .Eq) (typeIs_bytes s b t) (typeIs_bytes s c u) FB.slot_bytes_eq FB.entry_bytes_eq (FB.args_bytes_eq_2 _ _) (gives_bytes_eq b c t u) (fun e => nomatch e) (wpAny_truthy_bool h))
theorem lst_eqB {a b : Addr} {va vb : List Value} {na nb : Nat} {ra rb : List Row} {Q : Value → Shared → Prop} (N : News h₀ L s.heap news) (ha : (a, listOf va.toArray na) ∈ news) (hb : (b, listOf vb.toArray nb) ∈ news) (ia : BA va ra) (ib : BA vb rb) (hu : A.units < cLine)
    (h : Q (.bool (decide (ra = rb))) s) : Stop (wpAny (model prog w) A (compareOp .Eq (.ref a) (.ref b)) Q E s) := by
  by_cases hl : va.length = vb.length
  · refine PySem.SeqAt.eq_listAt (items := va.toArray) (items2 := vb.toArray) (e := fun j => ra.getD j [] == rb.getD j []) (News.isList N ha) (News.isList N hb) (by simpa using hl) hu (fun j h1 h2 => ?_) ?_
    · rw [List.size_toArray] at h1 h2
      have l1 : j < ra.length := by rw [← ia.1]; exact h1
      have l2 : j < rb.length := by rw [← ib.1]; exact h2
      obtain ⟨b1, t1, e1, g1⟩ := ia.2 j _ (List.getElem?_eq_getElem l1)
      obtain ⟨b2, t2, e2, g2⟩ := ib.2 j _ (List.getElem?_eq_getElem l2)
      rw [List.getElem?_eq_getElem h1] at e1
      rw [List.getElem?_eq_getElem h2] at e2
      rw [List.getElem_toArray, List.getElem_toArray, Option.some.inj e1, Option.some.inj e2]
      have e3 : (ra.getD j [] == rb.getD j []) = (b1.toList == b2.toList) := by
        rw [g1, g2, List.getD_eq_getElem?_getD, List.getD_eq_getElem?_getD, List.getElem?_eq_getElem l1, List.getElem?_eq_getElem l2]; rfl
      rw [e3]
      intro prog w E Q hq
      exact eqBool_bytes hq
    · rw [List.size_toArray, ia.1, all_eq_rows ra rb (by rw [← ia.1, ← ib.1, hl])]
      exact h
  · refine PySem.SeqAt.eq_list_lengthsAt (items := va.toArray) (items2 := vb.toArray) (News.isList N ha) (News.isList N hb) (by simpa using hl) hu ?_
    have : ¬ ra = rb := fun e => hl (by rw [ia.1, ib.1, e])
    rw [decide_eq_false this] at h
    exact h
end
theorem law_in {P : Prop} {w : World} {h₀ h : Heap} {L D kd dg dd wl src : Addr} {oD o : Obj} {t t1 t2 : Tok} {n n2 c : Nat} {vs : List Value} {p : Addr × Obj} (N : News h₀ L h [(D, oD), (kd, o), (dg, instObj 276 dd), (dd, dictOf [⟨PyData.keyHash w.params "known", .str "known" t, .ref kd⟩] n), (wl, listOf #[.ref src, .int 0 t1, .int 5 t2] n2), (src, listOf vs.toArray c), p])
   (k : ∀ (t' : Tok) (n' : Nat) (ow : Obj), News h₀ L h [(wl, ow), (kd, o), (dg, instObj 276 dd), (dd, dictOf [⟨PyData.keyHash w.params "known", .str "known" t', .ref kd⟩] n'), (src, listOf vs.toArray c)] → (∀ rest : Led, (∀ p ∈ rest, p.1 ≠ wl) → WL wl src 0 rest ((wl, ow) :: rest)) → P) : P :=
  k t n _ (news_sub N (sub_cons (.tail _ (.tail _ (.tail _ (.tail _ (.head _))))) (sub_cons (.tail _ (.head _)) (sub_cons (.tail _ (.tail _ (.head _))) (sub_cons (.tail _ (.tail _ (.tail _ (.head _)))) (sub_cons (.tail _ (.tail _ (.tail _ (.tail _ (.tail _ (.head _)))))) sub_nil)))))) (fun _ hne => ⟨5, t1, t2, n2, rfl, by omega, hne⟩)
end
section
section LawLines
local macro_rules | `(tactic| walk_at "isTrue BoolOp And cons") => `(tactic| ((fail_if_success (have hq9 : MarkU := by with_reducible assumption)); wtm_at "MY stop"))
local macro_rules | `(tactic| walk_at "compareOp Eq ref ref") => `(tactic| wtm_at "MY stop")
/-- what comes after the law's body, as one letter -/
theorem law_q {prog : Program} {w : World} {A : Around} {s : Shared} {h₀ : Heap} {L : Addr} {m : Str → Option Value} {x : Sem Flow} {Q : Flow → Shared → Prop} {E : Value → Shared → Prop} (_ : Fr h₀ L s.heap m)
    (h1 : ∀ h' tk' m', Fr h₀ L h' m' → Q (.ret (.bool true)) { s with heap := h', toks := tk' })
    (h2 : ∀ (Q' : Flow → Shared → Prop) (E' : Value → Shared → Prop), (∀ h' tk' m', Fr h₀ L h' m' → Q' (.ret (.bool true)) { s with heap := h', toks := tk' }) → wpAny (model prog w) A x Q' E' s) : wpAny (model prog w) A x Q E s := h2 Q E h1
theorem law_holds : PySem.Challenge.rw_sa0309_01.Holds := hd (by
  k_go0
  (rename World => w)
  (all_goals try k_fold)
  (rename Fr _ _ _ _ => F0)
  refine law_q F0 ?_ ?_
  · clear F0
    intro h' tk' m' F'
    k_steps
  intro Q' E' hret
  k_steps
  rename_i ws _ _ _ _ _ src c0 _ _ wl _ _ dg dd _ _ _ _ _ _ _ _ _ _ _ _ _ _ _ kd _ o hlo _ _ hkd1 hkd2 _ _ _ _ _ _ _ _ _ _ _ _ _ N1
  refine law_in N1 ?_
  clear N1
  intro tK nK ow N2 hWL
  (rename IntsAre _ (List.take _ _) => ia)
  (rename (List.take _ _).length = min _ _ => hlen)
  (rename dd < dg => o1)
  (rename wl < dd ∧ _ => o2)
  (rename src < wl ∧ _ => o3)
  (rename dg < kd ∧ _ => o4)
  have hwl : ws.length ≤ 100 := by have := ia.length; omega
  refine call_out (li_tell _ wl src 0 [(kd, o), (dg, instObj 276 dd), (dd, dictOf [⟨PyData.keyHash w.params "known", .str "known" tK, .ref kd⟩] nK), (src, listOf ws.toArray c0)] (by omega)) (by k_asm) (by k_asm) (by k_asm) N2 (by k_asm) rfl ⟨rfl, hWL _ (sub_cons (Nat.ne_of_gt o4.2.2.1) (sub_cons (Nat.ne_of_gt (Nat.lt_trans o2.1 o1)) (sub_cons (Nat.ne_of_gt o2.1) (sub_cons (Nat.ne_of_lt o3.1) sub_nil)))), SrcAt.mk (.tail _ (.tail _ (.tail _ (.head _)))) ia hwl⟩ (by ktr_room) (by ktr_units) li_out ?_
  intro sp tl rw vs nn c2 t2 u2 n2 hsp hc2 hab hm hA hl h9 tk9 F9 N9
  have hrk : kd < rw := hab _ (.head _) _ hm
  have N10 := news_sub N9 (l' := (kd, o) :: (dg, instObj 276 dd) :: (dd, dictOf [⟨PyData.keyHash w.params "known", .str "known" tK, .ref kd⟩] nK) :: (src, listOf ws.toArray c0) :: (wl, listOf #[.ref src, .int (sp : Nat) t2, .int (c2 : Nat) u2] n2) :: (rw, listOf vs.toArray nn) :: []) (sub_cons (.tail _ (mem_r (.head _))) (sub_cons (.tail _ (mem_r (.tail _ (.head _)))) (sub_cons (.tail _ (mem_r (.tail _ (.tail _ (.head _))))) (sub_cons (.tail _ (mem_r (.tail _ (.tail _ (.tail _ (.head _)))))) (sub_cons (.head _) (sub_cons (.tail _ (mem_l hm)) sub_nil))))))
  clear N9 N2
  k_steps
  refine call_out (lrc_tell _ rw dg kd (vs.map rowOf) vs nn [] [(dg, instObj 276 dd), (dd, dictOf [⟨PyData.keyHash w.params "known", .str "known" tK, .ref kd⟩] nK), (src, listOf ws.toArray c0), (wl, listOf #[.ref src, .int (sp : Nat) t2, .int (c2 : Nat) u2] n2), (rw, listOf vs.toArray nn)] (by simp) (by rw [List.length_map]; omega) hA.ba.2 (hA.sm (by omega)) (by simp)) (by k_asm) (by k_asm) (by k_asm) (by k_asm) (by k_asm) rfl ⟨rfl, DSt.mk ⟨[], hkd1, hkd2⟩ hlo (sub_cons (Nat.ne_of_lt o4.1) (sub_cons (Nat.ne_of_lt o4.2.1) (sub_cons (Nat.ne_of_lt o4.2.2.2.1) (sub_cons (Nat.ne_of_lt o4.2.2.1) (sub_cons (Nat.ne_of_gt hrk) sub_nil))))), DigAt.mk (.head _) (.tail _ (.head _)), (.tail _ (.tail _ (.tail _ (.tail _ (.head _)))))⟩ (by ktr_room) (by ktr_units) lrc_out ?_
  intro ds1 tl1 e1 b1 t1 o1' hp1 hl1 hK1 hb1 he1 hE1 h8 tk8 F8 N8
  have hz1 : b1.size = 32 := by rw [← Array.length_toList, hb1, dig_len]
  have N11 := news_sub N8 (l' := (wl, listOf #[.ref src, .int (sp : Nat) t2, .int (c2 : Nat) u2] n2) :: (kd, o1') :: (dg, instObj 276 dd) :: (dd, dictOf [⟨PyData.keyHash w.params "known", .str "known" tK, .ref kd⟩] nK) :: (src, listOf ws.toArray c0) :: (rw, listOf vs.toArray nn) :: []) (sub_cons (.tail _ (mem_r (.tail _ (.tail _ (.tail _ (.head _)))))) (sub_cons (.head _) (sub_cons (.tail _ (mem_r (.head _))) (sub_cons (.tail _ (mem_r (.tail _ (.head _)))) (sub_cons (.tail _ (mem_r (.tail _ (.tail _ (.head _))))) (sub_cons (.tail _ (mem_r (.tail _ (.tail _ (.tail _ (.tail _ (.head _))))))) sub_nil))))))
  clear N8
  k_steps
  refine call_out (se_tell _ wl src rw sp [(kd, o1'), (dg, instObj 276 dd), (dd, dictOf [⟨PyData.keyHash w.params "known", .str "known" tK, .ref kd⟩] nK), (src, listOf ws.toArray c0), (rw, listOf vs.toArray nn)] vs nn b1 _ (by omega) hA hl (by omega)) (by k_asm) (by k_asm) (by k_asm) (by k_asm) (by k_asm) rfl ⟨rfl, WL.mk hc2 (sub_cons (Nat.ne_of_gt o4.2.2.1) (sub_cons (Nat.ne_of_gt (Nat.lt_trans o2.1 o1)) (sub_cons (Nat.ne_of_gt o2.1) (sub_cons (Nat.ne_of_lt o3.1) (sub_cons (Nat.ne_of_gt (Nat.lt_trans o4.2.2.1 hrk)) sub_nil))))), SrcAt.mk (.tail _ (.tail _ (.tail _ (.head _)))) ia hwl, (.tail _ (.tail _ (.tail _ (.tail _ (.head _)))))⟩ (by ktr_room) (by ktr_units) se_out ?_
  intro ot vs2 n3 n7 hm2 hlt2 hsub2 hA2 hl2 h7 tk7 F7 N7
  have hot : kd < ot := hlt2 _ (.head _)
  have N12 := news_sub N7 (l' := (kd, o1') :: (dg, instObj 276 dd) :: (dd, dictOf [⟨PyData.keyHash w.params "known", .str "known" tK, .ref kd⟩] nK) :: (rw, listOf vs.toArray nn) :: (ot, listOf vs2.toArray n3) :: []) (sub_cons (hsub2 _ (.head _)) (sub_cons (hsub2 _ (.tail _ (.head _))) (sub_cons (hsub2 _ (.tail _ (.tail _ (.head _)))) (sub_cons (hsub2 _ (.tail _ (.tail _ (.tail _ (.tail _ (.head _)))))) (sub_cons hm2 sub_nil)))))
  clear N7
  k_steps
  refine call_out (lrc_tell _ ot dg kd (vs2.map rowOf) vs2 n3 ds1 [(dg, instObj 276 dd), (dd, dictOf [⟨PyData.keyHash w.params "known", .str "known" tK, .ref kd⟩] nK), (rw, listOf vs.toArray nn), (ot, listOf vs2.toArray n3)] (by simp) (by rw [List.length_map]; omega) hA2.ba.2 (hA2.sm (by omega)) (by simp at hl1; omega)) (by k_asm) (by k_asm) (by k_asm) (by k_asm) (by k_asm) rfl ⟨rfl, DSt.mk hK1 hlo (sub_cons (Nat.ne_of_lt o4.1) (sub_cons (Nat.ne_of_lt o4.2.1) (sub_cons (Nat.ne_of_gt hrk) (sub_cons (Nat.ne_of_gt hot) sub_nil)))), DigAt.mk (.head _) (.tail _ (.head _)), (.tail _ (.tail _ (.tail _ (.head _))))⟩ (by ktr_room) (by ktr_units) lrc_out ?_
  intro ds2 tl2 e2 b2 t3 o2' hp2 hl3 hK2 hb2 he2 hE2 h6 tk6 F6 N6
  have hz2 : b2.size = 32 := by rw [← Array.length_toList, hb2, dig_len]
  have N13 := news_sub N6 (l' := (kd, o2') :: (dg, instObj 276 dd) :: (dd, dictOf [⟨PyData.keyHash w.params "known", .str "known" tK, .ref kd⟩] nK) :: (rw, listOf vs.toArray nn) :: (ot, listOf vs2.toArray n3) :: []) (sub_cons (.head _) (sub_cons (.tail _ (mem_r (.head _))) (sub_cons (.tail _ (mem_r (.tail _ (.head _)))) (sub_cons (.tail _ (mem_r (.tail _ (.tail _ (.head _))))) (sub_cons (.tail _ (mem_r (.tail _ (.tail _ (.tail _ (.head _)))))) sub_nil)))))
  clear N6
  have hi1 : ((b1.size : Nat) : Int) = 32 := by omega
  have hi2 : ((b2.size : Nat) : Int) = 32 := by omega
  k_steps
  · exact absurd hi1 (by assumption)
  · exact absurd hi2 (by assumption)
  (rename Fr _ _ _ _ => F1)
  (rename News _ _ _ _ => N1)
  refine stop_open (mono_fr (nl := [(rw, listOf vs.toArray nn), (ot, listOf vs2.toArray n3)]) (fun ok => ok = false) F1 N1 ?_ ?_)
  · have mu : MarkU := trivial
    k_steps
    refine call_out (he_tell _ rw vs nn (vs.map rowOf) hA.ba (by rw [List.length_map]; omega)) (by k_asm) (by k_asm) (by k_asm) (by k_asm) (by k_asm) rfl ⟨rfl, by k_mem⟩ (by ktr_room) (by ktr_units) he_out ?_
    intro hd1 n5 hg hm3 h5 tk5 F5 N5
    have N14 := news_sub N5 (l' := (hd1, listOf (vs.take (hln (vs.map rowOf) (vs.map rowOf).length)).toArray 0) :: (kd, o2') :: (dg, instObj 276 dd) :: (dd, dictOf [⟨PyData.keyHash w.params "known", .str "known" tK, .ref kd⟩] nK) :: (rw, listOf vs.toArray nn) :: (ot, listOf vs2.toArray n3) :: []) (sub_cons hm3 hg.sub)
    clear N5
    k_steps
    refine lst_eqB (ra := held (vs.map rowOf)) (rb := []) (by k_asm) (by k_mem) (by k_mem) (hA.ba.take _) BA.nil (by ktr_units) ?_
    by_cases hh : held (vs.map rowOf) = []
    · rw [decide_eq_true hh]
      k_steps
      obtain rfl := law_empty (rows := vs.map rowOf) (by rw [List.length_map]; omega) hh hE1
      have hin : [128] ∈ ds2 := by obtain ⟨t, rfl⟩ := hp2; exact List.mem_append.mpr (.inl he1)
      (rename News _ _ _ _ => N15)
      refine call_out (of_tell w dg kd ds2 [(dg, instObj 276 dd), (dd, dictOf [⟨PyData.keyHash w.params "known", .str "known" tK, .ref kd⟩] nK), (rw, listOf vs.toArray nn), (ot, listOf vs2.toArray n3)] #[128] _ (by simp) (by simp at hl1; omega)) (by k_asm) (by k_asm) (by k_asm) (news_sub N15 (fun p hp => .tail _ (.tail _ hp))) (by k_asm) rfl ⟨rfl, DSt.mk hK2 hlo (sub_cons (Nat.ne_of_lt o4.1) (sub_cons (Nat.ne_of_lt o4.2.1) (sub_cons (Nat.ne_of_gt hrk) (sub_cons (Nat.ne_of_gt hot) sub_nil)))), DigAt.mk (.head _) (.tail _ (.head _))⟩ (by ktr_room) (by ktr_units) of_out ?_
      intro o3' b3 t5 _ hb3 h2 tk2 F2 N2
      have e3 : addD ds2 (#[128] : Array UInt8).toList = ds2 := if_pos hin
      have hb31 : b3 = b1 := by
        apply Array.toList_inj.mp
        rw [hb3, hb1, e3]
        obtain ⟨t, rfl⟩ := hp2
        rw [numOf_pre he1]
      subst hb31
      have hnn : (b3.toList != b3.toList) = false := by simp
      k_steps
      all_goals exact Met.intro (by first | rfl | exact Eq.trans (Eq.symm (by assumption)) hnn) (by k_asm) (news_sub N2 (fun p hp => .tail _ (.tail _ (.tail _ hp))))
    · rw [decide_eq_false hh]
      k_steps
      (rename News _ _ _ _ => N15)
      exact Met.intro rfl (by k_asm) (news_sub N15 (fun p hp => .tail _ (.tail _ (.tail _ (.tail _ (.tail _ hp))))))
  rintro ok h6 tk6 rfl F6 N6
  clear F1 N1
  k_steps
  refine call_out (he_tell w rw vs nn (vs.map rowOf) hA.ba (by rw [List.length_map]; omega)) (by k_asm) (by k_asm) (by k_asm) (by k_asm) (by k_asm) rfl ⟨rfl, by k_mem⟩ (by ktr_room) (by ktr_units) he_out ?_
  intro hd2 n4 hg2 hm4 h4 tk4 F4 N4
  have N16 := news_sub N4 (l' := (hd2, listOf (vs.take (hln (vs.map rowOf) (vs.map rowOf).length)).toArray 0) :: (ot, listOf vs2.toArray n3) :: []) (sub_cons hm4 (sub_cons (hg2.sub _ (by k_mem)) sub_nil))
  clear N4
  k_steps
  refine call_out (he_tell w ot vs2 n3 (vs2.map rowOf) hA2.ba (by rw [List.length_map]; omega)) (by k_asm) (by k_asm) (by k_asm) (by k_asm) (by k_asm) rfl ⟨rfl, by k_mem⟩ (by ktr_room) (by ktr_units) he_out ?_
  intro hd3 n3' hg3 hm5 h3 tk3 F3 N3
  have N17 := news_sub N3 (l' := (hd3, listOf (vs2.take (hln (vs2.map rowOf) (vs2.map rowOf).length)).toArray 0) :: (hd2, listOf (vs.take (hln (vs.map rowOf) (vs.map rowOf).length)).toArray 0) :: []) (sub_cons hm5 (sub_cons (hg3.sub _ (by k_mem)) sub_nil))
  clear N3
  k_steps
  refine lst_eqB (ra := held (vs.map rowOf)) (rb := held (vs2.map rowOf)) (by k_asm) (by k_mem) (by k_mem) (hA.ba.take _) (hA2.ba.take _) (by ktr_units) ?_
  have key : (b1.toList == b2.toList) = decide (held (vs.map rowOf) = held (vs2.map rowOf)) := by
    have hp := law_pure (rows := vs.map rowOf) (rows' := vs2.map rowOf) (by rw [List.length_map]; omega) (by rw [List.length_map]; omega) (hA.sm (by omega)) (hA2.sm (by omega)) (by simp at hl1; omega) hp2 hE1 hE2 he1 he2
    rw [← hb1, ← hb2] at hp
    by_cases hq : held (vs.map rowOf) = held (vs2.map rowOf)
    · rw [decide_eq_true hq, hp.mpr hq]; simp
    · rw [decide_eq_false hq, Bool.eq_false_iff]
      exact fun e => hq (hp.mp (eq_of_beq e))
  rw [key]
  k_steps
  rw [beq_self_eq_true]
  exact hret _ _ _ (by k_asm))
end LawLines
end
end Mine
theorem PySem.Challenge.cw_sa0309_01_holds : PySem.Challenge.rw_sa0309_01.Holds :=
  Mine.law_holds
