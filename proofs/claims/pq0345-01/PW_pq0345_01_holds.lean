import PyProof.Rows.All
import Wide.All
import OpenK.AllK
import Wide.FinOn
import PySem.Challenge.RW_pq0345_01
open PySem PySem.W PyProof.Rows
set_option Elab.async false
set_option maxRecDepth 100000
set_option maxHeartbeats 8000000
set_option compiler.extract_closed false
open_top hd for PySem.Challenge.rw_pq0345_01
namespace Mine
theorem top_off : True := by
  w_top off
  trivial

/-- what a call of f upon vs hands on: any value and ledger that Post takes -/
def Says (lv : Nat) (w : World) (mean : ExcName → Option Value) (mg mb : Str → Option Value) (f : Addr) (vs : List Value) (news : List (Addr × Obj)) (Post : Value → List (Addr × Obj) → Prop) : Prop :=
  ∀ (dp un : Nat) (gd : Option (List Code)) (cn : Str) (cs : Scope) (a : Addr) (ccd : Value) (cl : List (Str × Addr)) (outer : List Env) (A₀ : Around) (base h₀ : Heap) (L : Addr) (m : Str → Option Value) (s : Shared) (Q E : Value → Shared → Prop),
    Below A₀ base outer h₀ → Fr h₀ L s.heap m → (hd.heap_39 w.params).In h₀ → News h₀ L s.heap news → Top hd.view_39 (looseW hd.view_39 []) mean mg mb h₀ → cs.kind = .function → dp + lv < recursionLimit → un + 100 * lv < cLine →
    (∀ r news' h' tk', Post r news' → Fr h₀ L h' m → News h₀ L h' news' → Q r { s with heap := h', toks := tk' }) →
    wpAny (model PySem.Challenge.rw_pq0345_01.row.prog w) (ktrTop dp un gd cn cs L a ccd cl outer) (call (.ref f) vs) Q E s

section
variable {lv : Nat} {w : World} {mean : ExcName → Option Value} {mg mb : Str → Option Value} {f : Addr} {vs : List Value} {news : List (Addr × Obj)} {Post : Value → List (Addr × Obj) → Prop}
theorem Says.use (C : Says lv w mean mg mb f vs news Post) {dp un : Nat} {gd : Option (List Code)} {cn : Str} {cs : Scope} {a : Addr} {ccd : Value} {cl : List (Str × Addr)} {outer : List Env} {A₀ : Around} {base h₀ : Heap} {L : Addr} {m : Str → Option Value} {s : Shared} {Q E : Value → Shared → Prop}
    (B : Below A₀ base outer h₀) (F : Fr h₀ L s.heap m) (X : (hd.heap_39 w.params).In h₀) (N : News h₀ L s.heap news) (T : Top hd.view_39 (looseW hd.view_39 []) mean mg mb h₀) (hk : cs.kind = .function) (hdp : dp + lv < recursionLimit) (hun : un + 100 * lv < cLine)
    (ret : ∀ r news' h' tk', Post r news' → Fr h₀ L h' m → News h₀ L h' news' → Q r { s with heap := h', toks := tk' }) :
    wpAny (model PySem.Challenge.rw_pq0345_01.row.prog w) (ktrTop dp un gd cn cs L a ccd cl outer) (call (.ref f) vs) Q E s := C _ _ _ _ _ _ _ _ _ _ _ _ _ _ _ _ _ B F X N T hk hdp hun ret
/-- the ledger in another order -/
theorem Says.perm {news₁ : List (Addr × Obj)} {Post₁ : Value → List (Addr × Obj) → Prop} (C : Says lv w mean mg mb f vs news Post) (hs : ∀ p ∈ news, p ∈ news₁) (hp : ∀ r news', Post r news' → ∃ news₂, Post₁ r news₂ ∧ ∀ p ∈ news₂, p ∈ news') : Says lv w mean mg mb f vs news₁ Post₁ := by
  intro dp un gd cn cs a ccd cl outer A₀ base h₀ L m s Q E B F X N T hk hd hu hret
  refine C _ _ _ _ _ _ _ _ _ _ _ _ _ _ _ _ _ B F X (fun p hp => N p (hs p hp)) T hk hd hu ?_
  intro r news' h' tk' hP F' N'
  obtain ⟨news₂, h2, hsub⟩ := hp r news' hP
  exact hret r news₂ h' tk' h2 F' fun p hp => N' p (hsub p hp)
end
/-- a pure call that gives an int, a bool, and lets the ledger stand -/
def GivesI (news : List (Addr × Obj)) (v : Int) (r : Value) (news' : List (Addr × Obj)) : Prop := (∃ t, r = .int v t) ∧ news' = news
theorem GivesI.of {news : List (Addr × Obj)} {v v' : Int} {t : Tok} (e : v' = v) : GivesI news v (.int v' t) news := ⟨⟨t, by rw [e]⟩, rfl⟩
def GivesB (news : List (Addr × Obj)) (v : Bool) (r : Value) (news' : List (Addr × Obj)) : Prop := r = .bool v ∧ news' = news
/-- a call that gives a new list of these ints -/
def GivesL (news : List (Addr × Obj)) (ns : List Int) (r : Value) (news' : List (Addr × Obj)) : Prop := ∃ D vs c, r = .ref D ∧ news' = (D, listOf vs.toArray c) :: news ∧ IntsAre vs ns ∧ LCg.Off1 D news
theorem GivesL.of {news : List (Addr × Obj)} {ns : List Int} {D : Addr} {vs : List Value} {c : Nat} (hi : IntsAre vs ns) (ho : LCg.Off1 D news) : GivesL news ns (.ref D) ((D, listOf vs.toArray c) :: news) := ⟨D, vs, c, rfl, rfl, hi, ho⟩
theorem off1_of {D : Addr} : ∀ {news : List (Addr × Obj)}, AllLt D news → LCg.Off1 D news
  | [], _ => trivial
  | _ :: _, h => ⟨Nat.ne_of_lt h.1, off1_of h.2⟩
theorem GivesB.of {news : List (Addr × Obj)} {v v' : Bool} (e : v' = v) : GivesB news v (.bool v') news := ⟨by rw [e], rfl⟩
section
variable {lv : Nat} {w : World} {mean : ExcName → Option Value} {mg mb : Str → Option Value} {f : Addr} {vs : List Value} {news : List (Addr × Obj)} {v : Int} {b : Bool} {ns : List Int}
  {dp un : Nat} {gd : Option (List Code)} {cn : Str} {cs : Scope} {a : Addr} {ccd : Value} {cl : List (Str × Addr)} {outer : List Env} {A₀ : Around} {base h₀ : Heap} {L : Addr} {m : Str → Option Value} {s : Shared} {Q E : Value → Shared → Prop}
theorem Says.useI (B : Below A₀ base outer h₀) (F : Fr h₀ L s.heap m) (X : (hd.heap_39 w.params).In h₀) (N : News h₀ L s.heap news) (T : Top hd.view_39 (looseW hd.view_39 []) mean mg mb h₀) (hk : cs.kind = .function) (C : Says lv w mean mg mb f vs news (GivesI news v)) (hdp : dp + lv < recursionLimit) (hun : un + 100 * lv < cLine)
    (ret : ∀ t h' tk', Fr h₀ L h' m → News h₀ L h' news → Q (.int v t) { s with heap := h', toks := tk' }) :
    wpAny (model PySem.Challenge.rw_pq0345_01.row.prog w) (ktrTop dp un gd cn cs L a ccd cl outer) (call (.ref f) vs) Q E s := by
  refine C.use B F X N T hk hdp hun ?_
  rintro _ _ h' tk' ⟨⟨t, rfl⟩, rfl⟩ F' N'
  exact ret t h' tk' F' N'
theorem Says.useB (B : Below A₀ base outer h₀) (F : Fr h₀ L s.heap m) (X : (hd.heap_39 w.params).In h₀) (N : News h₀ L s.heap news) (T : Top hd.view_39 (looseW hd.view_39 []) mean mg mb h₀) (hk : cs.kind = .function) (C : Says lv w mean mg mb f vs news (GivesB news b)) (hdp : dp + lv < recursionLimit) (hun : un + 100 * lv < cLine)
    (ret : ∀ h' tk', Fr h₀ L h' m → News h₀ L h' news → Q (.bool b) { s with heap := h', toks := tk' }) :
    wpAny (model PySem.Challenge.rw_pq0345_01.row.prog w) (ktrTop dp un gd cn cs L a ccd cl outer) (call (.ref f) vs) Q E s := by
  refine C.use B F X N T hk hdp hun ?_
  rintro _ _ h' tk' ⟨rfl, rfl⟩ F' N'
  exact ret h' tk' F' N'
theorem Says.useL (B : Below A₀ base outer h₀) (F : Fr h₀ L s.heap m) (X : (hd.heap_39 w.params).In h₀) (N : News h₀ L s.heap news) (T : Top hd.view_39 (looseW hd.view_39 []) mean mg mb h₀) (hk : cs.kind = .function) (C : Says lv w mean mg mb f vs news (GivesL news ns)) (hdp : dp + lv < recursionLimit) (hun : un + 100 * lv < cLine)
    (ret : ∀ D vs c h' tk', IntsAre vs ns → LCg.Off1 D news → Fr h₀ L h' m → News h₀ L h' ((D, listOf vs.toArray c) :: news) → Q (.ref D) { s with heap := h', toks := tk' }) :
    wpAny (model PySem.Challenge.rw_pq0345_01.row.prog w) (ktrTop dp un gd cn cs L a ccd cl outer) (call (.ref f) vs) Q E s := by
  refine C.use B F X N T hk hdp hun ?_
  rintro _ _ h' tk' ⟨D, vs, c, rfl, rfl, hi, ho⟩ F' N'
  exact ret D vs c h' tk' hi ho F' N'
end
def DeckOk (ns : List Int) : Prop := ns.length ≤ 16 ∧ ∀ x ∈ ns, 0 ≤ x ∧ x < 10 ^ 16
def DeckJ (d : Addr) (rest : List (Addr × Obj)) (m₀ : Str → Option Value) (n : Nat) (m : Str → Option Value) (news : List (Addr × Obj)) : Prop :=
  m = m₀ ∧ ∃ vs ns c, news = (d, listOf vs.toArray c) :: rest ∧ IntsAre vs ns ∧ DeckOk ns ∧ n = ns.length
theorem DeckOk.tail {x : Int} {ns : List Int} (h : DeckOk (x :: ns)) : DeckOk ns := ⟨Nat.le_of_succ_le h.1, fun y hy => h.2 y (.tail _ hy)⟩
theorem DeckOk.head {x : Int} {ns : List Int} (h : DeckOk (x :: ns)) : 0 ≤ x ∧ x < 10000000000000000 := h.2 x (.head _)
theorem DeckOk.nil : DeckOk [] := ⟨Nat.zero_le _, fun _ h => nomatch h⟩
theorem DeckOk.put {x : Int} {ns : List Int} (h : DeckOk (x :: ns)) {y : Int} (h0 : 0 ≤ y) (h1 : y < 10000000000000000) : DeckOk (y :: ns) := ⟨h.1, fun z hz => by
  rcases List.mem_cons.mp hz with rfl | hz
  · exact ⟨h0, h1⟩
  · exact h.2 z (.tail _ hz)⟩
section
variable {prog : Program} {w : World} {A : Around} {E : Value → Shared → Prop} {s : Shared} {h₀ : Heap} {L D : Addr} {m : Str → Option Value} {news news' : List (Addr × Obj)} {n : Nat}
theorem pop0 {x : Value} {vs : List Value} {u : Tok} {Q : Value → Shared → Prop} (F : Fr h₀ L s.heap m) (N : News h₀ L s.heap news) (U : Upd D (listOf (x :: vs).toArray n) (listOf vs.toArray (n + 1)) news news')
    (hz : (x :: vs).length ≤ sizeLine) (h : ∀ h', Fr h₀ L h' m → News h₀ L h' news' → Q x { s with heap := h' }) : wpAny (model prog w) A (call (.builtin "list.pop") [.ref D, .int 0 u]) Q E s :=
  kl_popAt (p := []) (q := vs) (k := 0) F N rfl (by
    unfold seqIndex?
    simp) rfl U hz h
theorem off_of {d : Addr} : ∀ {rest : List (Addr × Obj)}, (∀ p ∈ rest, p.1 ≠ d) → ∀ p ∈ rest, p.1 ≠ d := fun h => h
end
theorem sizeOk {n : Nat} (h : n ≤ 100) : n ≤ sizeLine := by rw [sizeLine_eq]; omega
theorem drawDiv {a k : Int} (h0 : 0 ≤ a) (h1 : a < 10000000000000000) (hk : 0 < k) : 0 ≤ a.fdiv k ∧ a.fdiv k < 10000000000000000 := by
  rw [Int.fdiv_eq_ediv_of_nonneg _ (Int.le_of_lt hk)]
  exact ⟨Int.ediv_nonneg h0 (Int.le_of_lt hk), Int.lt_of_le_of_lt (Int.ediv_le_self _ h0) h1⟩
theorem drawMod {a k : Int} (hk : 0 < k) : 0 ≤ a.fmod k ∧ a.fmod k < k := by
  rw [Int.fmod_eq_emod_of_nonneg _ (Int.le_of_lt hk)]
  exact ⟨Int.emod_nonneg _ (by omega), Int.emod_lt_of_pos _ hk⟩

theorem DeckOk.room {vs : List Value} {ns : List Int} (h : DeckOk ns) (hi : IntsAre vs ns) : vs.length ≤ 16 := by rw [hi.length]; exact h.1
def DrawPost (d : Addr) (rest : List (Addr × Obj)) (k : Int) (r : Value) (news' : List (Addr × Obj)) : Prop :=
  ∃ v t vs ns c, r = .int v t ∧ 0 ≤ v ∧ v < k ∧ news' = (d, listOf vs.toArray c) :: rest ∧ IntsAre vs ns ∧ DeckOk ns
section
local macro_rules | `(tactic| k_all) => `(tactic| with_reducible assumption)
local macro_rules | `(tactic| walk_at "call builtin:list.pop") => `(tactic| (k_here; k_dflt (refine' pop0 ?F ?N ?U ?z ?_; (case F => k_asm); (case N => k_asm); (case U => k_upd); (case z => (refine sizeOk ?_; have q9 := DeckOk.room (by assumption) (by assumption); omega))); intro h' F' N'; (try k_sweep)))
theorem draw_says (w : World) (mean : ExcName → Option Value) (mg mb : Str → Option Value) (d : Addr) (vs : List Value) (ns : List Int) (n : Nat) (k : Int) (t : Tok) (rest : List (Addr × Obj)) (hi : IntsAre vs ns) (hok : DeckOk ns) (hk1 : 0 < k) (hk' : k ≤ 300) (hoff : ∀ p ∈ rest, p.1 ≠ d) :
   Says 3 w mean mg mb 217 [.ref d, .int k t] ((d, listOf vs.toArray n) :: rest) (DrawPost d rest k) := by
  unfold Says
  k_fill
  intro dp un gd cn cs a ccd cl outer A₀ base h₀ L m s Q E B F X N T hk hd hu hret
  refine wpAny_call ?_
  k_dflt ktr_enter
  iterate 2 (first | walk1 | (dsimp only; walk1))
  rename Fr _ _ _ _ => lF'
  rename News _ _ _ _ => lN'
  with_unfolding_all refine While_inv2 (DeckJ _ _ _) lF' lN' ⟨rfl, _, _, _, rfl, by assumption, by assumption, rfl⟩ ?_ (by passes_own)
  rintro n' m' news' h' tk' F' N' ⟨rfl, vs', ns', c', rfl, hi', ok', rfl⟩
  clear lF' lN' F N
  cases hi' with
  | nil =>
    k_fold
    k_steps
    refine hret (.int 0 _) ((d, listOf ([] : List Value).toArray c') :: rest) _ _ ⟨0, _, [], [], _, rfl, by omega, by omega, rfl, .nil, ok'⟩ (by assumption) ?_
    rename News _ _ _ _ => N9
    exact fun p hp => N9 p (.tail _ (.tail _ hp))
  | @cons x' t' vs' ns' hi' =>
    have hx' := ok'.head
    have hl' : (0:Int) < (x' :: ns').length := by simp only [List.length_cons]; omega
    have hi'' : IntsAre (.int x' t' :: vs') (x' :: ns') := .cons _ _ hi'
    try k_unmd
    k_fold
    k_steps
    · exfalso; simp_all
    · rename News _ _ _ _ => N9
      exact ⟨_, _, _, _, _, rfl, by assumption, fun p hp => N9 p (.tail _ hp), Nat.lt_succ_self _, rfl, vs', ns', _, rfl, hi', ok'.tail, rfl⟩
    · rename News _ _ _ _ => N9
      rename IntsAre _ _ => I9
      have q := drawMod (a := x') hk1
      have z := drawDiv hx'.1 hx'.2 hk1
      exact hret _ ((d, listOf ((Value.int (x'.fdiv k) _ :: vs').toArray) c') :: rest) _ _ ⟨_, _, _, x'.fdiv k :: ns', _, rfl, q.1, q.2, rfl, I9, ok'.put z.1 z.2⟩ (by assumption) (fun p hp => N9 p (.tail _ (.tail _ hp)))
end
/-- the draw, wherever the deck stands in the ledger -/
def Draws (G : Obj → List (Addr × Obj)) (k : Int) (r : Value) (news' : List (Addr × Obj)) : Prop :=
  ∃ v t vs ns c, r = .int v t ∧ 0 ≤ v ∧ v < k ∧ news' = G (listOf vs.toArray c) ∧ IntsAre vs ns ∧ DeckOk ns
theorem draw_at (w : World) (mean : ExcName → Option Value) (mg mb : Str → Option Value) (d : Addr) (vs : List Value) (ns : List Int) (n : Nat) (k : Int) (t : Tok) (news : List (Addr × Obj)) (G : Obj → List (Addr × Obj))
    (U : UpdF d (listOf vs.toArray n) news G) (hi : IntsAre vs ns) (hok : DeckOk ns) (hk1 : 0 < k) (hk' : k ≤ 300) : Says 3 w mean mg mb 217 [.ref d, .int k t] news (Draws G k) := by
  obtain ⟨pre, post, rfl, e, a, b⟩ := U.split
  refine (draw_says w mean mg mb d vs ns n k t (pre ++ post) hi hok hk1 hk' fun p hp => (List.mem_append.mp hp).elim (a p) (b p)).perm (fun p hp => ?_) ?_
  · rcases List.mem_cons.mp hp with rfl | hp
    · exact List.mem_append.mpr (.inr (.head _))
    · exact (List.mem_append.mp hp).elim (fun h => List.mem_append.mpr (.inl h)) fun h => List.mem_append.mpr (.inr (.tail _ h))
  · rintro r _ ⟨v, tv, us, ms, c, hr, h0, h1, rfl, hi', ok'⟩
    refine ⟨G (listOf us.toArray c), ⟨v, tv, us, ms, c, hr, h0, h1, rfl, hi', ok'⟩, fun p hp => ?_⟩
    rw [e] at hp
    rcases List.mem_append.mp hp with hp | hp
    · exact .tail _ (List.mem_append.mpr (.inl hp))
    · rcases List.mem_cons.mp hp with rfl | hp
      · exact .head _
      · exact .tail _ (List.mem_append.mpr (.inr hp))
section
variable {w : World} {mean : ExcName → Option Value} {mg mb : Str → Option Value} {news : List (Addr × Obj)} {d : Addr} {us : List Value} {ms : List Int} {n : Nat} {k : Int} {t : Tok} {G : Obj → List (Addr × Obj)}
  {dp un : Nat} {gd : Option (List Code)} {cn : Str} {cs : Scope} {a : Addr} {ccd : Value} {cl : List (Str × Addr)} {outer : List Env} {A₀ : Around} {base h₀ : Heap} {L : Addr} {m : Str → Option Value} {s : Shared} {Q E : Value → Shared → Prop}
theorem draw_use (B : Below A₀ base outer h₀) (F : Fr h₀ L s.heap m) (X : (hd.heap_39 w.params).In h₀) (N : News h₀ L s.heap news) (T : Top hd.view_39 (looseW hd.view_39 []) mean mg mb h₀) (hk : cs.kind = .function)
    (U : UpdF d (listOf us.toArray n) news G) (hi : IntsAre us ms) (ok : DeckOk ms) (h0 : 0 < k) (h1 : k ≤ 300) (hdp : dp + 3 < recursionLimit) (hun : un + 100 * 3 < cLine)
    (ret : ∀ v t vs ns c h' tk', 0 ≤ v → v < k → IntsAre vs ns → DeckOk ns → Fr h₀ L h' m → News h₀ L h' (G (listOf vs.toArray c)) → Q (.int v t) { s with heap := h', toks := tk' }) :
    wpAny (model PySem.Challenge.rw_pq0345_01.row.prog w) (ktrTop dp un gd cn cs L a ccd cl outer) (call (.ref 217) [.ref d, .int k t]) Q E s := by
  refine (draw_at w mean mg mb d us ms n k t news G U hi ok h0 h1).use B F X N T hk hdp hun ?_
  rintro _ _ h' tk' ⟨v, tv, vs, ns, c, rfl, g0, g1, rfl, hi', ok'⟩ F' N'
  exact ret v tv vs ns c h' tk' g0 g1 hi' ok' F' N'
end
def up (c : Int) : Int := if (97 ≤ c ∧ c ≤ 122) ∨ (224 ≤ c ∧ c ≤ 254 ∧ c ≠ 247) then c - 32 else c
def down (c : Int) : Int := if (65 ≤ c ∧ c ≤ 90) ∨ (192 ≤ c ∧ c ≤ 222 ∧ c ≠ 215) then c + 32 else c
section
variable (w : World) (mean : ExcName → Option Value) (mg mb : Str → Option Value) (c : Int) (t : Tok) (news : List (Addr × Obj))
theorem up_says : Says 3 w mean mg mb 35 [.int c t] news (GivesI news (up c)) := by
  unfold Says
  k_fill
  intro dp un gd cn cs a ccd cl outer A₀ base h₀ L m s Q E B F X N T hk hd hu hret
  refine wpAny_call ?_
  k_dflt ktr_enter
  k_steps
  all_goals (refine hret _ news _ _ (GivesI.of ?_) (by assumption) (by assumption); unfold up; split <;> omega)
theorem down_says : Says 3 w mean mg mb 28 [.int c t] news (GivesI news (down c)) := by
  unfold Says
  k_fill
  intro dp un gd cn cs a ccd cl outer A₀ base h₀ L m s Q E B F X N T hk hd hu hret
  refine wpAny_call ?_
  k_dflt ktr_enter
  k_steps
  all_goals (refine hret _ news _ _ (GivesI.of ?_) (by assumption) (by assumption); unfold down; split <;> omega)
theorem any_iff {l : List Int} {c : Int} : (l.any fun x => x == c) = true ↔ c ∈ l := by
  rw [List.any_eq_true]
  constructor
  · rintro ⟨x, hx, e⟩
    rw [← beq_iff_eq.mp e]; exact hx
  · exact fun h => ⟨c, h, beq_self_eq_true c⟩
theorem any_not {l : List Int} {c : Int} : (l.any fun x => x == c) = false ↔ c ∉ l := by
  rw [← any_iff]
  cases l.any fun x => x == c <;> simp
theorem mem_rangeKs_iff {a k : Int} {n : Nat} : k ∈ rangeKs a n ↔ a ≤ k ∧ k < a + n := by
  constructor
  · exact mem_rangeKs
  · rintro ⟨h1, h2⟩
    unfold rangeKs
    exact List.mem_map.mpr ⟨(k - a).toNat, List.mem_range.mpr (by omega), by omega⟩
def caps : List Int := rangeKs 65 26 ++ rangeKs 192 23 ++ rangeKs 216 7
theorem mem_caps {c : Int} : c ∈ caps ↔ (65 ≤ c ∧ c ≤ 90) ∨ (192 ≤ c ∧ c ≤ 222 ∧ c ≠ 215) := by
  unfold caps
  simp only [List.mem_append, mem_rangeKs_iff]
  omega
section
local macro_rules | `(tactic| walk_at "CompSrc") => `(tactic| (k_here; k_dflt (refine LCg.CompSrc.range (by rfl) (by k_asm) (by k_asm) (by assumption) (by first | exact small_one (by kcf_bnd) (by kcf_bnd) (by kcf_bnd) (by kcf_bnd) | decide) (by first | exact rangeSize_nat _ _ | rfl) (by first | exact Nat.le_of_ble_eq_true rfl | size_fits) ?_; intro g'; (refine' kcf_range _ (fun k' t' I' oI' C' oC' D' m' ys' h' tk' E' hlo' hhi' hC' hx' F' N' off' ne' hMark' => ?_) ?_); (all_goals (try (simp only [LCg.Off3, and_true] at off'))); kcf_last)))
local macro_rules | `(tactic| walk_at "eval ListComp") => `(tactic| (k_here; (try k_unmd); lcg_look; k_dflt (refine LCg.ListComp_U (F₀ := by k_asm) (by rfl) (by decide) (by rfl) (by decide) (by rfl) ?_)))
theorem letters_says : Says 3 w mean mg mb 222 [] news (GivesL news caps) := by
  unfold Says
  k_fill
  intro dp un gd cn cs a ccd cl outer A₀ base h₀ L m s Q E B F X N T hk hd hu hret
  refine wpAny_call ?_
  k_dflt ktr_enter
  k_steps
  rename News _ _ _ _ => N9
  rename IntsAre _ _ => I9
  rename _ ∧ _ => l9
  simp only [List.map_id'] at I9
  refine hret _ _ _ _ (GivesL.of (c := 0) I9 (off1_of l9.2.2.2.2)) (by assumption) (fun p hp => ?_)
  rcases List.mem_cons.mp hp with rfl | hp
  · exact N9 _ (.head _)
  · exact N9 p (.tail _ (.tail _ (.tail _ (.tail _ (.tail _ hp)))))
end
end
local macro_rules | `(tactic| walk_at "call ref") => `(tactic| (k_here; (with_reducible show wpAny _ _ (call (Value.ref 222) _) _ _ _); k_dflt (refine' Says.useL ?B ?F ?X ?N ?T ?K ?H ?d ?u ?_; (case B => k_asm); (case F => k_asm); (case X => k_asm); (case N => k_asm); (case T => k_asm); (case K => first | exact rfl | assumption); (case H => exact letters_says _ _ _ _ _); (case d => ktr_room); (case u => ktr_units)); (intro D' vs' c' h' tk' hI' o1' F' N'); (try simp only [LCg.Off1, and_true] at o1'); (try dsimp only); (try k_fold)))
section
variable (w : World) (mean : ExcName → Option Value) (mg mb : Str → Option Value) (c : Int) (t : Tok) (news : List (Addr × Obj))
theorem small_says : Says 5 w mean mg mb 229 [.int c t] news (GivesI news (down c)) := by
  unfold Says
  k_fill
  intro dp un gd cn cs a ccd cl outer A₀ base h₀ L m s Q E B F X N T hk hd hu hret
  refine wpAny_call ?_
  k_dflt ktr_enter
  k_steps
  · rename (List.any caps _ = _) => q9
    rename News _ _ _ _ => N9
    rw [any_iff, mem_caps] at q9
    refine hret _ news _ _ (GivesI.of ?_) (by assumption) (fun p hp => N9 p (.tail _ hp))
    unfold down; split <;> omega
  · rename (List.any caps _ = _) => q9
    rename News _ _ _ _ => N9
    rw [any_not, mem_caps] at q9
    refine hret _ news _ _ (GivesI.of ?_) (by assumption) (fun p hp => N9 p (.tail _ hp))
    unfold down; split <;> omega
theorem great_says : Says 5 w mean mg mb 236 [.int c t] news (GivesI news (up c)) := by
  unfold Says
  k_fill
  intro dp un gd cn cs a ccd cl outer A₀ base h₀ L m s Q E B F X N T hk hd hu hret
  refine wpAny_call ?_
  k_dflt ktr_enter
  k_steps
  · rename (List.any caps _ = _) => q9
    rename News _ _ _ _ => N9
    rw [any_iff, mem_caps] at q9
    refine hret _ news _ _ (GivesI.of ?_) (by assumption) (fun p hp => N9 p (.tail _ hp))
    unfold up; split <;> omega
  · rename (List.any caps _ = _) => q9
    rename News _ _ _ _ => N9
    rw [any_not, mem_caps] at q9
    refine hret _ news _ _ (GivesI.of ?_) (by assumption) (fun p hp => N9 p (.tail _ hp))
    unfold up; split <;> omega
end
local macro_rules | `(tactic| walk_at "call ref") => `(tactic| (k_here; (with_reducible show wpAny _ _ (call (Value.ref _) [Value.int _ _]) _ _ _); k_dflt (refine' Says.useI ?B ?F ?X ?N ?T ?K ?H ?d ?u ?_; (case B => k_asm); (case F => k_asm); (case X => k_asm); (case N => k_asm); (case T => k_asm); (case K => first | exact rfl | assumption); (case H => first | exact up_says _ _ _ _ _ _ _ | exact down_says _ _ _ _ _ _ _ | exact small_says _ _ _ _ _ _ _ | exact great_says _ _ _ _ _ _ _); (case d => ktr_room); (case u => ktr_units)); (intro t' h' tk' F' N'); (try dsimp only); (try k_fold)))
section
variable (w : World) (mean : ExcName → Option Value) (mg mb : Str → Option Value) (c : Int) (t : Tok) (news : List (Addr × Obj))
end
section
variable (w : World) (mean : ExcName → Option Value) (mg mb : Str → Option Value) (c : Int) (t : Tok) (news : List (Addr × Obj))
theorem fold_says : Says 5 w mean mg mb 42 [.int c t] news (GivesI news (down c)) := by
  unfold Says
  k_fill
  intro dp un gd cn cs a ccd cl outer A₀ base h₀ L m s Q E B F X N T hk hd hu hret
  refine wpAny_call ?_
  k_dflt ktr_enter
  k_steps
  exact hret _ news _ _ (GivesI.of rfl) (by assumption) (by assumption)
theorem isUpper_says : Says 5 w mean mg mb 49 [.int c t] news (GivesB news (down c != c)) := by
  unfold Says
  k_fill
  intro dp un gd cn cs a ccd cl outer A₀ base h₀ L m s Q E B F X N T hk hd hu hret
  refine wpAny_call ?_
  k_dflt ktr_enter
  k_steps
  exact hret _ news _ _ (GivesB.of rfl) (by assumption) (by assumption)
theorem isLower_says : Says 5 w mean mg mb 56 [.int c t] news (GivesB news (up c != c)) := by
  unfold Says
  k_fill
  intro dp un gd cn cs a ccd cl outer A₀ base h₀ L m s Q E B F X N T hk hd hu hret
  refine wpAny_call ?_
  k_dflt ktr_enter
  k_steps
  exact hret _ news _ _ (GivesB.of rfl) (by assumption) (by assumption)
end
local macro_rules | `(tactic| walk_at "call ref") => `(tactic| (k_here; (with_reducible show wpAny _ _ (call (Value.ref 42) _) _ _ _); k_dflt (refine' Says.useI ?B ?F ?X ?N ?T ?K ?H ?d ?u ?_; (case B => k_asm); (case F => k_asm); (case X => k_asm); (case N => k_asm); (case T => k_asm); (case K => first | exact rfl | assumption); (case H => exact fold_says _ _ _ _ _ _ _); (case d => ktr_room); (case u => ktr_units)); (intro t' h' tk' F' N'); (try dsimp only); (try k_fold)))
local macro_rules | `(tactic| walk_at "call ref") => `(tactic| (k_here; (with_reducible show wpAny _ _ (call (Value.ref _) [Value.int _ _]) _ _ _); k_dflt (refine' Says.useB ?B ?F ?X ?N ?T ?K ?H ?d ?u ?_; (case B => k_asm); (case F => k_asm); (case X => k_asm); (case N => k_asm); (case T => k_asm); (case K => first | exact rfl | assumption); (case H => first | exact isUpper_says _ _ _ _ _ _ _ | exact isLower_says _ _ _ _ _ _ _); (case d => ktr_room); (case u => ktr_units)); (intro h' tk' F' N'); (try dsimp only); (try k_fold)))
/-! comprehensions by an invariant over what was made and the ledger -/
section
variable {prog : Program} {w : World} {A : Around} {h₀ : Heap} {L : Addr} {m : Str → Option Value} {env : Env} {ct elt : PySem.Expr} {x : Str} {scope : Scope} {cl : List (Str × Addr)} {s : Shared} {S : List (Addr × Obj) → Prop} {P : Nat → Value → Prop} {Fin : List Value → List (Addr × Obj) → Prop} {news : List (Addr × Obj)}
theorem comp_turns {n : Nat} (J : Nat → List Value → List (Addr × Obj) → Prop) (start : J 0 [] news)
    (turn : ∀ i ys nw v I oI C oC D m₂ h tk (E' : Value → Shared → Prop), i < n → J i ys nw → P i v → LCg.NsObj oC m₂ → m₂ x = some v → Fr h₀ L h m → News h₀ L h ((I, oI) :: (C, oC) :: (D, LCg.lst ys) :: nw) → LCg.Off3 I C D nw → ((@Ne Nat I C) ∧ (@Ne Nat I D) ∧ (@Ne Nat C D)) →
      wpAny (model prog w) A (eval elt (compEnvC scope cl C env)) (LCg.CompEnd h₀ L m { s with heap := h, toks := tk } I oI C oC D (LCg.lst ys) S (fun y news' => J (i + 1) (ys ++ [y]) news')) E' { s with heap := h, toks := tk })
    (fin : ∀ ys nw, J n ys nw → Fin ys nw) : LCg.CompRest prog w A h₀ L m env elt x scope cl s S P Fin n 0 [] news := by
  have key : ∀ (j i : Nat) (ys : List Value) (nw : List (Addr × Obj)), i + j = n → J i ys nw → LCg.CompRest prog w A h₀ L m env elt x scope cl s S P Fin j i ys nw := by
    intro j
    induction j with
    | zero =>
      intro i ys nw hi hJ
      obtain rfl : i = n := by omega
      exact LCg.CompRest.zero (fin ys nw hJ)
    | succ j ih =>
      intro i ys nw hi hJ
      refine LCg.CompRest.succ ?_
      intro v I oI C oC D m₂ h tk E' hv hC hx F N off ne
      refine wpAny_mono (turn i ys nw v I oI C oC D m₂ h tk E' (by omega) hJ hv hC hx F N off ne) (fun y s₂ hq => ?_) fun _ _ e => e
      obtain ⟨h', tk', nw', e, F', N', off', hS, hr⟩ := hq
      exact ⟨h', tk', nw', e, F', N', off', hS, ih (i + 1) _ _ (by omega) hr⟩
  exact key n 0 [] news (by omega) start
theorem comp_turnsT {n : Nat} (J : Nat → List Value → List (Addr × Obj) → Prop) (start : J 0 [] news)
    (turn : ∀ i ys nw v I oI C oC D m₂ h tk (E' : Value → Shared → Prop), i < n → J i ys nw → P i v → LCg.NsObj oC m₂ → m₂ x = some v → Fr h₀ L h m → News h₀ L h ((I, oI) :: (C, oC) :: (D, LCg.lst ys) :: nw) → LCg.Off3 I C D nw → ((@Ne Nat I C) ∧ (@Ne Nat I D) ∧ (@Ne Nat C D)) →
      wpAny (model prog w) A (isTrue ct (compEnvC scope cl C env) (eval ct (compEnvC scope cl C env))) (fun ok s' => if ok = true then
        wpAny (model prog w) A (eval elt (compEnvC scope cl C env)) (LCg.CompEnd h₀ L m { s with heap := h, toks := tk } I oI C oC D (LCg.lst ys) S (fun y news' => J (i + 1) (ys ++ [y]) news')) E' s'
        else LCg.CompEnd h₀ L m { s with heap := h, toks := tk } I oI C oC D (LCg.lst ys) S (fun _ news' => J (i + 1) ys news') Value.none s') E' { s with heap := h, toks := tk })
    (fin : ∀ ys nw, J n ys nw → Fin ys nw) : LCt.CompRestT prog w A h₀ L m env ct elt x scope cl s S P Fin n 0 [] news := by
  have key : ∀ (j i : Nat) (ys : List Value) (nw : List (Addr × Obj)), i + j = n → J i ys nw → LCt.CompRestT prog w A h₀ L m env ct elt x scope cl s S P Fin j i ys nw := by
    intro j
    induction j with
    | zero =>
      intro i ys nw hi hJ
      obtain rfl : i = n := by omega
      exact LCt.CompRestT.zero (fin ys nw hJ)
    | succ j ih =>
      intro i ys nw hi hJ
      refine LCt.CompRestT.succ ?_
      intro v I oI C oC D m₂ h tk E' hv hC hx F N off ne
      refine wpAny_mono (turn i ys nw v I oI C oC D m₂ h tk E' (by omega) hJ hv hC hx F N off ne) (fun ok s₂ hq => ?_) fun _ _ e => e
      cases ok with
      | true =>
        simp only [if_true] at hq ⊢
        refine wpAny_mono hq (fun y s₃ hr => ?_) fun _ _ e => e
        obtain ⟨h', tk', nw', e, F', N', off', hS, hr'⟩ := hr
        exact ⟨h', tk', nw', e, F', N', off', hS, ih (i + 1) _ _ (by omega) hr'⟩
      | false =>
        simp only [Bool.false_eq_true, if_false] at hq ⊢
        obtain ⟨h', tk', nw', e, F', N', off', hS, hr'⟩ := hq
        exact ⟨h', tk', nw', e, F', N', off', hS, ih (i + 1) _ _ (by omega) hr'⟩
  exact key n 0 [] news (by omega) start
/-- over a list of ints, each item a bool -/
def BoolJ (news : List (Addr × Obj)) (ns : List Int) (g : Int → Bool) (i : Nat) (ys : List Value) (nw : List (Addr × Obj)) : Prop := nw = news ∧ LSm.BoolsAre ys ((ns.take i).map g)
theorem bools_snoc : ∀ {ys : List Value} {bs : List Bool} {b : Bool}, LSm.BoolsAre ys bs → LSm.BoolsAre (ys ++ [.bool b]) (bs ++ [b])
  | _, _, b, .nil => .cons b .nil
  | _, _, _, .cons c h => .cons c (bools_snoc h)
theorem take_snoc {ns : List Int} {i : Nat} {k : Int} (h : ns[i]? = some k) {α : Type} (g : Int → α) : (ns.take (i + 1)).map g = (ns.take i).map g ++ [g k] := by
  rw [List.take_add_one, h]; simp
theorem bools_list {vs : List Value} {ns : List Int} (g : Int → Bool) (hi : IntsAre vs ns)
    (turn : ∀ k t I oI C oC D m₂ ys h tk (E' : Value → Shared → Prop), k ∈ ns → LCg.NsObj oC m₂ → m₂ x = some (.int k t) → Fr h₀ L h m → News h₀ L h ((I, oI) :: (C, oC) :: (D, LCg.lst ys) :: news) → LCg.Off3 I C D news → ((@Ne Nat I C) ∧ (@Ne Nat I D) ∧ (@Ne Nat C D)) →
      wpAny (model prog w) A (eval elt (compEnvC scope cl C env)) (LCg.CompEnd h₀ L m { s with heap := h, toks := tk } I oI C oC D (LCg.lst ys) S (fun y news' => news' = news ∧ y = .bool (g k))) E' { s with heap := h, toks := tk })
    (fin : ∀ ys, LSm.BoolsAre ys (ns.map g) → Fin ys news) : LCg.CompRest prog w A h₀ L m env elt x scope cl s S (fun i v => vs.toArray[i]? = some v) Fin vs.toArray.size 0 [] news := by
  refine comp_turns (BoolJ news ns g) ⟨rfl, .nil⟩ ?_ ?_
  · rintro i ys nw v I oI C oC D m₂ h tk E' hin ⟨rfl, hb⟩ hv hC hx F N off ne
    obtain ⟨k, t, e, hk⟩ := IntsAre.at hi i v (by simpa using hv)
    subst e
    refine wpAny_mono (turn k t I oI C oC D m₂ ys h tk E' (List.mem_of_getElem? hk) hC hx F N off ne) (fun y s₂ hq => ?_) fun _ _ e => e
    obtain ⟨h', tk', nw', e, F', N', off', hS, e1, e2⟩ := hq
    subst e1; subst e2
    exact ⟨h', tk', _, e, F', N', off', hS, rfl, by rw [take_snoc hk]; exact bools_snoc hb⟩
  · rintro ys nw ⟨rfl, hb⟩
    rw [List.size_toArray, hi.length, List.take_length] at hb
    exact fin ys hb
end
local macro_rules | `(tactic| walk_at "eval ListComp") => `(tactic| (k_here; (try k_unmd); lcg_look; k_dflt (refine LCg.ListComp_U (F₀ := by k_asm) (by rfl) (by decide) (by rfl) (by decide) (by rfl) ?_)))
local macro_rules | `(tactic| walk_at "CompSrc") => `(tactic| (k_here; k_dflt (refine LCg.CompSrc.ledger (by rfl) (by k_asm) (by k_asm) (by k_mem) (by kcf_size) ?_; intro g'; (refine' kcf_list _ (by first | assumption | l_ints) (fun k' t' I' oI' C' oC' D' m' ys' h' tk' E' hk' hC' hx' F' N' off' ne' hMark' => ?_) ?_); (all_goals (try (simp only [LCg.Off3, and_true] at off'))); kcf_last)))
section
variable (w : World) (mean : ExcName → Option Value) (mg mb : Str → Option Value) (l : Addr) (vs : List Value) (ns : List Int) (c : Nat) (news : List (Addr × Obj))
theorem upcased_says (hm : (l, listOf vs.toArray c) ∈ news) (hi : IntsAre vs ns) (hz : ns.length ≤ 100) : Says 5 w mean mg mb 61 [.ref l] news (GivesL news (ns.map up)) := by
  unfold Says
  k_fill
  intro dp un gd cn cs a ccd cl outer A₀ base h₀ L m s Q E B F X N T hk hd hu hret
  refine wpAny_call ?_
  k_dflt ktr_enter
  k_steps
  rename News _ _ _ _ => N9
  rename IntsAre _ _ => I9
  rename LCg.Off1 _ _ => o9
  exact hret _ _ _ _ (GivesL.of (c := _) I9 o9) (by assumption) N9
theorem downcased_says (hm : (l, listOf vs.toArray c) ∈ news) (hi : IntsAre vs ns) (hz : ns.length ≤ 100) : Says 5 w mean mg mb 66 [.ref l] news (GivesL news (ns.map down)) := by
  unfold Says
  k_fill
  intro dp un gd cn cs a ccd cl outer A₀ base h₀ L m s Q E B F X N T hk hd hu hret
  refine wpAny_call ?_
  k_dflt ktr_enter
  k_steps
  rename News _ _ _ _ => N9
  rename IntsAre _ _ => I9
  rename LCg.Off1 _ _ => o9
  exact hret _ _ _ _ (GivesL.of (c := _) I9 o9) (by assumption) N9
section
local macro_rules | `(tactic| walk_at "CompSrc") => `(tactic| (k_here; k_dflt (refine LCg.CompSrc.ledger (by rfl) (by k_asm) (by k_asm) (by k_mem) (by kcf_size) ?_; intro g'; (refine' bools_list (fun c => down c != c) (by first | assumption | l_ints) (fun k' t' I' oI' C' oC' D' m' ys' h' tk' E' hk' hC' hx' F' N' off' ne' => ?_) (fun ys' hB' => ?_)); kcf_last)))
local macro_rules | `(tactic| walk_at "CompEnd") => `(tactic| exact LCg.CompEnd.intro (by assumption) (by assumption) _ (fun p hp => hp) (by assumption) (by lcg_src) ⟨rfl, rfl⟩)
theorem hasUpper_says (hm : (l, listOf vs.toArray c) ∈ news) (hi : IntsAre vs ns) (hz : ns.length ≤ 100) : Says 8 w mean mg mb 71 [.ref l] news (GivesB news (ns.any fun c => down c != c)) := by
  unfold Says
  k_fill
  intro dp un gd cn cs a ccd cl outer A₀ base h₀ L m s Q E B F X N T hk hd hu hret
  refine wpAny_call ?_
  k_dflt ktr_enter
  k_steps
  rename News _ _ _ _ => N9
  rename LSm.BoolsAre _ _ => b9
  with_unfolding_all refine LSm.any_bools (by assumption) N9 (by rfl) (PySem.IsL.isList (n := _) (N9 _ (.head _)).1) b9 ?_
  intro h9 tk9 F9 N9
  k_steps
  rename News _ _ _ _ => N9
  refine hret _ news _ _ (GivesB.of ?_) (by assumption) (fun p hp => N9 p (.tail _ hp))
  rw [List.any_map]
  rfl
end
end
local macro_rules | `(tactic| walk_at "call ref") => `(tactic| (k_here; (with_reducible show wpAny _ _ (call (Value.ref 61) _) _ _ _); k_dflt (refine' Says.useL ?B ?F ?X ?N ?T ?K ?H ?d ?u ?_; (case B => k_asm); (case F => k_asm); (case X => k_asm); (case N => k_asm); (case T => k_asm); (case K => first | exact rfl | assumption); (case H => (refine' upcased_says _ _ _ _ _ _ _ _ _ ?hm ?hi ?hz; (case hm => k_mem); (case hi => l_ints); (case hz => (try simp only [List.length_map]); omega))); (case d => ktr_room); (case u => ktr_units)); (intro D' vs' c' h' tk' hI' o1' F' N'); (try simp only [LCg.Off1, and_true] at o1'); (try dsimp only); (try k_fold)))
local macro_rules | `(tactic| walk_at "call ref") => `(tactic| (k_here; (with_reducible show wpAny _ _ (call (Value.ref 66) _) _ _ _); k_dflt (refine' Says.useL ?B ?F ?X ?N ?T ?K ?H ?d ?u ?_; (case B => k_asm); (case F => k_asm); (case X => k_asm); (case N => k_asm); (case T => k_asm); (case K => first | exact rfl | assumption); (case H => (refine' downcased_says _ _ _ _ _ _ _ _ _ ?hm ?hi ?hz; (case hm => k_mem); (case hi => l_ints); (case hz => (try simp only [List.length_map]); omega))); (case d => ktr_room); (case u => ktr_units)); (intro D' vs' c' h' tk' hI' o1' F' N'); (try simp only [LCg.Off1, and_true] at o1'); (try dsimp only); (try k_fold)))
local macro_rules | `(tactic| walk_at "call ref") => `(tactic| (k_here; (with_reducible show wpAny _ _ (call (Value.ref 71) _) _ _ _); k_dflt (refine' Says.useB ?B ?F ?X ?N ?T ?K ?H ?d ?u ?_; (case B => k_asm); (case F => k_asm); (case X => k_asm); (case N => k_asm); (case T => k_asm); (case K => first | exact rfl | assumption); (case H => (refine' hasUpper_says _ _ _ _ _ _ _ _ _ ?hm ?hi ?hz; (case hm => k_mem); (case hi => l_ints); (case hz => (try simp only [List.length_map]); omega))); (case d => ktr_room); (case u => ktr_units)); (intro h' tk' F' N'); (try dsimp only); (try k_fold)))
/-! a for over a list of the ledger, by an invariant over the frame's map and the ledger -/
def LedEnd (h₀ : Heap) (L : Addr) (J : (Str → Option Value) → List (Addr × Obj) → Prop) (I : Addr) (oI : Obj) (s₁ s₂ : Shared) : Prop :=
  ∃ h' tk m' nx, s₂ = { s₁ with heap := h', toks := tk } ∧ Fr h₀ L h' m' ∧ News h₀ L h' ((I, oI) :: nx) ∧ LCg.Off1 I nx ∧ J m' nx
def LedPost (h₀ : Heap) (L : Addr) (J : (Str → Option Value) → List (Addr × Obj) → Prop) (I : Addr) (oI : Obj) (s₁ : Shared) (Q : Flow → Shared → Prop) (f : Flow) (s₂ : Shared) : Prop :=
  match f with
  | .ret v => Q (.ret v) s₂
  | .brk => Q .next s₂
  | _ => LedEnd h₀ L J I oI s₁ s₂
theorem off1_iff {D : Addr} : ∀ {news : List (Addr × Obj)}, LCg.Off1 D news ↔ ∀ p ∈ news, p.1 ≠ D
  | [] => ⟨(fun _ _ h => (nomatch h)), fun _ => trivial⟩
  | q :: r => by
    constructor
    · rintro ⟨h1, h2⟩ p hp
      rcases List.mem_cons.mp hp with rfl | hp
      · exact h1
      · exact off1_iff.mp h2 p hp
    · exact fun h => ⟨h q (.head _), off1_iff.mpr fun p hp => h p (.tail _ hp)⟩
section
variable {prog : Program} {w : World} {A : Around} {E : Value → Shared → Prop} {s : Shared} {env : Env} {h₀ : Heap} {x : Str} {body : List Stmt} {Q : Flow → Shared → Prop}
theorem for_led {l : Addr} {vs : List Value} {c : Nat} {m₀ : Str → Option Value} {news : List (Addr × Obj)} (J : Nat → (Str → Option Value) → List (Addr × Obj) → Prop)
    (hh : A.handled = none) (hl : (l, listOf vs.toArray c) ∈ news) (F : Fr h₀ env.locals s.heap m₀) (N : News h₀ env.locals s.heap news) (hj : J 0 m₀ news) (hJm : ∀ i m nx, J i m nx → (l, listOf vs.toArray c) ∈ nx)
    (turn : ∀ i v m₁ nx h tk I oI, vs[i]? = some v → J i m₁ nx → LCg.Off1 I nx → Fr h₀ env.locals h (fun y => if y = x then some v else m₁ y) → News h₀ env.locals h ((I, oI) :: nx) →
      wpAny (model prog w) A (execs body env) (LedPost h₀ env.locals (J (i + 1)) I oI { s with heap := h, toks := tk } Q) E { s with heap := h, toks := tk })
    (done : ∀ m₁ nx h tk, J vs.length m₁ nx → Fr h₀ env.locals h m₁ → News h₀ env.locals h nx → Q .next { s with heap := h, toks := tk }) :
    wpAny (model prog w) A (pyIter (.ref l)) (fun it s₂ => LoopAtV prog w A h₀ env x body Q E it s₂) E s := by
  have hl₀ := N _ hl
  have hls : s.heap.IsList l vs.toArray := PySem.IsL.isList (n := c) hl₀.1
  have hlt : l < s.heap.objs.size := Heap.lt_size hl₀.1
  refine wpAny_pyIter_list hls ?_
  have W := Walks.list (prog := prog) (w := w) hh s.heap.objs.size l (Nat.ne_of_lt hlt) vs.toArray
  have hlen : vs.toArray.size = vs.length := List.size_toArray ..
  rw [hlen] at W
  refine ⟨_, _, _, vs.length, _, _, m₀, news, J, rfl, W, ?_, ?_, ?_, ⟨⟨_, Heap.get?_push_size _ rfl, rfl, rfl⟩, hls.at fun o e => Heap.get?_push_of_some _ e⟩, F.push _, (fun p hp => ⟨Heap.get?_push_of_some _ (N p hp).1, (N p hp).2⟩), hj, ?_, ?_⟩
  · intro hm
    rcases List.mem_cons.mp hm with e | hm
    · exact absurd F.ns.lt (e ▸ Nat.lt_irrefl _)
    · exact hl₀.2.1 (List.mem_singleton.mp hm).symm
  · intro b hb
    rw [List.mem_singleton.mp hb]
    exact next_is_new F
  · intro p hp hI
    exact absurd (Heap.lt_size (N p hp).1) ((List.mem_singleton.mp hI) ▸ Nat.lt_irrefl _)
  · rintro i v m₁ nx s₁ own ⟨hh', tk', rfl⟩ hin hP hJ hoff hown hat hmem hst F₁ N₁
    obtain ⟨⟨oI, hoI, _⟩, _⟩ := hst
    have hI0 : h₀.get? s.heap.objs.size = none := next_is_new F
    have hIown : (s.heap.objs.size, oI) ∈ own := hmem _ (.head _) hI0 oI hoI
    have offI : LCg.Off1 s.heap.objs.size nx := off1_iff.mpr fun p hp e => hoff p hp (List.mem_singleton.mpr e)
    have hln := hJm i m₁ nx hJ
    have N₂ : News h₀ env.locals hh' ((s.heap.objs.size, oI) :: nx) := fun p hp => by
      rcases List.mem_cons.mp hp with rfl | hp
      · exact N₁ _ (List.mem_append.mpr (.inl hIown))
      · exact N₁ p (List.mem_append.mpr (.inr hp))
    have hv : vs[i]? = some v := by simpa using hP
    refine wpAny_mono (turn i v m₁ nx hh' tk' _ oI hv hJ offI F₁ N₂) (fun f s₂ p => ?_) fun _ _ e => e
    have fin : LedEnd h₀ env.locals (J (i + 1)) s.heap.objs.size oI { s with heap := hh', toks := tk' } s₂ → LoopStepU h₀ env.locals [s.heap.objs.size] own (J (i + 1)) { s with heap := hh', toks := tk' } .next s₂ := by
      rintro ⟨h', tk, m', nx', e, F', N', hn, hm⟩
      refine ⟨rfl, h', tk, m', nx', e, F', fun p hp => ?_, fun p hp hq => off1_iff.mp hn p hp (List.mem_singleton.mp hq), hm⟩
      rcases List.mem_append.mp hp with hp | hp
      · have hat' := hat p hp
        rcases List.mem_cons.mp (hown p hp) with e1 | e1
        · have : p = (s.heap.objs.size, oI) := by
            obtain ⟨p1, p2⟩ := p
            dsimp only at e1 hat'
            subst e1
            dsimp only at hoI
            rw [hoI] at hat'
            cases hat'; rfl
          rw [this]
          exact N' _ (.head _)
        · have e2 : p.1 = l := List.mem_singleton.mp e1
          have h3 := (N₂ _ (.tail _ hln)).1
          have : p = (l, listOf vs.toArray c) := by
            obtain ⟨p1, p2⟩ := p
            dsimp only at e2 hat'
            subst e2
            dsimp only at h3
            rw [h3] at hat'
            cases hat'; rfl
          rw [this]
          exact N' _ (.tail _ (hJm _ _ _ hm))
      · exact N' p (.tail _ hp)
    cases f with
    | ret v => exact .ret p
    | brk => exact .brk p
    | next => exact .next (fin p)
    | cont => exact .cont (fin p)
  · rintro h' tk m' nx F' N' _ hJ
    exact done m' nx h' tk hJ F' N'
end
theorem mem_of {a : Addr × Obj} {l : List (Addr × Obj)} (h : a ∈ l) : List.Mem a l := h
local macro_rules | `(tactic| k_mem) => `(tactic| (refine mem_of ?_; with_reducible assumption))
theorem in_led {prog : Program} {w : World} {A : Around} {E : Value → Shared → Prop} {s : Shared} {h₀ : Heap} {L l : Addr} {news : List (Addr × Obj)} {vs : List Value} {ns : List Int} {c : Nat} {k : Int} {t : Tok} {Q : Value → Shared → Prop} (N : News h₀ L s.heap news) (hm : (l, listOf vs.toArray c) ∈ news) (hi : IntsAre vs ns)
    (h : Q (.bool (ns.any fun x => x == k)) s) : wpAny (model prog w) A (compareOp .In (.int k t) (.ref l)) Q E s := in_list_ints (PySem.IsL.isList (n := c) (N _ hm).1) hi h
local macro_rules | `(tactic| walk_at "compareOp In int ref") => `(tactic| (k_here; k_dflt (refine in_led (by k_asm) (by k_mem) (by k_asm) ?_)))
/-- a Syntax of the ledger, whose kind is 'w' just where b -/
def SynIn (news : List (Addr × Obj)) (sy : Addr) (b : Bool) : Prop :=
  ∃ (ds : Addr) (k : Str) (tk : Tok) (h1 h2 h3 : Int) (t1 t2 t3 : Tok) (v2 v3 : Value) (n : Nat), (sy, instObj 130 ds) ∈ news ∧
    (ds, dictOf [⟨h1, .str (Str.ofString "kind") t1, .str k tk⟩, ⟨h2, .str (Str.ofString "match") t2, v2⟩, ⟨h3, .str (Str.ofString "flags") t3, v3⟩] n) ∈ news ∧ (k == Str.ofString "@") = false ∧ (k == Str.ofString "w") = b
/-- a SyntaxTable of the ledger, its parent None, a Syntax for each code of dom -/
def TabIn (w : World) (news : List (Addr × Obj)) (t : Addr) (dom : List Int) (isw : Int → Bool) : Prop :=
  ∃ (dt R : Addr) (o : Obj) (kvs : List (Int × Value)) (h1 h2 : Int) (t1 t2 : Tok) (n : Nat), (t, instObj 201 dt) ∈ news ∧ (dt, dictOf [⟨h1, .str (Str.ofString "parent") t1, .none⟩, ⟨h2, .str (Str.ofString "rows") t2, .ref R⟩] n) ∈ news ∧ (R, o) ∈ news ∧ (R == sysModules) = false ∧
    o.IsDictOf (PySem.intKind PySem.Challenge.rw_pq0345_01.row.prog w) kvs ∧ ∀ c ∈ dom, ∃ sy, valueAt kvs c = some (.ref sy) ∧ SynIn news sy (isw c)
section
variable (w : World) (mean : ExcName → Option Value) (mg mb : Str → Option Value) (x : Int) (tx : Tok) (news : List (Addr × Obj)) (t : Addr) (dom : List Int) (isw : Int → Bool)
local macro_rules | `(tactic| walk_at "getMethod ref") => `(tactic| (k_here; (with_reducible show wpAny _ _ (getMethod (Value.ref _) (Str.ofString "get") _) _ _ _); k_dflt (refine kdg_method (knd := PySem.intKind _ _) (by k_asm) (by k_mem) (by k_asm) ?_)))
local macro_rules | `(tactic| walk_at "call builtin:dict.get") => `(tactic| (k_here; k_dflt (refine kdg_get2 (knd := PySem.intKind _ _) (by k_asm) (by k_mem) (by k_asm) (by k_asm) (intKind_is _ _ _ _) (some (Value.ref _)) (by k_asm) ?_); (try dsimp only [Option.getD])))
local macro_rules | `(tactic| k_room) => `(tactic| ktr_room)
local macro_rules | `(tactic| walk_at "exec While Compare cons nil") => `(tactic| (k_here; k_dflt (refine whl_start 2 ?_)))
local macro_rules | `(tactic| walk_at "exec While Compare") => `(tactic| (k_here; k_dflt (refine whl_start 2 ?_)))
/-- what kind_of tells -/
def Kind (news : List (Addr × Obj)) (b : Bool) (r : Value) (news' : List (Addr × Obj)) : Prop := ∃ k tk, r = .str k tk ∧ (k == Str.ofString "w") = b ∧ news' = news
theorem Kind.of {news : List (Addr × Obj)} {b : Bool} {k : Str} {tk : Tok} (h : (k == Str.ofString "w") = b) : Kind news b (.str k tk) news := ⟨k, tk, rfl, h, rfl⟩
theorem kindOf_says (hT : TabIn w news t dom isw) (hx : x ∈ dom) : Says 12 w mean mg mb 191 [.ref t, .int x tx] news (Kind news (isw x)) := by
  unfold Says
  k_fill
  intro dp un gd cn cs a ccd cl outer A₀ base h₀ L m s Q E B F X N T hk hd hu hret
  obtain ⟨dt, R, o, kvs, q1, q2, q3, q4, q5, hT1, hT2, hT3, hT6, hT4, hT5⟩ := hT
  obtain ⟨sy, hV, ds, k, tk, g1, g2, g3, g4, g5, g6, v2, v3, n9, hS1, hS2, hS3, hS4⟩ := hT5 x hx
  refine wpAny_call ?_
  k_dflt ktr_enter
  k_steps
  exact hret _ news _ _ (Kind.of (by assumption)) (by assumption) (by assumption)
end
theorem SynIn.mono {news news' : List (Addr × Obj)} {sy : Addr} {b : Bool} (h : SynIn news sy b) (hs : ∀ p ∈ news, p ∈ news') : SynIn news' sy b := by
  obtain ⟨ds, k, tk, g1, g2, g3, g4, g5, g6, v2, v3, n9, hS1, hS2, hS3, hS4⟩ := h
  exact ⟨ds, k, tk, g1, g2, g3, g4, g5, g6, v2, v3, n9, hs _ hS1, hs _ hS2, hS3, hS4⟩
theorem TabIn.mono {w : World} {news news' : List (Addr × Obj)} {t : Addr} {dom : List Int} {isw : Int → Bool} (h : TabIn w news t dom isw) (hs : ∀ p ∈ news, p ∈ news') : TabIn w news' t dom isw := by
  obtain ⟨dt, R, o, kvs, q1, q2, q3, q4, q5, hT1, hT2, hT3, hT6, hT4, hT5⟩ := h
  exact ⟨dt, R, o, kvs, q1, q2, q3, q4, q5, hs _ hT1, hs _ hT2, hs _ hT3, hT6, hT4, fun c hc => let ⟨sy, hV, hS⟩ := hT5 c hc; ⟨sy, hV, hS.mono hs⟩⟩
section
variable {lv : Nat} {w : World} {mean : ExcName → Option Value} {mg mb : Str → Option Value} {f : Addr} {vs : List Value} {news : List (Addr × Obj)} {b : Bool}
  {dp un : Nat} {gd : Option (List Code)} {cn : Str} {cs : Scope} {a : Addr} {ccd : Value} {cl : List (Str × Addr)} {outer : List Env} {A₀ : Around} {base h₀ : Heap} {L : Addr} {m : Str → Option Value} {s : Shared} {Q E : Value → Shared → Prop}
theorem Says.useK (B : Below A₀ base outer h₀) (F : Fr h₀ L s.heap m) (X : (hd.heap_39 w.params).In h₀) (N : News h₀ L s.heap news) (T : Top hd.view_39 (looseW hd.view_39 []) mean mg mb h₀) (hk : cs.kind = .function) (C : Says lv w mean mg mb f vs news (Kind news b)) (hdp : dp + lv < recursionLimit) (hun : un + 100 * lv < cLine)
    (ret : ∀ k t h' tk', (k == Str.ofString "w") = b → Fr h₀ L h' m → News h₀ L h' news → Q (.str k t) { s with heap := h', toks := tk' }) :
    wpAny (model PySem.Challenge.rw_pq0345_01.row.prog w) (ktrTop dp un gd cn cs L a ccd cl outer) (call (.ref f) vs) Q E s := by
  refine C.use B F X N T hk hdp hun ?_
  rintro _ _ h' tk' ⟨k, t, rfl, hb, rfl⟩ F' N'
  exact ret k t h' tk' hb F' N'
end
local macro_rules | `(tactic| walk_at "call ref") => `(tactic| (k_here; (with_reducible show wpAny _ _ (call (Value.ref 191) _) _ _ _); k_dflt (refine' Says.useK ?B ?F ?X ?N ?T ?K ?H ?d ?u ?_; (case B => k_asm); (case F => k_asm); (case X => k_asm); (case N => k_asm); (case T => k_asm); (case K => first | exact rfl | assumption); (case H => exact kindOf_says _ _ _ _ _ _ _ _ _ _ (TabIn.mono (by assumption) (by kcf_all)) (by assumption)); (case d => ktr_room); (case u => ktr_units)); (intro k' t' h' tk' hb' F' N'); (try dsimp only); (try k_fold)))
section
variable (w : World) (mean : ExcName → Option Value) (mg mb : Str → Option Value) (l : Addr) (vs : List Value) (ns : List Int) (c : Nat) (news : List (Addr × Obj)) (t : Addr) (dom : List Int) (isw : Int → Bool)
def runW (f g : Int → Int) (isw : Int → Bool) : Bool → List Int → List Int
  | _, [] => []
  | b, c :: r => (if b then g c else f c) :: runW f g isw (isw c) r
def RunJ (f g : Int → Int) (isw : Int → Bool) (ns : List Int) (x y : Str) (m₀ : Str → Option Value) (Fd : Addr) (news : List (Addr × Obj)) (i : Nat) (m : Str → Option Value) (nx : List (Addr × Obj)) : Prop :=
  ∃ (b : Bool) (u : Str → Option Value) (ys : List Value) (out : List Int) (c : Nat), m = (fun z => if z = x then u z else if z = y then some (.bool b) else m₀ z) ∧ nx = (Fd, listOf ys.toArray c) :: news ∧ IntsAre ys out ∧ out.length = i ∧ out ++ runW f g isw b (ns.drop i) = runW f g isw false ns
theorem RunJ.start {f g : Int → Int} {isw : Int → Bool} {ns : List Int} {x y : Str} {M : Str → Option Value} {Fd : Addr} {news : List (Addr × Obj)} (hy : M y = some (.bool false)) : RunJ f g isw ns x y M Fd news 0 M ((Fd, listOf #[] 0) :: news) :=
  ⟨false, M, [], [], 0, by
    funext z
    by_cases h1 : z = x
    · simp [h1]
    · by_cases h2 : z = y
      · subst h2; simp [h1, hy]
      · simp [h1, h2], rfl, .nil, rfl, rfl⟩
theorem RunJ.next {f g : Int → Int} {isw : Int → Bool} {ns : List Int} {x y : Str} {M u : Str → Option Value} {Fd I : Addr} {oI : Obj} {news : List (Addr × Obj)} {i : Nat} {h₀ : Heap} {L : Addr} {s : Shared} {h' : Heap} {tk c : Nat} {Q : Flow → Shared → Prop} {b b' : Bool} {ys : List Value} {out : List Int} {k v : Int} {t : Tok} {vx : Value}
    (hxy : x ≠ y) (F : Fr h₀ L h' (fun z => if z = y then some (.bool b') else if z = x then some vx else if z = x then u z else if z = y then some (.bool b) else M z))
    (N : News h₀ L h' ((I, oI) :: (Fd, listOf (ys.toArray.push (.int v t)) c) :: news)) (hi : IntsAre ys out) (hlen : out.length = i) (hrun : out ++ runW f g isw b (ns.drop i) = runW f g isw false ns) (hk : ns[i]? = some k)
    (hb : b' = isw k) (hv : v = if b then g k else f k) (off : LCg.Off1 I ((Fd, listOf (ys.toArray.push (.int v t)) c) :: news)) :
    LedPost h₀ L (RunJ f g isw ns x y M Fd news (i + 1)) I oI s Q .next { s with heap := h', toks := tk } := by
  refine ⟨h', tk, _, _, rfl, F, N, off, b', (fun _ => some vx), ys ++ [.int v t], out ++ [v], c, ?_, ?_, IntsAre.append hi (.cons v t .nil), by simp [hlen], ?_⟩
  · funext z
    by_cases h1 : z = x
    · subst h1; simp [hxy]
    · by_cases h2 : z = y
      · subst h2; simp [h1]
      · simp [h1, h2]
  · simp
  · have hd : ns.drop i = k :: ns.drop (i + 1) := by
      obtain ⟨hi', e⟩ := List.getElem?_eq_some_iff.mp hk
      rw [List.drop_eq_getElem_cons hi', e]
    rw [hd] at hrun
    rw [← hrun, List.append_assoc]
    show out ++ ([v] ++ runW f g isw b' (ns.drop (i + 1))) = out ++ ((if b = true then g k else f k) :: runW f g isw (isw k) (ns.drop (i + 1)))
    rw [hb, hv]; rfl
theorem RunJ.out {f g : Int → Int} {isw : Int → Bool} {ns out : List Int} {b : Bool} {i : Nat} (h : out ++ runW f g isw b (ns.drop i) = runW f g isw false ns) (hi : ns.length ≤ i) : out = runW f g isw false ns := by
  rw [List.drop_eq_nil_of_le hi] at h
  simpa [runW] using h
local macro_rules | `(tactic| k_all) => `(tactic| with_reducible assumption)
theorem capitalized_says (hm : (l, listOf vs.toArray c) ∈ news) (hi : IntsAre vs ns) (hz : ns.length ≤ 100) (hT : TabIn w news t dom isw) (hdom : ∀ x ∈ ns, x ∈ dom) : Says 20 w mean mg mb 85 [.ref l, .ref t] news (GivesL news (runW up down isw false ns)) := by
  unfold Says
  k_fill
  intro dp un gd cn cs a ccd cl outer A₀ base h₀ L m s Q E B F X N T hk hd hu hret
  have hT0 := hT
  obtain ⟨dt, R, o, kvs, q1, q2, q3, q4, q5, hT1, hT2, hT3, hT6, hT4, hT5⟩ := hT
  refine wpAny_call ?_
  k_dflt ktr_enter
  k_steps
  rename Fr _ _ _ _ => lF
  rename News _ _ _ _ => lN
  rename (∀ p ∈ news, _) => l1
  rename IntsAre vs ns => hi0
  have hoff : ∀ p ∈ news, p.1 ≠ _ := fun p hp => Nat.ne_of_lt (l1 p hp)
  with_unfolding_all refine for_led (RunJ up down isw ns (Str.ofString "code") (Str.ofString "is_inside") _ _ news) (by rfl) (List.mem_cons_of_mem _ hm) lF (fun p hp => lN p (.tail _ hp)) (RunJ.start (by rfl)) ?hJ ?turn ?done
  case hJ =>
    rintro i m nx ⟨b, u, ys, out, c', rfl, rfl, _⟩
    exact List.mem_cons_of_mem _ hm
  case turn =>
    clear lF lN N F
    rintro i v m₁ nx h tk I oI hv ⟨b, u, ys, out, c', rfl, rfl, hi', hlen, hrun⟩ off' F' N'
    have hil : i < ns.length := by rw [← hi0.length]; exact (List.getElem?_eq_some_iff.mp hv).1
    obtain ⟨k, tk', rfl, hk⟩ := IntsAre.at hi0 i v hv
    have off9 := off'
    simp only [LCg.Off1] at off'
    have hyl := hi'.length
    have hkd : k ∈ dom := hdom k (List.mem_of_getElem? hk)
    try k_unmd
    k_fold
    k_steps
    · exact RunJ.next (by decide) (by assumption) (by assumption) hi' hlen hrun hk (by assumption) (by simp_all) off9
    · exact RunJ.next (by decide) (by assumption) (by assumption) hi' hlen hrun hk (by assumption) (by simp_all) off9
  case done =>
    clear lF lN N F
    rintro m₁ nx h tk ⟨b, u, ys, out, c', rfl, rfl, hi', hlen, hrun⟩ F' N'
    have e := RunJ.out hrun (by rw [← hi0.length]; exact Nat.le_refl _)
    subst e
    k_steps
    exact hret _ _ _ _ (GivesL.of (c := c') hi' (off1_iff.mpr hoff)) (by assumption) (by assumption)
theorem initials_says (hm : (l, listOf vs.toArray c) ∈ news) (hi : IntsAre vs ns) (hz : ns.length ≤ 100) (hT : TabIn w news t dom isw) (hdom : ∀ x ∈ ns, x ∈ dom) : Says 20 w mean mg mb 78 [.ref l, .ref t] news (GivesL news (runW up (fun c => c) isw false ns)) := by
  unfold Says
  k_fill
  intro dp un gd cn cs a ccd cl outer A₀ base h₀ L m s Q E B F X N T hk hd hu hret
  have hT0 := hT
  obtain ⟨dt, R, o, kvs, q1, q2, q3, q4, q5, hT1, hT2, hT3, hT6, hT4, hT5⟩ := hT
  refine wpAny_call ?_
  k_dflt ktr_enter
  k_steps
  rename Fr _ _ _ _ => lF
  rename News _ _ _ _ => lN
  rename (∀ p ∈ news, _) => l1
  rename IntsAre vs ns => hi0
  have hoff : ∀ p ∈ news, p.1 ≠ _ := fun p hp => Nat.ne_of_lt (l1 p hp)
  with_unfolding_all refine for_led (RunJ up (fun c => c) isw ns (Str.ofString "code") (Str.ofString "is_inside") _ _ news) (by rfl) (List.mem_cons_of_mem _ hm) lF (fun p hp => lN p (.tail _ hp)) (RunJ.start (by rfl)) ?hJ ?turn ?done
  case hJ =>
    rintro i m nx ⟨b, u, ys, out, c', rfl, rfl, _⟩
    exact List.mem_cons_of_mem _ hm
  case turn =>
    clear lF lN N F
    rintro i v m₁ nx h tk I oI hv ⟨b, u, ys, out, c', rfl, rfl, hi', hlen, hrun⟩ off' F' N'
    have hil : i < ns.length := by rw [← hi0.length]; exact (List.getElem?_eq_some_iff.mp hv).1
    obtain ⟨k, tk', rfl, hk⟩ := IntsAre.at hi0 i v hv
    have off9 := off'
    simp only [LCg.Off1] at off'
    have hyl := hi'.length
    have hkd : k ∈ dom := hdom k (List.mem_of_getElem? hk)
    try k_unmd
    k_fold
    k_steps
    · exact RunJ.next (by decide) (by assumption) (by assumption) hi' hlen hrun hk (by assumption) (by simp_all) off9
    · exact RunJ.next (by decide) (by assumption) (by assumption) hi' hlen hrun hk (by assumption) (by simp_all) off9
  case done =>
    clear lF lN N F
    rintro m₁ nx h tk ⟨b, u, ys, out, c', rfl, rfl, hi', hlen, hrun⟩ F' N'
    have e := RunJ.out hrun (by rw [← hi0.length]; exact Nat.le_refl _)
    subst e
    k_steps
    exact hret _ _ _ _ (GivesL.of (c := c') hi' (off1_iff.mpr hoff)) (by assumption) (by assumption)
theorem words_says (os : Bool) (wd : Addr) (wvs : List Value) (wns : List Int) (wc : Nat) (hm : (l, listOf vs.toArray c) ∈ news) (hi : IntsAre vs ns) (hz : ns.length ≤ 100) (hmw : (wd, listOf wvs.toArray wc) ∈ news) (hiw : IntsAre wvs wns) (hzw : wns.length ≤ 100) :
    Says 20 w mean mg mb 243 [.ref l, .ref wd, .bool os] news (GivesL news (runW up (fun c => if os then down c else c) (fun c => wns.any fun x => x == c) false ns)) := by
  unfold Says
  k_fill
  intro dp un gd cn cs a ccd cl outer A₀ base h₀ L m s Q E B F X N T hk hd hu hret
  refine wpAny_call ?_
  k_dflt ktr_enter
  k_steps
  rename Fr _ _ _ _ => lF
  rename News _ _ _ _ => lN
  rename (∀ p ∈ news, _) => l1
  rename IntsAre vs ns => hi0
  have hoff : ∀ p ∈ news, p.1 ≠ _ := fun p hp => Nat.ne_of_lt (l1 p hp)
  with_unfolding_all refine for_led (RunJ up (fun c => if os then down c else c) (fun c => wns.any fun x => x == c) ns (Str.ofString "code") (Str.ofString "ahead") _ _ news) (by rfl) (List.mem_cons_of_mem _ hm) lF (fun p hp => lN p (.tail _ hp)) (RunJ.start (by rfl)) ?hJ ?turn ?done
  case hJ =>
    rintro i m nx ⟨b, u, ys, out, c', rfl, rfl, _⟩
    exact List.mem_cons_of_mem _ hm
  case turn =>
    clear lF lN N F
    rintro i v m₁ nx h tk I oI hv ⟨b, u, ys, out, c', rfl, rfl, hi', hlen, hrun⟩ off' F' N'
    have hil : i < ns.length := by rw [← hi0.length]; exact (List.getElem?_eq_some_iff.mp hv).1
    obtain ⟨k, tk', rfl, hk⟩ := IntsAre.at hi0 i v hv
    have off9 := off'
    simp only [LCg.Off1] at off'
    have hyl := hi'.length
    try k_unmd
    k_fold
    k_steps
    all_goals exact RunJ.next (by decide) (by assumption) (by assumption) hi' hlen hrun hk rfl (by simp_all) off9
  case done =>
    clear lF lN N F
    rintro m₁ nx h tk ⟨b, u, ys, out, c', rfl, rfl, hi', hlen, hrun⟩ F' N'
    have e := RunJ.out hrun (by rw [← hi0.length]; exact Nat.le_refl _)
    subst e
    k_steps
    exact hret _ _ _ _ (GivesL.of (c := c') hi' (off1_iff.mpr hoff)) (by assumption) (by assumption)
end
local macro_rules | `(tactic| walk_at "call ref") => `(tactic| (k_here; (with_reducible show wpAny _ _ (call (Value.ref 85) _) _ _ _); k_dflt (refine' Says.useL ?B ?F ?X ?N ?T ?K ?H ?d ?u ?_; (case B => k_asm); (case F => k_asm); (case X => k_asm); (case N => k_asm); (case T => k_asm); (case K => first | exact rfl | assumption); (case H => (refine' capitalized_says _ _ _ _ _ _ _ _ _ _ _ _ ?hm ?hi ?hz ?hT ?hD; (case hm => k_mem); (case hi => l_ints); (case hz => omega); (case hT => exact TabIn.mono (by assumption) (by kcf_all)); (case hD => assumption))); (case d => ktr_room); (case u => ktr_units)); (intro D' vs' c' h' tk' hI' o1' F' N'); (try simp only [LCg.Off1, and_true] at o1'); (try dsimp only); (try k_fold)))
local macro_rules | `(tactic| walk_at "call ref") => `(tactic| (k_here; (with_reducible show wpAny _ _ (call (Value.ref 78) _) _ _ _); k_dflt (refine' Says.useL ?B ?F ?X ?N ?T ?K ?H ?d ?u ?_; (case B => k_asm); (case F => k_asm); (case X => k_asm); (case N => k_asm); (case T => k_asm); (case K => first | exact rfl | assumption); (case H => (refine' initials_says _ _ _ _ _ _ _ _ _ _ _ _ ?hm ?hi ?hz ?hT ?hD; (case hm => k_mem); (case hi => l_ints); (case hz => omega); (case hT => exact TabIn.mono (by assumption) (by kcf_all)); (case hD => assumption))); (case d => ktr_room); (case u => ktr_units)); (intro D' vs' c' h' tk' hI' o1' F' N'); (try simp only [LCg.Off1, and_true] at o1'); (try dsimp only); (try k_fold)))
local macro_rules | `(tactic| walk_at "call ref") => `(tactic| (k_here; (with_reducible show wpAny _ _ (call (Value.ref 243) _) _ _ _); k_dflt (refine' Says.useL ?B ?F ?X ?N ?T ?K ?H ?d ?u ?_; (case B => k_asm); (case F => k_asm); (case X => k_asm); (case N => k_asm); (case T => k_asm); (case K => first | exact rfl | assumption); (case H => (refine' words_says _ _ _ _ _ _ _ _ _ _ _ _ _ _ ?hm ?hi ?hz ?hm2 ?hi2 ?hz2; (case hm => k_mem); (case hi => l_ints); (case hz => omega); (case hm2 => k_mem); (case hi2 => l_ints); (case hz2 => omega))); (case d => ktr_room); (case u => ktr_units)); (intro D' vs' c' h' tk' hI' o1' F' N'); (try simp only [LCg.Off1, and_true] at o1'); (try dsimp only); (try k_fold)))
/-! rules for the law's own frame: the deck, the row of codes, draws within comprehensions -/
def some27 : List Int := [97, 65, 122, 90, 64, 91, 96, 123, 192, 224, 214, 246, 215, 247, 216, 248, 222, 254, 223, 255, 32, 48, 45, 0, 8364, 4194303, 181]
theorem deck_ok {ns : List Int} {f : Int → Int} (hf : ∀ k, 0 ≤ f k ∧ f k < 10 ^ 16) : DeckOk ((ns.take 16).map f) := by
  constructor
  · rw [List.length_map, List.length_take]; omega
  · intro x hx
    obtain ⟨k, _, rfl⟩ := List.mem_map.mp hx
    exact hf k
theorem deck_mod (k : Int) : 0 ≤ k.fmod (10 ^ Int.toNat 16) ∧ k.fmod (10 ^ Int.toNat 16) < 10 ^ 16 := drawMod (a := k) (k := 10 ^ Int.toNat 16) (by decide)
theorem deck_of {ys : List Value} {ns : List Int} (h : IntsAre ys ((ns.take 16).map fun k => (if k < 0 then -k else k).fmod (10 ^ Int.toNat 16))) : ∃ ms, IntsAre ys ms ∧ DeckOk ms :=
  ⟨_, h, deck_ok fun k => deck_mod _⟩
section
variable {prog : Program} {w : World} {A : Around} {E : Value → Shared → Prop} {s : Shared} {h₀ : Heap} {L : Addr} {m : Str → Option Value} {news : List (Addr × Obj)}
theorem newList_ints {vs : List Value} {ns : List Int} {Q : Value → Shared → Prop} (F : Fr h₀ L s.heap m) (N : News h₀ L s.heap news) (hi : IntsAre vs ns) (hz : ns.length ≤ 100)
    (h : ∀ l us h', IntsAre us ns → Fr h₀ L h' m → News h₀ L h' ((l, listOf us.toArray 0) :: news) → (∀ p ∈ news, p.1 < l) → Q (.ref l) { s with heap := h' }) : wpAny (model prog w) A (newList vs) Q E s :=
  newList_N F N (fun h' F' N' => h _ vs h' hi F' N' fun p hp => Heap.lt_size (N p hp).1) (by rw [hi.length]; exact sizeOk hz)
end
section
variable {prog : Program} {w : World} {A : Around} {h₀ : Heap} {L : Addr} {m : Str → Option Value} {env : Env} {ct elt : PySem.Expr} {x : Str} {scope : Scope} {cl : List (Str × Addr)} {s : Shared} {S : List (Addr × Obj) → Prop} {P : Nat → Value → Prop} {Fin : List Value → List (Addr × Obj) → Prop} {news : List (Addr × Obj)}
  {d : Addr} {us : List Value} {ms : List Int} {dc₀ : Nat} {G : Obj → List (Addr × Obj)}
def DeckAt (G : Obj → List (Addr × Obj)) (nw : List (Addr × Obj)) : Prop := ∃ dvs dns dc, nw = G (listOf dvs.toArray dc) ∧ IntsAre dvs dns ∧ DeckOk dns
theorem DeckAt.of {dvs : List Value} {dns : List Int} {dc : Nat} (hi : IntsAre dvs dns) (ok : DeckOk dns) : DeckAt G (G (listOf dvs.toArray dc)) := ⟨dvs, dns, dc, rfl, hi, ok⟩
theorem UpdF.at {o : Obj} (U : UpdF d o news G) : G o = news := by
  obtain ⟨pre, post, rfl, e, _, _⟩ := U.split
  exact e o
/-- a comprehension whose element draws: ints, as many as there are turns -/
theorem comp_draws {n : Nat} {oc : Obj} (_hc : oc.data = Data.cell (some (Value.ref d))) (U : UpdF d (listOf us.toArray dc₀) news G) (hi : IntsAre us ms) (ok : DeckOk ms)
    (turn : ∀ i ys v I oI C oC D m₂ h tk dvs dns dc (E' : Value → Shared → Prop), i < n → IntsAre dvs dns → DeckOk dns → P i v → LCg.NsObj oC m₂ → m₂ x = some v → Fr h₀ L h m → News h₀ L h ((I, oI) :: (C, oC) :: (D, LCg.lst ys) :: G (listOf dvs.toArray dc)) → LCg.Off3 I C D (G (listOf dvs.toArray dc)) → ((@Ne Nat I C) ∧ (@Ne Nat I D) ∧ (@Ne Nat C D)) →
      wpAny (model prog w) A (eval elt (compEnvC scope cl C env)) (LCg.CompEnd h₀ L m { s with heap := h, toks := tk } I oI C oC D (LCg.lst ys) S (fun y news' => (∃ k t, y = .int k t) ∧ DeckAt G news')) E' { s with heap := h, toks := tk })
    (fin : ∀ ys cns dvs dns dc, IntsAre ys cns → cns.length = n → IntsAre dvs dns → DeckOk dns → Fin ys (G (listOf dvs.toArray dc))) : LCg.CompRest prog w A h₀ L m env elt x scope cl s S P Fin n 0 [] news := by
  refine comp_turns (fun i ys nw => (∃ cns, IntsAre ys cns ∧ cns.length = i) ∧ DeckAt G nw) ⟨⟨[], .nil, rfl⟩, ?_⟩ ?_ ?_
  · rw [← UpdF.at U]; exact .of hi ok
  · rintro i ys nw v I oI C oC D m₂ h tk E' hin ⟨⟨cns, hc, hl⟩, dvs, dns, dc, rfl, hd, hok⟩ hv hC hx F N off ne
    refine wpAny_mono (turn i ys v I oI C oC D m₂ h tk dvs dns dc E' hin hd hok hv hC hx F N off ne) (fun y s₂ hq => ?_) fun _ _ e => e
    obtain ⟨h', tk', nw', e, F', N', off', hS, ⟨k, t, rfl⟩, hD⟩ := hq
    exact ⟨h', tk', nw', e, F', N', off', hS, ⟨cns ++ [k], IntsAre.append hc (.cons k t .nil), by simp [hl]⟩, hD⟩
  · rintro ys nw ⟨⟨cns, hc, hl⟩, dvs, dns, dc, rfl, hd, hok⟩
    exact fin ys cns dvs dns dc hc hl hd hok
end
section
variable {M : Model} {A : Around} {E : Value → Shared → Prop} {s : Shared} {env : Env} {st : Stmt} {rest : List Stmt} {Q : Flow → Shared → Prop}
theorem cut_stmt {P : Shared → Prop} (h1 : wpAny M A (exec st env) (fun f s' => f = .next ∧ P s') E s) (h2 : ∀ s', P s' → wpAny M A (execs rest env) Q E s') : wpAny M A (execs (st :: rest) env) Q E s := by
  refine wpAny_execs_cons (wpAny_mono h1 (fun f s' hp => ?_) fun _ _ e => e)
  obtain ⟨rfl, hp⟩ := hp
  exact h2 s' hp
end
/-- behind a statement: the name x is a row of at most 16 ints, the deck is a deck, all else as it stood -/
def Codes (h₀ : Heap) (L : Addr) (m₀ : Str → Option Value) (x : Str) (R : Obj → List (Addr × Obj)) (s s' : Shared) : Prop :=
  ∃ h' tk cd cvs cns cc dvs dns dc, s' = { s with heap := h', toks := tk } ∧ Fr h₀ L h' (fun y => if y = x then some (.ref cd) else m₀ y) ∧ News h₀ L h' ((cd, listOf cvs.toArray cc) :: R (listOf dvs.toArray dc)) ∧
    LCg.Off1 cd (R (listOf dvs.toArray dc)) ∧ IntsAre cvs cns ∧ cns.length ≤ 16 ∧ IntsAre dvs dns ∧ DeckOk dns
section
variable {M : Model} {A : Around} {E : Value → Shared → Prop} {s : Shared} {env : Env} {st : Stmt} {rest : List Stmt} {Q : Flow → Shared → Prop} {h₀ : Heap} {L cd d : Addr} {m₀ : Str → Option Value} {x : Str} {R : Obj → List (Addr × Obj)} {news all : List (Addr × Obj)}
theorem Codes.of {h' : Heap} {tk cc dc : Nat} {cvs dvs : List Value} {cns dns : List Int} (F : Fr h₀ L h' (fun y => if y = x then some (.ref cd) else m₀ y)) (N : News h₀ L h' all)
    (hI : IntsAre cvs cns) (hl : cns.length ≤ 16) (hD : IntsAre dvs dns) (ok : DeckOk dns) (off : LCg.Off1 cd (R (listOf dvs.toArray dc))) (sub : ∀ p ∈ (cd, listOf cvs.toArray cc) :: R (listOf dvs.toArray dc), p ∈ all) :
    Codes h₀ L m₀ x R s { s with heap := h', toks := tk } := ⟨h', tk, cd, cvs, cns, cc, dvs, dns, dc, rfl, F, fun p hp => N p (sub p hp), off, hI, hl, hD, ok⟩
theorem Fr.twice {h' : Heap} {v v' : Value} (F : Fr h₀ L h' (fun y => if y = x then some v' else if y = x then some v else m₀ y)) : Fr h₀ L h' (fun y => if y = x then some v' else m₀ y) := by
  have e : (fun y => if y = x then some v' else if y = x then some v else m₀ y) = fun y => if y = x then some v' else m₀ y := by
    funext y; by_cases h : y = x <;> simp [h]
  rw [e] at F; exact F
theorem cut_codes {oc : Obj} (_hc : oc.data = Data.cell (some (Value.ref d))) {dvs : List Value} {dc : Nat} {ys : List Value} (_N : News h₀ L s.heap ((cd, LCg.lst ys) :: news)) (_F : Fr h₀ L s.heap (fun y => if y = x then some (.ref cd) else m₀ y)) (_U : UpdF d (listOf dvs.toArray dc) news R)
    (h1 : wpAny M A (exec st env) (fun f s' => f = .next ∧ Codes h₀ L m₀ x R s s') E s)
    (h2 : ∀ h' tk cd cvs cns cc dvs dns dc, Fr h₀ L h' (fun y => if y = x then some (.ref cd) else m₀ y) → News h₀ L h' ((cd, listOf cvs.toArray cc) :: R (listOf dvs.toArray dc)) → LCg.Off1 cd (R (listOf dvs.toArray dc)) → IntsAre cvs cns → cns.length ≤ 16 → IntsAre dvs dns → DeckOk dns →
      wpAny M A (execs rest env) Q E { s with heap := h', toks := tk }) : wpAny M A (execs (st :: rest) env) Q E s := by
  refine cut_stmt h1 ?_
  rintro _ ⟨h', tk, cd, cvs, cns, cc, dvs, dns, dc, rfl, F, N, off, hI, hl, hD, ok⟩
  exact h2 h' tk cd cvs cns cc dvs dns dc F N off hI hl hD ok
end
/-- a for that changes nothing but its own name -/
def StillEnd (h₀ : Heap) (L : Addr) (m₀ : Str → Option Value) (x : Str) (keep : List (Addr × Obj)) (s₁ s₂ : Shared) : Prop :=
  ∃ (h' : Heap) (tk : Nat) (u : Str → Option Value) (news' : List (Addr × Obj)), s₂ = { s₁ with heap := h', toks := tk } ∧ Fr h₀ L h' (fun y => if y = x then u y else m₀ y) ∧ News h₀ L h' news' ∧ ∀ p ∈ keep, p ∈ news'
def StillPost (h₀ : Heap) (L : Addr) (m₀ : Str → Option Value) (x : Str) (keep : List (Addr × Obj)) (s₁ : Shared) (Q : Flow → Shared → Prop) (f : Flow) (s₂ : Shared) : Prop :=
  match f with
  | .ret v => Q (.ret v) s₂
  | .brk => Q .next s₂
  | _ => StillEnd h₀ L m₀ x keep s₁ s₂
theorem StillPost.next {h₀ : Heap} {L : Addr} {m₀ : Str → Option Value} {x : Str} {keep all : List (Addr × Obj)} {s₁ : Shared} {Q : Flow → Shared → Prop} {h' : Heap} {tk : Nat} {v : Option Value} (F : Fr h₀ L h' (fun y => if y = x then v else m₀ y)) (N : News h₀ L h' all) (sub : ∀ p ∈ keep, p ∈ all) :
    StillPost h₀ L m₀ x keep s₁ Q .next { s₁ with heap := h', toks := tk } := ⟨h', tk, fun _ => v, all, rfl, F, N, sub⟩
section
variable {prog : Program} {w : World} {A : Around} {E : Value → Shared → Prop} {s : Shared} {env : Env} {h₀ : Heap} {x : Str} {body : List Stmt} {Q : Flow → Shared → Prop}
def Keep (_ : List (Addr × Obj)) : Prop := True
theorem Keep.of {h : Heap} {L : Addr} {news : List (Addr × Obj)} (_ : News h₀ L h news) : Keep news := True.intro
theorem for_still {l : Addr} {vs : List Value} {ns : List Int} {c : Nat} {m₀ : Str → Option Value} {news all : List (Addr × Obj)}
    (_k : Keep news) (hh : A.handled = none) (hl : (l, listOf vs.toArray c) ∈ news) (hi : IntsAre vs ns) (F : Fr h₀ env.locals s.heap m₀) (N : News h₀ env.locals s.heap all) (sub : ∀ p ∈ news, p ∈ all)
    (turn : ∀ k t h tk I oI, k ∈ ns → LCg.Off1 I news → Fr h₀ env.locals h (fun y => if y = x then some (.int k t) else m₀ y) → News h₀ env.locals h ((I, oI) :: news) →
      wpAny (model prog w) A (execs body env) (StillPost h₀ env.locals m₀ x ((I, oI) :: news) { s with heap := h, toks := tk } Q) E { s with heap := h, toks := tk })
    (done : ∀ (u : Str → Option Value) h tk, Fr h₀ env.locals h (fun y => if y = x then u y else m₀ y) → News h₀ env.locals h news → Q .next { s with heap := h, toks := tk }) :
    wpAny (model prog w) A (pyIter (.ref l)) (fun it s₂ => LoopAtV prog w A h₀ env x body Q E it s₂) E s := by
  refine for_led (fun _ m nx => (∃ u : Str → Option Value, m = fun y => if y = x then u y else m₀ y) ∧ nx = news) hh hl F (fun p hp => N p (sub p hp)) ⟨⟨m₀, ?_⟩, rfl⟩ (fun i m nx h => by rw [h.2]; exact hl) ?_ ?_
  · funext y; by_cases h : y = x <;> simp [h]
  · rintro i v m₁ nx h tk I oI hv ⟨⟨u, rfl⟩, rfl⟩ off F' N'
    obtain ⟨k, t, rfl, hk⟩ := IntsAre.at hi i v hv
    have e : (fun y => if y = x then some (Value.int k t) else if y = x then u y else m₀ y) = fun y => if y = x then some (Value.int k t) else m₀ y := by
      funext y; by_cases h : y = x <;> simp [h]
    rw [e] at F'
    refine wpAny_mono (turn k t h tk I oI (List.mem_of_getElem? hk) off F' N') (fun f s₂ p => ?_) fun _ _ e => e
    have fin : StillEnd h₀ env.locals m₀ x ((I, oI) :: nx) { s with heap := h, toks := tk } s₂ → LedEnd h₀ env.locals (fun m nx' => (∃ u : Str → Option Value, m = fun y => if y = x then u y else m₀ y) ∧ nx' = nx) I oI { s with heap := h, toks := tk } s₂ := by
      rintro ⟨h', tk', u', news', e, F2, N2, hs⟩
      exact ⟨h', tk', _, nx, e, F2, fun p hp => N2 p (hs p hp), off, ⟨u', rfl⟩, rfl⟩
    cases f with
    | ret v => exact p
    | brk => exact p
    | next => exact fin p
    | cont => exact fin p
  · rintro m₁ nx h tk ⟨⟨u, rfl⟩, rfl⟩ F' N'
    exact done u h tk F' N'
end
/-! the letters' arithmetic -/
theorem down_up (c : Int) : down (up c) = down c := by
  unfold up down
  (repeat' split) <;> omega
theorem down_down (c : Int) : down (down c) = down c := by
  unfold down
  (repeat' split) <;> omega
theorem caps_down (c : Int) : (down c != c) = caps.any fun x => x == c := by
  rw [Bool.eq_iff_iff, any_iff, mem_caps, bne_iff_ne]
  unfold down
  split <;> omega
theorem caps_up (c : Int) : (up c != c) = caps.any fun x => x == c - 32 := by
  rw [Bool.eq_iff_iff, any_iff, mem_caps, bne_iff_ne]
  unfold up
  split <;> omega
theorem upper_any (ns : List Int) : (ns.any fun c => down c != c) = (ns.filter (fun c => caps.any fun x => x == c) != []) := by
  induction ns with
  | nil => rfl
  | cons c r ih =>
    rw [List.any_cons, List.filter_cons, ih, caps_down]
    cases h : caps.any fun x => x == c
    · simp
    · simp
section
variable {prog : Program} {w : World} {A : Around} {E : Value → Shared → Prop} {s : Shared} {Q : Value → Shared → Prop}
theorem ne_int_no {a b : Int} {t u : Tok} (h : a = b) (hq : Q (.bool false) s) : wpAny (model prog w) A (compareOp .NotEq (.int a t) (.int b u)) Q E s :=
  PyProof.Rows.ne_int (by subst h; simpa using hq)
theorem ne_bool_no {a b : Bool} (h : a = b) (hq : Q (.bool false) s) : wpAny (model prog w) A (compareOp .NotEq (.bool a) (.bool b)) Q E s :=
  PyProof.Rows.ne_bool (by subst h; simpa using hq)
end
local macro_rules | `(tactic| walk_at "compareOp NotEq int int") => `(tactic| (k_here; refine ne_int_no (by first | exact down_up _ | exact down_down _) ?_))
theorem upper_any2 (ns : List Int) : (ns.any fun c => down c != c) = !decide (ns.filter (fun c => caps.any fun x => x == c) = []) := by
  rw [upper_any]
  cases ns.filter (fun c => caps.any fun x => x == c) <;> simp
local macro_rules | `(tactic| walk_at "compareOp NotEq bool bool") => `(tactic| (k_here; refine ne_bool_no (by first | exact caps_down _ | exact caps_up _ | exact upper_any _ | exact upper_any2 _) ?_))
/-! the table's modify -/
section
variable {prog : Program} {w : World} {A : Around} {E : Value → Shared → Prop} {s : Shared} {h₀ : Heap} {L d : Addr} {m : Str → Option Value} {news : List (Addr × Obj)} {g : Obj → List (Addr × Obj)} {o : Obj} {kvs : List (Int × Value)} {k : Int} {tk : Tok} {v : Value}
theorem set_int {Q : Unit → Shared → Prop} (F : Fr h₀ L s.heap m) (N : News h₀ L s.heap news) (U : UpdF d o news g) (hd : o.IsDictOf (PySem.intKind prog w) kvs) (hsz : kvs.length ≤ 100)
    (h : ∀ h' o', Fr h₀ L h' m → News h₀ L h' (g o') → o'.IsDictOf (PySem.intKind prog w) (stored kvs k v) → Q () { s with heap := h', toks := s.toks + 1 }) : wpAny (model prog w) A (setItem (.ref d) (.int k tk) v) Q E s :=
  kda_set F N U hd (intKind_is _ _ _ _) (sizeOk hsz) h
end
/-- modify: the dict of the table holds the row, all else stands -/
def Sets (w : World) (kvs : List (Int × Value)) (c : Int) (sy : Addr) (G : Obj → List (Addr × Obj)) (r : Value) (news' : List (Addr × Obj)) : Prop :=
  r = .none ∧ ∃ o', o'.IsDictOf (PySem.intKind PySem.Challenge.rw_pq0345_01.row.prog w) (stored kvs c (.ref sy)) ∧ news' = G o'
section
variable (w : World) (mean : ExcName → Option Value) (mg mb : Str → Option Value) (t dt R sy : Addr) (o : Obj) (kvs : List (Int × Value)) (c : Int) (tc : Tok) (h1 h2 : Int) (t1 t2 : Tok) (n : Nat) (news : List (Addr × Obj)) (G : Obj → List (Addr × Obj))
local macro_rules | `(tactic| walk_at "setItem ref int ref") => `(tactic| (k_here; k_dflt (refine set_int (by k_asm) (by k_asm) (by assumption) (by assumption) (by assumption) ?_); intro h' o' F' N' hd'))
theorem modify_says (hT1 : (t, instObj 201 dt) ∈ news) (hT2 : (dt, dictOf [⟨h1, .str (Str.ofString "parent") t1, .none⟩, ⟨h2, .str (Str.ofString "rows") t2, .ref R⟩] n) ∈ news) (U : UpdF R o news G) (hd : o.IsDictOf (PySem.intKind PySem.Challenge.rw_pq0345_01.row.prog w) kvs) (hz : kvs.length ≤ 100) :
    Says 3 w mean mg mb 156 [.ref t, .int c tc, .ref sy] news (Sets w kvs c sy G) := by
  unfold Says
  k_fill
  intro dp un gd cn cs a ccd cl outer A₀ base h₀ L m s Q E B F X N T hk hdp hu hret
  refine wpAny_call ?_
  k_dflt ktr_enter
  k_steps
  exact hret _ _ _ _ ⟨rfl, _, by assumption, rfl⟩ (by assumption) (by assumption)
end
/-! a dict's rows, stored and looked up -/
section
variable {v : Value} {k k' : Int}
theorem at_map_here : ∀ {kvs : List (Int × Value)}, kvs.any (fun kv => kv.1 = k) = true → valueAt (kvs.map fun kv => if kv.1 = k then (kv.1, v) else kv) k = some v
  | [], h => by simp at h
  | p :: r, h => by
    by_cases hp : p.1 = k
    · simp [valueAt, hp]
    · have ih := at_map_here (kvs := r) (by simpa [hp] using h)
      simp only [valueAt, List.map_cons, List.find?_cons, hp, if_false, decide_false] at ih ⊢
      exact ih
theorem at_map_else (hk : k' ≠ k) : ∀ {kvs : List (Int × Value)}, valueAt (kvs.map fun kv => if kv.1 = k then (kv.1, v) else kv) k' = valueAt kvs k'
  | [] => rfl
  | p :: r => by
    have ih := at_map_else hk (kvs := r)
    have q : ∀ (y z : Int × Value) (a b : List (Int × Value)), y.1 = z.1 → (z.1 = k' → y = z) → valueAt a k' = valueAt b k' → valueAt (y :: a) k' = valueAt (z :: b) k' := by
      intro y z a b h1 h2 h3
      simp only [valueAt, List.find?_cons] at h3 ⊢
      rw [h1]
      by_cases h : z.1 = k'
      · rw [decide_eq_true h, h2 h]
      · rw [decide_eq_false h]; exact h3
    rw [List.map_cons]
    refine q _ _ _ _ ?_ ?_ ih
    · split <;> rfl
    · intro h
      exact if_neg fun e => hk (h.symm.trans e)
theorem at_stored {kvs : List (Int × Value)} : valueAt (stored kvs k v) k' = if k' = k then some v else valueAt kvs k' := by
  unfold stored
  split
  · next h =>
    by_cases hk : k' = k
    · rw [if_pos hk, hk]; exact at_map_here h
    · rw [if_neg hk]; exact at_map_else hk
  · next h =>
    unfold valueAt
    rw [List.find?_append]
    by_cases hk : k' = k
    · subst hk
      have : kvs.find? (fun kv => decide (kv.1 = k')) = none := by
        rw [List.find?_eq_none]
        intro x hx hq
        exact h (List.any_eq_true.mpr ⟨x, hx, hq⟩)
      simp [this]
    · have h2 : ¬ k = k' := fun e => hk e.symm
      simp [hk, h2]
end
/-- the list less one entry -/
inductive Without (a : Addr) (o : Obj) : List (Addr × Obj) → List (Addr × Obj) → Prop
  | head {r} : Without a o ((a, o) :: r) r
  | tail {p r r'} : Without a o r r' → Without a o (p :: r) (p :: r')
theorem Without.sub {a : Addr} {o : Obj} : ∀ {l l' : List (Addr × Obj)}, Without a o l l' → ∀ p ∈ (a, o) :: l', p ∈ l
  | _, _, .head, _, hp => hp
  | _, _, .tail (p := q) W, p, hp => by
    rcases List.mem_cons.mp hp with rfl | hp
    · exact .tail _ (W.sub _ (.head _))
    · rcases List.mem_cons.mp hp with rfl | hp
      · exact .head _
      · exact .tail _ (W.sub _ (.tail _ hp))
/-! the loop that fills the table -/
def TabJ (w : World) (ns : List Int) (isw : Int → Bool) (x : Str) (m₀ : Str → Option Value) (d R : Addr) (rest : List (Addr × Obj)) (i : Nat) (m : Str → Option Value) (nx : List (Addr × Obj)) : Prop :=
  ∃ (u : Str → Option Value) (syn : List (Addr × Obj)) (o : Obj) (kvs : List (Int × Value)) (dvs : List Value) (dns : List Int) (dc : Nat),
    m = (fun y => if y = x then u y else m₀ y) ∧ nx = (d, listOf dvs.toArray dc) :: (R, o) :: (rest ++ syn) ∧ IntsAre dvs dns ∧ DeckOk dns ∧ o.IsDictOf (PySem.intKind PySem.Challenge.rw_pq0345_01.row.prog w) kvs ∧ kvs.length ≤ i ∧
    (∀ p ∈ syn, p.1 ≠ d) ∧ (∀ p ∈ syn, p.1 ≠ R) ∧ ∀ c ∈ ns.take i, ∃ sy, valueAt kvs c = some (.ref sy) ∧ SynIn syn sy (isw c)
def TabEnd (w : World) (isw : Int → Bool) (h₀ : Heap) (L : Addr) (x : Str) (m₀ : Str → Option Value) (d R : Addr) (rest syn : List (Addr × Obj)) (I : Addr) (oI : Obj) (kvs : List (Int × Value)) (k : Int) (s₁ s₂ : Shared) : Prop :=
  ∃ (h' : Heap) (tk : Nat) (u : Str → Option Value) (sy : Addr) (new : List (Addr × Obj)) (o : Obj) (dvs : List Value) (dns : List Int) (dc : Nat),
    s₂ = { s₁ with heap := h', toks := tk } ∧ Fr h₀ L h' (fun y => if y = x then u y else m₀ y) ∧ News h₀ L h' ((I, oI) :: (d, listOf dvs.toArray dc) :: (R, o) :: (rest ++ (new ++ syn))) ∧
    IntsAre dvs dns ∧ DeckOk dns ∧ o.IsDictOf (PySem.intKind PySem.Challenge.rw_pq0345_01.row.prog w) (stored kvs k (.ref sy)) ∧ SynIn new sy (isw k) ∧ LCg.Off1 d new ∧ LCg.Off1 R new ∧ LCg.Off1 I new
def TabPost (w : World) (isw : Int → Bool) (h₀ : Heap) (L : Addr) (x : Str) (m₀ : Str → Option Value) (d R : Addr) (rest syn : List (Addr × Obj)) (I : Addr) (oI : Obj) (kvs : List (Int × Value)) (k : Int) (s₁ : Shared) (Q : Flow → Shared → Prop) (f : Flow) (s₂ : Shared) : Prop :=
  match f with
  | .ret v => Q (.ret v) s₂
  | .brk => Q .next s₂
  | _ => TabEnd w isw h₀ L x m₀ d R rest syn I oI kvs k s₁ s₂
section
variable {w : World} {A : Around} {E : Value → Shared → Prop} {s : Shared} {env : Env} {h₀ : Heap} {x : Str} {body : List Stmt} {Q : Flow → Shared → Prop} {isw : Int → Bool}
theorem off1_app {D : Addr} {a b : List (Addr × Obj)} : LCg.Off1 D (a ++ b) ↔ LCg.Off1 D a ∧ LCg.Off1 D b := by
  rw [off1_iff, off1_iff, off1_iff]
  constructor
  · exact fun h => ⟨fun p hp => h p (List.mem_append.mpr (.inl hp)), fun p hp => h p (List.mem_append.mpr (.inr hp))⟩
  · exact fun h p hp => (List.mem_append.mp hp).elim (h.1 p) (h.2 p)
/-- the addresses of a turn's ledger: where the deck and the dict stand they may be changed -/
def TabUpd (I d R : Addr) (r : List (Addr × Obj)) : Prop := I ≠ d ∧ I ≠ R ∧ d ≠ R ∧ (∀ p ∈ r, p.1 ≠ d) ∧ ∀ p ∈ r, p.1 ≠ R
theorem TabUpd.deck {I d R : Addr} {r : List (Addr × Obj)} {oI od oR : Obj} (T : TabUpd I d R r) : UpdF d od ((I, oI) :: (d, od) :: (R, oR) :: r) (fun x => (I, oI) :: (d, x) :: (R, oR) :: r) :=
  .tail T.1 (.head fun p hp => by
    rcases List.mem_cons.mp hp with rfl | hp
    · exact fun e => T.2.2.1 e.symm
    · exact T.2.2.2.1 p hp)
theorem TabUpd.dict {I d R : Addr} {r : List (Addr × Obj)} {oI od oR : Obj} (T : TabUpd I d R r) : UpdF R oR ((I, oI) :: (d, od) :: (R, oR) :: r) (fun x => (I, oI) :: (d, od) :: (R, x) :: r) :=
  .tail T.2.1 (.tail T.2.2.1 (.head T.2.2.2.2))
theorem TabPost.next {L : Addr} {m₀ : Str → Option Value} {d R I sy : Addr} {rest syn new all : List (Addr × Obj)} {oI o : Obj} {kvs : List (Int × Value)} {k : Int} {u : Option Value} {h' : Heap} {tk dc : Nat} {dvs : List Value} {dns : List Int}
    (F : Fr h₀ L h' (fun y => if y = x then u else m₀ y)) (N : News h₀ L h' all) (hI : IntsAre dvs dns) (ok : DeckOk dns) (hd : o.IsDictOf (PySem.intKind PySem.Challenge.rw_pq0345_01.row.prog w) (stored kvs k (.ref sy))) (hsy : SynIn new sy (isw k))
    (o1 : LCg.Off1 d new) (o2 : LCg.Off1 R new) (o3 : LCg.Off1 I new) (sub : ∀ p ∈ (I, oI) :: (d, listOf dvs.toArray dc) :: (R, o) :: (rest ++ (new ++ syn)), p ∈ all) :
    TabPost w isw h₀ L x m₀ d R rest syn I oI kvs k s Q .next { s with heap := h', toks := tk } :=
  ⟨h', tk, fun _ => u, sy, new, o, dvs, dns, dc, rfl, F, fun p hp => N p (sub p hp), hI, ok, hd, hsy, o1, o2, o3⟩
theorem for_tab {oc : Obj} {l d R : Addr} {vs : List Value} {ns : List Int} {c : Nat} {m₀ : Str → Option Value} {rest mid all : List (Addr × Obj)} {o₀ : Obj} {dvs₀ : List Value} {dns₀ : List Int} {dc₀ : Nat}
    (_hc : oc.data = Data.cell (some (Value.ref d))) (hlo : (R == sysModules) = false) (hdR : d ≠ R) (hrd : LCg.Off1 d rest) (hrR : LCg.Off1 R rest) (hh : A.handled = none) (hl : (l, listOf vs.toArray c) ∈ rest) (hi : IntsAre vs ns) (F : Fr h₀ env.locals s.heap m₀) (N : News h₀ env.locals s.heap all)
    (W1 : Without d (listOf dvs₀.toArray dc₀) all mid) (W2 : Without R o₀ mid rest) (hd₀ : o₀.IsDictOf (PySem.intKind PySem.Challenge.rw_pq0345_01.row.prog w) []) (hI : IntsAre dvs₀ dns₀) (ok : DeckOk dns₀)
    (turn : ∀ i k t h tk I oI syn o kvs dvs dns dc, ns[i]? = some k → IntsAre dvs dns → DeckOk dns → o.IsDictOf (PySem.intKind PySem.Challenge.rw_pq0345_01.row.prog w) kvs → k ∈ ns → kvs.length ≤ i → i < ns.length → TabUpd I d R (rest ++ syn) → Fr h₀ env.locals h (fun y => if y = x then some (.int k t) else m₀ y) → News h₀ env.locals h ((I, oI) :: (d, listOf dvs.toArray dc) :: (R, o) :: (rest ++ syn)) →
      wpAny (model PySem.Challenge.rw_pq0345_01.row.prog w) A (execs body env) (TabPost w isw h₀ env.locals x m₀ d R rest syn I oI kvs k { s with heap := h, toks := tk } Q) E { s with heap := h, toks := tk })
    (done : ∀ (u : Str → Option Value) h tk syn o kvs dvs dns dc, IntsAre dvs dns → DeckOk dns → o.IsDictOf (PySem.intKind PySem.Challenge.rw_pq0345_01.row.prog w) kvs → (R == sysModules) = false →
      (∀ c ∈ ns, ∃ sy, valueAt kvs c = some (.ref sy) ∧ SynIn syn sy (isw c)) → Fr h₀ env.locals h (fun y => if y = x then u y else m₀ y) → News h₀ env.locals h ((d, listOf dvs.toArray dc) :: (R, o) :: (rest ++ syn)) → Q .next { s with heap := h, toks := tk }) :
    wpAny (model PySem.Challenge.rw_pq0345_01.row.prog w) A (pyIter (.ref l)) (fun it s₂ => LoopAtV PySem.Challenge.rw_pq0345_01.row.prog w A h₀ env x body Q E it s₂) E s := by
  have sub : ∀ p ∈ (d, listOf dvs₀.toArray dc₀) :: (R, o₀) :: (rest ++ []), p ∈ all := by
    rw [List.append_nil]
    intro p hp
    refine W1.sub p ?_
    rcases List.mem_cons.mp hp with rfl | hp
    · exact .head _
    · exact .tail _ (W2.sub p hp)
  refine for_led (TabJ w ns isw x m₀ d R rest) hh (news := (d, listOf dvs₀.toArray dc₀) :: (R, o₀) :: (rest ++ [])) (.tail _ (.tail _ (List.mem_append.mpr (.inl hl)))) F (fun p hp => N p (sub p hp)) ⟨m₀, [], o₀, [], dvs₀, dns₀, dc₀, ?_, rfl, hI, ok, hd₀, Nat.le_refl _, (fun _ h => nomatch h), (fun _ h => nomatch h), fun _ h => (nomatch h)⟩ ?_ ?_ ?_
  · funext y; by_cases h : y = x <;> simp [h]
  · rintro i m nx ⟨u, syn, o, kvs, dvs, dns, dc, rfl, rfl, _⟩
    exact .tail _ (.tail _ (List.mem_append.mpr (.inl hl)))
  · rintro i v m₁ nx h tk I oI hv ⟨u, syn, o, kvs, dvs, dns, dc, rfl, rfl, hI', ok', hd', hlen, hs1, hs2, hall⟩ off F' N'
    obtain ⟨k, t, rfl, hk⟩ := IntsAre.at hi i v hv
    have e : (fun y => if y = x then some (Value.int k t) else if y = x then u y else m₀ y) = fun y => if y = x then some (Value.int k t) else m₀ y := by
      funext y; by_cases h : y = x <;> simp [h]
    rw [e] at F'
    have hT : TabUpd I d R (rest ++ syn) := ⟨fun e => off.1 e.symm, fun e => off.2.1 e.symm, hdR, (fun p hp => (List.mem_append.mp hp).elim (off1_iff.mp hrd p) (hs1 p)), fun p hp => (List.mem_append.mp hp).elim (off1_iff.mp hrR p) (hs2 p)⟩
    refine wpAny_mono (turn i k t h tk I oI syn o kvs dvs dns dc hk hI' ok' hd' (List.mem_of_getElem? hk) hlen (List.getElem?_eq_some_iff.mp hk).1 hT F' N') (fun f s₂ p => ?_) fun _ _ e => e
    have offr : LCg.Off1 I rest ∧ LCg.Off1 I syn := off1_app.mp off.2.2
    have fin : TabEnd w isw h₀ env.locals x m₀ d R rest syn I oI kvs k { s with heap := h, toks := tk } s₂ → LedEnd h₀ env.locals (TabJ w ns isw x m₀ d R rest (i + 1)) I oI { s with heap := h, toks := tk } s₂ := by
      rintro ⟨h', tk', u', sy, new, o', dvs', dns', dc', e, F2, N2, hI2, ok2, hd2, hsy, o1, o2, o3⟩
      refine ⟨h', tk', _, (d, listOf dvs'.toArray dc') :: (R, o') :: (rest ++ (new ++ syn)), e, F2, N2, ⟨off.1, off.2.1, off1_app.mpr ⟨offr.1, off1_app.mpr ⟨o3, offr.2⟩⟩⟩, u', new ++ syn, o', stored kvs k (.ref sy), dvs', dns', dc', rfl, rfl, hI2, ok2, hd2, ?_, ?_, ?_, ?_⟩
      · exact Nat.le_trans (stored_length_le _ _ _) (Nat.succ_le_succ hlen)
      · exact fun p hp => (List.mem_append.mp hp).elim (off1_iff.mp o1 p) (hs1 p)
      · exact fun p hp => (List.mem_append.mp hp).elim (off1_iff.mp o2 p) (hs2 p)
      · intro c' hc'
        rw [at_stored]
        by_cases hck : c' = k
        · subst hck
          exact ⟨sy, if_pos rfl, hsy.mono fun p hp => List.mem_append.mpr (.inl hp)⟩
        · rw [if_neg hck]
          rw [List.take_add_one, hk] at hc'
          have hc2 : c' ∈ ns.take i := (List.mem_append.mp hc').elim id fun h => absurd (List.mem_singleton.mp h) hck
          obtain ⟨sy', h1, h2⟩ := hall c' hc2
          exact ⟨sy', h1, h2.mono fun p hp => List.mem_append.mpr (.inr hp)⟩
    cases f with
    | ret v => exact p
    | brk => exact p
    | next => exact fin p
    | cont => exact fin p
  · rintro m₁ nx h tk ⟨u, syn, o, kvs, dvs, dns, dc, rfl, rfl, hI', ok', hd', hlen, hs1, hs2, hall⟩ F' N'
    refine done u h tk syn o kvs dvs dns dc hI' ok' hd' hlo (fun c hc => hall c ?_) F' N'
    rw [hi.length, List.take_length]; exact hc
end
/-! comprehensions that keep some of the ints; cuts behind a statement that changes nothing -/
theorem ints_filter_snoc {ns : List Int} {i : Nat} {k : Int} (h : ns[i]? = some k) (g : Int → Bool) : (ns.take (i + 1)).filter g = (ns.take i).filter g ++ (if g k = true then [k] else []) := by
  rw [List.take_add_one, h, List.filter_append]
  cases hg : g k <;> simp [hg]
/-- a turn's end of a comprehension that keeps some: told by b whether the item k is kept -/
def PickEnd (h₀ : Heap) (L : Addr) (m : Str → Option Value) (s₁ : Shared) (I : Addr) (oI : Obj) (C : Addr) (oC : Obj) (D : Addr) (oD : Obj) (S : List (Addr × Obj) → Prop) (news : List (Addr × Obj)) (gk b : Bool) (k : Int) (y : Value) (s₂ : Shared) : Prop :=
  LCg.CompEnd h₀ L m s₁ I oI C oC D oD S (fun y news' => news' = news ∧ gk = b ∧ (b = true → ∃ t, y = .int k t)) y s₂
theorem PickEnd.yes {h₀ : Heap} {L I C D : Addr} {m : Str → Option Value} {s₁ : Shared} {oI oC oD : Obj} {S : List (Addr × Obj) → Prop} {news all : List (Addr × Obj)} {gk : Bool} {k : Int} {t : Tok} {h' : Heap} {tk : Nat} (F : Fr h₀ L h' m) (N : News h₀ L h' all) (sub : ∀ p ∈ (I, oI) :: (C, oC) :: (D, oD) :: news, p ∈ all) (off : LCg.Off3 I C D news) (hS : S news) (hg : gk = true) :
    PickEnd h₀ L m s₁ I oI C oC D oD S news gk true k (.int k t) { s₁ with heap := h', toks := tk } := LCg.CompEnd.intro F N news sub off hS ⟨rfl, hg, fun _ => ⟨t, rfl⟩⟩
theorem PickEnd.no {h₀ : Heap} {L I C D : Addr} {m : Str → Option Value} {s₁ : Shared} {oI oC oD : Obj} {S : List (Addr × Obj) → Prop} {news all : List (Addr × Obj)} {gk : Bool} {k : Int} {y : Value} {h' : Heap} {tk : Nat} (F : Fr h₀ L h' m) (N : News h₀ L h' all) (sub : ∀ p ∈ (I, oI) :: (C, oC) :: (D, oD) :: news, p ∈ all) (off : LCg.Off3 I C D news) (hS : S news) (hg : gk = false) :
    PickEnd h₀ L m s₁ I oI C oC D oD S news gk false k y { s₁ with heap := h', toks := tk } := LCg.CompEnd.intro F N news sub off hS ⟨rfl, hg, fun e => nomatch e⟩
section
variable {prog : Program} {w : World} {A : Around} {h₀ : Heap} {L : Addr} {m : Str → Option Value} {env : Env} {ct elt : PySem.Expr} {x : Str} {scope : Scope} {cl : List (Str × Addr)} {s : Shared} {S : List (Addr × Obj) → Prop} {Fin : List Value → List (Addr × Obj) → Prop} {news : List (Addr × Obj)}
theorem filter_list {vs : List Value} {ns : List Int} (g : Int → Bool) (hi : IntsAre vs ns)
    (turn : ∀ k t ys I oI C oC D m₂ h tk (E' : Value → Shared → Prop), k ∈ ns → LCg.NsObj oC m₂ → m₂ x = some (.int k t) → Fr h₀ L h m → News h₀ L h ((I, oI) :: (C, oC) :: (D, LCg.lst ys) :: news) → LCg.Off3 I C D news → ((@Ne Nat I C) ∧ (@Ne Nat I D) ∧ (@Ne Nat C D)) →
      wpAny (model prog w) A (isTrue ct (compEnvC scope cl C env) (eval ct (compEnvC scope cl C env))) (fun ok s' => if ok = true then
        wpAny (model prog w) A (eval elt (compEnvC scope cl C env)) (PickEnd h₀ L m { s with heap := h, toks := tk } I oI C oC D (LCg.lst ys) S news (g k) true k) E' s'
        else PickEnd h₀ L m { s with heap := h, toks := tk } I oI C oC D (LCg.lst ys) S news (g k) false k Value.none s') E' { s with heap := h, toks := tk })
    (fin : ∀ ys, IntsAre ys (ns.filter g) → Fin ys news) : LCt.CompRestT prog w A h₀ L m env ct elt x scope cl s S (fun i v => vs.toArray[i]? = some v) Fin vs.toArray.size 0 [] news := by
  refine comp_turnsT (fun i ys nw => nw = news ∧ IntsAre ys ((ns.take i).filter g)) ⟨rfl, .nil⟩ ?_ ?_
  · rintro i ys nw v I oI C oC D m₂ h tk E' hin ⟨rfl, hy⟩ hv hC hx F N off ne
    obtain ⟨k, t, e, hk⟩ := IntsAre.at hi i v (by simpa using hv)
    subst e
    refine wpAny_mono (turn k t ys I oI C oC D m₂ h tk E' (List.mem_of_getElem? hk) hC hx F N off ne) (fun b s₂ hq => ?_) fun _ _ e => e
    cases b with
    | true =>
      simp only [if_true] at hq ⊢
      refine wpAny_mono hq (fun y s₃ hr => ?_) fun _ _ e => e
      obtain ⟨h', tk', nw', e, F', N', off', hS, rfl, hg, hy'⟩ := hr
      obtain ⟨t, rfl⟩ := hy' rfl
      exact ⟨h', tk', _, e, F', N', off', hS, rfl, by rw [ints_filter_snoc hk, if_pos hg]; exact IntsAre.append hy (.cons k t .nil)⟩
    | false =>
      simp only [Bool.false_eq_true, if_false] at hq ⊢
      obtain ⟨h', tk', nw', e, F', N', off', hS, rfl, hg, _⟩ := hq
      exact ⟨h', tk', _, e, F', N', off', hS, rfl, by rw [ints_filter_snoc hk, hg]; simpa using hy⟩
  · rintro ys nw ⟨rfl, hb⟩
    rw [List.size_toArray, hi.length, List.take_length] at hb
    exact fin ys hb
end
/-- a turn's end of a comprehension that draws -/
def DrawEnd (h₀ : Heap) (L : Addr) (m : Str → Option Value) (s₁ : Shared) (I : Addr) (oI : Obj) (C : Addr) (oC : Obj) (D : Addr) (oD : Obj) (S : List (Addr × Obj) → Prop) (G : Obj → List (Addr × Obj)) (b : Bool) (y : Value) (s₂ : Shared) : Prop :=
  LCg.CompEnd h₀ L m s₁ I oI C oC D oD S (fun y news' => (b = true → ∃ k t, y = .int k t) ∧ DeckAt G news') y s₂
/-- what holds of the ledger in a turn, whatever the deck -/
def TurnOff (I C D : Addr) (S : List (Addr × Obj) → Prop) (G : Obj → List (Addr × Obj)) : Prop := ∀ o, LCg.Off3 I C D (G o) ∧ S (G o)
theorem off3_of {I C D : Addr} : ∀ {l : List (Addr × Obj)}, (∀ p ∈ l, p.1 ≠ I ∧ p.1 ≠ C ∧ p.1 ≠ D) → LCg.Off3 I C D l
  | [], _ => trivial
  | p :: _, h => ⟨h p (.head _), off3_of fun q hq => h q (.tail _ hq)⟩
theorem UpdF.move {d : Addr} {o : Obj} : ∀ {news : List (Addr × Obj)} {G : Obj → List (Addr × Obj)}, UpdF d o news G → ∀ o', UpdF d o' (G o') G
  | _, _, .head h, _ => .head h
  | _, _, .tail h r, o' => .tail h (UpdF.move r o')
theorem DrawEnd.of {h₀ : Heap} {L I C D : Addr} {m : Str → Option Value} {s₁ : Shared} {oI oC oD : Obj} {S : List (Addr × Obj) → Prop} {G : Obj → List (Addr × Obj)} {dvs : List Value} {dns : List Int} {dc : Nat} {b : Bool} {y : Value} {h' : Heap} {tk : Nat} (T : TurnOff I C D S G) (F : Fr h₀ L h' m) (N : News h₀ L h' ((I, oI) :: (C, oC) :: (D, oD) :: G (listOf dvs.toArray dc)))
    (hi : IntsAre dvs dns) (ok : DeckOk dns) (hy : b = true → ∃ k t, y = .int k t) :
    DrawEnd h₀ L m s₁ I oI C oC D oD S G b y { s₁ with heap := h', toks := tk } := LCg.CompEnd.intro F N _ (fun _ hp => hp) (T _).1 (T _).2 ⟨hy, .of hi ok⟩
section
variable {prog : Program} {w : World} {A : Around} {h₀ : Heap} {L : Addr} {m : Str → Option Value} {env : Env} {ct elt : PySem.Expr} {x : Str} {scope : Scope} {cl : List (Str × Addr)} {s : Shared} {S : List (Addr × Obj) → Prop} {Fin : List Value → List (Addr × Obj) → Prop} {news : List (Addr × Obj)}
  {d : Addr} {us : List Value} {ms : List Int} {dc₀ : Nat} {G : Obj → List (Addr × Obj)}
/-- a comprehension over ints whose test draws: some of the ints; the deck's place in the turn's ledger is handed on -/
theorem comp_drawsU {oc : Obj} (_hc : oc.data = Data.cell (some (Value.ref d))) {vs : List Value} {ns : List Int} (hn : IntsAre vs ns) (U : UpdF d (listOf us.toArray dc₀) news G) (hi : IntsAre us ms) (ok : DeckOk ms) (hS : ∀ o, S (G o))
    (turn : ∀ k t ys I oI C oC D m₂ h tk dvs dns dc (E' : Value → Shared → Prop), k ∈ ns → IntsAre dvs dns → DeckOk dns → LCg.NsObj oC m₂ → m₂ x = some (.int k t) → Fr h₀ L h m → News h₀ L h ((I, oI) :: (C, oC) :: (D, LCg.lst ys) :: G (listOf dvs.toArray dc)) → TurnOff I C D S G →
      UpdF d (listOf dvs.toArray dc) ((I, oI) :: (C, oC) :: (D, LCg.lst ys) :: G (listOf dvs.toArray dc)) (fun o => (I, oI) :: (C, oC) :: (D, LCg.lst ys) :: G o) →
      wpAny (model prog w) A (isTrue ct (compEnvC scope cl C env) (eval ct (compEnvC scope cl C env))) (fun ok s' => if ok = true then
        wpAny (model prog w) A (eval elt (compEnvC scope cl C env)) (DrawEnd h₀ L m { s with heap := h, toks := tk } I oI C oC D (LCg.lst ys) S G true) E' s'
        else DrawEnd h₀ L m { s with heap := h, toks := tk } I oI C oC D (LCg.lst ys) S G false Value.none s') E' { s with heap := h, toks := tk })
    (fin : ∀ ys cns dvs dns dc, IntsAre ys cns → cns.length ≤ ns.length → IntsAre dvs dns → DeckOk dns → Fin ys (G (listOf dvs.toArray dc))) : LCt.CompRestT prog w A h₀ L m env ct elt x scope cl s S (fun i v => vs.toArray[i]? = some v) Fin vs.toArray.size 0 [] news := by
  refine comp_turnsT (fun i ys nw => (∃ cns, IntsAre ys cns ∧ cns.length ≤ i) ∧ DeckAt G nw) ⟨⟨[], .nil, Nat.le_refl _⟩, ?_⟩ ?_ ?_
  · rw [← UpdF.at U]; exact .of hi ok
  · rintro i ys nw v I oI C oC D m₂ h tk E' hin ⟨⟨cns, hc, hl⟩, dvs, dns, dc, rfl, hd, hok⟩ hv hC hx F N off ne
    obtain ⟨k, t, e, hk⟩ := IntsAre.at hn i v (by simpa using hv)
    subst e
    obtain ⟨pre, post, _, hG, _, _⟩ := U.split
    have hT : TurnOff I C D S G := fun o => ⟨off3_of (by
      have hm := LCg.Off3.mem off
      rw [hG] at hm ⊢
      intro p hp
      rcases List.mem_append.mp hp with hp | hp
      · exact hm p (List.mem_append.mpr (.inl hp))
      · rcases List.mem_cons.mp hp with rfl | hp
        · exact hm (d, listOf dvs.toArray dc) (List.mem_append.mpr (.inr (.head _)))
        · exact hm p (List.mem_append.mpr (.inr (.tail _ hp)))), hS o⟩
    have hd3 : d ≠ I ∧ d ≠ C ∧ d ≠ D := LCg.Off3.mem off (d, listOf dvs.toArray dc) (by rw [hG]; exact List.mem_append.mpr (.inr (.head _)))
    have hU : UpdF d (listOf dvs.toArray dc) ((I, oI) :: (C, oC) :: (D, LCg.lst ys) :: G (listOf dvs.toArray dc)) (fun o => (I, oI) :: (C, oC) :: (D, LCg.lst ys) :: G o) :=
      .tail hd3.1.symm (.tail hd3.2.1.symm (.tail hd3.2.2.symm (UpdF.move U _)))
    refine wpAny_mono (turn k t ys I oI C oC D m₂ h tk dvs dns dc E' (List.mem_of_getElem? hk) hd hok hC hx F N hT hU) (fun b s₂ hq => ?_) fun _ _ e => e
    cases b with
    | true =>
      simp only [if_true] at hq ⊢
      refine wpAny_mono hq (fun y s₃ hr => ?_) fun _ _ e => e
      obtain ⟨h', tk', nw', e, F', N', off', hS, hy, hD⟩ := hr
      obtain ⟨k, t, rfl⟩ := hy rfl
      exact ⟨h', tk', nw', e, F', N', off', hS, ⟨cns ++ [k], IntsAre.append hc (.cons k t .nil), by simp; omega⟩, hD⟩
    | false =>
      simp only [Bool.false_eq_true, if_false] at hq ⊢
      obtain ⟨h', tk', nw', e, F', N', off', hS, hy, hD⟩ := hq
      exact ⟨h', tk', nw', e, F', N', off', hS, ⟨cns, hc, by omega⟩, hD⟩
  · rintro ys nw ⟨⟨cns, hc, hl⟩, dvs, dns, dc, rfl, hd, hok⟩
    exact fin ys cns dvs dns dc hc (by rw [List.size_toArray, hn.length] at hl; exact hl) hd hok
end
def StillS (h₀ : Heap) (L : Addr) (m₀ : Str → Option Value) (news : List (Addr × Obj)) (s s' : Shared) : Prop :=
  ∃ h' tk, s' = { s with heap := h', toks := tk } ∧ Fr h₀ L h' m₀ ∧ News h₀ L h' news
section
variable {M : Model} {A : Around} {E : Value → Shared → Prop} {s : Shared} {env : Env} {st : Stmt} {rest : List Stmt} {Q : Flow → Shared → Prop} {h₀ : Heap} {L : Addr} {m₀ : Str → Option Value} {news all : List (Addr × Obj)}
theorem StillS.of {h' : Heap} {tk : Nat} (F : Fr h₀ L h' m₀) (N : News h₀ L h' all) (sub : ∀ p ∈ news, p ∈ all) : Flow.next = Flow.next ∧ StillS h₀ L m₀ news s { s with heap := h', toks := tk } := ⟨rfl, h', tk, rfl, F, fun p hp => N p (sub p hp)⟩
theorem StillS.mk {h' : Heap} {tk : Nat} (F : Fr h₀ L h' m₀) (N : News h₀ L h' all) (sub : ∀ p ∈ news, p ∈ all) : StillS h₀ L m₀ news s { s with heap := h', toks := tk } := ⟨h', tk, rfl, F, fun p hp => N p (sub p hp)⟩
theorem cut_still (_F : Fr h₀ L s.heap m₀) (_N : News h₀ L s.heap news)
    (h1 : wpAny M A (exec st env) (fun f s' => f = .next ∧ StillS h₀ L m₀ news s s') E s)
    (h2 : ∀ h' tk, Fr h₀ L h' m₀ → News h₀ L h' news → wpAny M A (execs rest env) Q E { s with heap := h', toks := tk }) : wpAny M A (execs (st :: rest) env) Q E s := by
  refine cut_stmt h1 ?_
  rintro _ ⟨h', tk, rfl, F, N⟩
  exact h2 h' tk F N
end
/-- an item of three written texts, none of them a word's or an inheritor's kind -/
theorem sub_three {prog : Program} {w : World} {A : Around} {E : Value → Shared → Prop} {s : Shared} {h₀ : Heap} {L l : Addr} {news : List (Addr × Obj)} {a b c : Str} {ta tb tc t : Tok} {n : Nat} {v : Int} {value slice : PySem.Expr} {Q : Value → Shared → Prop}
    (N : News h₀ L s.heap news) (hm : (l, listOf [Value.str a ta, .str b tb, .str c tc].toArray n) ∈ news) (h0 : 0 ≤ v) (h3 : v < 3) (hP : ∀ k ∈ [a, b, c], (k == Str.ofString "@") = false ∧ (k == Str.ofString "w") = false)
    (h : ∀ k tk, (k == Str.ofString "@") = false → (k == Str.ofString "w") = false → Q (.str k tk) s)
    (hs : subscripted slice false (.ref l) (.int v t) = operate [.ref l, .int v t] (getItem (.ref l) (.int v t)) := by with_unfolding_all rfl) :
    wpAny (model prog w) A (subscriptTail value slice (.ref l) (.int v t)) Q E s := by
  have hl : s.heap.IsList l [Value.str a ta, .str b tb, .str c tc].toArray := PySem.IsL.isList (n := n) (N _ hm).1
  have hc : v = 0 ∨ v = 1 ∨ v = 2 := by omega
  rcases hc with rfl | rfl | rfl
  · exact tail_any hl.typeIs slot_list_getitem.lookup (wpAny_getItem_list hl (by decide) (by decide) (by rfl) (h a ta (hP a (by simp)).1 (hP a (by simp)).2)) hs
  · exact tail_any hl.typeIs slot_list_getitem.lookup (wpAny_getItem_list hl (by decide) (by decide) (by rfl) (h b tb (hP b (by simp)).1 (hP b (by simp)).2)) hs
  · exact tail_any hl.typeIs slot_list_getitem.lookup (wpAny_getItem_list hl (by decide) (by decide) (by rfl) (h c tc (hP c (by simp)).1 (hP c (by simp)).2)) hs
theorem TabPost.syn {w : World} {h₀ : Heap} {x : Str} {Q : Flow → Shared → Prop} {isw : Int → Bool} {s : Shared} {L : Addr} {m₀ : Str → Option Value} {d R I sy ds : Addr} {rest syn all : List (Addr × Obj)} {oI o : Obj} {kvs : List (Int × Value)} {k : Int} {u : Option Value} {h' : Heap} {tk dc : Nat} {dvs : List Value} {dns : List Int}
    {kk : Str} {tkk t1 t2 t3 : Tok} {g1 g2 g3 : Int} {v2 v3 : Value} {n : Nat} (hd : o.IsDictOf (PySem.intKind PySem.Challenge.rw_pq0345_01.row.prog w) (stored kvs k (.ref sy)))
    (F : Fr h₀ L h' (fun y => if y = x then u else m₀ y)) (N : News h₀ L h' all) (m1 : (sy, instObj 130 ds) ∈ all)
    (m2 : (ds, dictOf [⟨g1, .str (Str.ofString "kind") t1, .str kk tkk⟩, ⟨g2, .str (Str.ofString "match") t2, v2⟩, ⟨g3, .str (Str.ofString "flags") t3, v3⟩] n) ∈ all)
    (m3 : (d, listOf dvs.toArray dc) ∈ all) (hI : IntsAre dvs dns) (ok : DeckOk dns) (hk1 : (kk == Str.ofString "@") = false) {bw : Bool} (hk2 : (kk == Str.ofString "w") = bw) (hk3 : isw k = bw)
    (a1 : @LT.lt Nat _ d ds) (a2 : @LT.lt Nat _ R ds) (a3 : @LT.lt Nat _ I ds) (a4 : @LT.lt Nat _ ds sy) (sub : ∀ p ∈ (I, oI) :: (R, o) :: (rest ++ syn), p ∈ all) :
    TabPost w isw h₀ L x m₀ d R rest syn I oI kvs k s Q .next { s with heap := h', toks := tk } := by
  refine TabPost.next (dc := dc) (new := [(sy, instObj 130 ds), (ds, dictOf [⟨g1, .str (Str.ofString "kind") t1, .str kk tkk⟩, ⟨g2, .str (Str.ofString "match") t2, v2⟩, ⟨g3, .str (Str.ofString "flags") t3, v3⟩] n)]) F N hI ok hd
    ⟨ds, kk, tkk, g1, g2, g3, t1, t2, t3, v2, v3, n, .head _, .tail _ (.head _), hk1, hk2.trans hk3.symm⟩ ⟨Nat.ne_of_gt (Nat.lt_trans a1 a4), Nat.ne_of_gt a1, trivial⟩ ⟨Nat.ne_of_gt (Nat.lt_trans a2 a4), Nat.ne_of_gt a2, trivial⟩ ⟨Nat.ne_of_gt (Nat.lt_trans a3 a4), Nat.ne_of_gt a3, trivial⟩ ?_
  intro p hp
  rcases List.mem_cons.mp hp with rfl | hp
  · exact sub _ (.head _)
  rcases List.mem_cons.mp hp with rfl | hp
  · exact m3
  rcases List.mem_cons.mp hp with rfl | hp
  · exact sub _ (.tail _ (.head _))
  rcases List.mem_append.mp hp with hp | hp
  · exact sub p (.tail _ (.tail _ (List.mem_append.mpr (.inl hp))))
  rcases List.mem_cons.mp hp with rfl | hp
  · exact m1
  rcases List.mem_cons.mp hp with rfl | hp
  · exact m2
  exact sub p (.tail _ (.tail _ (List.mem_append.mpr (.inr hp))))
theorem lst_eq (ys : List Value) : LCg.lst ys = listOf ys.toArray ys.length := rfl
section
variable {lv : Nat} {w : World} {mean : ExcName → Option Value} {mg mb : Str → Option Value} {f : Addr} {vs : List Value} {news : List (Addr × Obj)} {kvs : List (Int × Value)} {c : Int} {sy : Addr} {G : Obj → List (Addr × Obj)}
  {dp un : Nat} {gd : Option (List Code)} {cn : Str} {cs : Scope} {a : Addr} {ccd : Value} {cl : List (Str × Addr)} {outer : List Env} {A₀ : Around} {base h₀ : Heap} {L : Addr} {m : Str → Option Value} {s : Shared} {Q E : Value → Shared → Prop}
theorem Says.useS (B : Below A₀ base outer h₀) (F : Fr h₀ L s.heap m) (X : (hd.heap_39 w.params).In h₀) (N : News h₀ L s.heap news) (T : Top hd.view_39 (looseW hd.view_39 []) mean mg mb h₀) (hk : cs.kind = .function) (C : Says lv w mean mg mb f vs news (Sets w kvs c sy G)) (hdp : dp + lv < recursionLimit) (hun : un + 100 * lv < cLine)
    (ret : ∀ o' h' tk', o'.IsDictOf (PySem.intKind PySem.Challenge.rw_pq0345_01.row.prog w) (stored kvs c (.ref sy)) → Fr h₀ L h' m → News h₀ L h' (G o') → Q .none { s with heap := h', toks := tk' }) :
    wpAny (model PySem.Challenge.rw_pq0345_01.row.prog w) (ktrTop dp un gd cn cs L a ccd cl outer) (call (.ref f) vs) Q E s := by
  refine C.use B F X N T hk hdp hun ?_
  rintro _ _ h' tk' ⟨rfl, o', hd', rfl⟩ F' N'
  exact ret o' h' tk' hd' F' N'
end
/-! two lists of ints compared, where they are equal; the runs' laws -/
section
variable {prog : Program} {w : World} {A : Around} {E : Value → Shared → Prop} {s : Shared}
theorem ne_ints_no {a b : Addr} {vs us : List Value} {ns ms : List Int} {Q : Value → Shared → Prop} (hl : s.heap.IsList a vs.toArray) (hi : IntsAre vs ns) (hl' : s.heap.IsList b us.toArray) (hi' : IntsAre us ms) (hu : A.units + 64 < cLine) (e : ns = ms)
    (h : Q (.bool false) s) : wpAny (model prog w) A (compareOp .NotEq (.ref a) (.ref b)) Q E s :=
  ne_intsK hl hi hl' hi' hu (by subst e; simpa using h)
theorem eq_ints_yes {a b : Addr} {vs us : List Value} {ns ms : List Int} {Q : Value → Shared → Prop} (hl : s.heap.IsList a vs.toArray) (hi : IntsAre vs ns) (hl' : s.heap.IsList b us.toArray) (hi' : IntsAre us ms) (hu : A.units + 64 < cLine) (e : ns = ms)
    (h : Q (.bool true) s) : wpAny (model prog w) A (compareOp .Eq (.ref a) (.ref b)) Q E s :=
  eq_intsK hl hi hl' hi' hu (by subst e; simpa using h)
theorem eq_int_yes {a b : Int} {t u : Tok} {Q : Value → Shared → Prop} (e : a = b) (h : Q (.bool true) s) : wpAny (model prog w) A (compareOp .Eq (.int a t) (.int b u)) Q E s :=
  PyProof.Rows.eq_int (by subst e; simpa using h)
end
theorem runW_length {f g : Int → Int} {isw : Int → Bool} : ∀ {ns : List Int} {b : Bool}, (runW f g isw b ns).length = ns.length
  | [], _ => rfl
  | c :: r, b => congrArg Nat.succ (runW_length (ns := r) (b := isw c))
theorem runW_os0 {isw : Int → Bool} {ns : List Int} {b : Bool} : runW up (fun c => c) isw b ns = runW up (fun c => if false = true then down c else c) isw b ns := rfl
theorem runW_os1 {isw : Int → Bool} {ns : List Int} {b : Bool} : runW up down isw b ns = runW up (fun c => if true = true then down c else c) isw b ns := rfl
theorem runW_down {isw : Int → Bool} : ∀ {ns : List Int} {b : Bool}, (runW up down isw b ns).map down = ns.map down
  | [], _ => rfl
  | c :: r, b => by
    show down (if b = true then down c else up c) :: (runW up down isw (isw c) r).map down = down c :: r.map down
    rw [runW_down (ns := r) (b := isw c)]
    cases b
    · rw [if_neg (by decide), down_up]
    · rw [if_pos rfl, down_down]
local macro_rules | `(tactic| kpr_for) => `(tactic| first
  | assumption
  | exact And.left (by assumption)
  | exact And.left (And.right (by assumption))
  | exact And.right (by assumption)
  | exact And.left (And.right (And.right (by assumption)))
  | exact And.right (And.right (by assumption))
  | exact And.left (And.right (And.right (And.right (by assumption))))
  | exact And.right (And.right (And.right (by assumption)))
  | exact And.left (And.right (And.right (And.right (And.right (by assumption)))))
  | exact And.right (And.right (And.right (And.right (by assumption))))
  | exact And.left (And.right (And.right (And.right (And.right (And.right (by assumption))))))
  | exact And.right (And.right (And.right (And.right (And.right (by assumption)))))
  | exact And.left (And.right (And.right (And.right (And.right (And.right (And.right (by assumption)))))))
  | exact And.right (And.right (And.right (And.right (And.right (And.right (by assumption))))))
  | exact And.left (And.right (And.right (And.right (And.right (And.right (And.right (And.right (by assumption))))))))
  | exact And.right (And.right (And.right (And.right (And.right (And.right (And.right (by assumption)))))))
  | exact And.left (And.right (And.right (And.right (And.right (And.right (And.right (And.right (And.right (by assumption)))))))))
  | exact And.right (And.right (And.right (And.right (And.right (And.right (And.right (And.right (by assumption))))))))
  | exact And.left (And.right (And.right (And.right (And.right (And.right (And.right (And.right (And.right (And.right (by assumption))))))))))
  | exact And.right (And.right (And.right (And.right (And.right (And.right (And.right (And.right (And.right (by assumption)))))))))
  | exact And.left (And.right (And.right (And.right (And.right (And.right (And.right (And.right (And.right (And.right (And.right (by assumption)))))))))))
  | exact And.right (And.right (And.right (And.right (And.right (And.right (And.right (And.right (And.right (And.right (by assumption))))))))))
  | exact And.left (And.right (And.right (And.right (And.right (And.right (And.right (And.right (And.right (And.right (And.right (And.right (by assumption))))))))))))
  | exact And.right (And.right (And.right (And.right (And.right (And.right (And.right (And.right (And.right (And.right (And.right (by assumption)))))))))))
  | exact And.left (And.right (And.right (And.right (And.right (And.right (And.right (And.right (And.right (And.right (And.right (And.right (And.right (by assumption)))))))))))))
  | exact And.right (And.right (And.right (And.right (And.right (And.right (And.right (And.right (And.right (And.right (And.right (And.right (by assumption))))))))))))
  | exact And.left (And.right (And.right (And.right (And.right (And.right (And.right (And.right (And.right (And.right (And.right (And.right (And.right (And.right (by assumption))))))))))))))
  | exact And.right (And.right (And.right (And.right (And.right (And.right (And.right (And.right (And.right (And.right (And.right (And.right (And.right (by assumption)))))))))))))
  | exact And.left (And.right (And.right (And.right (And.right (And.right (And.right (And.right (And.right (And.right (And.right (And.right (And.right (And.right (And.right (by assumption)))))))))))))))
  | exact And.right (And.right (And.right (And.right (And.right (And.right (And.right (And.right (And.right (And.right (And.right (And.right (And.right (And.right (by assumption))))))))))))))
  | (fail "none"))
local macro_rules | `(tactic| k_ne) => `(tactic| (refine neN ?_; (try dsimp only); first | kpr_for | (refine Ne.symm ?_; kpr_for) | (refine Nat.ne_of_gt ?_; kpr_for) | (refine Nat.ne_of_lt ?_; kpr_for) | exact Nat.succ_ne_self _ | exact Ne.symm (Nat.succ_ne_self _) | (fail "k_ne")))
local macro_rules | `(tactic| k_updF) => `(tactic| first | exact TabUpd.deck (by assumption) | exact TabUpd.dict (by assumption) | fail "k_updF")
local macro_rules | `(tactic| walk_at "call ref") => `(tactic| (k_here; (with_reducible show wpAny _ _ (call (Value.ref 156) _) _ _ _); k_dflt (refine' Says.useS ?B ?F ?X ?N ?T ?K ?H ?d ?u ?_; (case B => k_asm); (case F => k_asm); (case X => k_asm); (case N => k_asm); (case T => k_asm); (case K => first | exact rfl | assumption); (case H => (refine' modify_says _ _ _ _ _ _ _ _ _ _ _ _ _ _ _ _ _ _ _ ?a ?b ?U ?hd ?hz; (case a => kcf_m); (case b => kcf_m); (case U => k_updF); (case hd => assumption); (case hz => omega))); (case d => ktr_room); (case u => ktr_units)); (intro o' h' tk' hd' F' N'); (try dsimp only at N'); (try dsimp only); (try k_fold)))
local macro_rules | `(tactic| walk_at "call ref") => `(tactic| (k_here; (with_reducible show wpAny _ _ (call (Value.ref 217) _) _ _ _); k_dflt (refine' draw_use ?B ?F ?X ?N ?T ?K ?U ?I ?O ?h0 ?h1 ?d ?u ?_; (case B => k_asm); (case F => k_asm); (case X => k_asm); (case N => k_asm); (case T => k_asm); (case K => first | exact rfl | assumption); (case U => first | assumption | k_updF); (case I => assumption); (case O => assumption); (case h0 => decide); (case h1 => decide); (case d => ktr_room); (case u => ktr_units)); (intro v' t' vs' ns' c' h' tk' g0' g1' hI' hO' F' N'); (try dsimp only at N'); (try dsimp only); (try k_fold)))
local macro_rules | `(tactic| walk_at "DrawEnd") => `(tactic| exact DrawEnd.of (by assumption) (by assumption) (by assumption) (by assumption) (by assumption) (by first | exact fun _ => ⟨_, _, rfl⟩ | exact fun e => nomatch e))
local macro_rules | `(tactic| walk_at "subscriptTail") => `(tactic| (k_here; (with_reducible show wpAny _ _ (subscriptTail _ _ (Value.ref _) (Value.int _ _)) _ _ _); k_dflt (refine sub_three (by k_asm) (by kcf_m) (by assumption) (by assumption) (by decide) ?_); intro kk' tk' hk1' hk2'))
local macro_rules | `(tactic| walk_at "TabPost") => `(tactic| exact TabPost.syn (by assumption) (by assumption) (by assumption) (by kcf_m) (by kcf_m) (by kcf_m) (by assumption) (by assumption) (by first | assumption | decide) (bw := _) (by first | assumption | exact (by decide : _ = true)) (by assumption) (by omega) (by omega) (by omega) (by omega) (by kcf_all))
theorem TabIn.of_loop {w : World} {news syn : List (Addr × Obj)} {t dt R : Addr} {o : Obj} {kvs : List (Int × Value)} {dom : List Int} {isw : Int → Bool} {h₀ h : Heap} {L : Addr} {h1 h2 : Int} {t1 t2 : Tok} {n : Nat} (_N : News h₀ L h news)
    (hall : ∀ c ∈ dom, ∃ sy, valueAt kvs c = some (.ref sy) ∧ SynIn syn sy (isw c)) (hd : o.IsDictOf (PySem.intKind PySem.Challenge.rw_pq0345_01.row.prog w) kvs) (hlo : (R == sysModules) = false)
    (m1 : (t, instObj 201 dt) ∈ news) (m2 : (dt, dictOf [⟨h1, .str (Str.ofString "parent") t1, .none⟩, ⟨h2, .str (Str.ofString "rows") t2, .ref R⟩] n) ∈ news) (m3 : (R, o) ∈ news) (sub : ∀ p ∈ syn, p ∈ news) : TabIn w news t dom isw :=
  ⟨dt, R, o, kvs, h1, h2, t1, t2, n, m1, m2, m3, hlo, hd, fun c hc => let ⟨sy, hv, hs⟩ := hall c hc; ⟨sy, hv, hs.mono sub⟩⟩
local macro_rules | `(tactic| walk_at "compareOp NotEq ref ref") => `(tactic| (k_here; (with_reducible show wpAny _ _ (compareOp CmpOp.NotEq (Value.ref _) (Value.ref _)) _ _ _); (with_unfolding_all refine' ne_ints_no ?k1 ?k2 ?k3 ?k4 ?k5 ?e ?_; (case k1 => is_list); (case k2 => l_intsC); (case k3 => is_list); (case k4 => l_intsC); (case k5 => units_room); (case e => with_reducible first | exact runW_os0 | exact runW_os1); k_whole)))
local macro_rules | `(tactic| walk_at "compareOp Eq ref ref") => `(tactic| (k_here; (with_reducible show wpAny _ _ (compareOp CmpOp.Eq (Value.ref _) (Value.ref _)) _ _ _); (with_unfolding_all refine' eq_ints_yes ?k1 ?k2 ?k3 ?k4 ?k5 ?e ?_; (case k1 => is_list); (case k2 => l_intsC); (case k3 => is_list); (case k4 => l_intsC); (case k5 => units_room); (case e => with_reducible exact runW_down); k_whole)))
theorem len_small {prog : Program} {w : World} {A : Around} {E : Value → Shared → Prop} {s : Shared} {l : Addr} {vs : List Value} {ns : List Int} {k : Nat} {Q : Value → Shared → Prop} (hl : s.heap.IsList l vs.toArray) (hi : IntsAre vs ns) (e : ns.length = k) (hk : k ≤ 16)
    (h : ∀ t tk, Q (.int (k : Int) t) { s with toks := tk }) : wpAny (model prog w) A (call (.builtin "len") [.ref l]) Q E s := by
  have hs : vs.toArray.size = k := by rw [List.size_toArray, hi.length, e]
  refine len_list hl (by rw [hs]; omega) ?_
  rw [hs]
  exact h _ _
local macro_rules | `(tactic| walk_at "call builtin:len") => `(tactic| (k_here; (with_reducible show wpAny _ _ (call (Value.builtin "len") [Value.ref _]) _ _ _); (with_unfolding_all refine' len_small ?k1 ?k2 ?k3 ?k4 ?_; (case k1 => is_list); (case k2 => l_intsC); (case k3 => with_reducible first | exact runW_length | exact rfl); (case k4 => assumption); k_whole); intro t' tk'))
local macro_rules | `(tactic| walk_at "compareOp Eq int int") => `(tactic| (k_here; (with_reducible show wpAny _ _ (compareOp CmpOp.Eq (Value.int _ _) (Value.int _ _)) _ _ _); refine eq_int_yes (by with_reducible rfl) ?_))
local macro_rules | `(tactic| ktr_units) => `(tactic| decide)
local macro_rules | `(tactic| ktr_room) => `(tactic| decide)
local macro_rules | `(tactic| walk_at "newList") => `(tactic| (k_here; (with_reducible show wpAny _ _ (newList (_ :: _ :: _ :: _ :: _)) _ _ _); k_dflt (refine newList_ints (ns := some27) (by k_asm) (by k_asm) (by repeat (first | exact IntsAre.nil | refine IntsAre.cons _ _ ?_)) (by decide) ?_); intro l' us' h' hS' F' N' l1; (try k_lt l1); (try k_sweep)))
local macro_rules | `(tactic| walk_at "exec Assign cons ListComp") => `(tactic| (k_here; (try k_unmd); k_dflt (refine LCg.Assign_ListComp_U (F₀ := by k_asm) (by rfl) (by with_unfolding_all rfl) (by with_unfolding_all rfl) (by decide) (by rfl) (by decide) (by rfl) (by rfl) (by rfl) ?_)))
local macro_rules | `(tactic| walk_at "exec Assign cons ListComp") => `(tactic| (k_here; (try k_unmd); lct_look; k_dflt (refine LCt.Assign_ListComp_T (F₀ := by k_asm) (by rfl) (by with_unfolding_all rfl) (by with_unfolding_all rfl) (by decide) (by rfl) (by decide) (by rfl) (by rfl) (by rfl) ?_)))
local macro_rules | `(tactic| walk_at "eval ListComp") => `(tactic| (k_here; (try k_unmd); lct_look; k_dflt (refine LCt.ListComp_T (F₀ := by k_asm) (by with_unfolding_all rfl) (by decide) (by rfl) (by decide) (by rfl) ?_)))
local macro_rules | `(tactic| walk_at "CompSrcT") => `(tactic| (k_here; k_dflt (refine LCt.CompSrcT.ledger (by rfl) (by k_asm) (by k_asm) (by k_mem) (by kcf_size) ?_; intro g'; (refine' filter_list (fun c => caps.any fun x => x == c) (by first | assumption | l_ints) (fun k' t' ys' I' oI' C' oC' D' m' h' tk' E' hk' hC' hx' F' N' off' ne' => ?_) (fun ys' hB' => ?_)); (all_goals (try (simp only [LCg.Off3, and_true] at off'))); kcf_last)))
local macro_rules | `(tactic| walk_at "PickEnd") => `(tactic| first
  | exact PickEnd.yes (by assumption) (by assumption) (by kcf_all) (by first | assumption | (simp only [LCg.Off3, and_true]; assumption)) (by lcg_src) (by assumption)
  | exact PickEnd.no (by assumption) (by assumption) (by kcf_all) (by first | assumption | (simp only [LCg.Off3, and_true]; assumption)) (by lcg_src) (by assumption))
theorem lawA : PySem.Challenge.rw_pq0345_01.Holds := _root_.hd (by
  k_go0
  all_goals try k_fold
  repeat' (fail_if_success (with_reducible show wpAny _ _ (execs (Stmt.Assign _ (Expr.List _ _) _ :: _) _) _ _ _)); (first | (k_unfold; (try dsimp only)) | (k_end; wrow_close) | walk1 | (dsimp only; walk1) | (leave1; walk_say "STEP leave1"; try dsimp only) | fail "no step")
  rename IntsAre _ (List.map _ _) => hD
  obtain ⟨dns, hDn, hok⟩ := deck_of hD
  clear hD
  rename Obj.data _ = Data.cell (some (Value.ref _)) => hcell9
  repeat' (fail_if_success (with_reducible show wpAny _ _ (execs (Stmt.Assign _ (Expr.ListComp _ _ _ _) _ :: _) _) _ _ _)); (first | (k_unfold; (try dsimp only)) | (k_end; wrow_close) | walk1 | (dsimp only; walk1) | (leave1; walk_say "STEP leave1"; try dsimp only) | fail "no step")
  dsimp only
  repeat' (fail_if_success (with_reducible show LCg.CompSrc _ _ _ _ _ _ _ _ _ _ _ _ _ _)); (first | (k_unfold; (try dsimp only)) | (k_end; wrow_close) | walk1 | (dsimp only; walk1) | (leave1; walk_say "STEP leave1"; try dsimp only) | fail "no step")
  have h27 : (some27.length : Int) = 27 := rfl
  refine LCg.CompSrc.range (by rfl) (by k_asm) (by k_asm) (by assumption) (by exact small_one (by omega) (by omega) (by omega) (by omega)) (rangeSize_nat _ _) (by refine sizeOk ?_; omega) ?_
  intro g'
  refine' comp_draws hcell9 ?U ?I ?O ?turn ?fin
  case O => assumption
  case I => assumption
  case U => k_updF
  case turn =>
    intro i' ys' v' I' oI' C' oC' D' m' h' tk' dvs' dns' dc' E' hin' hI' hO' hP' hC' hx' F' N' off' ne'
    try dsimp only at N'
    try dsimp only at off'
    simp only [LCg.Off3, and_true] at off'
    k_fold
    k_steps
    exact ⟨_, _, _, rfl, by assumption, by assumption⟩
  case fin =>
    intro ys' cns' dvs' dns' dc' hY' hL' hI' hO'
    have hL9 : cns'.length ≤ 16 := by omega
    unfold LCg.FinA
    intro D' h' tk' F' N' o1'
    try dsimp only at N'
    try dsimp only at o1'
    simp only [LCg.Off1, and_true] at o1'
    dsimp only
    refine' cut_codes hcell9 N' F' ?U ?h1 ?h2
    case U => k_updF
    case h1 =>
      k_fold
      k_steps
      · exact Codes.of (by assumption) (by assumption) hY' hL9 hI' hO' (by simp only [LCg.Off1, and_true]; omega) (by kcf_all)
      · exact Codes.of (Fr.twice (by assumption)) (by assumption) (.cons _ _ .nil) (by show 1 ≤ 16; decide) (by assumption) (by assumption) (by simp only [LCg.Off1, and_true]; omega) (by kcf_all)
      · exact Codes.of (by assumption) (by assumption) hY' hL9 hI' hO' (by simp only [LCg.Off1, and_true]; omega) (by kcf_all)
    case h2 =>
      clear F' N' hY' hL' hL9 hI' hO' o1' ys' cns' D'
      intro h' tk' cd cvs cns cc dvs dns dc F' N' o1' hC16 hL16 hI' hO'
      try dsimp only at N'
      try dsimp only at o1'
      simp only [LCg.Off1, and_true] at o1'
      refine cut_still F' N' ?s4 ?r4
      case s4 =>
        k_fold
        k_steps
        all_goals exact StillS.mk (by assumption) (by assumption) (by kcf_all)
      case r4 =>
        clear F' N'
        intro h' tk' F' N'
        refine cut_still F' N' ?s5 ?r5
        case s5 =>
          k_fold
          k_steps
          all_goals exact StillS.mk (by assumption) (by assumption) (by kcf_all)
        case r5 =>
          clear F' N'
          intro h' tk' F' N'
          have hK := Keep.of N'
          repeat' (fail_if_success (with_reducible show wpAny _ _ (pyIter _) _ _ _)); (first | (k_unfold; (try dsimp only)) | (k_end; wrow_close) | walk1 | (dsimp only; walk1) | (leave1; walk_say "STEP leave1"; try dsimp only) | fail "no step")
          rename Fr _ _ _ _ => lF
          rename News _ _ _ _ => lN
          with_unfolding_all refine for_still hK (by rfl) (.head _) hC16 lF lN (by kcf_all) ?turn ?done
          case turn =>
            clear lF lN
            intro k t h tk I oI hk off F' N'
            simp only [LCg.Off1, and_true] at off
            try k_unmd
            k_fold
            k_steps
            exact StillPost.next (by assumption) (by assumption) (by kcf_all)
          case done =>
            clear lF lN
            intro u h tk F' N'
            try dsimp only
            try k_fold
            refine cut_still F' N' ?s7 ?r7
            case s7 =>
              k_fold
              k_steps
              all_goals exact StillS.mk (by assumption) (by assumption) (by kcf_all)
            case r7 =>
              clear F' N'
              intro h' tk' F' N'
              w_top off
              repeat' (fail_if_success (with_reducible show LCt.CompSrcT _ _ _ _ _ _ _ _ _ _ _ _ _ _ _)); (first | (k_unfold; (try dsimp only)) | (k_end; wrow_close) | walk1 | (dsimp only; walk1) | (leave1; walk_say "STEP leave1"; try dsimp only) | fail "no step")
              refine LCt.CompSrcT.ledger (by rfl) (by k_asm) (by k_asm) (by k_mem) (by kcf_size) ?_
              intro g'
              refine' comp_drawsU hcell9 (by first | assumption | l_ints) ?U ?I ?O ?S ?turn ?fin
              case U => k_updF
              case I => assumption
              case O => assumption
              case S => intro o; dsimp only; lcg_src
              case turn =>
                clear hK
                intro k t ys I oI C oC D m₂ h tk dvs' dns' dc' E' hk hI' hO' hC' hx' F' N' hT' hU'
                try dsimp only at N'
                try dsimp only at hU'
                k_fold
                k_steps
              case fin =>
                intro ys' wns dvs' dns' dc' hY' hL' hI' hO'
                unfold LCg.FinE
                intro D' h' tk' F' N' o1'
                try dsimp only at N'
                rw [lst_eq] at N'
                try dsimp only at o1'
                simp only [LCg.Off1, and_true] at o1'
                dsimp only
                k_fold
                repeat' (fail_if_success (with_reducible show wpAny _ _ (pyIter _) _ _ _)); (first | (k_unfold; (try dsimp only)) | (k_end; wrow_close) | walk1 | (dsimp only; walk1) | (leave1; walk_say "STEP leave1"; try dsimp only) | fail "no step")
                rename Fr _ _ _ _ => lF
                rename News _ _ _ _ => lN
                rename Obj.IsDictOf (intKind _ _) _ [] => hR
                rename (_ == sysModules) = false => hlo
                with_unfolding_all refine' for_tab (w := _) (isw := fun c => wns.any fun x => x == c) hcell9 hlo ?hdR ?hrd ?hrR (by rfl) ?hl ?hi lF lN ?W1 ?W2 hR ?hI ?ok ?turn ?done
                case W1 => repeat (first | exact Without.head | apply Without.tail)
                case W2 => repeat (first | exact Without.head | apply Without.tail)
                case hl => kcf_m
                case hi => l_ints
                case hI => assumption
                case ok => assumption
                case hdR => k_ne
                case hrd => (simp only [LCg.Off1, and_true]; refine ⟨?_, ?_, ?_, ?_, ?_, ?_, ?_, ?_, ?_⟩ <;> k_ne)
                case hrR => (simp only [LCg.Off1, and_true]; refine ⟨?_, ?_, ?_, ?_, ?_, ?_, ?_, ?_, ?_⟩ <;> k_ne)
                case turn =>
                  clear lF lN
                  intro i k t h tk I oI syn o kvs dvs dns dc hk hI' ok' hd' hkm hlen hin hT F' N'
                  simp only [List.cons_append, List.nil_append] at N' hT
                  try k_unmd
                  k_fold
                  k_steps
                case done =>
                  clear lF lN
                  intro u8 h8 tk8 syn8 o8 kvs8 dvs8 dns8 dc8 hI8 ok8 hd8 hlo8 hall8 F8 N8
                  simp only [List.cons_append, List.nil_append] at N8
                  w_top off
                  repeat (rename _ ≠ _ ∧ _ => z9; clear z9)
                  have hTab := TabIn.of_loop N8 hall8 hd8 hlo8 (by kcf_m) (by kcf_m) (by kcf_m) (by kcf_all)
                  repeat' (fail_if_success (with_reducible show LCt.CompSrcT _ _ _ _ _ _ _ _ _ _ _ _ _ _ _)); (first | (k_unfold; (try dsimp only)) | (k_end; wrow_close) | walk1 | (dsimp only; walk1) | (leave1; walk_say "STEP leave1"; try dsimp only) | fail "no step")
                  refine LCt.CompSrcT.ledger (by rfl) (by k_asm) (by k_asm) (by k_mem) (by rw [List.size_toArray, hC16.length]; exact sizeOk (Nat.le_trans hL16 (by decide))) ?_
                  intro g'
                  refine' filter_list (fun c => some27.any fun x => x == c) hC16 ?turn ?fin
                  case turn =>
                    intro k t ys I oI C oC D m₂ h tk E' hk hC16' hx' F' N' off' ne'
                    k_fold
                    k_steps
                  case fin =>
                    intro ys' hB'
                    unfold LCg.FinA
                    intro D' h' tk' F' N' o1'
                    try dsimp only at N'
                    rw [lst_eq] at N'
                    have hdom : ∀ x ∈ cns.filter (fun c => some27.any fun x => x == c), x ∈ some27 := fun x hx => any_iff.mp (List.mem_filter.mp hx).2
                    have hlen : (cns.filter (fun c => some27.any fun x => x == c)).length ≤ 16 := Nat.le_trans (List.length_filter_le _ _) hL16
                    generalize cns.filter (fun c => some27.any fun x => x == c) = fns at hB' hdom hlen
                    have hrun : (runW up down (fun c => wns.any fun x => x == c) false fns).length ≤ 16 := by rw [runW_length]; exact hlen
                    dsimp only
                    try k_fold
                    k_steps
                    all_goals trace_state
  )
end Mine
theorem PySem.Challenge.cw_pq0345_01_holds : PySem.Challenge.rw_pq0345_01.Holds :=
  Mine.lawA
