import PyProof.Rows.All
import Wide.All
import OpenK.AllK
import Wide.FinOn
import PySem.Challenge.RW_nt0157_01
open PySem PySem.W PySem.Spec PySem.Calls PyProof.Rows PyProof.V
set_option Elab.async false
set_option maxRecDepth 100000
namespace Mine
set_option maxHeartbeats 8000000 in
open_top hd for PySem.Challenge.rw_nt0157_01
end Mine
namespace Mine
theorem ne_of_allLt {d : Addr} : ∀ {l : List (Addr × Obj)}, AllLt d l → ∀ p ∈ l, p.1 ≠ d
  | [], _, _, hp => nomatch hp
  | q :: _, h, p, hp => by
    rcases List.mem_cons.mp hp with rfl | hp
    · exact Nat.ne_of_lt h.1
    · exact ne_of_allLt h.2 p hp
theorem sub_tail {q : Addr × Obj} {l r : List (Addr × Obj)} (h : ∀ p ∈ l, p ∈ r) : ∀ p ∈ l, p ∈ q :: r := fun p hp => List.mem_cons_of_mem _ (h p hp)
theorem drop_to {h₀ h : Heap} {L : Addr} {news news' : List (Addr × Obj)} (N : News h₀ L h news') (hs : ∀ p ∈ news, p ∈ news') : News h₀ L h news := fun p hp => N p (hs p hp)
/-- where the walk is to stop -/
def Halt (P : Prop) : Prop := P
theorem Halt.out {P : Prop} (h : Halt P) : P := h
theorem Halt.mk {P : Prop} (h : P) : Halt P := h
theorem find_at {α : Type} {f : α → Bool} : ∀ {c : List α} {i : Nat} {p : α}, (∀ q ∈ c.take i, f q = false) → c[i]? = some p → f p = true → c.find? f = some p
  | [], i, p, _, hp, _ => by simp at hp
  | q :: c, 0, p, _, hp, hf => by
    simp at hp
    subst hp
    rw [List.find?_cons, hf]
  | q :: c, i + 1, p, h, hp, hf => by
    have hq : f q = false := h q (by simp)
    rw [List.find?_cons, hq]
    exact find_at (i := i) (fun r hr => h r (by rw [List.take_succ_cons]; exact List.mem_cons_of_mem _ hr)) (by simpa using hp) hf
theorem take_snoc {α : Type} {P : α → Prop} {c : List α} {i : Nat} {p : α} (h : ∀ q ∈ c.take i, P q) (hp : c[i]? = some p) (hP : P p) : ∀ q ∈ c.take (i + 1), P q := by
  intro q hq
  rw [List.take_add_one, hp] at hq
  rcases List.mem_append.mp hq with hq | hq
  · exact h q hq
  · have : q = p := by simpa using hq
    rw [this]; exact hP
/-- a list whose first i items are turned -/
def mix {α : Type} (f : α → α) (i : Nat) (c : List α) : List α := (c.take i).map f ++ c.drop i
theorem mix_zero {α : Type} {f : α → α} {c : List α} : mix f 0 c = c := by simp [mix]
theorem mix_all {α : Type} {f : α → α} {c : List α} : mix f c.length c = c.map f := by simp [mix]
theorem mix_get {α : Type} {f : α → α} : ∀ {i : Nat} {c : List α}, (mix f i c)[i]? = c[i]?
  | 0, c => by simp [mix]
  | i + 1, [] => by simp [mix]
  | i + 1, q :: c => by
    have := mix_get (f := f) (i := i) (c := c)
    simpa [mix] using this
theorem mix_succ {α : Type} {f : α → α} : ∀ {i : Nat} {c : List α} {p : α}, c[i]? = some p → mix f (i + 1) c = (mix f i c).set i (f p)
  | 0, [], p, h => by simp at h
  | 0, q :: c, p, h => by
    simp at h
    subst h
    simp [mix]
  | i + 1, [], p, h => by simp at h
  | i + 1, q :: c, p, h => by
    have := mix_succ (f := f) (i := i) (c := c) (p := p) (by simpa using h)
    simpa [mix] using this
theorem mix_map {α β : Type} {f : α → α} {g : α → β} (hf : ∀ a, g (f a) = g a) {i : Nat} {c : List α} : (mix f i c).map g = c.map g := by
  have e : (c.take i).map (fun a => g (f a)) = (c.take i).map g := List.map_congr_left fun a _ => hf a
  show ((c.take i).map f ++ c.drop i).map g = c.map g
  rw [List.map_append, List.map_map]
  show (c.take i).map (fun a => g (f a)) ++ (c.drop i).map g = c.map g
  rw [e, ← List.map_append, List.take_append_drop]
theorem mix_length {α : Type} {f : α → α} {i : Nat} {c : List α} : (mix f i c).length = c.length := by
  unfold mix
  rw [List.length_append, List.length_map, ← List.length_append, List.take_append_drop]
theorem off_same {nw nw' its : List (Addr × Obj)} (e : nw'.map (·.1) = nw.map (·.1)) (h : ∀ p ∈ nw, ∀ q ∈ its, p.1 ≠ q.1) : ∀ p ∈ nw', ∀ q ∈ its, p.1 ≠ q.1 := by
  intro p hp q hq
  have : p.1 ∈ nw.map (·.1) := by rw [← e]; exact List.mem_map.mpr ⟨p, hp, rfl⟩
  obtain ⟨r, hr, e'⟩ := List.mem_map.mp this
  rw [← e']
  exact h r hr q hq
end Mine
namespace Mine
/-- the frame's map but for some names -/
def Over (xs : List Str) (m₀ m : Str → Option Value) : Prop := ∃ u : Str → Option Value, m = fun z => if xs.contains z then u z else m₀ z
theorem Over.of {xs : List Str} {m₀ m : Str → Option Value} (h : ∀ z, xs.contains z = false → m z = m₀ z) : Over xs m₀ m :=
  ⟨m, funext fun z => by
    cases e : xs.contains z with
    | true => simp
    | false => simp only [Bool.false_eq_true, if_false]; exact h z e⟩
theorem Over.refl {xs : List Str} {m₀ : Str → Option Value} : Over xs m₀ m₀ := .of fun _ _ => rfl
/-- the frame's map but for some names, one name known -/
def OverV (x : Str) (v : Value) (xs : List Str) (m₀ m : Str → Option Value) : Prop := ∃ u : Str → Option Value, m = fun z => if z = x then some v else if xs.contains z then u z else m₀ z
theorem OverV.of {x : Str} {v : Value} {xs : List Str} {m₀ m : Str → Option Value} (hv : m x = some v) (h : ∀ z, z ≠ x → xs.contains z = false → m z = m₀ z) : OverV x v xs m₀ m :=
  ⟨m, funext fun z => by
    by_cases e : z = x
    · rw [if_pos e, e, hv]
    · rw [if_neg e]
      cases e' : xs.contains z with
      | true => simp
      | false => simp only [Bool.false_eq_true, if_false]; exact h z e e'⟩
theorem OverV.start {x : Str} {v : Value} {xs : List Str} {m : Str → Option Value} (hv : m x = some v) : OverV x v xs m m := .of hv fun _ _ _ => rfl
section
variable {prog : Program} {w : World} {A : Around} {E : Value → Shared → Prop} {s : Shared} {env : Env} {h₀ : Heap} {target : Expr} {body : List Stmt} {Q : Flow → Shared → Prop}

def TurnE (h₀ : Heap) (L : Addr) (s₁ : Shared) (its : List (Addr × Obj)) (J : (Str → Option Value) → List (Addr × Obj) → Prop) (s₂ : Shared) : Prop :=
  ∃ h' tk m' nw', s₂ = { s₁ with heap := h', toks := tk } ∧ Fr h₀ L h' m' ∧ News h₀ L h' (nw' ++ its) ∧ (∀ p ∈ nw', ∀ q ∈ its, p.1 ≠ q.1) ∧ J m' nw'
def TurnP (h₀ : Heap) (L : Addr) (s₁ : Shared) (its : List (Addr × Obj)) (J : (Str → Option Value) → List (Addr × Obj) → Prop) (Q : Flow → Shared → Prop) (f : Flow) (s₂ : Shared) : Prop :=
  match f with
  | .ret v => Q (.ret v) s₂
  | .brk => Q .next s₂
  | _ => TurnE h₀ L s₁ its J s₂
theorem TurnE.intro {L : Addr} {s₁ : Shared} {its : List (Addr × Obj)} {J : (Str → Option Value) → List (Addr × Obj) → Prop} {h' : Heap} {tk : Nat} {m' : Str → Option Value} {nw' : List (Addr × Obj)}
    (F : Fr h₀ L h' m') (N : News h₀ L h' (nw' ++ its)) (off : ∀ p ∈ nw', ∀ q ∈ its, p.1 ≠ q.1) (j : J m' nw') : TurnE h₀ L s₁ its J { s₁ with heap := h', toks := tk } := ⟨h', tk, m', nw', rfl, F, N, off, j⟩
theorem allObj_of {k : List (Addr × Obj) → Prop} : ∀ {ws : List (Addr × String)}, (∀ its, Objs ws its → k its) → AllObj ws k
  | [], h => h [] trivial
  | w :: r, h => AllObj.cons fun o ho => allObj_of (ws := r) fun its hi => h ((w.1, o) :: its) ⟨⟨rfl, ho⟩, hi⟩
theorem objs_off {ws : List (Addr × String)} {its nw : List (Addr × Obj)} (h : Objs ws its) : (∀ p ∈ nw, ∀ b ∈ ws.map (·.1), p.1 ≠ b) ↔ ∀ p ∈ nw, ∀ q ∈ its, p.1 ≠ q.1 := by
  rw [← Objs.map h]
  constructor
  · intro x p hp q hq
    exact x p hp q.1 (List.mem_map.mpr ⟨q, hq, rfl⟩)
  · intro x p hp b hb
    obtain ⟨q, hq, rfl⟩ := List.mem_map.mp hb
    exact x p hp q hq
theorem items_inv {ws : List (Addr × String)} {keep : List (Addr × Obj)} {xs : List Itm} {m₀ : Str → Option Value} {news : List (Addr × Obj)} (inv : Nat → (Str → Option Value) → List (Addr × Obj) → Prop)
    (hws : ∀ p ∈ news, ∀ b ∈ ws.map (·.1), p.1 ≠ b) (h0 : inv 0 m₀ news) (hkeep : ∀ i m nw, inv i m nw → SubL keep nw)
    (step : ∀ i a m nw v h tk its, xs[i]? = some a → inv i m nw → a.Is v h → Fr h₀ env.locals h m → News h₀ env.locals h (nw ++ its) → (∀ p ∈ nw, ∀ q ∈ its, p.1 ≠ q.1) →
      wpAny (model prog w) A (assign target env v) (fun _ s₂ => wpAny (model prog w) A (execs body env) (TurnP h₀ env.locals { s with heap := h, toks := tk } its (inv (i + 1)) Q) E s₂) E { s with heap := h, toks := tk })
    (fin : ∀ m nw h tk, inv xs.length m nw → Fr h₀ env.locals h m → News h₀ env.locals h nw → Q .next { s with heap := h, toks := tk }) :
    ItemsRest prog w A E h₀ env target body Q s ws keep xs m₀ news := by
  have all : ∀ (k i : Nat) m nw, i + k = xs.length → inv i m nw → (∀ p ∈ nw, ∀ b ∈ ws.map (·.1), p.1 ≠ b) → ItemsRest prog w A E h₀ env target body Q s ws keep (xs.drop i) m nw := by
    intro k
    induction k with
    | zero =>
      intro i m nw e hi _
      have e' : i = xs.length := e
      subst e'
      rw [List.drop_length]
      exact ItemsRest.zero fun h tk F N => fin m nw h tk hi F N
    | succ k ih =>
      intro i m nw e hi off
      have hlt : i < xs.length := by omega
      rw [List.drop_eq_getElem_cons hlt]
      intro v h tk ha F
      refine allObj_of fun its hits N => ?_
      have off' := (objs_off hits).mp off
      have N' : News h₀ env.locals h (nw ++ its) := fun p hp => N p ((List.mem_append.mp hp).elim (fun q => List.mem_append.mpr (.inr q)) fun q => List.mem_append.mpr (.inl q))
      refine wpAny_mono (step i _ m nw v h tk its (List.getElem?_eq_getElem hlt) hi ha F N' off') (fun _ s₂ h₂ => wpAny_mono h₂ (fun f s₃ p => ?_) fun _ _ e => e) fun _ _ e => e
      have fin' : TurnE h₀ env.locals { s with heap := h, toks := tk } its (inv (i + 1)) s₃ → UnrEndW h₀ env.locals { s with heap := h, toks := tk } its (fun m' n' => SubL keep n' ∧ ItemsRest prog w A E h₀ env target body Q s ws keep (xs.drop (i + 1)) m' n') s₃ := by
        rintro ⟨h', tk', m', nw', e', F', N', o', j⟩
        exact ⟨h', tk', m', nw', e', F', fun p hp => N' p ((List.mem_append.mp hp).elim (fun q => List.mem_append.mpr (.inr q)) fun q => List.mem_append.mpr (.inl q)), o', hkeep _ _ _ j, ih (i + 1) m' nw' (by omega) j ((objs_off hits).mpr o')⟩
      cases f with
      | ret v => exact p
      | brk => exact p
      | next => exact fin' p
      | cont => exact fin' p
  have z := all xs.length 0 m₀ news (Nat.zero_add _) h0 hws
  rw [List.drop_zero] at z
  exact z
/-- a loop that leaves the ledger as it stood -/
theorem items_const {ws : List (Addr × String)} {keep : List (Addr × Obj)} {xs : List Itm} {m₀ : Str → Option Value} {news : List (Addr × Obj)} (names : List Str) (G : Nat → Prop)
    (hws : ∀ p ∈ news, ∀ b ∈ ws.map (·.1), p.1 ≠ b) (h0 : G 0) (hkeep : SubL keep news)
    (step : ∀ i a (u : Str → Option Value) v h tk its, xs[i]? = some a → G i → a.Is v h → Fr h₀ env.locals h (fun z => if names.contains z then u z else m₀ z) → News h₀ env.locals h (news ++ its) → (∀ p ∈ news, ∀ q ∈ its, p.1 ≠ q.1) →
      wpAny (model prog w) A (assign target env v) (fun _ s₂ => wpAny (model prog w) A (execs body env) (TurnP h₀ env.locals { s with heap := h, toks := tk } its (fun m' nw' => nw' = news ∧ Over names m₀ m' ∧ G (i + 1)) Q) E s₂) E { s with heap := h, toks := tk })
    (fin : ∀ (u : Str → Option Value) h tk, G xs.length → Fr h₀ env.locals h (fun z => if names.contains z then u z else m₀ z) → News h₀ env.locals h news → Q .next { s with heap := h, toks := tk }) :
    ItemsRest prog w A E h₀ env target body Q s ws keep xs m₀ news := by
  refine items_inv (fun i m nw => nw = news ∧ Over names m₀ m ∧ G i) hws ⟨rfl, Over.refl, h0⟩ (fun i m nw h => h.1 ▸ hkeep) ?_ ?_
  · rintro i a m nw v h tk its hx ⟨rfl, ⟨u, rfl⟩, g⟩ ha F N off
    exact step i a u v h tk its hx g ha F N off
  · rintro m nw h tk ⟨rfl, ⟨u, rfl⟩, g⟩ F N
    exact fin u h tk g F N
end
end Mine
local macro_rules | `(tactic| k_mem) => `(tactic| assumption)
local macro_rules | `(tactic| k_all) => `(tactic| first | assumption | exact Mine.ne_of_allLt (by assumption))
local macro_rules | `(tactic| k_lt $h:ident) => `(tactic| ((replace $h := allLt_of $h); (try simp only [AllLt, and_true] at $h:ident); (repeat (have hl9 := And.left $h; replace $h := And.right $h))))
local macro_rules | `(tactic| walk_at "my_enterC") => `(tactic| (refine' code_defC ?k1 ?k2 ?k3 ?k4 ?k5 ?kA ?kF ?kK ?k6 ?k7 ?k8 ?k9 ?kB ?kD ?_ ?c2 ?c3 ?c4; (case kA => exact rfl); (case kF => exact rfl); (case kK => assumption); (case k1 => k_asm); (case k2 => k_asm); (case k3 => k_asm); (case k4 => k_asm); (case k5 => k_asm); (case k6 => k_is); (case k7 => k_is); (case k8 => ktr_room); (case k9 => exact BindsTo.of_eq rfl); (case kB => exact rfl); (case kD => decide +kernel); (case c2 => exact rfl); (case c3 => exact rfl); (case c4 => exact rfl); k_whole; intro g' L' h' tk' cells' FG' F' N' Y' B' X' T' l1; (try k_lt l1); k_cells Y'; (try simp only [List.cons_append, List.nil_append] at N'); (try dsimp only); (try k_fold)))
local macro_rules | `(tactic| walk_at "sub") => `(tactic| first | exact fun _ h => h | exact fun _ h => List.mem_append_left _ h | exact fun _ h => List.mem_append_right _ h | (refine List.forall_mem_cons.mpr ⟨by k_mem, ?_⟩; walk_at "sub") | (refine Mine.sub_tail ?_; walk_at "sub"))
local macro_rules | `(tactic| walk_at "ledger") => `(tactic| first | k_asm | exact Mine.drop_to (by k_asm) (by walk_at "sub"))
local macro_rules | `(tactic| walk_at "TurnP") => `(tactic| (dsimp only [Mine.TurnP]))
local macro_rules | `(tactic| walk_at "over") => `(tactic| (refine Mine.Over.of ?_; first | (exact fun _ _ => rfl) | (intro z hc; have hz := hc; (simp only [List.contains_cons, List.contains_nil, Bool.or_false, Bool.or_eq_false_iff, beq_eq_false_iff_ne, ne_eq] at hz); (simp only [hz, hc, ↓reduceIte, Bool.false_eq_true]; done))))
local macro_rules | `(tactic| walk_at "overV") => `(tactic| (refine Mine.OverV.of (by first | rfl | (simp only [↓reduceIte]; rfl)) ?_; intro z he hc; have hz := hc; (try simp only [List.contains_cons, List.contains_nil, Bool.or_false, Bool.or_eq_false_iff, beq_eq_false_iff_ne, ne_eq] at hz); (simp only [hz, he, hc, List.contains_nil, ↓reduceIte, Bool.false_eq_true]; done)))
namespace Mine
section
variable {prog : Program} {w : World} {A : Around} {E : Value → Shared → Prop} {s : Shared} {h₀ : Heap} {L d : Addr} {m : Str → Option Value} {news : List (Addr × Obj)} {o : Obj} {c : List (Int × Int)}
/-- an object that is a dict of ints: its pairs, in order -/
def DI (prog : Program) (w : World) (o : Obj) (c : List (Int × Int)) : Prop :=
  ∃ kvs : List (Int × Value), o.IsDictOf (PySem.intKind prog w) kvs ∧ FlatPairs PyData.int kvs (kdfD c)
theorem flat_keys : ∀ {kvs : List (Int × Value)} {c : List (Int × Int)}, FlatPairs PyData.int kvs (kdfD c) → kvs.map (·.1) = c.map (·.1) := by
  intro kvs c hf
  apply List.ext_getElem?
  intro i
  rw [List.getElem?_map, List.getElem?_map]
  have hlen : kvs.length = c.length := by rw [← hf.length, kdfD_length]
  cases hk : kvs[i]? with
  | none =>
    have : c[i]? = none := by
      rw [List.getElem?_eq_none_iff] at hk ⊢
      omega
    rw [this]; rfl
  | some q =>
    obtain ⟨k, v⟩ := q
    obtain ⟨dv, hd, _⟩ := hf.at hk
    have hd' : (c[i]?).map (fun p => (PyData.int p.1, PyData.int p.2)) = some (PyData.int k, dv) := by rw [← List.getElem?_map]; exact hd
    cases hc : c[i]? with
    | none => rw [hc] at hd'; cases hd'
    | some p =>
      rw [hc] at hd'
      have e1 : PyData.int p.1 = PyData.int k := congrArg Prod.fst (Option.some.inj hd')
      injection e1 with e1
      show some k = some p.1
      rw [e1]
theorem DI.nodup (h : DI prog w o c) : (c.map (·.1)).Nodup := by
  obtain ⟨kvs, ⟨es, ep, _, _, _, _, hn⟩, hf⟩ := h
  rw [← flat_keys hf]
  exact hn
theorem look_of : ∀ {c : List (Int × Int)} {k v : Int}, (c.map (·.1)).Nodup → (k, v) ∈ c → kdfLook c k 0 = v ∧ kdfHas c k = true
  | [], _, _, _, h => nomatch h
  | (a, b) :: c, k, v, hn, h => by
    rw [List.map_cons, List.nodup_cons] at hn
    unfold kdfLook kdfHas
    rw [List.find?_cons, List.any_cons]
    rcases List.mem_cons.mp h with e | h
    · cases e
      simp
    · have hne : ¬ a = k := fun e => hn.1 (by rw [e]; exact List.mem_map.mpr ⟨(k, v), h, rfl⟩)
      have ih := look_of hn.2 h
      simp only [decide_eq_false hne, Bool.false_or]
      exact ih
theorem has_of_mem {c : List (Int × Int)} {k v : Int} (h : (k, v) ∈ c) : kdfHas c k = true := by
  unfold kdfHas
  exact List.any_eq_true.mpr ⟨(k, v), h, by simp⟩
theorem put_at : ∀ {c : List (Int × Int)} {i : Nat} {p : Int × Int} (v : Int), (c.map (·.1)).Nodup → c[i]? = some p → kdfPut c p.1 v = c.set i (p.1, v)
  | [], i, p, v, _, h => by simp at h
  | (a, b) :: c, 0, p, v, hn, h => by
    simp at h
    subst h
    rw [List.map_cons, List.nodup_cons] at hn
    unfold kdfPut
    rw [List.any_cons, decide_eq_true rfl, Bool.true_or, if_pos rfl, List.map_cons, List.set_cons_zero, if_pos (decide_eq_true rfl)]
    have e : c.map (fun q => if decide (q.1 = a) = true then (q.1, v) else q) = c.map id := List.map_congr_left fun q hq => by
      have : ¬ q.1 = a := fun e => hn.1 (by rw [← e]; exact List.mem_map.mpr ⟨q, hq, rfl⟩)
      rw [if_neg (by simpa using this)]; rfl
    rw [e, List.map_id]
  | (a, b) :: c, i + 1, p, v, hn, h => by
    rw [List.map_cons, List.nodup_cons] at hn
    have hp : c[i]? = some p := by simpa using h
    have hm := List.mem_of_getElem? hp
    have hne : ¬ a = p.1 := fun e => hn.1 (by rw [e]; exact List.mem_map.mpr ⟨p, hm, rfl⟩)
    have hany : (c.any fun q => decide (q.1 = p.1)) = true := List.any_eq_true.mpr ⟨p, hm, by simp⟩
    have ih := put_at v hn.2 hp
    unfold kdfPut at ih ⊢
    rw [if_pos hany] at ih
    rw [List.any_cons, hany, Bool.or_true, if_pos rfl, List.map_cons, List.set_cons_succ, ← ih]
    show (if decide (a = p.1) = true then (a, v) else (a, b)) :: _ = _
    rw [if_neg (by simpa using hne)]
theorem getItem_c {Q : Value → Shared → Prop} {kvs : List (Int × Value)} {k : Int} {t : Tok} (N : News h₀ L s.heap news) (hm : (d, o) ∈ news) (lo : (d == sysModules) = false)
    (hdo : o.IsDictOf (PySem.intKind prog w) kvs) (hdf : FlatPairs PyData.int kvs (kdfD c)) (hk : kdfHas c k = true) (h : ∀ t, Q (.int (kdfLook c k 0) t) { s with toks := s.toks + 1 }) :
    wpAny (model prog w) A (getItem (.ref d) (.int k t)) Q E s :=
  getItem_tab (enc := PyData.int) PyProof.V.same_int (intKind_is _ _ _ _) (TabAt.ofNews N hm lo hdo hdf) (kdfD_item hk) fun v hv => by
    obtain ⟨t, ht⟩ := PyProof.V.Flat.int_inv hv
    rw [ht]
    exact h t
theorem key_itm {i : Nat} {b : Itm} (h : ((kdfD c).map fun p => Itm.tok (kyVal p.1))[i]? = some b) : ∃ p, c[i]? = some p ∧ b = Itm.tok (kyVal (PyData.int p.1)) := by
  unfold kdfD at h
  rw [List.map_map, List.getElem?_map] at h
  cases hc : c[i]? with
  | none => rw [hc] at h; cases h
  | some p => rw [hc] at h; exact ⟨p, rfl, (Option.some.inj h).symm⟩
theorem ints_itm : ∀ {vs : List Value} {ns : List Int} {i : Nat} {b : Itm}, IntsAre vs ns → (vs.map Itm.val)[i]? = some b → ∃ n t, ns[i]? = some n ∧ b = Itm.val (.int n t)
  | _, _, _, _, .nil, h => by simp at h
  | _, _, 0, _, .cons n t _, h => by
    simp at h
    exact ⟨n, t, rfl, h.symm⟩
  | _, _, i + 1, _, .cons _ _ hr, h => by
    obtain ⟨n, t, e, r⟩ := ints_itm (i := i) hr (by simpa using h)
    exact ⟨n, t, by simpa using e, r⟩
theorem zip_itm : ∀ {vs us : List Value} {ns ks : List Int} {i : Nat} {b : Itm}, IntsAre vs ns → IntsAre us ks → (zipItems vs us)[i]? = some b → ∃ p t t', (ns.zip ks)[i]? = some p ∧ b = Itm.pair (fun _ => .int p.1 t) (.int p.2 t')
  | _, _, _, _, _, _, .nil, _, h => by simp [zipItems] at h
  | _, _, _, _, _, _, .cons _ _ _, .nil, h => by simp [zipItems] at h
  | _, _, _, _, 0, _, .cons n t _, .cons k t' _, h => by
    simp [zipItems] at h
    exact ⟨(n, k), t, t', by simp, h.symm⟩
  | _, _, _, _, i + 1, _, .cons _ _ h1, .cons _ _ h2, h => by
    obtain ⟨p, t, t', e, r⟩ := zip_itm (i := i) h1 h2 (by simpa [zipItems] using h)
    exact ⟨p, t, t', by simpa using e, r⟩
/-- the moves that change something -/
def realM (ts ss : List Int) : List (Int × Int) := (ts.zip ss).filter fun p => !decide (p.1 = p.2)
theorem take_keys {c : List (Int × Int)} {i : Nat} {p : Int × Int} (hn : (c.map (·.1)).Nodup) (hp : c[i]? = some p) : ∀ q ∈ c.take i, q.1 ≠ p.1 := by
  induction c generalizing i with
  | nil => simp at hp
  | cons a c ih =>
    rw [List.map_cons, List.nodup_cons] at hn
    cases i with
    | zero => intro q hq; simp at hq
    | succ i =>
      have hp' : c[i]? = some p := by simpa using hp
      intro q hq
      rw [List.take_succ_cons] at hq
      rcases List.mem_cons.mp hq with rfl | hq
      · intro e
        exact hn.1 (by rw [e]; exact List.mem_map.mpr ⟨p, List.mem_of_getElem? hp', rfl⟩)
      · exact ih hn.2 hp' q hq
theorem put_new {c : List (Int × Int)} {k v : Int} (h : ∀ q ∈ c, q.1 ≠ k) : kdfPut c k v = c ++ [(k, v)] := by
  unfold kdfPut
  rw [if_neg]
  intro h'
  obtain ⟨q, hq, e⟩ := List.any_eq_true.mp h'
  exact h q hq (of_decide_eq_true e)
end
end Mine
namespace Mine
open PyProof.Rows.LCg
section
variable {prog : Program} {w : World} {A : Around} {E : Value → Shared → Prop} {s : Shared} {h₀ : Heap} {L : Addr} {m : Str → Option Value} {env : Env}
theorem kvs_at {c : List (Int × Int)} {kvs : List (Int × Value)} (hf : FlatPairs PyData.int kvs (kdfD c)) {j : Nat} {k : Int} {v : Value} (hx : kvs[j]? = some (k, v)) :
    ∃ p, c[j]? = some p ∧ p.1 = k ∧ ∃ t : Tok, v = Value.int p.2 t := by
  obtain ⟨dv, hd, hfl⟩ := hf.at hx
  have hd' : (c[j]?).map (fun p => (PyData.int p.1, PyData.int p.2)) = some (PyData.int k, dv) := by rw [← List.getElem?_map]; exact hd
  cases hcj : c[j]? with
  | none => rw [hcj] at hd'; cases hd'
  | some p =>
    rw [hcj] at hd'
    have e := Option.some.inj hd'
    have e1 : PyData.int p.1 = PyData.int k := congrArg Prod.fst e
    have e2 : PyData.int p.2 = dv := congrArg Prod.snd e
    injection e1 with e1
    rw [← e2] at hfl
    obtain ⟨t, rfl⟩ := PyProof.V.Flat.int_inv hfl
    exact ⟨p, rfl, e1, t, rfl⟩

def KeySrc (prog : Program) (w : World) (A : Around) (h₀ : Heap) (L : Addr) (m : Str → Option Value) (env : Env) (elt : Expr) (x : Str) (scope : Scope) (cl : List (Str × Addr)) (Q : Value → Shared → Prop) (xv : Value) (s₁ : Shared) : Prop :=
  ∃ d o kvs c news, xv = .ref d ∧ A.handled = none ∧ Fr h₀ L s₁.heap m ∧ News h₀ L s₁.heap news ∧ (d, o) ∈ news ∧ (d == sysModules) = false ∧ o.IsDictOf (PySem.intKind prog w) kvs ∧ FlatPairs PyData.int kvs (kdfD c) ∧ c.length ≤ sizeLine ∧
    ∀ s₂ : Shared, (∃ h, s₂ = { s₁ with heap := h }) → CompRest prog w A h₀ L m env elt x scope cl s₂ (fun nw => (d, o) ∈ nw) (fun i v => ∃ p t, c[i]? = some p ∧ v = .int p.1 t) (FinE h₀ L m s₂ Q) c.length 0 [] news

theorem comp_keys {elt iter : Expr} {x : Str} {px : Pos} {scope : Scope} {cl : List (Str × Addr)} {pos : Pos} {Q : Value → Shared → Prop} (_F₀ : Fr h₀ L s.heap m)
    (hclos : closureFor scope env = pure cl) (hcell : ∀ y ∈ scope.names, y.2 ≠ .cell) (hkind : scope.kind = .function)
    (hnames : ∀ y ∈ scope.names, y.2 = .local → scope.names.lookup y.1 = some .local) (hx : scope.names.lookup x = some .local)
    (h : wpAny (model prog w) A (eval iter env) (KeySrc prog w A h₀ L m env elt x scope cl Q) E s)
    (hs : ∀ x, foldedSetIterable iter env x = pure x := by intro _; rfl) :
    wpAny (model prog w) A (eval (.ListComp elt [⟨.Name x px, iter, [], 0⟩] scope pos) env) Q E s := by
  rw [eval_ListComp]
  refine wpAny_comprehension_free (use := none) rfl hs hclos hkind hnames (wpAny_mono h (fun xv s₁ h₁ => ?_) fun _ _ e => e)
  obtain ⟨d, o, kvs, c, news, rfl, hh, F, N, hm, lo, hdo, hdf, hsz, R⟩ := h₁
  have hD : s₁.heap.DictOf (PySem.intKind prog w) d kvs := kda_dict N hm hdo
  obtain ⟨ep, hat⟩ := hD.dictAt
  have hlen : kvs.length = c.length := by rw [← hdf.length, kdfD_length]
  have hlt : d < s₁.heap.objs.size := hat.lt_size
  have dat : ∀ h : Heap, h.get? d = some o → h.DictAt (PySem.intKind prog w) d kvs ep := by
    intro h e
    obtain ⟨o2, es, q, r⟩ := hat
    have q' := (N _ hm).1
    rw [q] at q'; cases q'
    exact ⟨_, es, e, r⟩
  refine wpAny_pyIter_dict lo hat ?_
  have up : ∀ b o', s₁.heap.get? b = some o' → (s₁.heap.push { cls := .type "dict_keyiterator", data := .fields #[.ref d, .int 0 0, .int kvs.length 0, .int ep 0] }).get? b = some o' := fun b o' e => Heap.get?_push_of_some _ e
  have W := Walks.dictKeys (prog := prog) (w := w) (knd := PySem.intKind prog w) (A := A) hh s₁.heap.objs.size d (Nat.ne_of_lt hlt) kvs ep
  have W' : Walks prog w A s₁.heap.objs.size [s₁.heap.objs.size, d] [s₁.heap.objs.size] kvs.length (fun i v => ∃ p t, c[i]? = some p ∧ v = .int p.1 t)
      (fun i h => h.IsKeyIter s₁.heap.objs.size d i kvs.length ep ∧ h.DictAt (PySem.intKind prog w) d kvs ep) :=
    { sub := W.sub, frame := W.frame, done := W.done, self := W.self,
      item := fun i s Q E hi st hQ => W.item i s Q E hi st fun v h' tk hP => hQ v h' tk (by
        obtain ⟨k, x, hx, hk⟩ := hP
        obtain ⟨p, hp, e1, _⟩ := kvs_at hdf hx
        obtain ⟨t, rfl⟩ := Value.isInt_shape hk
        exact ⟨p, t, hp, by rw [e1]⟩) }
  have R' := R { s₁ with heap := s₁.heap.push { cls := .type "dict_keyiterator", data := .fields #[.ref d, .int 0 0, .int kvs.length 0, .int ep 0] } } ⟨_, rfl⟩
  rw [← hlen] at R'
  refine block_U W' (by rw [hlen]; exact hsz) (fun i h st => by obtain ⟨o, e, _⟩ := st.1; exact ⟨o, e⟩) ?_ hcell hkind hx ⟨⟨_, Heap.get?_push_size _ rfl, rfl, rfl⟩, hat.push _⟩ (fun b hb => ?_)
    (F.keeps up) (N.grown up) (Nat.ne_of_lt F.ns.lt) (next_is_new F) (fun p hp => Nat.ne_of_lt (Heap.lt_size (N p hp).1)) hm R' ?_
  · intro i h h' o' nw st e e' k Nw hS
    refine ⟨?_, dat h' (Nw _ hS).1⟩
    obtain ⟨o2, q, r⟩ := st.1
    rw [e] at q; cases q
    exact ⟨_, e', r⟩
  · show b < (s₁.heap.push _).objs.size
    rw [Heap.size_push]
    rcases List.mem_cons.mp hb with rfl | hb
    · exact Nat.lt_succ_self _
    · rw [List.mem_singleton.mp hb]; exact Nat.lt_succ_of_lt hlt
  · intro D C h tk m' ys news' F' N' o1 hn hC₀ hD₀ hCL hDL hCD offC fin
    refine ⟨m', hn, fun h'' hs'' => fin D h'' tk (F'.change hs'' hCL hC₀) (fun p hp => ?_) o1⟩
    refine ⟨hs''.extBut _ _ ?_ (N' p hp).1, (N' p hp).2⟩
    rcases List.mem_cons.mp hp with rfl | hp
    · exact Ne.symm hCD
    · exact offC p hp

theorem CompEnd.rest {I C D : Addr} {s₁ : Shared} {oI oC oD : Obj} {S : List (Addr × Obj) → Prop} {rest rest' : Value → List (Addr × Obj) → Prop} {y : Value} {s₂ : Shared}
    (h : CompEnd h₀ L m s₁ I oI C oC D oD S rest y s₂) (hr : ∀ nw, rest y nw → rest' y nw) : CompEnd h₀ L m s₁ I oI C oC D oD S rest' y s₂ := by
  obtain ⟨h', tk, nw, e, F, N, off, hS, r⟩ := h
  exact ⟨h', tk, nw, e, F, N, off, hS, hr nw r⟩

/-- a comprehension's turns by what holds of the values so far and of the ledger -/
theorem compRest_inv {elt : Expr} {x : Str} {scope : Scope} {cl : List (Str × Addr)} {S : List (Addr × Obj) → Prop} {P : Nat → Value → Prop} {Fin : List Value → List (Addr × Obj) → Prop} {n : Nat}
    (inv : Nat → List Value → List (Addr × Obj) → Prop)
    (step : ∀ i ys nw v I oI C oC D m₂ h tk (E' : Value → Shared → Prop), i < n → inv i ys nw → P i v → NsObj oC m₂ → m₂ x = some v → Fr h₀ L h m → News h₀ L h ((I, oI) :: (C, oC) :: (D, lst ys) :: nw) → Off3 I C D nw → ((@Ne Nat I C) ∧ (@Ne Nat I D) ∧ (@Ne Nat C D)) →
      wpAny (model prog w) A (eval elt (compEnvC scope cl C env)) (CompEnd h₀ L m { s with heap := h, toks := tk } I oI C oC D (lst ys) S (fun y nw' => inv (i + 1) (ys ++ [y]) nw')) E' { s with heap := h, toks := tk })
    (fin : ∀ ys nw, inv n ys nw → Fin ys nw) :
    ∀ k i ys nw, i + k = n → inv i ys nw → CompRest prog w A h₀ L m env elt x scope cl s S P Fin k i ys nw := by
  intro k
  induction k with
  | zero =>
    intro i ys nw e h
    have e' : i = n := e
    subst e'
    exact CompRest.zero (fin ys nw h)
  | succ k ih =>
    intro i ys nw e h
    refine CompRest.succ ?_
    intro v I oI C oC D m₂ hp tk E' hv hC hx F N off ne
    refine wpAny_mono (step i ys nw v I oI C oC D m₂ hp tk E' (by omega) h hv hC hx F N off ne) (fun y s₂ q => ?_) fun _ _ e => e
    exact CompEnd.rest q fun nw' r => ih (i + 1) (ys ++ [y]) nw' (by omega) r
theorem compRest_const {elt : Expr} {x : Str} {scope : Scope} {cl : List (Str × Addr)} {S : List (Addr × Obj) → Prop} {P : Nat → Value → Prop} {Fin : List Value → List (Addr × Obj) → Prop} {n : Nat} {news : List (Addr × Obj)}
    (inv : Nat → List Value → Prop) (h0 : inv 0 [])
    (step : ∀ i ys v I oI C oC D m₂ h tk (E' : Value → Shared → Prop), i < n → inv i ys → P i v → NsObj oC m₂ → m₂ x = some v → Fr h₀ L h m → News h₀ L h ((I, oI) :: (C, oC) :: (D, lst ys) :: news) → Off3 I C D news → ((@Ne Nat I C) ∧ (@Ne Nat I D) ∧ (@Ne Nat C D)) →
      wpAny (model prog w) A (eval elt (compEnvC scope cl C env)) (CompEnd h₀ L m { s with heap := h, toks := tk } I oI C oC D (lst ys) S (fun y nw' => nw' = news ∧ inv (i + 1) (ys ++ [y]))) E' { s with heap := h, toks := tk })
    (fin : ∀ ys, inv n ys → Fin ys news) : CompRest prog w A h₀ L m env elt x scope cl s S P Fin n 0 [] news := by
  refine compRest_inv (n := n) (fun i ys nw => nw = news ∧ inv i ys) ?_ ?_ n 0 [] news (Nat.zero_add n) ⟨rfl, h0⟩
  · rintro i ys nw v I oI C oC D m₂ hp tk E' hi ⟨rfl, hv⟩ h1 h2 h3 h4 h5 h6 h7
    exact step i ys v I oI C oC D m₂ hp tk E' hi hv h1 h2 h3 h4 h5 h6 h7
  · rintro ys nw ⟨rfl, h⟩
    exact fin ys h
theorem boolsAre_snoc : ∀ {vs : List Value} {bs : List Bool} {b : Bool}, LSm.BoolsAre vs bs → LSm.BoolsAre (vs ++ [.bool b]) (bs ++ [b])
  | _, _, _, .nil => .cons _ .nil
  | _, _, _, .cons _ h => .cons _ (boolsAre_snoc h)
end
end Mine
local macro_rules | `(tactic| walk_at "pad") => `(tactic| skip)
namespace Mine
set_option maxHeartbeats 8000000 in
theorem draw_ok {w : World} {p : Program} {loose : List Str} {mean : ExcName → Option Value} {mg mb : Str → Option Value}
    {dp un : Nat} {gd : Option (List Code)} {cn : Str} {cs : Scope} {a : Addr} {ccd : Value} {cl : List (Str × Addr)} {outer : List Env} {A₀ : Around} {base h₀ : Heap} {L : Addr} {m : Str → Option Value} {s : Shared}
    {Q E : Value → Shared → Prop} {dk it : Addr} {vs : List Value} {ns : List Int} {c : Int} {tc : Tok} {n0 n1 : Nat} {many : Int} {tm : Tok} {rest : List (Addr × Obj)}
    (B : Below A₀ base outer h₀) (F : Fr h₀ L s.heap m) (X : (Mine.hd.heap_39 w.params).In h₀)
    (N : News h₀ L s.heap ((dk, listOf [Value.ref it, Value.int c tc].toArray n0) :: (it, listOf vs.toArray n1) :: rest))
    (T : Top p loose mean mg mb h₀) (hk : cs.kind = .function)
    (hne : it ≠ dk) (hrest : ∀ p ∈ rest, p.1 ≠ dk) (hi : IntsAre vs ns) (hlen : ns.length ≤ 40) (hc0 : 0 ≤ c) (hc1 : c ≤ 1000) (hm0 : 1 ≤ many) (hm1 : many ≤ 10)
    (hd : dp + 1 < recursionLimit) (hu : un + 8 < cLine)
    (ret : ∀ r t t' n' h' tk', 0 ≤ r → r < many → Fr h₀ L h' m → News h₀ L h' ((dk, listOf [Value.ref it, Value.int (c + 1) t'].toArray n') :: (it, listOf vs.toArray n1) :: rest) → Q (.int r t) { s with heap := h', toks := tk' }) :
    wpAny (model PySem.Challenge.pw_nt0157_01 w) (ktrTop dp un gd cn cs L a ccd cl outer) (call (.ref 82) [.ref dk, .int many tm]) Q E s := by
  w_top off
  obtain ⟨sh, sg, sd, st, so⟩ := s
  dsimp only at F N ret
  refine wpAny_call ?_
  k_dflt ktr_enter
  k_steps
  all_goals (refine ret _ _ _ _ _ _ ?_ ?_ (by assumption) (by assumption))
  all_goals first | exact fmod_lo _ (by omega) | exact fmod_hi _ (by omega)
end Mine
namespace Mine
open PyProof.Rows.LCg
section
local macro_rules | `(tactic| walk_at "getItem ref int") => `(tactic| (refine getItem_c (by k_asm) (by k_mem) (by assumption) (by assumption) (by assumption) (by assumption) ?_; intro _))
local macro_rules | `(tactic| walk_at "eval ListComp") => `(tactic| (refine Halt.out ?_))
set_option maxHeartbeats 8000000 in
theorem want_ok {w : World} {p : Program} {loose : List Str} {mean : ExcName → Option Value} {mg mb : Str → Option Value}
    {dp un : Nat} {gd : Option (List Code)} {cn : Str} {cs : Scope} {a : Addr} {ccd : Value} {cl : List (Str × Addr)} {outer : List Env} {A₀ : Around} {base h₀ : Heap} {L : Addr} {m : Str → Option Value} {s : Shared}
    {Q E : Value → Shared → Prop} {x dx d : Addr} {hs : Int} {ts : Tok} {nd : Nat} {o : Obj} {c : List (Int × Int)} {reg : Int} {tr : Tok} {rest : List (Addr × Obj)}
    (B : Below A₀ base outer h₀) (F : Fr h₀ L s.heap m) (X : (Mine.hd.heap_39 w.params).In h₀)
    (N : News h₀ L s.heap ((x, instObj 64 dx) :: (dx, dictOf [⟨hs, .str (Str.ofString "sources") ts, .ref d⟩] nd) :: (d, o) :: rest))
    (T : Top p loose mean mg mb h₀) (hk : cs.kind = .function)
    (lo : (d == sysModules) = false) (hdi : DI PySem.Challenge.pw_nt0157_01 w o c) (hlen : c.length ≤ 100)
    (hd : dp + 2 < recursionLimit) (hu : un + 16 < cLine)
    (ret : ∀ h' tk', Fr h₀ L h' m → News h₀ L h' ((x, instObj 64 dx) :: (dx, dictOf [⟨hs, .str (Str.ofString "sources") ts, .ref d⟩] nd) :: (d, o) :: rest) → Q (.bool (c.any fun p => p.2 == reg)) { s with heap := h', toks := tk' }) :
    wpAny (model PySem.Challenge.pw_nt0157_01 w) (ktrTop dp un gd cn cs L a ccd cl outer) (call (.ref 33) [.ref x, .int reg tr]) Q E s := by
  w_top off
  obtain ⟨sh, sg, sd, st, so⟩ := s
  dsimp only at F N ret
  have hnd := hdi.nodup
  obtain ⟨kvs, hdo, hdf⟩ := hdi
  refine wpAny_call ?_
  k_dflt (walk_at "my_enterC")
  k_steps
  refine Halt.mk ?_
  refine comp_keys (by k_asm) (by with_unfolding_all rfl) (by decide) (by rfl) (by decide) (by rfl) ?_
  k_steps
  refine ⟨_, _, _, _, _, rfl, rfl, by k_asm, by k_asm, by k_mem, lo, hdo, hdf, by rw [sizeLine_eq]; omega, ?_⟩
  rintro s₂ ⟨h2, rfl⟩
  refine compRest_const (fun i ys => LSm.BoolsAre ys ((c.take i).map fun p => p.2 == reg)) .nil ?_ ?_
  · intro i ys v I oI C oC D m₂ hp tk E' hi hys hv hC hx F' N' off ne
    obtain ⟨p, t, hp, rfl⟩ := hv
    obtain ⟨hlk, hhas⟩ := look_of hnd (List.mem_of_getElem? hp)
    k_steps
    refine CompEnd.intro (by k_asm) (by k_asm) _ (fun _ h => h) off (by k_mem) ⟨rfl, ?_⟩
    rw [hlk, List.take_add_one, hp, List.map_append]
    exact boolsAre_snoc hys
  · intro ys hys
    rw [List.take_length] at hys
    k_steps
    refine LSm.any_bools (by k_asm) (by k_asm) rfl (News.isList (by k_asm) (by k_mem)) hys ?_
    intro h' tk' F' N'
    k_steps
    rw [List.any_map]
    exact ret _ _ (by k_asm) (by walk_at "ledger")
end
end Mine
namespace Mine
/-- is_wanted, its objects anywhere on the ledger -/
theorem want_use {w : World} {p : Program} {loose : List Str} {mean : ExcName → Option Value} {mg mb : Str → Option Value}
    {dp un : Nat} {gd : Option (List Code)} {cn : Str} {cs : Scope} {a : Addr} {ccd : Value} {cl : List (Str × Addr)} {outer : List Env} {A₀ : Around} {base h₀ : Heap} {L : Addr} {m : Str → Option Value} {s : Shared}
    {Q E : Value → Shared → Prop} {x dx d : Addr} {hs : Int} {ts : Tok} {nd : Nat} {o : Obj} {c : List (Int × Int)} {reg : Int} {tr : Tok} {news : List (Addr × Obj)}
    (B : Below A₀ base outer h₀) (F : Fr h₀ L s.heap m) (X : (Mine.hd.heap_39 w.params).In h₀)
    (N : News h₀ L s.heap news) (m1 : (x, instObj 64 dx) ∈ news) (m2 : (dx, dictOf [⟨hs, .str (Str.ofString "sources") ts, .ref d⟩] nd) ∈ news) (m3 : (d, o) ∈ news)
    (T : Top p loose mean mg mb h₀) (hk : cs.kind = .function)
    (lo : (d == sysModules) = false) (hdi : DI PySem.Challenge.pw_nt0157_01 w o c) (hlen : c.length ≤ 100)
    (hd : dp + 2 < recursionLimit) (hu : un + 16 < cLine)
    (ret : ∀ h' tk', Fr h₀ L h' m → News h₀ L h' news → Q (.bool (c.any fun p => p.2 == reg)) { s with heap := h', toks := tk' }) :
    wpAny (model PySem.Challenge.pw_nt0157_01 w) (ktrTop dp un gd cn cs L a ccd cl outer) (call (.ref 33) [.ref x, .int reg tr]) Q E s :=
  want_ok (rest := news) B F X (fun p hp => by
    rcases List.mem_cons.mp hp with rfl | hp
    · exact N _ m1
    rcases List.mem_cons.mp hp with rfl | hp
    · exact N _ m2
    rcases List.mem_cons.mp hp with rfl | hp
    · exact N _ m3
    exact N _ hp) T hk lo hdi hlen hd hu fun h' tk' F' N' => ret h' tk' F' fun p hp => N' p (List.mem_cons_of_mem _ (List.mem_cons_of_mem _ (List.mem_cons_of_mem _ hp)))
section
local macro_rules | `(tactic| walk_at "exec For Name Attribute cons nil") => `(tactic| (refine Halt.out ?_))
local macro_rules | `(tactic| walk_at "pyIter ref") => `(tactic| (refine Halt.out ?_))
local macro_rules | `(tactic| walk_at "call ref") => `(tactic| (k_dflt (refine' want_use ?k1 ?k2 ?k3 ?k4 ?k5 ?k6 ?k7 ?k8 ?kK ?ko ?ki ?kl ?kd ?ku ?_; (case k1 => k_asm); (case k2 => k_asm); (case k3 => k_asm); (case k4 => k_asm); (case k5 => k_mem); (case k6 => k_mem); (case k7 => k_mem); (case k8 => k_asm); (case kK => first | exact rfl | assumption); (case ko => assumption); (case ki => assumption); (case kl => assumption); (case kd => ktr_room); (case ku => ktr_units)); intro h' tk' F' N'; (try dsimp only); (try k_fold)))
set_option maxHeartbeats 8000000 in
theorem free_ok {w : World} {p : Program} {loose : List Str} {mean : ExcName → Option Value} {mg mb : Str → Option Value}
    {dp un : Nat} {gd : Option (List Code)} {cn : Str} {cs : Scope} {a : Addr} {ccd : Value} {cl : List (Str × Addr)} {outer : List Env} {A₀ : Around} {base h₀ : Heap} {L : Addr} {m : Str → Option Value} {s : Shared}
    {Q E : Value → Shared → Prop} {x dx d : Addr} {hs : Int} {ts : Tok} {nd : Nat} {o : Obj} {c : List (Int × Int)} {rest : List (Addr × Obj)}
    (B : Below A₀ base outer h₀) (F : Fr h₀ L s.heap m) (X : (Mine.hd.heap_39 w.params).In h₀)
    (N : News h₀ L s.heap ((x, instObj 64 dx) :: (dx, dictOf [⟨hs, .str (Str.ofString "sources") ts, .ref d⟩] nd) :: (d, o) :: rest))
    (T : Top p loose mean mg mb h₀) (hk : cs.kind = .function)
    (lo : (d == sysModules) = false) (hdi : DI PySem.Challenge.pw_nt0157_01 w o c) (hlen : c.length ≤ 100)
    (hd : dp + 3 < recursionLimit) (hu : un + 24 < cLine)
    (ret1 : ∀ p t h' tk', (c.find? fun p => !(c.any fun q => q.2 == p.1)) = some p → Fr h₀ L h' m → News h₀ L h' ((x, instObj 64 dx) :: (dx, dictOf [⟨hs, .str (Str.ofString "sources") ts, .ref d⟩] nd) :: (d, o) :: rest) → Q (.int p.1 t) { s with heap := h', toks := tk' })
    (ret0 : ∀ h' tk', (c.find? fun p => !(c.any fun q => q.2 == p.1)) = none → Fr h₀ L h' m → News h₀ L h' ((x, instObj 64 dx) :: (dx, dictOf [⟨hs, .str (Str.ofString "sources") ts, .ref d⟩] nd) :: (d, o) :: rest) → Q .none { s with heap := h', toks := tk' }) :
    wpAny (model PySem.Challenge.pw_nt0157_01 w) (ktrTop dp un gd cn cs L a ccd cl outer) (call (.ref 40) [.ref x]) Q E s := by
  w_top off
  obtain ⟨sh, sg, sd, st, so⟩ := s
  dsimp only at F N ret1 ret0
  have hdi' := hdi
  obtain ⟨kvs, hdo, hdf⟩ := hdi'
  refine wpAny_call ?_
  k_dflt ktr_enter
  k_steps
  refine Halt.mk ?_
  refine For_turns (by k_asm) ?_
  k_steps
  refine Halt.mk ?_
  refine kti_keys (knd := PySem.intKind _ _) (enc := PyData.int) rfl (by k_asm) (by k_asm) (TabAt.ofNews (by k_asm) (by k_mem) lo hdo hdf) (by k_mem) (fun _ _ h => Value.isInt_shape h) rfl ?_
  intro I hI
  refine items_const [Str.ofString "target"] (fun i => ∀ p ∈ c.take i, (c.any fun q => q.2 == p.1) = true) (fun p hp b hb => by rw [List.map_cons, List.map_nil, List.mem_singleton] at hb; subst hb; exact Nat.ne_of_lt (hI p hp)) (fun p hp => by rw [List.take_zero] at hp; cases hp) (by k_subL) ?_ ?_
  · intro i b u v h tk its hx hG hb F' N' off
    obtain ⟨p, hp, rfl⟩ := key_itm hx
    obtain ⟨t, rfl⟩ := hb
    dsimp only [envOf] at F' N'
    simp only [List.cons_append] at N'
    dsimp only [kyVal]
    k_steps
    · exact TurnE.intro (by k_asm) (by k_asm) off ⟨rfl, by walk_at "over", take_snoc hG hp (by assumption)⟩
    · refine ret1 p t _ _ (find_at (fun q hq => ?_) hp ?_) (by k_asm) (by walk_at "ledger")
      · rw [hG q hq]; rfl
      · have ha : (c.any fun q => q.2 == p.1) = false := by assumption
        rw [ha]; rfl
  · intro u h tk hG F' N'
    dsimp only [envOf] at F' N'
    dsimp only
    k_steps
    refine ret0 _ _ ?_ (by k_asm) (by walk_at "ledger")
    rw [List.length_map, kdfD_length, List.take_length] at hG
    rw [List.find?_eq_none]
    intro q hq
    rw [hG q hq]
    simp
end
end Mine
local macro_rules | `(tactic| walk_at "pad") => `(tactic| skip)
local macro_rules | `(tactic| walk_at "pad") => `(tactic| skip)
local macro_rules | `(tactic| walk_at "pad") => `(tactic| skip)
namespace Mine
section
local macro_rules | `(tactic| walk_at "call builtin:dict.pop") => `(tactic| (refine kdy_pop (more := []) (.inl rfl) (PySem.F.args_dict_pop_2 _ _) (by k_asm) (by k_asm) (by k_updF) (by assumption) (by assumption) (by assumption) (by omega) ?_; intro h' o' kvs' t' F' N' hd' hf'; (try dsimp only at N')))
set_option maxHeartbeats 8000000 in
theorem take_ok {w : World} {p : Program} {loose : List Str} {mean : ExcName → Option Value} {mg mb : Str → Option Value}
    {dp un : Nat} {gd : Option (List Code)} {cn : Str} {cs : Scope} {a : Addr} {ccd : Value} {cl : List (Str × Addr)} {outer : List Env} {A₀ : Around} {base h₀ : Heap} {L : Addr} {m : Str → Option Value} {s : Shared}
    {Q E : Value → Shared → Prop} {x dx d : Addr} {hs : Int} {ts : Tok} {nd : Nat} {o : Obj} {c : List (Int × Int)} {rest : List (Addr × Obj)} {k : Int} {tk : Tok}
    (B : Below A₀ base outer h₀) (F : Fr h₀ L s.heap m) (X : (Mine.hd.heap_39 w.params).In h₀)
    (N : News h₀ L s.heap ((x, instObj 64 dx) :: (dx, dictOf [⟨hs, .str (Str.ofString "sources") ts, .ref d⟩] nd) :: (d, o) :: rest))
    (lo : (d == sysModules) = false) (hdi : DI PySem.Challenge.pw_nt0157_01 w o c) (hlen : c.length ≤ 100) (x1 : @Ne Nat x d) (x2 : @Ne Nat dx d) (x3 : ∀ p ∈ rest, p.1 ≠ d) (hk1 : kdfHas c k = true)
    (T : Top p loose mean mg mb h₀) (hk : cs.kind = .function)
    (hd : dp + 1 < recursionLimit) (hu : un + 8 < cLine)
    (ret : ∀ o' t h' tk', DI PySem.Challenge.pw_nt0157_01 w o' (kdyDel c k) → Fr h₀ L h' m → News h₀ L h' ((x, instObj 64 dx) :: (dx, dictOf [⟨hs, .str (Str.ofString "sources") ts, .ref d⟩] nd) :: (d, o') :: rest) → Q (.int (kdfLook c k 0) t) { s with heap := h', toks := tk' }) :
    wpAny (model PySem.Challenge.pw_nt0157_01 w) (ktrTop dp un gd cn cs L a ccd cl outer) (call (.ref 47) [.ref x, .int k tk]) Q E s := by
  w_top off
  obtain ⟨sh, sg, sd, st, so⟩ := s
  dsimp only at F N ret
  obtain ⟨kvs, hdo, hdf⟩ := hdi
  refine wpAny_call ?_
  k_dflt ktr_enter
  k_steps
  exact ret _ _ _ _ ⟨_, by assumption, by assumption⟩ (by k_asm) (by walk_at "ledger")
end
section
local macro_rules | `(tactic| walk_at "pad") => `(tactic| skip)
local macro_rules | `(tactic| walk_at "call type:list") => `(tactic| (refine kdy_list rfl (by k_asm) (by k_asm) (TabAt.ofNews (by k_asm) (by k_mem) (by assumption) (by assumption) (by assumption)) (by omega) ?_; intro B' n' h' tk' vs' F' N' l1 hi'; (try k_lt l1)))
set_option maxHeartbeats 8000000 in
theorem first_ok {w : World} {p : Program} {loose : List Str} {mean : ExcName → Option Value} {mg mb : Str → Option Value}
    {dp un : Nat} {gd : Option (List Code)} {cn : Str} {cs : Scope} {a : Addr} {ccd : Value} {cl : List (Str × Addr)} {outer : List Env} {A₀ : Around} {base h₀ : Heap} {L : Addr} {m : Str → Option Value} {s : Shared}
    {Q E : Value → Shared → Prop} {x dx d : Addr} {hs : Int} {ts : Tok} {nd : Nat} {o : Obj} {c : List (Int × Int)} {rest : List (Addr × Obj)} {k v : Int} {c0 : List (Int × Int)}
    (B : Below A₀ base outer h₀) (F : Fr h₀ L s.heap m) (X : (Mine.hd.heap_39 w.params).In h₀)
    (N : News h₀ L s.heap ((x, instObj 64 dx) :: (dx, dictOf [⟨hs, .str (Str.ofString "sources") ts, .ref d⟩] nd) :: (d, o) :: rest))
    (lo : (d == sysModules) = false) (hdi : DI PySem.Challenge.pw_nt0157_01 w o c) (hlen : c.length ≤ 100) (hc0 : c = (k, v) :: c0)
    (T : Top p loose mean mg mb h₀) (hk : cs.kind = .function)
    (hd : dp + 1 < recursionLimit) (hu : un + 8 < cLine)
    (ret : ∀ t h' tk', Fr h₀ L h' m → News h₀ L h' ((x, instObj 64 dx) :: (dx, dictOf [⟨hs, .str (Str.ofString "sources") ts, .ref d⟩] nd) :: (d, o) :: rest) → Q (.int k t) { s with heap := h', toks := tk' }) :
    wpAny (model PySem.Challenge.pw_nt0157_01 w) (ktrTop dp un gd cn cs L a ccd cl outer) (call (.ref 54) [.ref x]) Q E s := by
  w_top off
  obtain ⟨sh, sg, sd, st, so⟩ := s
  dsimp only at F N ret
  obtain ⟨kvs, hdo, hdf⟩ := hdi
  refine wpAny_call ?_
  k_dflt ktr_enter
  k_steps
  subst hc0
  exact ret _ _ _ (by k_asm) (by walk_at "ledger")
end
end Mine
namespace Mine
/-- what read_elsewhere makes of a pair -/
def elseF (reg other : Int) (p : Int × Int) : Int × Int := if p.2 = reg then (p.1, other) else p
theorem elseF_key (reg other : Int) (p : Int × Int) : (elseF reg other p).1 = p.1 := by unfold elseF; split <;> rfl
section
local macro_rules | `(tactic| walk_at "call type:list") => `(tactic| (refine Halt.out ?_))
local macro_rules | `(tactic| walk_at "exec For Name Call cons nil") => `(tactic| (refine Halt.out ?_))
local macro_rules | `(tactic| walk_at "pyIter ref") => `(tactic| (refine Halt.out ?_))
local macro_rules | `(tactic| walk_at "getItem ref int") => `(tactic| (refine getItem_c (by k_asm) (by k_mem) (by assumption) (by assumption) (by assumption) (by assumption) ?_; intro _))
set_option maxHeartbeats 8000000 in
theorem else_ok {w : World} {p : Program} {loose : List Str} {mean : ExcName → Option Value} {mg mb : Str → Option Value}
    {dp un : Nat} {gd : Option (List Code)} {cn : Str} {cs : Scope} {a : Addr} {ccd : Value} {cl : List (Str × Addr)} {outer : List Env} {A₀ : Around} {base h₀ : Heap} {L : Addr} {m : Str → Option Value} {s : Shared}
    {Q E : Value → Shared → Prop} {x dx d : Addr} {hs : Int} {ts : Tok} {nd : Nat} {o : Obj} {c : List (Int × Int)} {rest : List (Addr × Obj)} {reg other : Int} {tr to : Tok}
    (B : Below A₀ base outer h₀) (F : Fr h₀ L s.heap m) (X : (Mine.hd.heap_39 w.params).In h₀)
    (N : News h₀ L s.heap ((x, instObj 64 dx) :: (dx, dictOf [⟨hs, .str (Str.ofString "sources") ts, .ref d⟩] nd) :: (d, o) :: rest))
    (lo : (d == sysModules) = false) (hdi : DI PySem.Challenge.pw_nt0157_01 w o c) (hlen : c.length ≤ 100) (x1 : @Ne Nat x d) (x2 : @Ne Nat dx d) (x3 : ∀ p ∈ rest, p.1 ≠ d)
    (T : Top p loose mean mg mb h₀) (hk : cs.kind = .function)
    (hd : dp + 1 < recursionLimit) (hu : un + 8 < cLine)
    (ret : ∀ o' h' tk', DI PySem.Challenge.pw_nt0157_01 w o' (c.map (elseF reg other)) → Fr h₀ L h' m → News h₀ L h' ((x, instObj 64 dx) :: (dx, dictOf [⟨hs, .str (Str.ofString "sources") ts, .ref d⟩] nd) :: (d, o') :: rest) → Q .none { s with heap := h', toks := tk' }) :
    wpAny (model PySem.Challenge.pw_nt0157_01 w) (ktrTop dp un gd cn cs L a ccd cl outer) (call (.ref 61) [.ref x, .int reg tr, .int other to]) Q E s := by
  w_top off
  obtain ⟨sh, sg, sd, st, so⟩ := s
  dsimp only at F N ret
  have hnd := hdi.nodup
  have hdi' := hdi
  obtain ⟨kvs, hdo, hdf⟩ := hdi'
  refine wpAny_call ?_
  k_dflt ktr_enter
  k_steps
  refine Halt.mk ?_
  refine For_turns (by k_asm) ?_
  k_steps
  refine Halt.mk ?_
  refine kdy_list rfl (by k_asm) (by k_asm) (TabAt.ofNews (by k_asm) (by k_mem) (by assumption) (by assumption) (by assumption)) (by omega) ?_
  intro B' n' h' tk' vs' F' N' l1 hi'
  k_lt l1
  have hB : ∀ p ∈ rest, p.1 ≠ B' := ne_of_allLt l1
  k_steps
  refine Halt.mk ?_
  refine iter_listTurns (vs := vs') rfl (by k_asm) (by k_asm) (by k_mem) rfl rfl ?_
  intro I hI
  refine items_inv (fun i m' nw => ∃ o', DI PySem.Challenge.pw_nt0157_01 w o' (mix (elseF reg other) i c) ∧ nw = (B', listOf vs'.toArray n') :: (x, instObj 64 dx) :: (dx, dictOf [⟨hs, .str (Str.ofString "sources") ts, .ref d⟩] nd) :: (d, o') :: rest ∧ Over [Str.ofString "target"] _ m') (fun p hp b hb => by rw [List.map_cons, List.map_nil, List.mem_singleton] at hb; subst hb; exact Nat.ne_of_lt (hI p hp)) ⟨o, by rw [mix_zero]; exact hdi, rfl, Over.refl⟩ ?_ ?_ ?_
  · rintro i m' nw ⟨o', _, rfl, _⟩
    k_subL
  · rintro i b m' nw v h tk its hx ⟨o', hdi', rfl, u, rfl⟩ hb F' N' off
    obtain ⟨k, t, hk1, rfl⟩ := ints_itm hi' hx
    cases hb
    rw [List.getElem?_map] at hk1
    obtain ⟨p, hp, hpk⟩ := Option.map_eq_some_iff.mp hk1
    try dsimp only at hpk
    subst hpk
    have hnd' := hdi'.nodup
    have hp' : (mix (elseF reg other) i c)[i]? = some p := by rw [mix_get]; exact hp
    obtain ⟨hlk, hhas⟩ := look_of hnd' (List.mem_of_getElem? hp')
    have hput := put_at other hnd' hp'
    have hml : (mix (elseF reg other) i c).length ≤ 100 := by rw [mix_length]; exact hlen
    have hsucc := mix_succ (f := elseF reg other) hp
    obtain ⟨kvs2, hdo2, hdf2⟩ := hdi'
    have x3' : ∀ p ∈ rest ++ its, p.1 ≠ d := fun q hq => (List.mem_append.mp hq).elim (x3 q) fun hq => (off (d, o') (by k_mem) q hq).symm
    try dsimp only [envOf] at F' N'
    simp only [List.cons_append] at N'
    k_steps
    · have ha : kdfLook (mix (elseF reg other) i c) p.1 0 = reg := by assumption
      have e : mix (elseF reg other) (i + 1) c = kdfPut (mix (elseF reg other) i c) p.1 other := by
        rw [hsucc, hput]
        unfold elseF
        rw [if_pos (by rw [← hlk]; exact ha)]
      rename_i h9 o9 kvs9 F9 N9 hd9 hf9
      exact TurnE.intro F9 (by k_asm) (off_same (by rfl) off) ⟨o9, ⟨kvs9, hd9, by rw [e]; exact hf9⟩, rfl, by walk_at "over"⟩
    · have ha : ¬ kdfLook (mix (elseF reg other) i c) p.1 0 = reg := by assumption
      have e : mix (elseF reg other) (i + 1) c = mix (elseF reg other) i c := by
        rw [hsucc]
        unfold elseF
        rw [if_neg (by rw [← hlk]; exact ha)]
        exact List.ext_getElem? fun j => by
          by_cases hj : i = j
          · subst hj
            rw [List.getElem?_set_self (by rw [List.getElem?_eq_some_iff] at hp'; exact hp'.1)]
            exact hp'.symm
          · rw [List.getElem?_set_ne hj]
      exact TurnE.intro (by k_asm) (by k_asm) off ⟨o', ⟨kvs2, hdo2, by rw [e]; exact hdf2⟩, rfl, by walk_at "over"⟩
  · rintro m' nw h tk ⟨o', hdi', rfl, u, rfl⟩ F' N'
    try dsimp only [envOf] at F' N'
    try dsimp only
    rw [List.length_map, hi'.length, List.length_map, mix_all] at hdi'
    k_steps
    exact ret _ _ _ hdi' (by k_asm) (by walk_at "ledger")
end
end Mine
local macro_rules | `(tactic| walk_at "pad") => `(tactic| skip)
namespace Mine
section
local macro_rules | `(tactic| walk_at "exec For Tuple Call cons nil") => `(tactic| (refine Halt.out ?_))
local macro_rules | `(tactic| walk_at "call type:zip") => `(tactic| (refine Halt.out ?_))
set_option maxHeartbeats 8000000 in
theorem make_ok {w : World} {p : Program} {loose : List Str} {mean : ExcName → Option Value} {mg mb : Str → Option Value}
    {dp un : Nat} {gd : Option (List Code)} {cn : Str} {cs : Scope} {a : Addr} {ccd : Value} {cl : List (Str × Addr)} {outer : List Env} {A₀ : Around} {base h₀ : Heap} {L : Addr} {m : Str → Option Value} {s : Shared}
    {Q E : Value → Shared → Prop} {tl sl : Addr} {vt vs : List Value} {ts ss : List Int} {n1 n2 : Nat} {news : List (Addr × Obj)}
    (B : Below A₀ base outer h₀) (F : Fr h₀ L s.heap m) (X : (Mine.hd.heap_39 w.params).In h₀)
    (N : News h₀ L s.heap news) (m1 : (tl, listOf vt.toArray n1) ∈ news) (m2 : (sl, listOf vs.toArray n2) ∈ news) (i1 : IntsAre vt ts) (i2 : IntsAre vs ss) (hnd : ts.Nodup) (hlen : ts.length ≤ 100) (hlen2 : ss.length = ts.length)
    (T : Top p loose mean mg mb h₀) (hk : cs.kind = .function)
    (hd : dp + 3 < recursionLimit) (hu : un + 24 < cLine)
    (ret : ∀ x dx d hs tk nd o h' tk', (∀ p ∈ news, p.1 < d ∧ p.1 < x ∧ p.1 < dx) → @Ne Nat x d → @Ne Nat dx d → @Ne Nat x dx → (d == sysModules) = false → DI PySem.Challenge.pw_nt0157_01 w o (realM ts ss) → Fr h₀ L h' m →
      News h₀ L h' ((x, instObj 64 dx) :: (dx, dictOf [⟨hs, .str (Str.ofString "sources") tk, .ref d⟩] nd) :: (d, o) :: news) → Q (.ref x) { s with heap := h', toks := tk' }) :
    wpAny (model PySem.Challenge.pw_nt0157_01 w) (ktrTop dp un gd cn cs L a ccd cl outer) (call (.ref 64) [.ref tl, .ref sl]) Q E s := by
  w_top off
  obtain ⟨sh, sg, sd, st, so⟩ := s
  dsimp only at F N ret
  k_dflt (refine' call_cls ?k1 ?k2 ?k3 ?k4 ?k5 ?k6 ?_; (case k1 => k_asm); (case k2 => k_asm); (case k3 => k_asm); (case k4 => k_is); (case k5 => k_is); (case k6 => k_is))
  intro x' dx' h' F' N' l1 l2
  have l1' := l1
  k_lt l1
  k_lt2 l2
  k_dflt ktr_enter
  k_steps
  refine Halt.mk ?_
  rename Addr => d2
  rename Obj => o2
  refine For_turns (by k_asm) ?_
  k_steps
  refine Halt.mk ?_
  refine ktu_zip (lo1 := listOf vt.toArray n1) (lo2 := listOf vs.toArray n2) rfl (by k_asm) (by k_asm) (by k_mem) rfl rfl (by k_mem) rfl rfl ?_
  intro I hI
  refine items_inv (fun i m' nw => ∃ o', DI PySem.Challenge.pw_nt0157_01 w o' (((ts.zip ss).take i).filter fun p => !decide (p.1 = p.2)) ∧ nw = (d2, o') :: (x', instObj 64 dx') :: (dx', dictOf [⟨_, .str (Str.ofString "sources") _, .ref d2⟩] 1) :: news ∧ Over [Str.ofString "target", Str.ofString "source"] _ m')
    (fun p hp b hb => by
      have hlt : @LT.lt Nat _ p.1 I := hI p hp
      have hb' : b = I + 4 ∨ b = I + 2 ∨ b = I + 3 ∨ b = I ∨ b = I + 1 := by simpa using hb
      show @Ne Nat p.1 b
      rcases hb' with rfl | rfl | rfl | rfl | rfl <;> omega) ⟨o2, ⟨[], by assumption, by assumption⟩, rfl, Over.refl⟩ ?_ ?_ ?_
  · rintro i m' nw ⟨o', _, rfl, _⟩
    k_subL
  · rintro i b m' nw v h tk its hx ⟨o', hdi', rfl, u, rfl⟩ hb F' N' off
    obtain ⟨p, t, t', hp, rfl⟩ := zip_itm i1 i2 hx
    obtain ⟨Tp, t9, rfl, hT⟩ := hb
    have hz : ((ts.zip ss).map (·.1)).Nodup := by
      have e : (ts.zip ss).map (·.1) = ts := List.map_fst_zip (Nat.le_of_eq hlen2.symm)
      rw [e]; exact hnd
    have hnew := take_keys hz hp
    have hml : (((ts.zip ss).take i).filter fun p => !decide (p.1 = p.2)).length ≤ 100 := by
      refine Nat.le_trans (List.length_filter_le _ _) ?_
      rw [List.length_take, List.length_zip]
      omega
    have hput : kdfPut (((ts.zip ss).take i).filter fun p => !decide (p.1 = p.2)) p.1 p.2 = (((ts.zip ss).take i).filter fun p => !decide (p.1 = p.2)) ++ [p] := put_new fun q hq => hnew q (List.mem_filter.mp hq).1
    have hsucc : ((ts.zip ss).take (i + 1)).filter (fun p => !decide (p.1 = p.2)) = (((ts.zip ss).take i).filter fun p => !decide (p.1 = p.2)) ++ (if p.1 = p.2 then [] else [p]) := by
      rw [List.take_add_one, hp, List.filter_append]
      congr 1
      by_cases e : p.1 = p.2 <;> simp [e]
    obtain ⟨kvs2, hdo2, hdf2⟩ := hdi'
    have x3' : ∀ p ∈ news ++ its, p.1 ≠ d2 := fun q hq => (List.mem_append.mp hq).elim (fun hq => ne_of_allLt (by assumption) q hq) fun hq => (off (d2, o') (by k_mem) q hq).symm
    try dsimp only [envOf] at F' N'
    simp only [List.cons_append] at N'
    k_steps
    · have ha : p.1 ≠ p.2 := by assumption
      rename_i h9 o9 kvs9 F9 N9 hd9 hf9
      refine TurnE.intro F9 (by k_asm) (off_same (by rfl) off) ⟨o9, ⟨kvs9, hd9, ?_⟩, rfl, by walk_at "over"⟩
      rw [hsucc, if_neg ha, ← hput]
      exact hf9
    · have ha : p.1 = p.2 := by first | assumption | exact Decidable.not_not.mp (by assumption) | omega
      refine TurnE.intro (by k_asm) (by k_asm) off ⟨o', ⟨kvs2, hdo2, ?_⟩, rfl, by walk_at "over"⟩
      rw [hsucc, if_pos ha, List.append_nil]
      exact hdf2
  · rintro m' nw h tk ⟨o', hdi', rfl, u, rfl⟩ F' N'
    try dsimp only [envOf] at F' N'
    try dsimp only
    have hl := Nat.le_of_eq hlen2.symm
    have hfin : (ts.zip ss).take (zipItems vt vs).length = ts.zip ss := by
      rw [zipItems_length, i1.length, i2.length]
      exact List.take_of_length_le (by rw [List.length_zip]; exact Nat.le_refl _)
    rw [hfin] at hdi'
    k_steps
    have q1 : @LT.lt Nat _ x' d2 := by assumption
    have q2 : @LT.lt Nat _ dx' d2 := by assumption
    have q3 : @LT.lt Nat _ dx' x' := by assumption
    refine ret x' dx' d2 _ _ _ o' _ _ (fun p hp => ?_) (by omega) (by omega) (by omega) (by assumption) hdi' (by k_asm) (by walk_at "ledger")
    have q4 : @LT.lt Nat _ p.1 dx' := l1' p hp
    refine ⟨?_, ?_, q4⟩
    · show @LT.lt Nat _ p.1 d2
      omega
    · show @LT.lt Nat _ p.1 x'
      omega
end
end Mine
namespace Mine
/-- the first pair whose target nobody reads -/
def freeP (c : List (Int × Int)) : Option (Int × Int) := c.find? fun p => !(c.any fun q => q.2 == p.1)
/-- one turn of the while: the pairs behind it, the moves that it tells -/
def turnM (scr : Int) (c : List (Int × Int)) : List (Int × Int) × List (Int × Int) :=
  match freeP c with
  | some p => (kdyDel c p.1, [(p.1, kdfLook c p.1 0)])
  | none => match c with
    | [] => ([], [])
    | (k, v) :: r => (kdyDel (((k, v) :: r).map (elseF k scr)) k, [(scr, k), (k, kdfLook (((k, v) :: r).map (elseF k scr)) k 0)])
def movesM (scr : Int) : Nat → List (Int × Int) → List (Int × Int)
  | 0, _ => []
  | n + 1, c => if c.isEmpty = true then [] else (turnM scr c).2 ++ movesM scr n (turnM scr c).1
theorem movesM_nil (scr : Int) : ∀ n, movesM scr n [] = []
  | 0 => rfl
  | _ + 1 => rfl
theorem has_iff {c : List (Int × Int)} {k : Int} : kdfHas c k = true ↔ ∃ v, (k, v) ∈ c := by
  unfold kdfHas
  rw [List.any_eq_true]
  constructor
  · rintro ⟨⟨a, v⟩, hp, e⟩
    have : a = k := of_decide_eq_true e
    subst this
    exact ⟨v, hp⟩
  · rintro ⟨v, hp⟩
    exact ⟨(k, v), hp, by simp⟩
theorem has_map {c : List (Int × Int)} {f : Int × Int → Int × Int} (hf : ∀ p, (f p).1 = p.1) (k : Int) : kdfHas (c.map f) k = kdfHas c k := by
  unfold kdfHas
  rw [List.any_map]
  congr 1
  funext p
  show decide ((f p).1 = k) = decide (p.1 = k)
  rw [hf]
theorem del_length : ∀ {c : List (Int × Int)} {k : Int}, kdfHas c k = true → (kdyDel c k).length < c.length
  | [], _, h => by cases h
  | (a, b) :: c, k, h => by
    unfold kdyDel
    rw [List.filter_cons]
    by_cases e : a = k
    · subst e
      rw [if_neg (by simp)]
      exact Nat.lt_succ_of_le (List.length_filter_le _ _)
    · have h' : kdfHas c k = true := by
        unfold kdfHas at h ⊢
        rw [List.any_cons, decide_eq_false e, Bool.false_or] at h
        exact h
      rw [if_pos (by simp [e]), List.length_cons, List.length_cons]
      exact Nat.succ_lt_succ (del_length h')
theorem free_has {c : List (Int × Int)} {p : Int × Int} (h : freeP c = some p) : kdfHas c p.1 = true :=
  has_iff.mpr ⟨p.2, List.mem_of_find?_eq_some h⟩
theorem turn_length {scr : Int} {c : List (Int × Int)} (h : c ≠ []) : (turnM scr c).1.length < c.length := by
  unfold turnM
  cases hf : freeP c with
  | some p => exact del_length (free_has hf)
  | none =>
    cases c with
    | nil => exact absurd rfl h
    | cons q r =>
      obtain ⟨k, v⟩ := q
      have := del_length (c := ((k, v) :: r).map (elseF k scr)) (k := k) (by rw [has_map (elseF_key _ _)]; exact has_iff.mpr ⟨v, .head _⟩)
      rw [List.length_map] at this
      exact this
end Mine
namespace Mine
theorem row_of {h₀ h : Heap} {L x dx d : Addr} {ox odx o : Obj} {news r : List (Addr × Obj)} (N : News h₀ L h news) (m1 : (x, ox) ∈ news) (m2 : (dx, odx) ∈ news) (m3 : (d, o) ∈ news) (hr : ∀ p ∈ r, p ∈ news) : News h₀ L h ((x, ox) :: (dx, odx) :: (d, o) :: r) := by
  intro p hp
  rcases List.mem_cons.mp hp with rfl | hp
  · exact N _ m1
  rcases List.mem_cons.mp hp with rfl | hp
  · exact N _ m2
  rcases List.mem_cons.mp hp with rfl | hp
  · exact N _ m3
  exact N _ (hr p hp)
theorem upd_back {h₀ h : Heap} {L x dx d : Addr} {ox odx o : Obj} {pre post : List (Addr × Obj)} (N : News h₀ L h ((x, ox) :: (dx, odx) :: (d, o) :: (pre ++ post))) : News h₀ L h (pre ++ (d, o) :: post) := by
  intro p hp
  rcases List.mem_append.mp hp with hp | hp
  · exact N p (.tail _ (.tail _ (.tail _ (List.mem_append_left _ hp))))
  · rcases List.mem_cons.mp hp with rfl | hp
    · exact N _ (.tail _ (.tail _ (.head _)))
    · exact N p (.tail _ (.tail _ (.tail _ (List.mem_append_right _ hp))))
theorem free_use {w : World} {p : Program} {loose : List Str} {mean : ExcName → Option Value} {mg mb : Str → Option Value}
    {dp un : Nat} {gd : Option (List Code)} {cn : Str} {cs : Scope} {a : Addr} {ccd : Value} {cl : List (Str × Addr)} {outer : List Env} {A₀ : Around} {base h₀ : Heap} {L : Addr} {m : Str → Option Value} {s : Shared}
    {Q E : Value → Shared → Prop} {x dx d : Addr} {hs : Int} {ts : Tok} {nd : Nat} {o : Obj} {c : List (Int × Int)} {news : List (Addr × Obj)}
    (B : Below A₀ base outer h₀) (F : Fr h₀ L s.heap m) (X : (Mine.hd.heap_39 w.params).In h₀)
    (N : News h₀ L s.heap news) (m1 : (x, instObj 64 dx) ∈ news) (m2 : (dx, dictOf [⟨hs, .str (Str.ofString "sources") ts, .ref d⟩] nd) ∈ news)
    (m3 : (d, o) ∈ news) (lo : (d == sysModules) = false) (hdi : DI PySem.Challenge.pw_nt0157_01 w o c) (hlen : c.length ≤ 100)
    (T : Top p loose mean mg mb h₀) (hk : cs.kind = .function)
    (hd : dp + 3 < recursionLimit) (hu : un + 24 < cLine)
    (ret1 : ∀ p t h' tk', freeP c = some p → kdfHas c p.1 = true → Fr h₀ L h' m → News h₀ L h' news → Q (.int p.1 t) { s with heap := h', toks := tk' })
    (ret0 : ∀ h' tk', freeP c = none → Fr h₀ L h' m → News h₀ L h' news → Q .none { s with heap := h', toks := tk' }) :
    wpAny (model PySem.Challenge.pw_nt0157_01 w) (ktrTop dp un gd cn cs L a ccd cl outer) (call (.ref 40) [.ref x]) Q E s :=
  free_ok (rest := news) B F X (row_of N m1 m2 m3 fun _ h => h) T hk lo hdi hlen hd hu
    (fun p t h' tk' e F' N' => ret1 p t h' tk' e (free_has e) F' fun q hq => N' q (.tail _ (.tail _ (.tail _ hq))))
    (fun h' tk' e F' N' => ret0 h' tk' e F' fun q hq => N' q (.tail _ (.tail _ (.tail _ hq))))
theorem first_use {w : World} {p : Program} {loose : List Str} {mean : ExcName → Option Value} {mg mb : Str → Option Value}
    {dp un : Nat} {gd : Option (List Code)} {cn : Str} {cs : Scope} {a : Addr} {ccd : Value} {cl : List (Str × Addr)} {outer : List Env} {A₀ : Around} {base h₀ : Heap} {L : Addr} {m : Str → Option Value} {s : Shared}
    {Q E : Value → Shared → Prop} {x dx d : Addr} {hs : Int} {ts : Tok} {nd : Nat} {o : Obj} {c : List (Int × Int)} {news : List (Addr × Obj)} {k v : Int} {c0 : List (Int × Int)}
    (B : Below A₀ base outer h₀) (F : Fr h₀ L s.heap m) (X : (Mine.hd.heap_39 w.params).In h₀)
    (N : News h₀ L s.heap news) (m1 : (x, instObj 64 dx) ∈ news) (m2 : (dx, dictOf [⟨hs, .str (Str.ofString "sources") ts, .ref d⟩] nd) ∈ news)
    (m3 : (d, o) ∈ news) (lo : (d == sysModules) = false) (hdi : DI PySem.Challenge.pw_nt0157_01 w o c) (hlen : c.length ≤ 100) (hc0 : c = (k, v) :: c0)
    (T : Top p loose mean mg mb h₀) (hk : cs.kind = .function)
    (hd : dp + 1 < recursionLimit) (hu : un + 8 < cLine)
    (ret : ∀ t h' tk', Fr h₀ L h' m → News h₀ L h' news → Q (.int k t) { s with heap := h', toks := tk' }) :
    wpAny (model PySem.Challenge.pw_nt0157_01 w) (ktrTop dp un gd cn cs L a ccd cl outer) (call (.ref 54) [.ref x]) Q E s :=
  first_ok (rest := news) B F X (row_of N m1 m2 m3 fun _ h => h) lo hdi hlen hc0 T hk hd hu
    (fun t h' tk' F' N' => ret t h' tk' F' fun q hq => N' q (.tail _ (.tail _ (.tail _ hq))))
theorem take_use {w : World} {p : Program} {loose : List Str} {mean : ExcName → Option Value} {mg mb : Str → Option Value}
    {dp un : Nat} {gd : Option (List Code)} {cn : Str} {cs : Scope} {a : Addr} {ccd : Value} {cl : List (Str × Addr)} {outer : List Env} {A₀ : Around} {base h₀ : Heap} {L : Addr} {m : Str → Option Value} {s : Shared}
    {Q E : Value → Shared → Prop} {x dx d : Addr} {hs : Int} {ts : Tok} {nd : Nat} {o : Obj} {c : List (Int × Int)} {news : List (Addr × Obj)} {u : Obj → List (Addr × Obj)} {k : Int} {tk : Tok}
    (B : Below A₀ base outer h₀) (F : Fr h₀ L s.heap m) (X : (Mine.hd.heap_39 w.params).In h₀)
    (N : News h₀ L s.heap news) (m1 : (x, instObj 64 dx) ∈ news) (m2 : (dx, dictOf [⟨hs, .str (Str.ofString "sources") ts, .ref d⟩] nd) ∈ news)
    (U : UpdF d o news u) (lo : (d == sysModules) = false) (hdi : DI PySem.Challenge.pw_nt0157_01 w o c) (hlen : c.length ≤ 100) (x1 : @Ne Nat x d) (x2 : @Ne Nat dx d) (hk1 : kdfHas c k = true)
    (T : Top p loose mean mg mb h₀) (hk : cs.kind = .function)
    (hd : dp + 1 < recursionLimit) (hu : un + 8 < cLine)
    (ret : ∀ o' t h' tk', DI PySem.Challenge.pw_nt0157_01 w o' (kdyDel c k) → Fr h₀ L h' m → News h₀ L h' (u o') → Q (.int (kdfLook c k 0) t) { s with heap := h', toks := tk' }) :
    wpAny (model PySem.Challenge.pw_nt0157_01 w) (ktrTop dp un gd cn cs L a ccd cl outer) (call (.ref 47) [.ref x, .int k tk]) Q E s :=
  by
    obtain ⟨pre, post, rfl, hu', h1, h2⟩ := U.split
    exact take_ok (rest := pre ++ post) B F X (row_of N m1 m2 (List.mem_append_right _ (.head _)) fun q hq => (List.mem_append.mp hq).elim (List.mem_append_left _) fun hq => List.mem_append_right _ (.tail _ hq)) lo hdi hlen x1 x2 (fun q hq => (List.mem_append.mp hq).elim (h1 q) (h2 q)) hk1 T hk hd hu
      (fun o' t h' tk' di F' N' => ret o' t h' tk' di F' (by rw [hu']; exact upd_back N'))
theorem else_use {w : World} {p : Program} {loose : List Str} {mean : ExcName → Option Value} {mg mb : Str → Option Value}
    {dp un : Nat} {gd : Option (List Code)} {cn : Str} {cs : Scope} {a : Addr} {ccd : Value} {cl : List (Str × Addr)} {outer : List Env} {A₀ : Around} {base h₀ : Heap} {L : Addr} {m : Str → Option Value} {s : Shared}
    {Q E : Value → Shared → Prop} {x dx d : Addr} {hs : Int} {ts : Tok} {nd : Nat} {o : Obj} {c : List (Int × Int)} {news : List (Addr × Obj)} {u : Obj → List (Addr × Obj)} {reg other : Int} {tr to : Tok}
    (B : Below A₀ base outer h₀) (F : Fr h₀ L s.heap m) (X : (Mine.hd.heap_39 w.params).In h₀)
    (N : News h₀ L s.heap news) (m1 : (x, instObj 64 dx) ∈ news) (m2 : (dx, dictOf [⟨hs, .str (Str.ofString "sources") ts, .ref d⟩] nd) ∈ news)
    (U : UpdF d o news u) (lo : (d == sysModules) = false) (hdi : DI PySem.Challenge.pw_nt0157_01 w o c) (hlen : c.length ≤ 100) (x1 : @Ne Nat x d) (x2 : @Ne Nat dx d)
    (T : Top p loose mean mg mb h₀) (hk : cs.kind = .function)
    (hd : dp + 1 < recursionLimit) (hu : un + 8 < cLine)
    (ret : ∀ o' h' tk', DI PySem.Challenge.pw_nt0157_01 w o' (c.map (elseF reg other)) → Fr h₀ L h' m → News h₀ L h' (u o') → Q .none { s with heap := h', toks := tk' }) :
    wpAny (model PySem.Challenge.pw_nt0157_01 w) (ktrTop dp un gd cn cs L a ccd cl outer) (call (.ref 61) [.ref x, .int reg tr, .int other to]) Q E s :=
  by
    obtain ⟨pre, post, rfl, hu', h1, h2⟩ := U.split
    exact else_ok (rest := pre ++ post) B F X (row_of N m1 m2 (List.mem_append_right _ (.head _)) fun q hq => (List.mem_append.mp hq).elim (List.mem_append_left _) fun hq => List.mem_append_right _ (.tail _ hq)) lo hdi hlen x1 x2 (fun q hq => (List.mem_append.mp hq).elim (h1 q) (h2 q)) T hk hd hu
      (fun o' h' tk' di F' N' => ret o' h' tk' di F' (by rw [hu']; exact upd_back N'))
end Mine
local macro_rules | `(tactic| walk_at "pad") => `(tactic| skip)
local macro_rules | `(tactic| walk_at "pad") => `(tactic| skip)
local macro_rules | `(tactic| walk_at "pad") => `(tactic| skip)
local macro_rules | `(tactic| walk_at "pad") => `(tactic| skip)
namespace Mine
/-- the list of moves that move_steps hands back: tuples on the ledger -/
inductive StepsAre (tl : List (Addr × Obj)) : List Value → List (Int × Int) → Prop
  | nil : StepsAre tl [] []
  | cons {T : Addr} {t0 ta tb : Tok} {n : Nat} {a b : Int} {vs : List Value} {ps : List (Int × Int)} :
      (T, ({ cls := .type "tuple", data := .seq [.str (Str.ofString "move") t0, .int a ta, .int b tb].toArray n } : Obj)) ∈ tl → StepsAre tl vs ps → StepsAre tl (.ref T :: vs) ((a, b) :: ps)
theorem StepsAre.mono {tl tl' : List (Addr × Obj)} (hs : ∀ p ∈ tl, p ∈ tl') : ∀ {vs : List Value} {ps : List (Int × Int)}, StepsAre tl vs ps → StepsAre tl' vs ps
  | _, _, .nil => .nil
  | _, _, .cons hm h => .cons (hs _ hm) (h.mono hs)
theorem StepsAre.snoc {tl : List (Addr × Obj)} {T : Addr} {t0 ta tb : Tok} {n : Nat} {a b : Int} (hm : (T, ({ cls := .type "tuple", data := .seq [.str (Str.ofString "move") t0, .int a ta, .int b tb].toArray n } : Obj)) ∈ tl) :
    ∀ {vs : List Value} {ps : List (Int × Int)}, StepsAre tl vs ps → StepsAre tl (vs ++ [.ref T]) (ps ++ [(a, b)])
  | _, _, .nil => .cons hm .nil
  | _, _, .cons h0 h => .cons h0 (h.snoc hm)
theorem StepsAre.length {tl : List (Addr × Obj)} : ∀ {vs : List Value} {ps : List (Int × Int)}, StepsAre tl vs ps → vs.length = ps.length
  | _, _, .nil => rfl
  | _, _, .cons _ h => congrArg (· + 1) h.length
theorem turn_emits (scr : Int) (c : List (Int × Int)) : (turnM scr c).2.length ≤ 2 := by
  unfold turnM
  cases freeP c with
  | some p => exact Nat.le_succ 1
  | none => cases c <;> simp
theorem moves_length (scr : Int) : ∀ n c, (movesM scr n c).length ≤ 2 * n
  | 0, _ => Nat.le_refl _
  | n + 1, c => by
    unfold movesM
    split
    · simp
    · rw [List.length_append]
      have := turn_emits scr c
      have := moves_length scr n (turnM scr c).1
      omega
section
variable {prog : Program} {w : World} {A : Around} {E : Value → Shared → Prop} {s : Shared} {h₀ : Heap} {L : Addr} {m : Str → Option Value} {news : List (Addr × Obj)}
theorem newTup {M : Model} {vs : List Value} {Q : Value → Shared → Prop} (F : Fr h₀ L s.heap m) (N : News h₀ L s.heap news)
    (h : ∀ T h', Fr h₀ L h' m → News h₀ L h' ((T, ({ cls := .type "tuple", data := .seq vs.toArray } : Obj)) :: news) → (∀ p ∈ news, p.1 < T) → Q (.ref T) { s with heap := h' }) (hsz : vs.length ≤ sizeLine := by size_fits) : wpAny M A (newTuple vs) Q E s :=
  newTuple_N F N (fun h' F' N' => h _ h' F' N' fun p hp => Heap.lt_size (N p hp).1) hsz
theorem ne_empty {d e : Addr} {od oe : Obj} {kd ke : List (Int × Value)} {c : List (Int × Int)} {Q : Value → Shared → Prop} (N : News h₀ L s.heap news) (m1 : (d, od) ∈ news) (m2 : (e, oe) ∈ news) (l1 : (d == sysModules) = false) (l2 : (e == sysModules) = false)
    (d1 : od.IsDictOf (PySem.intKind prog w) kd) (f1 : FlatPairs PyData.int kd (kdfD c)) (d2 : oe.IsDictOf (PySem.intKind prog w) ke) (f2 : FlatPairs PyData.int ke []) (hu : A.units < cLine) (h : Q (.bool (!c.isEmpty)) s) :
    wpAny (model prog w) A (compareOp .NotEq (.ref d) (.ref e)) Q E s := by
  cases c with
  | nil => exact kne_tabs PyProof.V.same_int (TabAt.ofNews N m1 l1 d1 f1) (TabAt.ofNews N m2 l2 d2 f2) rfl hu .nil h
  | cons p c => exact kne_tabs_len (TabAt.ofNews N m1 l1 d1 f1) (TabAt.ofNews N m2 l2 d2 f2) rfl hu h
end
section
local macro_rules | `(tactic| walk_at "call ref") => `(tactic| (refine Halt.out ?_))
local macro_rules | `(tactic| walk_at "exec While Compare cons nil") => `(tactic| (refine Halt.out ?_))
local macro_rules | `(tactic| walk_at "newList") => `(tactic| (refine Halt.out ?_))
local macro_rules | `(tactic| walk_at "newTuple") => `(tactic| (refine Halt.out ?_))
local macro_rules | `(tactic| walk_at "compareOp NotEq ref") => `(tactic| (refine Halt.out ?_))
local macro_rules | `(tactic| walk_at "call builtin:list.append") => `(tactic| (refine' append_K ?k1 ?k2 ?k3 ?_ ?z; (case k1 => k_asm); (case k2 => k_asm); (case k3 => k_upd); (case z => (rw [sizeLine_eq]; (try simp only [List.size_toArray, Array.size_push]); omega)); intro h' F' N'))
set_option maxHeartbeats 8000000 in
theorem steps_ok {w : World} {p : Program} {loose : List Str} {mean : ExcName → Option Value} {mg mb : Str → Option Value}
    {dp un : Nat} {gd : Option (List Code)} {cn : Str} {cs : Scope} {a : Addr} {ccd : Value} {cl : List (Str × Addr)} {outer : List Env} {A₀ : Around} {base h₀ : Heap} {L : Addr} {m : Str → Option Value} {s : Shared}
    {Q E : Value → Shared → Prop} {tl sl : Addr} {vt vs : List Value} {ts ss : List Int} {n1 n2 : Nat} {news : List (Addr × Obj)} {scr : Int} {tscr : Tok}
    (B : Below A₀ base outer h₀) (F : Fr h₀ L s.heap m) (X : (Mine.hd.heap_39 w.params).In h₀)
    (N : News h₀ L s.heap news) (m1 : (tl, listOf vt.toArray n1) ∈ news) (m2 : (sl, listOf vs.toArray n2) ∈ news) (i1 : IntsAre vt ts) (i2 : IntsAre vs ss) (hnd : ts.Nodup) (hlen : ts.length ≤ 100) (hlen2 : ss.length = ts.length)
    (T : Top p loose mean mg mb h₀) (hk : cs.kind = .function)
    (hd : dp + 8 < recursionLimit) (hu : un + 80 < cLine)
    (ret : ∀ fl fs nf tl h' tk', (∀ p ∈ news, p.1 ≠ fl ∧ ∀ q ∈ tl, p.1 ≠ q.1) → (∀ q ∈ tl, q.1 ≠ fl) → StepsAre tl fs (movesM scr ts.length (realM ts ss)) → Fr h₀ L h' m →
      News h₀ L h' ((fl, listOf fs.toArray nf) :: (tl ++ news)) → Q (.ref fl) { s with heap := h', toks := tk' }) :
    wpAny (model PySem.Challenge.pw_nt0157_01 w) (ktrTop dp un gd cn cs L a ccd cl outer) (call (.ref 75) [.ref tl, .ref sl, .int scr tscr]) Q E s := by
  w_top off
  obtain ⟨sh, sg, sd, st, so⟩ := s
  dsimp only at F N ret
  refine wpAny_call ?_
  k_dflt ktr_enter
  k_steps
  refine Halt.mk ?_
  k_dflt (refine make_ok (by k_asm) (by k_asm) (by k_asm) (by k_asm) (by k_mem) (by k_mem) i1 i2 hnd hlen hlen2 (by k_asm) rfl (by ktr_room) (by ktr_units) ?_)
  intro x dx d hs ts' nd o h' tk' hnew xd dxd xdx lo hdi F' N'
  have hrl : (realM ts ss).length ≤ ts.length := by
    refine Nat.le_trans (List.length_filter_le _ _) ?_
    rw [List.length_zip]
    omega
  k_steps
  refine Halt.mk ?_
  k_dflt (refine' newList_K ?k1 ?k2 ?_; (case k1 => k_asm); (case k2 => k_asm))
  intro fl h' F' N' l1
  k_lt l1
  k_steps
  refine Halt.mk ?_
  have f1 : @LT.lt Nat _ x fl := by assumption
  have f2 : @LT.lt Nat _ dx fl := by assumption
  have f3 : @LT.lt Nat _ d fl := by assumption
  have f4 : ∀ p ∈ news, p.1 ≠ fl := ne_of_allLt (by assumption)
  have f5 : ∀ p ∈ news, p.1 ≠ d := fun p hp => Nat.ne_of_lt (hnew p hp).1
  refine While_inv2 (fun n m' nw => ∃ o' c' fs nf tl' st', nw = (x, instObj 64 dx) :: (dx, dictOf [⟨hs, .str (Str.ofString "sources") ts', .ref d⟩] nd) :: (d, o') :: (fl, listOf fs.toArray nf) :: (tl' ++ news) ∧
      DI PySem.Challenge.pw_nt0157_01 w o' c' ∧ c'.length ≤ n ∧ n ≤ ts.length ∧ StepsAre tl' fs st' ∧ st' ++ movesM scr n c' = movesM scr ts.length (realM ts ss) ∧
      (∀ q ∈ tl', (∀ p ∈ news, p.1 ≠ q.1) ∧ q.1 ≠ d ∧ q.1 ≠ fl) ∧ Over [Str.ofString "target"] _ m') (n₀ := ts.length) (by k_asm)
    (drop_to (news := (x, instObj 64 dx) :: (dx, dictOf [⟨hs, .str (Str.ofString "sources") ts', .ref d⟩] nd) :: (d, o) :: (fl, listOf [].toArray 0) :: ([] ++ news)) (by k_asm) (by walk_at "sub"))
    ⟨o, realM ts ss, [], 0, [], [], rfl, hdi, hrl, Nat.le_refl _, .nil, rfl, fun q hq => (nomatch hq), Over.refl⟩ ?_
  rintro n m' nw h1 tk1 F' N' ⟨o', c', fs, nf, tl', st', rfl, hdi', hcn, hnt, hst, htot, hoff, u, rfl⟩
  have g1 : ∀ p ∈ tl' ++ news, p.1 ≠ d := fun p hp => (List.mem_append.mp hp).elim (fun hp => (hoff p hp).2.1) (f5 p)
  have g2 : ∀ p ∈ tl' ++ news, p.1 ≠ fl := fun p hp => (List.mem_append.mp hp).elim (fun hp => (hoff p hp).2.2) (f4 p)
  have hdi2 := hdi'
  obtain ⟨kvs, hdo, hdf⟩ := hdi2
  have hfl : fs.length ≤ 200 := by
    rw [hst.length]
    have h1 := congrArg List.length htot
    rw [List.length_append] at h1
    have h2 := moves_length scr ts.length (realM ts ss)
    omega
  k_steps
  refine Halt.mk ?_
  refine ne_empty (by k_asm) (by k_mem) (by k_mem) lo (by assumption) hdo hdf (by assumption) (by assumption) (by ktr_units) ?_
  cases c' with
  | nil =>
    rw [movesM_nil, List.append_nil] at htot
    subst htot
    dsimp only [List.isEmpty_nil, Bool.not_true]
    k_steps
    exact ret fl fs nf tl' _ _ (fun p hp => ⟨f4 p hp, fun q hq => (hoff q hq).1 p hp⟩) (fun q hq => (hoff q hq).2.2) hst (by k_asm) (by walk_at "ledger")
  | cons q r =>
    obtain ⟨n', rfl⟩ : ∃ n', n = n' + 1 := ⟨n - 1, by rw [List.length_cons] at hcn; omega⟩
    have htot' : st' ++ ((turnM scr (q :: r)).2 ++ movesM scr n' (turnM scr (q :: r)).1) = movesM scr ts.length (realM ts ss) := htot
    have hlt := turn_length (scr := scr) (c := q :: r) (by simp)
    have hc100 : (q :: r).length ≤ 100 := by omega
    dsimp only [List.isEmpty_cons, Bool.not_false]
    k_steps
    refine Halt.mk ?_
    k_dflt (refine free_use (by k_asm) (by k_asm) (by k_asm) (by k_asm) (by k_mem) (by k_mem) (by k_mem) lo hdi' hc100 (by k_asm) rfl (by ktr_room) (by ktr_units) ?_ ?_)
    · intro p t h' tk' e hh F' N'
      have ht : turnM scr (q :: r) = (kdyDel (q :: r) p.1, [(p.1, kdfLook (q :: r) p.1 0)]) := by
        unfold turnM
        rw [e]
      k_steps
      refine Halt.mk ?_
      k_dflt (refine take_use (by k_asm) (by k_asm) (by k_asm) (by k_asm) (by k_mem) (by k_mem) (by k_updF) lo hdi' hc100 xd dxd hh (by k_asm) rfl (by ktr_room) (by ktr_units) ?_)
      intro o2 t2 h' tk' hdi2 F' N'
      try dsimp only at N'
      k_steps
      refine Halt.mk ?_
      refine newTup (by k_asm) (by k_asm) ?_
      intro T1 h' F' N' l1
      k_lt l1
      have w1 : @LT.lt Nat _ d T1 := by assumption
      have w2 : @LT.lt Nat _ fl T1 := by assumption
      have w3 := ne_of_allLt l1
      k_steps
      refine ⟨_, _, _, (x, instObj 64 dx) :: (dx, dictOf [⟨hs, .str (Str.ofString "sources") ts', .ref d⟩] nd) :: (d, o2) :: (fl, listOf (fs ++ [Value.ref T1]).toArray (nf + 1)) :: (((T1, _) :: tl') ++ news), n', rfl, by k_asm, by (simp only [List.push_toArray] at *; walk_at "ledger"), Nat.lt_succ_self _,
        o2, kdyDel (q :: r) p.1, fs ++ [Value.ref T1], nf + 1, (T1, _) :: tl', st' ++ [(p.1, kdfLook (q :: r) p.1 0)], rfl, hdi2, ?_, by omega, ?_, ?_, ?_, by walk_at "over"⟩
      · rw [ht] at hlt
        have : (kdyDel (q :: r) p.1).length < (q :: r).length := hlt
        omega
      · exact (hst.mono fun p hp => List.mem_cons_of_mem _ hp).snoc (List.mem_cons_self ..)
      · rw [List.append_assoc, ← htot', ht]
      · intro y hy
        rcases List.mem_cons.mp hy with rfl | hy
        · exact ⟨fun p hp => w3 p (List.mem_append_right _ hp), Nat.ne_of_gt w1, Nat.ne_of_gt w2⟩
        · exact hoff y hy
    · intro h' tk' e F' N'
      obtain ⟨k, v⟩ := q
      have ht : turnM scr ((k, v) :: r) = (kdyDel (((k, v) :: r).map (elseF k scr)) k, [(scr, k), (k, kdfLook (((k, v) :: r).map (elseF k scr)) k 0)]) := by
        unfold turnM
        rw [e]
      k_steps
      refine Halt.mk ?_
      k_dflt (refine first_use (by k_asm) (by k_asm) (by k_asm) (by k_asm) (by k_mem) (by k_mem) (by k_mem) lo hdi' hc100 rfl (by k_asm) rfl (by ktr_room) (by ktr_units) ?_)
      intro t2 h' tk' F' N'
      k_steps
      refine Halt.mk ?_
      refine newTup (by k_asm) (by k_asm) ?_
      intro T1 h' F' N' l1
      k_lt l1
      have w1 : @LT.lt Nat _ d T1 := by assumption
      have w2 : @LT.lt Nat _ fl T1 := by assumption
      have w3 := ne_of_allLt l1
      k_steps
      refine Halt.mk ?_
      k_dflt (refine else_use (by k_asm) (by k_asm) (by k_asm) (by k_asm) (by k_mem) (by k_mem) (by k_updF) lo hdi' hc100 xd dxd (by k_asm) rfl (by ktr_room) (by ktr_units) ?_)
      intro o2 h' tk' hdi2 F' N'
      try dsimp only at N'
      have hc101 : (((k, v) :: r).map (elseF k scr)).length ≤ 100 := by rw [List.length_map]; exact hc100
      have hh : kdfHas (((k, v) :: r).map (elseF k scr)) k = true := by rw [has_map (elseF_key _ _)]; exact has_iff.mpr ⟨v, .head _⟩
      k_steps
      refine Halt.mk ?_
      k_dflt (refine take_use (by k_asm) (by k_asm) (by k_asm) (by k_asm) (by k_mem) (by k_mem) (by k_updF) lo hdi2 hc101 xd dxd hh (by k_asm) rfl (by ktr_room) (by ktr_units) ?_)
      intro o3 t3 h' tk' hdi3 F' N'
      try dsimp only at N'
      k_steps
      refine Halt.mk ?_
      refine newTup (by k_asm) (by k_asm) ?_
      intro T2 h' F' N' l2
      k_lt l2
      have w1' : @LT.lt Nat _ d T2 := by assumption
      have w2' : @LT.lt Nat _ fl T2 := by assumption
      have w3' := ne_of_allLt l2
      k_steps
      refine ⟨_, _, _, (x, instObj 64 dx) :: (dx, dictOf [⟨hs, .str (Str.ofString "sources") ts', .ref d⟩] nd) :: (d, o3) :: (fl, listOf (fs ++ [Value.ref T1] ++ [Value.ref T2]).toArray (nf + 1 + 1)) :: (((T2, _) :: (T1, _) :: tl') ++ news), n', rfl, by k_asm, by (simp only [List.push_toArray] at *; walk_at "ledger"), Nat.lt_succ_self _,
        o3, kdyDel (((k, v) :: r).map (elseF k scr)) k, fs ++ [Value.ref T1] ++ [Value.ref T2], nf + 1 + 1, (T2, _) :: (T1, _) :: tl', st' ++ [(scr, k)] ++ [(k, kdfLook (((k, v) :: r).map (elseF k scr)) k 0)], rfl, hdi3, ?_, by omega, ?_, ?_, ?_, by walk_at "over"⟩
      · rw [ht] at hlt
        have : (kdyDel (((k, v) :: r).map (elseF k scr)) k).length < ((k, v) :: r).length := hlt
        omega
      · exact ((hst.mono fun p hp => List.mem_cons_of_mem _ (List.mem_cons_of_mem _ hp)).snoc (List.mem_cons_of_mem _ (List.mem_cons_self ..))).snoc (List.mem_cons_self ..)
      · rw [List.append_assoc, List.append_assoc, ← htot', ht]
        rfl
      · intro y hy
        rcases List.mem_cons.mp hy with rfl | hy
        · exact ⟨fun p hp => w3' p (List.mem_append_right _ hp), Nat.ne_of_gt w1', Nat.ne_of_gt w2'⟩
        rcases List.mem_cons.mp hy with rfl | hy
        · exact ⟨fun p hp => w3 p (List.mem_append_right _ hp), Nat.ne_of_gt w1, Nat.ne_of_gt w2⟩
        · exact hoff y hy
end
end Mine
namespace Mine
section
variable {prog : Program} {w : World} {A : Around} {E : Value → Shared → Prop} {s : Shared}
/-- a zip that has handed a tuple out which still stands -/
abbrev HeldZip (h : Heap) (z TI TO T : Addr) (f1 : Bool) : Prop :=
  h.get? z = some { cls := .type "zip", dict := none, data := .fields #[rawInt T, .bool f1, .bool false, .ref TI, .ref TO], slots := #[] }
theorem held_free {z TI TO T : Addr} {f1 : Bool} {oT : Obj} {Q : Bool → Shared → Prop} (hz : HeldZip s.heap z TI TO T f1) (hT : s.heap.get? T = some oT)
    (h : ∀ h', HeldZip h' z TI TO T true → Heap.SameBut z s.heap h' → Q false { s with heap := h' }) : wpAny (model prog w) A (Builtin.SmallTypes.ownedTupleIsFree (.ref z)) Q E s := by
  unfold Builtin.SmallTypes.ownedTupleIsFree
  refine wpAny_bind (wpAny_field hz rfl (x := rawInt T) rfl ?_)
  have hl : ∀ (Q' : Option Obj → Shared → Prop), Q' (some oT) s → wpAny (model prog w) A (loadIfAlive T) Q' E s := fun Q' q Γ p _ => by
    show Q' (s.heap.get? T) s
    rw [hT]; exact q
  refine wpAny_bind (hl _ ?_)
  simp only [Option.isNone_some, Bool.false_eq_true, if_false]
  refine wpAny_bind (wpAny_field hz rfl (x := .bool f1) rfl ?_)
  cases f1 with
  | true =>
    rw [if_neg (by decide)]
    exact wpAny_pure (h s.heap hz (.refl ..))
  | false =>
    rw [if_pos (by decide)]
    refine wpAny_bind (wpAny_setField_rec hz (by simp) fun h' hz' hs' => ?_)
    exact wpAny_pure (h h' hz' hs')
theorem held_next_item {z TI TO i1 i2 l1 l2 T : Addr} {k1 k2 : Nat} {f1 : Bool} {oT : Obj} {xs ys : Array Value} {x y : Value} {Q : Value → Shared → Prop} (D : ZipApart z TI TO i1 i2 l1 l2)
    (hz : HeldZip s.heap z TI TO T f1) (hT : s.heap.get? T = some oT) (hTI : IsPair s.heap TI (.ref i1) (.ref i2))
    (h1 : s.heap.IsListIter i1 l1 k1) (h2 : s.heap.IsListIter i2 l2 k2) (hl1 : s.heap.IsList l1 xs) (hl2 : s.heap.IsList l2 ys) (hx : xs[k1]? = some x) (hy : ys[k2]? = some y)
    (hQ : ∀ h', HeldZip h' z TI TO T true → h'.IsListIter i1 l1 (k1 + 1) → h'.IsListIter i2 l2 (k2 + 1) → IsPair h' s.heap.objs.size x y →
      (∀ c o, c ≠ z → c ≠ i1 → c ≠ i2 → s.heap.get? c = some o → h'.get? c = some o) → Q (.ref s.heap.objs.size) { s with heap := h' }) :
    wpAny (model prog w) A (Builtin.«zip.__next__» ⟨[.ref z], []⟩) (fun fin s' => ∃ v, fin = .done (.ret v) ∧ Q v s') E s := by
  show wpAny _ _ (field (.ref z) 2 >>= _) _ _ _
  refine wpAny_bind (wpAny_field hz rfl (x := .bool false) rfl ?_)
  show wpAny _ _ (field (.ref z) 3 >>= _) _ _ _
  refine wpAny_bind (wpAny_field hz rfl (x := .ref TI) rfl ?_)
  refine wpAny_bind (wpAny_seqItems hTI rfl ?_)
  show wpAny _ _ (Builtin.SmallTypes.ownedTupleIsFree (.ref z) >>= _) _ _ _
  refine wpAny_bind (held_free hz hT fun h₁ hz₁ hs₁ => ?_)
  simp only [Bool.false_eq_true, if_false]
  refine wpAny_bind ?_
  rw [show (#[Value.ref i1, Value.ref i2] : Array Value) = [Value.ref i1, Value.ref i2].toArray from rfl]
  simp only [List.forIn_toArray, List.forIn_cons, List.forIn_nil]
  refine wpAny_bind (wpAny_bind (wpAny_holding ?_))
  show wpAny _ _ (Builtin.SmallTypes.nextOf (.ref i1) >>= _) _ _ _
  refine wpAny_bind (wpAny_nextOf_list_item (h1.extBut hs₁.extBut D.i1z) (hl1.extBut hs₁.extBut D.l1z) hx fun h₂ h1₂ hs₂ => wpAny_pure ?_)
  refine wpAny_pure ?_
  refine wpAny_bind (wpAny_bind (wpAny_holding ?_))
  show wpAny _ _ (Builtin.SmallTypes.nextOf (.ref i2) >>= _) _ _ _
  refine wpAny_bind (wpAny_nextOf_list_item ((h2.extBut hs₁.extBut D.i2z).extBut hs₂.extBut D.i12.symm)
    ((hl2.extBut hs₁.extBut D.l2z).extBut hs₂.extBut D.l2i1) hy fun h₄ h2₄ hs₄ => wpAny_pure ?_)
  refine wpAny_pure (wpAny_pure ?_)
  have hz₄ : HeldZip h₄ z TI TO T true := hs₄.extBut _ _ D.i2z.symm (hs₂.extBut _ _ D.i1z.symm hz₁)
  have hk : ∀ c o, c ≠ z → c ≠ i1 → c ≠ i2 → s.heap.get? c = some o → h₄.get? c = some o := fun c o c1 c2 c3 e => hs₄.extBut _ _ c3 (hs₂.extBut _ _ c2 (hs₁.extBut _ _ c1 e))
  have h1₄ : h₄.IsListIter i1 l1 (k1 + 1) := h1₂.extBut hs₄.extBut D.i12
  have hsz : h₄.objs.size = s.heap.objs.size := by rw [hs₄.1, hs₂.1, hs₁.1]
  show wpAny _ _ (newTuple [x, y] >>= _) _ _ _
  refine wpAny_bind (wpAny_newTuple (wpAny_pure ⟨_, rfl, ?_⟩))
  have up : ∀ c o, h₄.get? c = some o → (h₄.push { cls := .type "tuple", data := .seq #[x, y] }).get? c = some o := fun c o e => Heap.get?_push_of_some _ e
  show Q (.ref h₄.objs.size) _
  have hp : IsPair (h₄.push { cls := .type "tuple", data := .seq #[x, y] }) h₄.objs.size x y := Heap.get?_push_size _ rfl
  rw [hsz] at hp ⊢
  exact hQ _ (up _ _ hz₄) (h1₄.at fun o e => up _ o e) (h2₄.at fun o e => up _ o e) hp fun c o c1 c2 c3 e => up _ _ (hk c o c1 c2 c3 e)
theorem held_next_end {z TI TO i1 i2 l1 l2 T : Addr} {k1 : Nat} {f1 : Bool} {oT : Obj} {xs : Array Value} {Q : Fin → Shared → Prop} (hh : A.handled = none) (D : ZipApart z TI TO i1 i2 l1 l2)
    (hz : HeldZip s.heap z TI TO T f1) (hT : s.heap.get? T = some oT) (hTI : IsPair s.heap TI (.ref i1) (.ref i2))
    (h1 : s.heap.IsListIter i1 l1 k1) (hl1 : s.heap.IsList l1 xs) (hx : xs[k1]? = none)
    (hE : ∀ h' e, (∀ c o, c ≠ z → c ≠ i1 → s.heap.get? c = some o → h'.get? c = some o) → (∃ o, h'.get? e = some o ∧ o.cls = .type "StopIteration") → E (.ref e) { s with heap := h' }) :
    wpAny (model prog w) A (Builtin.«zip.__next__» ⟨[.ref z], []⟩) Q E s := by
  show wpAny _ _ (field (.ref z) 2 >>= _) _ _ _
  refine wpAny_bind (wpAny_field hz rfl (x := .bool false) rfl ?_)
  show wpAny _ _ (field (.ref z) 3 >>= _) _ _ _
  refine wpAny_bind (wpAny_field hz rfl (x := .ref TI) rfl ?_)
  refine wpAny_bind (wpAny_seqItems hTI rfl ?_)
  show wpAny _ _ (Builtin.SmallTypes.ownedTupleIsFree (.ref z) >>= _) _ _ _
  refine wpAny_bind (held_free hz hT fun h₁ hz₁ hs₁ => ?_)
  simp only [Bool.false_eq_true, if_false]
  refine wpAny_bind ?_
  rw [show (#[Value.ref i1, Value.ref i2] : Array Value) = [Value.ref i1, Value.ref i2].toArray from rfl]
  simp only [List.forIn_toArray, List.forIn_cons, List.forIn_nil]
  refine wpAny_bind (wpAny_bind (wpAny_holding ?_))
  show wpAny _ _ (Builtin.SmallTypes.nextOf (.ref i1) >>= _) _ _ _
  refine wpAny_bind (wpAny_nextOf_list_end hh (h1.extBut hs₁.extBut D.i1z) (hl1.extBut hs₁.extBut D.l1z) hx fun h₂ e hs₂ he => ?_)
  exact hE h₂ e (fun c o c1 c2 x => hs₂ _ _ c2 (hs₁.extBut _ _ c1 x)) he
/-- where a zip of two lists stands, whoever holds its tuples -/
def ZipSt (z TI TO i1 i2 l1 l2 : Addr) (xs ys : Array Value) (S : Addr) (i : Nat) (h : Heap) : Prop :=
  ((i = 0 ∧ IsZip h z TI TO .none) ∨ ∃ T oT f1, HeldZip h z TI TO T f1 ∧ h.get? T = some oT ∧ T ≠ z ∧ T ≠ TO ∧ T ≠ i1 ∧ T ≠ i2 ∧ T ≠ S) ∧ IsPair h TI (.ref i1) (.ref i2) ∧ (∃ a b, IsPair h TO a b) ∧ h.IsListIter i1 l1 i ∧ h.IsListIter i2 l2 i ∧ h.IsList l1 xs ∧ h.IsList l2 ys
theorem ZipSt.keeps {z TI TO i1 i2 l1 l2 S : Addr} {xs ys : Array Value} {i : Nat} {h h' : Heap} (Z : ZipSt z TI TO i1 i2 l1 l2 xs ys S i h) (d1 : z ≠ S) (d2 : TI ≠ S) (d3 : TO ≠ S) (d4 : i1 ≠ S) (d5 : i2 ≠ S) (d6 : l1 ≠ S) (d7 : l2 ≠ S)
    (hk : ∀ c o, c ≠ S → h.get? c = some o → h'.get? c = some o) : ZipSt z TI TO i1 i2 l1 l2 xs ys S i h' := by
  obtain ⟨hz, hTI, ⟨a, b, hTO⟩, h1, h2, hl1, hl2⟩ := Z
  refine ⟨?_, hk _ _ d2 hTI, ⟨a, b, hk _ _ d3 hTO⟩, h1.at fun o e => hk _ o d4 e, h2.at fun o e => hk _ o d5 e, hl1.at fun o e => hk _ o d6 e, hl2.at fun o e => hk _ o d7 e⟩
  rcases hz with ⟨e, hz⟩ | ⟨T, oT, f1, hz, hT, n1, n2, n3, n4, n5⟩
  · exact .inl ⟨e, hk _ _ d1 hz⟩
  · exact .inr ⟨T, oT, f1, hk _ _ d1 hz, hk _ _ n5 hT, n1, n2, n3, n4, n5⟩
theorem zip_st_item {z TI TO i1 i2 l1 l2 S : Addr} {xs ys : Array Value} {i : Nat} {x y : Value} {Q : Option Value → Shared → Prop} (D : ZipApart z TI TO i1 i2 l1 l2) (hS : S < s.heap.objs.size)
    (Z : ZipSt z TI TO i1 i2 l1 l2 xs ys S i s.heap) (hx : xs[i]? = some x) (hy : ys[i]? = some y)
    (hQ : ∀ h' T, ZipSt z TI TO i1 i2 l1 l2 xs ys S (i + 1) h' → IsPair h' T x y → (∀ c o, c ≠ z → c ≠ TO → c ≠ i1 → c ≠ i2 → s.heap.get? c = some o → h'.get? c = some o) → Q (some (.ref T)) { s with heap := h' }) :
    wpAny (model prog w) A (pyNext (.ref z)) Q E s := by
  obtain ⟨hz, hTI, ⟨a, b, hTO⟩, h1, h2, hl1, hl2⟩ := Z
  rcases hz with ⟨rfl, hz⟩ | ⟨T, oT, f1, hz, hT, n1, n2, n3, n4, n5⟩
  · refine wpAny_pyNext_zip_item D hz hTI hTO h1 h2 hl1 hl2 hx hy fun h' a1 a2 a3 a4 a5 a6 hk => ?_
    have lt : ∀ {c o}, s.heap.get? c = some o → s.heap.objs.size ≠ c := fun e => Nat.ne_of_gt (Heap.lt_size e)
    exact hQ h' _ ⟨.inr ⟨_, _, false, a1, a5, lt hz, lt hTO, (by obtain ⟨_, e, _⟩ := h1; exact lt e), (by obtain ⟨_, e, _⟩ := h2; exact lt e), Nat.ne_of_gt hS⟩, hk _ _ D.TIz D.TITO D.TIi1 D.TIi2 hTI, ⟨_, _, a2⟩, a3, a4,
      hl1.at fun o e => hk _ o D.l1z D.l1TO D.l1i1 D.l1i2 e, hl2.at fun o e => hk _ o D.l2z D.l2TO D.l2i1 D.l2i2 e⟩ a5 hk
  · have hTy : s.TypeIs (.ref z) "zip" := ⟨_, hz, rfl⟩
    unfold pyNext
    refine wpAny_bind (wpAny_attempt (wpAny_callSpecial?_slot (name := Str.ofString "__next__") hTy F.slot_zip_next
      (wpAny_call_entry F.slot_zip_next hTy F.entry_zip_next
        (held_next_item D hz hT hTI h1 h2 hl1 hl2 hx hy fun h' a1 a2 a3 a4 hk => wpAny_pure ?_) (F.args_zip_next_1 _))))
    exact hQ h' _ ⟨.inr ⟨T, oT, true, a1, hk _ _ n1 n3 n4 hT, n1, n2, n3, n4, n5⟩, hk _ _ D.TIz D.TIi1 D.TIi2 hTI, ⟨a, b, hk _ _ D.TOz D.TOi1 D.TOi2 hTO⟩, a2, a3,
      hl1.at fun o e => hk _ o D.l1z D.l1i1 D.l1i2 e, hl2.at fun o e => hk _ o D.l2z D.l2i1 D.l2i2 e⟩ a4 fun c o c1 _ c3 c4 e => hk c o c1 c3 c4 e
theorem zip_st_end {z TI TO i1 i2 l1 l2 S : Addr} {xs ys : Array Value} {i : Nat} {Q : Option Value → Shared → Prop} (hh : A.handled = none) (D : ZipApart z TI TO i1 i2 l1 l2)
    (Z : ZipSt z TI TO i1 i2 l1 l2 xs ys S i s.heap) (hx : xs[i]? = none)
    (hQ : ∀ h', (∀ c o, c ≠ z → c ≠ TO → c ≠ i1 → c ≠ i2 → s.heap.get? c = some o → h'.get? c = some o) → Q none { s with heap := h' }) :
    wpAny (model prog w) A (pyNext (.ref z)) Q E s := by
  obtain ⟨hz, hTI, ⟨a, b, hTO⟩, h1, h2, hl1, hl2⟩ := Z
  rcases hz with ⟨rfl, hz⟩ | ⟨T, oT, f1, hz, hT, n1, n2, n3, n4, n5⟩
  · exact wpAny_pyNext_zip_end hh D hz hTI hTO h1 h2 hl1 hl2 (.inl hx) hQ
  · have hTy : s.TypeIs (.ref z) "zip" := ⟨_, hz, rfl⟩
    unfold pyNext
    refine wpAny_bind (wpAny_attempt (wpAny_callSpecial?_slot (name := Str.ofString "__next__") hTy F.slot_zip_next
      (wpAny_call_entry F.slot_zip_next hTy F.entry_zip_next (held_next_end hh D hz hT hTI h1 hl1 hx fun h' e hk he => ?_) (F.args_zip_next_1 _))))
    obtain ⟨o, ho, hc⟩ := he
    refine wpAny_bind (wpAny_isInstance (T := "StopIteration") (b := true) ⟨o, ho, hc⟩ isSubtype_stop ?_)
    exact wpAny_pure (hQ _ fun c o c1 _ c3 _ e => hk c o c1 c3 e)
end
end Mine
namespace Mine
open PySem PySem.Spec
theorem zip_getattr_none : typeLookup (.type "zip") "__getattr__" = pure none := am_miss_of_fast (by decide +kernel)
theorem zip_no_keys : typeLookup (.type "zip") (Str.ofString "keys") = pure none := am_miss_of_fast (by decide +kernel)
theorem zip_entry_getattribute : entryFor table "zip.__getattribute__" = some Builtin.«object.__getattribute__» :=
  entryFor_alias (id' := "object.__getattribute__") (by kernel_rfl) (by decide +kernel) (by decide +kernel) (by kernel_rfl)
set_option maxRecDepth 8000 in
theorem zip_getattribute_miss (a : Addr) (fs : Array Value) (sl : Array (Option Value)) (name : Str) (u : Tok) (hmiss : typeLookup (.type "zip") name = pure none) (hname : (["__module__", "__name__", "__qualname__", "__doc__", "__annotations__"] : List Str).contains name = false) (hsz : name.length + 100 ≤ sizeLine := by size_fits) :
    Meets (Builtin.«object.__getattribute__» ⟨[.ref a, .str name u], []⟩) (fun A R s => s.heap.get? a = some { cls := .type "zip", dict := none, data := .fields fs, slots := sl } ∧ raisesAttr (.ref a) name A R s) :=
  Meets.of_wp fun prog w A R s hs => by
    obtain ⟨hp, g, d, tk, os⟩ := s
    obtain ⟨hx, hs⟩ := hs
    have hT : (⟨hp, g, d, tk, os⟩ : Shared).TypeIs (.ref a) "zip" := ⟨_, hx, rfl⟩
    unfold Builtin.«object.__getattribute__»
    repeat (any_goals (first | assumption | wp_step))
    simp only [hname, Bool.false_eq_true, if_false]
    repeat (any_goals (first | assumption | wp_step))
    exact wpAny_raiseAttrError hs.1 hs.2 (attrMsg_fits (by decide +kernel) hsz)
set_option maxRecDepth 8000 in
theorem zip_keys_none {prog : Program} {w : World} {A : Around} {E : Value → Shared → Prop} {s : Shared} {a : Addr} {fs : Array Value} {sl : Array (Option Value)} {name : Str} {Q : Option Value → Shared → Prop}
    (hx : s.heap.get? a = some { cls := .type "zip", dict := none, data := .fields fs, slots := sl }) (hmiss : typeLookup (.type "zip") name = pure none) (hname : (["__module__", "__name__", "__qualname__", "__doc__", "__annotations__"] : List Str).contains name = false) (hA : A.handled = none)
    (h : ∀ h' tk, (∀ b ob, s.heap.get? b = some ob → h'.get? b = some ob) → Q none { s with heap := h', toks := tk }) (hsz : name.length + 100 ≤ sizeLine := by size_fits) :
    wpAny (model prog w) A (getAttr? (.ref a) name) Q E s := by
  obtain ⟨hp, g, d, tk, os⟩ := s
  have hT : ∀ tk', (⟨hp, g, d, tk', os⟩ : Shared).TypeIs (.ref a) "zip" := fun _ => ⟨_, hx, rfl⟩
  have f1 := sub_AttributeError
  have f3 := F.slot_zip_getattribute.lookup
  have f4 := F.slot_zip_getattribute.bind (.ref a)
  have f5 := zip_getattr_none
  unfold getAttr? getAttrBy? getAttrBy
  repeat (any_goals (first | assumption | exact hT _ | ((with_reducible show wpAny _ _ (call (Value.builtin "zip.__getattribute__") _ _) _ _ _); refine call_meets F.slot_zip_getattribute (hT _) zip_entry_getattribute (F.args_zip_getattribute_2 _ _) (zip_getattribute_miss a fs sl name _ hmiss hname hsz) ⟨hx, hA, fun h' tk' e hx' => ?_⟩) | wp_step))
  obtain ⟨t', u', he⟩ := hx'.there
  show wpAny _ _ (getattributeRaised _ _ _ _ _ _ _) _ _ _
  unfold getattributeRaised
  repeat (any_goals (first | assumption | wp_step))
  exact h _ _ hx'.of.keeps
end Mine
namespace Mine
open PySem PySem.Spec
theorem plain_update_loop : plainId "dict.update.loop" = true := by decide +kernel
theorem entry_update_loop : entryFor table "dict.update.loop" = some Builtin.«dict.update.loop» := entryFor_of_tree (by kernel_rfl)
section
variable {prog : Program} {w : World} {K : Type} [DecidableEq K] {knd : KeyKind prog w K} {A : Around} {E : Value → Shared → Prop}
theorem update_loop {R : Result → Shared → Prop} {z TI TO i1 i2 l1 l2 d : Addr} {xs ys : Array Value} {kvs : List (K × Value)} (hh : A.handled = none) (D : ZipApart z TI TO i1 i2 l1 l2)
    (d1 : z ≠ d) (d2 : TI ≠ d) (d3 : TO ≠ d) (d4 : i1 ≠ d) (d5 : i2 ≠ d) (d6 : l1 ≠ d) (d7 : l2 ≠ d)
    (hx : ∀ (i : Nat) (kv : K × Value), kvs[i]? = some kv → ∃ x, xs[i]? = some x ∧ knd.is kv.1 x = true ∧ ys[i]? = some kv.2) (hxn : xs.size = kvs.length) (hn : kvs.length ≤ 1000) :
    ∀ (k i : Nat) (s : Shared) (acc : List (K × Value)), kvs.length - i = k → i ≤ kvs.length → ZipSt z TI TO i1 i2 l1 l2 xs ys d i s.heap → s.heap.DictOf knd d acc → acc.length ≤ i →
      (∀ h' tk, h'.DictOf knd d (merged acc (kvs.drop i)) → (∀ c o, c ≠ z → c ≠ TO → c ≠ i1 → c ≠ i2 → c ≠ d → s.heap.get? c = some o → h'.get? c = some o) → R (.ok (.ret .none)) { s with heap := h', toks := tk }) →
      codeAny (model prog w) A (.builtin "dict.update.loop" ⟨[.ref d, .ref z, rawInt (i : Int), .none], []⟩) R s := by
  intro k
  induction k with
  | zero =>
    intro i s acc hk hi Z hd hacc hR
    have hin : i = kvs.length := by omega
    subst hin
    refine codeAny_builtin entry_update_loop ?_
    rw [Around.under_plainId plain_update_loop _]
    show wpAny _ A.in1 (pyNext (.ref z) >>= _) _ _ s
    refine wpAny_bind (zip_st_end hh D Z (by rw [Array.getElem?_eq_none_iff]; omega) fun h' hk' => ?_)
    show wpAny _ _ (Builtin.Dict.addKeywords d [] >>= _) _ _ _
    refine wpAny_bind (wpAny_pure ?_)
    obtain ⟨o, es, ep, ho, r⟩ := hd
    refine wpAny_pure (hR h' _ ?_ fun c o a1 a2 a3 a4 _ e => hk' c o a1 a2 a3 a4 e)
    rw [List.drop_length]
    exact ⟨o, es, ep, hk' _ _ d1.symm d3.symm d4.symm d5.symm ho, r⟩
  | succ k ih =>
    intro i s acc hk hi Z hd hacc hR
    have hlt : i < kvs.length := by omega
    obtain ⟨x, ex, kx, ey⟩ := hx i kvs[i] (List.getElem?_eq_getElem hlt)
    have hS : d < s.heap.objs.size := by obtain ⟨o, es, ep, ho, r⟩ := hd; exact Heap.lt_size ho
    refine codeAny_builtin entry_update_loop ?_
    rw [Around.under_plainId plain_update_loop _]
    show wpAny _ A.in1 (pyNext (.ref z) >>= _) _ _ s
    refine wpAny_bind (zip_st_item D hS Z ex ey fun h₁ T Z₁ hT hk₁ => ?_)
    have hd₁ : h₁.DictOf knd d acc := by
      obtain ⟨o, es, ep, ho, r⟩ := hd
      exact ⟨o, es, ep, hk₁ _ _ d1.symm d3.symm d4.symm d5.symm ho, r⟩
    refine wpAny_bind (wpAny_holding (wpAny_bind (wpAny_tryCatch ?_)))
    unfold Builtin.Dict.pairItems
    refine wpAny_bind (wpAny_typeOf (T := "tuple") ⟨_, hT, rfl⟩ ?_)
    rw [if_pos (by decide)]
    refine wpAny_bind (wpAny_seqItems hT rfl ?_)
    refine wpAny_pure ?_
    show wpAny _ _ (holding _ (dictSet d x kvs[i].2)) _ _ _
    refine wpAny_holding (wpAny_dictSet_pairs kx hd₁ (fun h₂ hd₂ hs₂ => ?_) (by rw [sizeLine_eq]; omega))
    refine wpAny_pure ⟨plainId_quiet plain_update_loop _, ih (i + 1) _ (stored acc kvs[i].1 kvs[i].2) (by omega) hlt (Z₁.keeps d1 d2 d3 d4 d5 d6 d7 fun c o hc e => hs₂.extBut _ _ hc e) hd₂ ?_ fun h' tk hd' hk' => ?_⟩
    · have := stored_length_le acc kvs[i].1 kvs[i].2
      omega
    · refine hR h' tk ?_ fun c o a1 a2 a3 a4 a5 e => hk' c o a1 a2 a3 a4 a5 (hs₂.extBut _ _ a5 (hk₁ c o a1 a2 a3 a4 e))
      rw [List.drop_eq_getElem_cons hlt]
      exact hd'
theorem call_dict_zip {s : Shared} {Q : Value → Shared → Prop} {z TI TO i1 i2 l1 l2 : Addr} {xs ys : Array Value} {kvs : List (K × Value)} (hh : A.handled = none) (D : ZipApart z TI TO i1 i2 l1 l2)
    (hx : ∀ (i : Nat) (kv : K × Value), kvs[i]? = some kv → ∃ x, xs[i]? = some x ∧ knd.is kv.1 x = true ∧ ys[i]? = some kv.2) (hxn : xs.size = kvs.length) (hn : kvs.length ≤ 1000)
    (hz : IsZip s.heap z TI TO .none) (hTI : IsPair s.heap TI (.ref i1) (.ref i2)) (hTO : ∃ a b, IsPair s.heap TO a b)
    (h1 : s.heap.IsListIter i1 l1 0) (h2 : s.heap.IsListIter i2 l2 0) (hl1 : s.heap.IsList l1 xs) (hl2 : s.heap.IsList l2 ys) (hnd : (kvs.map (·.1)).Nodup)
    (hQ : ∀ h' tk, h'.DictOf knd s.heap.objs.size kvs → (∀ c o, c ≠ z → c ≠ TO → c ≠ i1 → c ≠ i2 → s.heap.get? c = some o → h'.get? c = some o) → Q (.ref s.heap.objs.size) { s with heap := h', toks := tk }) :
    wpAny (model prog w) A (call (.type "dict") [.ref z]) Q E s := by
  obtain ⟨ta, tb, hTO⟩ := hTO
  have lt : ∀ {c o}, s.heap.get? c = some o → c ≠ s.heap.objs.size := fun e => Nat.ne_of_lt (Heap.lt_size e)
  refine callType_codes (Q₁ := fun obj s₁ => obj = .ref s.heap.objs.size ∧ s₁ = { s with heap := s.heap.push { cls := .type "dict", data := .dict #[] } }) F.kt_called_dict (F.kt_typeCall_dict_1 _) F.entry_dict_init (kt_code_dict_new _ ⟨rfl, rfl⟩) ?_
  rintro obj s₁ ⟨rfl, rfl⟩
  have hnew : (s.heap.push { cls := .type "dict", data := .dict #[] }).DictOf knd s.heap.objs.size [] := Heap.DictOf.new s.heap
  have up : ∀ c o, s.heap.get? c = some o → (s.heap.push { cls := .type "dict", data := .dict #[] }).get? c = some o := fun c o e => Heap.get?_push_of_some _ e
  have e1 : i1 ≠ s.heap.objs.size := by obtain ⟨o, e, _⟩ := h1; exact lt e
  have e2 : i2 ≠ s.heap.objs.size := by obtain ⟨o, e, _⟩ := h2; exact lt e
  have e3 : l1 ≠ s.heap.objs.size := by obtain ⟨o, e, _⟩ := hl1; exact lt e
  have e4 : l2 ≠ s.heap.objs.size := by obtain ⟨o, e, _⟩ := hl2; exact lt e
  refine ⟨hnew.typeIs, F.args_dict_init_2 _ _, ?_⟩
  unfold Builtin.«dict.__init__»
  refine wpAny_bind ?_
  unfold Builtin.Dict.selfAndRest
  refine wpAny_bind (wpAny_notOrdered_dict hnew.typeIs ?_)
  show wpAny _ _ (pure (s.heap.objs.size, [Value.ref z])) _ _ _
  refine wpAny_pure ?_
  show wpAny _ _ (Builtin.Dict.updateFrom "dict.__init__" s.heap.objs.size (.ref z) [] .none) _ _ _
  unfold Builtin.Dict.updateFrom
  refine wpAny_bind (wpAny_typeOf (T := "zip") ⟨_, up _ _ hz, rfl⟩ ?_)
  rw [if_pos (by decide)]
  refine wpAny_bind (zip_keys_none (up _ _ hz) zip_no_keys (by decide) hh fun h₁ tk₁ hk₁ => ?_)
  have up₁ : ∀ c o, s.heap.get? c = some o → h₁.get? c = some o := fun c o e => hk₁ _ _ (up _ _ e)
  simp only [Option.isNone_none, if_true]
  refine wpAny_bind (wpAny_rule ?_)
  refine wpAny_bind (wpAny_pyIter_zip (up₁ _ _ hz) ?_)
  have hd₁ : h₁.DictOf knd s.heap.objs.size [] := by
    obtain ⟨o, es, ep, ho, r⟩ := hnew
    exact ⟨o, es, ep, hk₁ _ _ ho, r⟩
  refine wpAny_pure ⟨plainId_quiet plain_update_loop _, update_loop (A := A.in1) hh D (lt hz) (lt hTI) (lt hTO) e1 e2 e3 e4 hx hxn hn _ 0 { s with heap := h₁, toks := tk₁ } [] rfl (Nat.zero_le _) ⟨.inl ⟨rfl, up₁ _ _ hz⟩, up₁ _ _ hTI, ⟨_, _, up₁ _ _ hTO⟩, h1.at fun o e => up₁ _ o e, h2.at fun o e => up₁ _ o e, hl1.at fun o e => up₁ _ o e, hl2.at fun o e => up₁ _ o e⟩ hd₁ (Nat.le_refl _) fun h' tk hd' hk' => ?_⟩
  rw [List.drop_zero, merged_nil_of_nodup kvs hnd] at hd'
  exact ⟨rfl, hQ h' tk hd' fun c o a1 a2 a3 a4 e => hk' c o a1 a2 a3 a4 (lt e) (up₁ _ _ e)⟩
end
end Mine
namespace Mine
section
variable {prog : Program} {w : World} {A : Around} {E : Value → Shared → Prop} {s : Shared} {h₀ : Heap} {L z l1 l2 : Addr} {m : Str → Option Value} {news : List (Addr × Obj)}
/-- a fresh zip of two lists, behind all of the ledger -/
def ZipNew (h₀ : Heap) (L z l1 l2 : Addr) (xs ys : Array Value) (news : List (Addr × Obj)) (h : Heap) : Prop :=
  ∃ TI TO i1 i2 lo : Addr, ZipApart z TI TO i1 i2 l1 l2 ∧ IsZip h z TI TO .none ∧ IsPair h TI (.ref i1) (.ref i2) ∧ (∃ a b, IsPair h TO a b) ∧ h.IsListIter i1 l1 0 ∧ h.IsListIter i2 l2 0 ∧ h.IsList l1 xs ∧ h.IsList l2 ys ∧
    @LE.le Nat _ lo z ∧ @LE.le Nat _ lo TO ∧ @LE.le Nat _ lo i1 ∧ @LE.le Nat _ lo i2 ∧ @LT.lt Nat _ L lo ∧ h₀.objs.size ≤ lo ∧ ∀ p ∈ news, @LT.lt Nat _ p.1 lo
theorem zip_make {vt vs : List Value} {n1 n2 : Nat} {Q : Value → Shared → Prop} (F : Fr h₀ L s.heap m) (N : News h₀ L s.heap news) (m1 : (l1, listOf vt.toArray n1) ∈ news) (m2 : (l2, listOf vs.toArray n2) ∈ news)
    (h : ∀ z h', Fr h₀ L h' m → News h₀ L h' news → ZipNew h₀ L z l1 l2 vt.toArray vs.toArray news h' → Q (.ref z) { s with heap := h' }) :
    wpAny (model prog w) A (call (.type "zip") [.ref l1, .ref l2]) Q E s := by
  have hax1 := N _ m1
  have hax2 := N _ m2
  have hl1 : s.heap.IsList l1 vt.toArray := ⟨_, hax1.1, rfl, n1, rfl⟩
  have hl2 : s.heap.IsList l2 vs.toArray := ⟨_, hax2.1, rfl, n2, rfl⟩
  have hlt1 : @LT.lt Nat _ l1 s.heap.objs.size := Heap.lt_size hax1.1
  have hlt2 : @LT.lt Nat _ l2 s.heap.objs.size := Heap.lt_size hax2.1
  have D : ZipApart (s.heap.objs.size + 4) (s.heap.objs.size + 2) (s.heap.objs.size + 3) s.heap.objs.size (s.heap.objs.size + 1) l1 l2 := ktu_apart _ _ _ hlt1 hlt2
  refine call_zip_2 hl1 hl2 fun h' hz hTI hTO hi1 hi2 hsz hk => ?_
  refine h _ h' (F.keeps hk) (N.grown hk) ⟨_, _, _, _, s.heap.objs.size, D, hz, hTI, ⟨_, _, hTO⟩, hi1, hi2, hl1.at fun o e => hk _ o e, hl2.at fun o e => hk _ o e, ?_, ?_, ?_, ?_, F.ns.lt, ?_, fun p hp => Heap.lt_size (N p hp).1⟩
  · exact Nat.le_add_right _ 4
  · exact Nat.le_add_right _ 3
  · exact Nat.le_refl _
  · exact Nat.le_add_right _ 1
  · exact Nat.le_of_lt (Nat.lt_of_le_of_lt F.above F.ns.lt)
theorem zip_pairs : ∀ {vt vs : List Value} {ts ss : List Int}, IntsAre vt ts → IntsAre vs ss → FlatPairs PyData.int (ts.zip vs) (kdfD (ts.zip ss))
  | _, _, _, _, .nil, _ => .nil
  | _, _, _, _, .cons _ _ _, .nil => .nil
  | _, _, _, _, .cons _ _ h1, .cons n t h2 => .cons (.int n t) (zip_pairs h1 h2)
theorem zip_there (w : World) : ∀ {vt vs : List Value} {ts : List Int}, IntsAre vt ts → ∀ (i : Nat) (kv : Int × Value), (ts.zip vs)[i]? = some kv → ∃ x, vt.toArray[i]? = some x ∧ (PySem.intKind prog w).is kv.1 x = true ∧ vs.toArray[i]? = some kv.2
  | _, [], _, .cons _ _ _, i, kv, h => by simp at h
  | _, _, _, .nil, i, kv, h => by simp at h
  | _, v :: vs, _, .cons n t h1, 0, kv, h => by
    simp at h
    subst h
    exact ⟨_, rfl, intKind_is _ _ _ _, rfl⟩
  | _, v :: vs, _, .cons n t h1, i + 1, kv, h => by
    obtain ⟨x, a, b, c⟩ := zip_there w (vs := vs) h1 i kv (by simpa using h)
    exact ⟨x, by simpa using a, b, by simpa using c⟩
theorem dict_of_zip {vt vs : List Value} {ts ss : List Int} {Q : Value → Shared → Prop} (hh : A.handled = none) (F : Fr h₀ L s.heap m) (N : News h₀ L s.heap news) (Z : ZipNew h₀ L z l1 l2 vt.toArray vs.toArray news s.heap)
    (i1 : IntsAre vt ts) (i2 : IntsAre vs ss) (hnd : ts.Nodup) (hlen : ts.length ≤ 100) (hlen2 : ss.length = ts.length) (hbig : h₀.NoLimit)
    (h : ∀ d o h' tk, Fr h₀ L h' m → News h₀ L h' ((d, o) :: news) → (∀ p ∈ news, p.1 < d) → (d == sysModules) = false → DI prog w o (ts.zip ss) → Q (.ref d) { s with heap := h', toks := tk }) :
    wpAny (model prog w) A (call (.type "dict") [.ref z]) Q E s := by
  obtain ⟨TI, TO, j1, j2, lo, D, hz, hTI, hTO, hi1, hi2, hl1, hl2, b1, b2, b3, b4, bL, b0, bn⟩ := Z
  have hlt := i1.length
  have hls := i2.length
  have hzl : (ts.zip vs).length = ts.length := by rw [List.length_zip]; omega
  refine call_dict_zip (knd := PySem.intKind prog w) (kvs := ts.zip vs) hh D (zip_there w i1) (by rw [hzl]; simpa using hlt) (by omega) hz hTI hTO hi1 hi2 hl1 hl2 ?_ fun h' tk hd hk => ?_
  · rw [List.map_fst_zip (by omega)]
    exact hnd
  · obtain ⟨o, ho, hod⟩ := Heap.dictOf_iff.mp hd
    have low : ∀ c : Addr, @LT.lt Nat _ c lo → ∀ o, s.heap.get? c = some o → h'.get? c = some o := fun c hc o e => by
      have q1 : @Ne Nat c z := by omega
      have q2 : @Ne Nat c TO := by omega
      have q3 : @Ne Nat c j1 := by omega
      have q4 : @Ne Nat c j2 := by omega
      exact hk c o q1 q2 q3 q4 e
    have F' : Fr h₀ L h' m := ⟨F.ns.at fun o e => low L bL o e, fun b o e => low b (Nat.lt_of_lt_of_le (Heap.lt_size e) b0) o (F.keep b o e), F.above⟩
    refine h _ o h' tk F' (fun p hp => ?_) (fun p hp => Heap.lt_size (N p hp).1) (F.notModules (modules_low hbig)) ⟨_, hod, zip_pairs i1 i2⟩
    rcases List.mem_cons.mp hp with rfl | hp
    · refine ⟨ho, Nat.ne_of_gt F.ns.lt, ?_⟩
      cases e : h₀.get? s.heap.objs.size with
      | none => rfl
      | some x => exact absurd (Heap.lt_size e) (Nat.not_lt_of_le (Nat.le_of_lt (Nat.lt_of_le_of_lt F.above F.ns.lt)))
    · exact ⟨low _ (bn p hp) _ (N p hp).1, (N p hp).2⟩
end
end Mine
local macro_rules | `(tactic| walk_at "pad") => `(tactic| skip)
namespace Mine
/-- how one chase of _law_rings has gone on -/
inductive Reach (a : List (Int × Int)) (first : Int) (met₀ : List (Int × Int)) : List (Int × Int) → Int → Prop
  | start : Reach a first met₀ met₀ first
  | step {met : List (Int × Int)} {here : Int} : Reach a first met₀ met here → kdfHas a here = true → kdfHas met here = false → Reach a first met₀ (kdfPut met here first) (kdfLook a here 0)
def ringHit (a met : List (Int × Int)) (first here : Int) : Bool := kdfHas a here && (decide (kdfLook met here 0 = first) && !decide (kdfLook a here 0 = here))
/-- what _law_rings has counted behind some of the targets -/
inductive Rings (a : List (Int × Int)) : List Int → List (Int × Int) → Nat → Prop
  | nil : Rings a [] [] 0
  | snoc {fs : List Int} {met met' : List (Int × Int)} {n : Nat} {first here : Int} : Rings a fs met n → Reach a first met met' here → (kdfHas a here = false ∨ kdfHas met' here = true) → Rings a (fs ++ [first]) met' (n + (if ringHit a met' first here = true then 1 else 0))
theorem nodup_len : ∀ {l l' : List Int}, l.Nodup → (∀ x ∈ l, x ∈ l') → l.length ≤ l'.length
  | [], _, _, _ => Nat.zero_le _
  | x :: l, l', hn, hs => by
    rw [List.nodup_cons] at hn
    have hx := hs x (.head _)
    have ih := nodup_len (l := l) (l' := l'.erase x) hn.2 fun y hy => (List.mem_erase_of_ne fun (e : y = x) => hn.1 (e ▸ hy)).mpr (hs y (.tail _ hy))
    rw [List.length_erase_of_mem hx] at ih
    have := List.length_pos_of_mem hx
    rw [List.length_cons]
    omega
theorem keys_len {c : List (Int × Int)} {ts : List Int} (hn : (c.map (·.1)).Nodup) (hs : ∀ q ∈ c, q.1 ∈ ts) : c.length ≤ ts.length := by
  have := nodup_len hn fun x hx => by
    obtain ⟨q, hq, e⟩ := List.mem_map.mp hx
    rw [← e]
    exact hs q hq
  rwa [List.length_map] at this
theorem has_zip {ts ss : List Int} {k : Int} (h : kdfHas (ts.zip ss) k = true) : k ∈ ts := by
  obtain ⟨v, hv⟩ := has_iff.mp h
  exact (List.of_mem_zip hv).1
theorem put_fresh {c : List (Int × Int)} {k v : Int} (h : kdfHas c k = false) : kdfPut c k v = c ++ [(k, v)] := put_new fun q hq e => by
  have : kdfHas c k = true := has_iff.mpr ⟨q.2, e ▸ hq⟩
  rw [h] at this
  cases this
theorem Reach.keys {a met₀ met : List (Int × Int)} {first here : Int} (r : Reach a first met₀ met here) (h0 : ∀ q ∈ met₀, kdfHas a q.1 = true) : ∀ q ∈ met, kdfHas a q.1 = true := by
  induction r with
  | start => exact h0
  | step _ ha hm ih =>
    intro q hq
    rw [put_fresh hm] at hq
    rcases List.mem_append.mp hq with hq | hq
    · exact ih q hq
    · rw [List.mem_singleton] at hq
      subst hq
      exact ha
theorem Rings.keys {a met : List (Int × Int)} {fs : List Int} {n : Nat} (r : Rings a fs met n) : ∀ q ∈ met, kdfHas a q.1 = true := by
  induction r with
  | nil => intro q hq; cases hq
  | snoc _ r _ ih => exact r.keys ih
section
local macro_rules | `(tactic| walk_at "exec For Name Name cons nil") => `(tactic| (refine Halt.out ?_))
local macro_rules | `(tactic| walk_at "exec While BoolOp cons nil") => `(tactic| (refine Halt.out ?_))
local macro_rules | `(tactic| walk_at "pyIter ref") => `(tactic| (refine Halt.out ?_))
local macro_rules | `(tactic| walk_at "eval Dict nil nil") => `(tactic| (refine Halt.out ?_))
local macro_rules | `(tactic| walk_at "call type:zip") => `(tactic| (refine Halt.out ?_))
local macro_rules | `(tactic| walk_at "call type:dict") => `(tactic| (refine Halt.out ?_))
set_option maxHeartbeats 8000000 in
theorem rings_ok {w : World} {p : Program} {loose : List Str} {mean : ExcName → Option Value} {mg mb : Str → Option Value}
    {dp un : Nat} {gd : Option (List Code)} {cn : Str} {cs : Scope} {a : Addr} {ccd : Value} {cl : List (Str × Addr)} {outer : List Env} {A₀ : Around} {base h₀ : Heap} {L : Addr} {m : Str → Option Value} {s : Shared}
    {Q E : Value → Shared → Prop} {tl sl : Addr} {vt vs : List Value} {ts ss : List Int} {n1 n2 : Nat} {news : List (Addr × Obj)}
    (B : Below A₀ base outer h₀) (F : Fr h₀ L s.heap m) (X : (Mine.hd.heap_39 w.params).In h₀)
    (N : News h₀ L s.heap news) (m1 : (tl, listOf vt.toArray n1) ∈ news) (m2 : (sl, listOf vs.toArray n2) ∈ news) (i1 : IntsAre vt ts) (i2 : IntsAre vs ss) (hnd : ts.Nodup) (hlen : ts.length ≤ 100) (hlen2 : ss.length = ts.length)
    (T : Top p loose mean mg mb h₀) (hk : cs.kind = .function)
    (hd : dp + 4 < recursionLimit) (hu : un + 40 < cLine)
    (ret : ∀ met n t h' tk', Rings (ts.zip ss) ts met n → Fr h₀ L h' m → News h₀ L h' news → Q (.int (n : Int) t) { s with heap := h', toks := tk' }) :
    wpAny (model PySem.Challenge.pw_nt0157_01 w) (ktrTop dp un gd cn cs L a ccd cl outer) (call (.ref 94) [.ref tl, .ref sl]) Q E s := by
  w_top off
  obtain ⟨sh, sg, sd, st, so⟩ := s
  dsimp only at F N ret
  refine wpAny_call ?_
  k_dflt ktr_enter
  k_steps
  refine Halt.mk ?_
  refine zip_make (by k_asm) (by k_asm) (by k_mem) (by k_mem) ?_
  intro z h' F' N' Z
  k_steps
  refine Halt.mk ?_
  refine dict_of_zip rfl (by k_asm) (by k_asm) Z i1 i2 hnd hlen hlen2 (Top.nolimit (by assumption)) ?_
  intro d oa h' tk' F' N' l1 lo hda
  k_lt l1
  k_steps
  refine Halt.mk ?_
  k_dflt (refine' newDict_K ?k1 ?k2 (TopRead.nolimit (by k_asm)) ?_; (case k1 => k_asm); (case k2 => k_asm))
  intro md h' om F' N' l1 mlo hs' fs' hi' fi'
  k_lt l1
  k_steps
  refine Halt.mk ?_
  refine For_turns (by k_asm) ?_
  k_steps
  refine Halt.mk ?_
  refine iter_listTurns (lo := listOf vt.toArray n1) (vs := vt) (news := (md, om) :: (d, oa) :: news) rfl (by k_asm) (by walk_at "ledger") (by k_mem) rfl rfl ?_
  intro I hI
  refine items_inv (fun i m' nw => ∃ om' met n t, DI PySem.Challenge.pw_nt0157_01 w om' met ∧ Rings (ts.zip ss) (ts.take i) met n ∧ nw = (md, om') :: (d, oa) :: news ∧ OverV (Str.ofString "found") (.int (n : Int) t) [Str.ofString "first", Str.ofString "here"] _ m') (fun p hp b hb => by rw [List.map_cons, List.map_nil, List.mem_singleton] at hb; subst hb; exact Nat.ne_of_lt (hI p hp)) ⟨om, [], 0, _, ⟨[], hi', fi'⟩, .nil, rfl, OverV.start rfl⟩ ?_ ?_ ?_
  · rintro i m' nw ⟨om', met, n, t, _, _, rfl, _⟩
    k_subL
  · rintro i b m' nw v h tk its hx ⟨om', met, n, t, hdm, hr, rfl, u, rfl⟩ hb F' N' off
    obtain ⟨first, tf, hp, rfl⟩ := ints_itm i1 hx
    subst hb
    try dsimp only [envOf] at F' N'
    simp only [List.cons_append] at N'
    k_steps
    refine Halt.mk ?_
    have hkm : ∀ q ∈ met, q.1 ∈ ts := fun q hq => has_zip (hr.keys q hq)
    have hlm := keys_len hdm.nodup hkm
    have hoff : ∀ p ∈ news ++ its, p.1 ≠ md := fun p hp => (List.mem_append.mp hp).elim (fun hp => ne_of_allLt (by assumption) p hp) fun hp => (off (md, om') (by k_mem) p hp).symm
    refine While_inv2 (fun n' m'' nw' => ∃ om2 met2 here t2, nw' = (md, om2) :: (d, oa) :: (news ++ its) ∧ DI PySem.Challenge.pw_nt0157_01 w om2 met2 ∧ Reach (ts.zip ss) first met met2 here ∧ (∀ q ∈ met2, q.1 ∈ ts) ∧ n' + met2.length = ts.length ∧ OverV (Str.ofString "here") (.int here t2) [] _ m'') (n₀ := ts.length - met.length) (by k_asm) (by k_asm)
      ⟨om', met, first, tf, rfl, hdm, .start, hkm, by omega, OverV.start rfl⟩ ?_
    rintro n' m'' nw' h1 tk1 F' N' ⟨om2, met2, here, t2, rfl, hd2, hreach, hsub, hmeas, u2, rfl⟩
    have hlm2 := keys_len hd2.nodup hsub
    obtain ⟨kva, hoa, hfa⟩ := hda
    obtain ⟨kvm, hom, hfm⟩ := hd2
    have haz : (ts.zip ss).length ≤ 100 := by rw [List.length_zip]; omega
    have htk : ts.take (i + 1) = ts.take i ++ [first] := by
      rw [List.take_add_one, hp]
      rfl
    k_steps
    · have ha : kdfHas (ts.zip ss) here = true := by assumption
      have hm : kdfHas met2 here = true := by assumption
      have hf : kdfLook met2 here 0 = first := by assumption
      have he : ¬ kdfLook (ts.zip ss) here 0 = here := by assumption
      have hsn := Rings.snoc hr hreach (.inr hm)
      rw [← htk, if_pos (by simp only [ringHit, ha, hf, decide_true, decide_eq_false he, Bool.not_false, Bool.and_true])] at hsn
      exact TurnE.intro (by k_asm) (by k_asm) (off_same (by rfl) off) ⟨om2, met2, n + 1, _, ⟨kvm, hom, hfm⟩, hsn, rfl, by walk_at "overV"⟩
    · have ha : kdfHas (ts.zip ss) here = true := by assumption
      have hm : kdfHas met2 here = true := by assumption
      have hf : kdfLook met2 here 0 = first := by assumption
      have he : kdfLook (ts.zip ss) here 0 = here := by assumption
      have hsn := Rings.snoc hr hreach (.inr hm)
      rw [← htk, if_neg (by simp only [ringHit, ha, hf, he, decide_true, Bool.not_true, Bool.and_false, Bool.false_eq_true, not_false_eq_true])] at hsn
      exact TurnE.intro (by k_asm) (by k_asm) (off_same (by rfl) off) ⟨om2, met2, n, _, ⟨kvm, hom, hfm⟩, hsn, rfl, by walk_at "overV"⟩
    · have ha : kdfHas (ts.zip ss) here = true := by assumption
      have hm : kdfHas met2 here = true := by assumption
      have hf : ¬ kdfLook met2 here 0 = first := by assumption
      have hsn := Rings.snoc hr hreach (.inr hm)
      rw [← htk, if_neg (by simp only [ringHit, ha, decide_eq_false hf, Bool.false_and, Bool.and_false, Bool.false_eq_true, not_false_eq_true])] at hsn
      exact TurnE.intro (by k_asm) (by k_asm) (off_same (by rfl) off) ⟨om2, met2, n, _, ⟨kvm, hom, hfm⟩, hsn, rfl, by walk_at "overV"⟩
    · have ha : kdfHas (ts.zip ss) here = true := by assumption
      have hm : kdfHas met2 here = false := by assumption
      have hsub2 : ∀ q ∈ kdfPut met2 here first, q.1 ∈ ts := fun q hq => has_zip ((Reach.step hreach ha hm).keys hr.keys q hq)
      have hd3 : DI PySem.Challenge.pw_nt0157_01 w _ (kdfPut met2 here first) := ⟨_, by assumption, by assumption⟩
      have hl3 := keys_len hd3.nodup hsub2
      have hl4 : (kdfPut met2 here first).length = met2.length + 1 := by rw [put_fresh hm, List.length_append]; rfl
      exact ⟨_, _, _, _, n' - 1, rfl, by k_asm, by k_asm, by omega, _, kdfPut met2 here first, kdfLook (ts.zip ss) here 0, _, rfl, hd3, .step hreach ha hm, hsub2, by omega, by walk_at "overV"⟩
    · have ha : kdfHas (ts.zip ss) here = false := by assumption
      have hsn := Rings.snoc hr hreach (.inl ha)
      rw [← htk, if_neg (by simp only [ringHit, ha, Bool.false_and, Bool.false_eq_true, not_false_eq_true])] at hsn
      exact TurnE.intro (by k_asm) (by k_asm) (off_same (by rfl) off) ⟨om2, met2, n, _, ⟨kvm, hom, hfm⟩, hsn, rfl, by walk_at "overV"⟩
  · rintro m' nw h tk ⟨om', met, n, t, hdm, hr, rfl, u, rfl⟩ F' N'
    try dsimp only [envOf] at F' N'
    try dsimp only
    rw [List.length_map, i1.length, List.take_length] at hr
    k_steps
    exact ret met n t _ _ hr (by k_asm) (by walk_at "ledger")
end
end Mine
namespace Mine
open PyProof.Rows.LCg
section
variable {prog : Program} {w : World} {A : Around} {E : Value → Shared → Prop} {s : Shared} {h₀ : Heap} {L : Addr} {m : Str → Option Value} {env : Env}
theorem pairs_get : ∀ {vt vs : List Value} {ts ss : List Int}, IntsAre vt ts → IntsAre vs ss → ∀ {i : Nat} {x y : Value}, vt.toArray[i]? = some x → vs.toArray[i]? = some y → ∃ p t t', (ts.zip ss)[i]? = some p ∧ x = .int p.1 t ∧ y = .int p.2 t'
  | _, _, _, _, .nil, _, _, _, _, h, _ => by simp at h
  | _, _, _, _, .cons _ _ _, .nil, _, _, _, _, h => by simp at h
  | _, _, _, _, .cons n t _, .cons k t' _, 0, _, _, h, h' => by
    simp at h h'
    exact ⟨(n, k), t, t', by simp, h.symm, h'.symm⟩
  | _, _, _, _, .cons _ _ h1, .cons _ _ h2, i + 1, _, _, h, h' => by
    obtain ⟨p, t, t', e, r⟩ := pairs_get h1 h2 (i := i) (by simpa using h) (by simpa using h')
    exact ⟨p, t, t', by simpa using e, r⟩
/-- what a comprehension over a fresh zip of two lists of ints needs: its test and its element leave all as it stood -/
def ZSrc (prog : Program) (w : World) (A : Around) (h₀ : Heap) (L : Addr) (m : Str → Option Value) (env : Env) (c elt : PySem.Expr) (a b : Str) (scope : Scope) (cl : List (Str × Addr)) (T : Int × Int → Bool) (Q : Value → Shared → Prop) (xv : Value) (s₁ : Shared) : Prop :=
  ∃ z l1 l2 vt vs ts ss news, xv = .ref z ∧ A.handled = none ∧ Fr h₀ L s₁.heap m ∧ News h₀ L s₁.heap news ∧ ZipNew h₀ L z l1 l2 (List.toArray vt) (List.toArray vs) news s₁.heap ∧ IntsAre vt ts ∧ IntsAre vs ss ∧ ts.length ≤ 100 ∧
    (∀ (x y : Int) t t' C oC m₂ h tk (E' : Value → Shared → Prop), NsObj oC m₂ → m₂ a = some (.int x t) → m₂ b = some (.int y t') → Fr h₀ L h m → News h₀ L h [(C, oC)] →
      wpAny (model prog w) A (isTrue c (compEnvC scope cl C env) (eval c (compEnvC scope cl C env))) (fun ok s₃ => ok = T (x, y) ∧ ∃ tk', s₃ = { s₁ with heap := h, toks := tk' }) E' { s₁ with heap := h, toks := tk }) ∧
    (∀ (x y : Int) t t' C oC m₂ h tk (E' : Value → Shared → Prop), NsObj oC m₂ → m₂ a = some (.int x t) → m₂ b = some (.int y t') → Fr h₀ L h m → News h₀ L h [(C, oC)] →
      wpAny (model prog w) A (eval elt (compEnvC scope cl C env)) (fun _ s₃ => ∃ tk', s₃ = { s₁ with heap := h, toks := tk' }) E' { s₁ with heap := h, toks := tk }) ∧
    (∀ D h tk ys, Fr h₀ L h m → News h₀ L h ((D, lst ys) :: news) → (∀ p ∈ news, p.1 < D) → ys.length = ((ts.zip ss).filter T).length → Q (.ref D) { s₁ with heap := h, toks := tk })
theorem zcomp {elt iter c : PySem.Expr} {a b : Str} {pa pb tp : Pos} {kk : Nat} {scope : Scope} {cl : List (Str × Addr)} {pos : Pos} {Q : Value → Shared → Prop} (T : Int × Int → Bool) (_F₀ : Fr h₀ L s.heap m)
    (hclos : closureFor scope env = pure cl) (hcell : ∀ y ∈ scope.names, y.2 ≠ .cell) (hkind : scope.kind = .function)
    (hnames : ∀ y ∈ scope.names, y.2 = .local → scope.names.lookup y.1 = some .local) (hxa : scope.names.lookup a = some .local) (hxb : scope.names.lookup b = some .local) (hab : ¬ a = b)
    (h : wpAny (model prog w) A (eval iter env) (ZSrc prog w A h₀ L m env c elt a b scope cl T Q) E s)
    (hs : ∀ x, foldedSetIterable iter env x = pure x := by intro _; rfl) :
    wpAny (model prog w) A (eval (.ListComp elt [⟨.Tuple [.Name a pa, .Name b pb] kk tp, iter, [c], 0⟩] scope pos) env) Q E s := by
  rw [eval_ListComp]
  refine wpAny_comprehension_free (use := none) rfl hs hclos hkind hnames (wpAny_mono h (fun xv s₁ h₁ => ?_) fun _ _ e => e)
  obtain ⟨z, l1, l2, vt, vs, ts, ss, news, rfl, hh, F, N, Z, i1, i2, hlen, test, elm, fin⟩ := h₁
  obtain ⟨TI, TO, j1, j2, lo, D0, hz, hTI, ⟨ta, tb, hTO⟩, hi1, hi2, hl1, hl2, b1, b2, b3, b4, bL, b0, bn⟩ := Z
  refine wpAny_pyIter_zip hz ?_
  refine wpAny_newObj_type (wpAny_newFunctionEnv hcell (by intro y hy; simp at hy) (fun h₁ hns₁ hsb₁ => ?_) hkind)
  dsimp only at hns₁ hsb₁ ⊢
  generalize hH2 : s₁.heap.push { cls := .type "list", dict := none, data := .seq ([] : List Value).toArray } = H2 at hns₁ hsb₁ ⊢
  generalize hD : s₁.heap.objs.size = D at hH2 ⊢
  have hC : H2.objs.size = D + 1 := by rw [← hH2, Heap.size_push, hD]
  generalize hCC : H2.objs.size = C at hC hns₁ hsb₁ ⊢
  have lt : ∀ {x o}, s₁.heap.get? x = some o → @LT.lt Nat _ x D := fun e => hD ▸ Heap.lt_size e
  have hDC : D ≠ C := by rw [hC]; exact Nat.ne_of_lt (Nat.lt_succ_self D)
  have old : ∀ x o, s₁.heap.get? x = some o → h₁.get? x = some o := fun x o e => hsb₁.extBut x o (by rw [hC]; exact Nat.ne_of_lt (Nat.lt_succ_of_lt (lt e))) (Heap.get?_push_of_some _ (hH2 ▸ Heap.get?_push_of_some _ e))
  have hacc : h₁.get? D = some (lst []) := hsb₁.extBut _ _ hDC (Heap.get?_push_of_some _ (hH2 ▸ hD ▸ Heap.get?_push_size _ rfl))
  have q1 := lt hz
  have q2 := lt hTI
  have q3 := lt hTO
  have q4 : @LT.lt Nat _ j1 D := by obtain ⟨o, e, _⟩ := hi1; exact lt e
  have q5 : @LT.lt Nat _ j2 D := by obtain ⟨o, e, _⟩ := hi2; exact lt e
  have q6 : @LT.lt Nat _ l1 D := by obtain ⟨o, e, _⟩ := hl1; exact lt e
  have q7 : @LT.lt Nat _ l2 D := by obtain ⟨o, e, _⟩ := hl2; exact lt e
  have hCL : C ≠ L := by
    have := lt (x := z) hz
    have e : @Ne Nat C L := by omega
    exact e
  have hDL : D ≠ L := by
    have e : @Ne Nat D L := by omega
    exact e
  have new : ∀ x : Addr, @LE.le Nat _ lo x → h₀.get? x = none := fun x hx => by
    cases e : h₀.get? x with
    | none => rfl
    | some o => exact absurd (Heap.lt_size e) (Nat.not_lt.mpr (Nat.le_trans b0 hx))
  have hC₀ := new C (by omega)
  have hD₀ := new D (by omega)
  have W := WalksT.zip2 (prog := prog) (w := w) (A := A) hh z TI TO j1 j2 l1 l2 D0 vt.toArray vs.toArray
  have hlz : (ts.zip ss).length = min vt.toArray.size vs.toArray.size := by rw [List.length_zip, List.size_toArray, List.size_toArray, i1.length, i2.length]
  generalize hn : min vt.toArray.size vs.toArray.size = n at W hlz
  have hn100 : n ≤ 100 := by
    rw [← hlz, List.length_zip]
    omega
  have loop : ∀ s₃ : Shared, s₃ = { s₁ with heap := h₁, toks := s₁.toks + ([] : List (Str × Value)).length } →
      codeAny (model prog w) A (.compLoop (.ListComp elt [⟨.Tuple [.Name a pa, .Name b pb] kk tp, iter, [c], 0⟩] scope pos) 0 (.ref z) (.ref D) (compEnvC scope cl C env)) (compPost (model prog w) A E none Q (.ref D) C) s₃ := by
    rintro s₃ rfl
    refine kct_loop
      (fun k s' => ∃ h' tk i ys m', s' = { s₁ with heap := h', toks := tk } ∧ i ≤ n ∧ k = n + 1 - i ∧ ys.length = (((ts.zip ss).take i).filter T).length ∧ ys.length ≤ i ∧
        (IsZip h' z TI TO .none ∧ IsPair h' TI (.ref j1) (.ref j2) ∧ (∃ a b, IsPair h' TO a b) ∧ h'.IsListIter j1 l1 i ∧ h'.IsListIter j2 l2 i ∧ h'.IsList l1 vt.toArray ∧ h'.IsList l2 vs.toArray) ∧
        h'.Ns C m' ∧ h'.get? D = some (lst ys) ∧ (∀ x : Addr, @LT.lt Nat _ x lo → ∀ o, s₁.heap.get? x = some o → h'.get? x = some o)) ?_ (n + 1)
      ⟨h₁, _, 0, [], _, rfl, Nat.zero_le _, rfl, rfl, Nat.le_refl _, ⟨old _ _ hz, old _ _ hTI, ⟨ta, tb, old _ _ hTO⟩, hi1.at fun o e => old _ o e, hi2.at fun o e => old _ o e, hl1.at fun o e => old _ o e, hl2.at fun o e => old _ o e⟩, hns₁, hacc, fun x _ o e => old x o e⟩
    rintro k s' ⟨h', tk, i, ys, m', rfl, hi, rfl, hyl, hyi, hst, hn', hD', hk'⟩
    have frm : ∀ (h2 : Heap), (∀ x : Addr, @LT.lt Nat _ x lo → ∀ o, s₁.heap.get? x = some o → h2.get? x = some o) → Fr h₀ L h2 m := fun h2 hk2 =>
      ⟨F.ns.at fun o e => hk2 L bL o e, fun x o e => hk2 x (Nat.lt_of_lt_of_le (Heap.lt_size e) b0) o (F.keep x o e), F.above⟩
    by_cases hlt : i < n
    · refine W.item i _ _ _ hlt hst fun T1 vals h₂ tk₂ hP hnew hT1 hMid hk₂ => ?_
      obtain ⟨x, y, hx, hy, rfl⟩ := hP
      obtain ⟨p, t, t', hp, rfl, rfl⟩ := pairs_get i1 i2 hx hy
      refine W.go _ _ _ i T1 _ _ _ hMid fun h₃ hst₃ hk₃ => ?_
      have hT3 : h₃.IsTuple T1 #[.int p.1 t, .int p.2 t'] := by
        obtain ⟨o, e, r⟩ := hT1
        exact ⟨o, hk₃ _ _ (W.apart i T1 h₂ hMid) e, r⟩
      have up₃ : ∀ x : Addr, x ≠ z → x ≠ TO → x ≠ j1 → x ≠ j2 → ∀ o, h'.get? x = some o → h₃.get? x = some o := fun x e1 e2 e3 e4 o e => hk₃ x o (by simp [e1, e2, e3, e4]) (hk₂ x o (by simp [e1, e2, e3, e4]) e)
      have nz : ∀ x : Addr, (@LT.lt Nat _ x lo ∨ @LE.le Nat _ D x) → x ≠ z ∧ x ≠ TO ∧ x ≠ j1 ∧ x ≠ j2 := fun x hx => by
        have e1 : @Ne Nat x z := by omega
        have e2 : @Ne Nat x TO := by omega
        have e3 : @Ne Nat x j1 := by omega
        have e4 : @Ne Nat x j2 := by omega
        exact ⟨e1, e2, e3, e4⟩
      have upx : ∀ x : Addr, (@LT.lt Nat _ x lo ∨ @LE.le Nat _ D x) → ∀ o, h'.get? x = some o → h₃.get? x = some o := fun x hx o e => by
        obtain ⟨e1, e2, e3, e4⟩ := nz x hx
        exact up₃ x e1 e2 e3 e4 o e
      refine kcp_assign (env := compEnvC scope cl C env) hh hT3 (lookup_relabel_local hxa) (lookup_relabel_local hxb) (by simp [compEnvC, relabel, hkind]) (hn'.at' fun o e => upx C (.inr (by omega)) o e) fun h₄ tk₄ hn₄ hs₄ => ?_
      have hCw : ∀ x : Addr, @LT.lt Nat _ x D → x ≠ C := fun x hx => by
        have e : @Ne Nat x C := by omega
        exact e
      have hlow : ∀ x : Addr, @LT.lt Nat _ x lo → x ≠ C := fun x hx => by
        have e : @Ne Nat x C := by omega
        exact e
      have hk₄ : ∀ x : Addr, @LT.lt Nat _ x lo → ∀ o, s₁.heap.get? x = some o → h₄.get? x = some o := fun x hx o e => hs₄ x o (hlow x hx) (upx x (.inl hx) o (hk' x hx o e))
      have hD₄ : h₄.get? D = some (lst ys) := hs₄ D _ hDC (upx D (.inr (Nat.le_refl _)) _ hD')
      have hfp : ∀ x ∈ [z, TI, TO, j1, j2, l1, l2], @LT.lt Nat _ x D := fun x hx => by
        simp only [List.mem_cons, List.not_mem_nil, or_false] at hx
        rcases hx with rfl | rfl | rfl | rfl | rfl | rfl | rfl <;> assumption
      have hst₄ := W.frame (i + 1) h₃ h₄ hst₃ fun x hx o e => hs₄ x o (hCw x (hfp x hx)) e
      obtain ⟨oC, heC, hoC⟩ := ns_obj hn₄
      have F₄ := frm h₄ hk₄
      have N₄ : News h₀ L h₄ [(C, oC)] := fun q hq => by
        rw [List.mem_singleton] at hq
        subst hq
        exact ⟨heC, hCL, hC₀⟩
      have htk : (ts.zip ss).take (i + 1) = (ts.zip ss).take i ++ [p] := by
        rw [List.take_add_one, hp]
        rfl
      refine wpAny_mono (test p.1 p.2 t t' C oC _ h₄ _ _ hoC (by simp [hab]) (by simp) F₄ N₄) (fun ok s₅ h₅ => ?_) fun _ _ e => e
      obtain ⟨rfl, tk₅, rfl⟩ := h₅
      cases hTp : T (p.1, p.2) with
      | false =>
        simp only [Bool.false_eq_true, if_false]
        refine ⟨n + 1 - (i + 1), by omega, h₄, tk₅, i + 1, ys, _, rfl, hlt, rfl, ?_, by omega, hst₄, hn₄, hD₄, hk₄⟩
        have hTp' : T p = false := hTp
        rw [htk, List.filter_append, hyl]
        simp [hTp']
      | true =>
        simp only [if_true]
        refine wpAny_mono (elm p.1 p.2 t t' C oC _ h₄ _ _ hoC (by simp [hab]) (by simp) F₄ N₄) (fun y s₆ h₆ => ?_) fun _ _ e => e
        obtain ⟨tk₆, rfl⟩ := h₆
        refine append_at (hsz := by show ys.toArray.size ≤ sizeLine; rw [List.size_toArray, sizeLine_eq]; omega) hD₄ fun h₇ hs₇ hD₇ => ?_
        refine ⟨n + 1 - (i + 1), by omega, h₇, tk₆, i + 1, ys ++ [y], _, rfl, hlt, rfl, ?_, by rw [List.length_append, List.length_singleton]; omega, W.frame (i + 1) h₄ h₇ hst₄ fun x hx o e => hs₇.extBut x o (Nat.ne_of_lt (hfp x hx)) e, hn₄.at' fun o e => hs₇.extBut C o (Ne.symm hDC) e, hD₇.trans (congrArg some (lst_snoc ys y)), fun x hx o e => hs₇.extBut x o ?_ (hk₄ x hx o e)⟩
        · have hTp' : T p = true := hTp
          rw [htk, List.filter_append, List.length_append, List.length_append, hyl]
          simp [hTp']
        · have e : @Ne Nat x D := by omega
          exact e
    · have hin : i = n := Nat.le_antisymm hi (Nat.not_lt.mp hlt)
      subst hin
      refine W.done _ _ _ hst fun h₂ tk₂ hk₂ => ?_
      have nz : ∀ x : Addr, (@LT.lt Nat _ x lo ∨ @LE.le Nat _ D x) → ∀ o, h'.get? x = some o → h₂.get? x = some o := fun x hx o e => by
        have e1 : @Ne Nat x z := by omega
        have e2 : @Ne Nat x TO := by omega
        have e3 : @Ne Nat x j1 := by omega
        have e4 : @Ne Nat x j2 := by omega
        exact hk₂ x o (by rw [List.mem_cons, List.mem_cons, List.mem_cons, List.mem_singleton]; exact fun hx => hx.elim e1 fun hx => hx.elim e2 fun hx => hx.elim e3 e4) e
      refine ⟨m', hn'.at' fun o e => nz C (.inr (by omega)) o e, fun h₃ hs₃ => ?_⟩
      have hk₃ : ∀ x : Addr, @LT.lt Nat _ x lo → ∀ o, s₁.heap.get? x = some o → h₃.get? x = some o := fun x hx o e => hs₃.extBut x o (by
        have e : @Ne Nat x C := by omega
        exact e) (nz x (.inl hx) o (hk' x hx o e))
      refine fin D h₃ tk₂ ys (frm h₃ hk₃) (fun q hq => ?_) (fun q hq => lt (N q hq).1) ?_
      · rcases List.mem_cons.mp hq with rfl | hq
        · exact ⟨hs₃.extBut _ _ hDC (nz D (.inr (Nat.le_refl _)) _ hD'), hDL, hD₀⟩
        · exact ⟨hk₃ _ (bn q hq) _ (N q hq).1, (N q hq).2⟩
      · rw [hyl, List.take_of_length_le (by rw [hlz]; exact Nat.le_refl _)]
  refine codeAny_compStart_list (loop _ rfl) (wpAny_pyIter_zip (old _ _ hz) (loop _ rfl))
end
end Mine
namespace Mine
/-- a mark for the walk -/
def Stopper : Prop := True
/-- the registers behind some moves -/
def execL (ns : List Int) (ps : List (Int × Int)) : List Int := ps.foldl (fun ns p => ns.set p.1.toNat (ns.getD p.2.toNat 0)) ns
/-- what is due, by the moves as they were asked -/
def dueL (held ns : List Int) (ps : List (Int × Int)) : List Int := ps.foldl (fun ns p => ns.set p.1.toNat (held.getD p.2.toNat 0)) ns
theorem execL_snoc {ns : List Int} {ps : List (Int × Int)} {p : Int × Int} : execL ns (ps ++ [p]) = (execL ns ps).set p.1.toNat ((execL ns ps).getD p.2.toNat 0) := by
  unfold execL
  rw [List.foldl_append]
  rfl
theorem dueL_snoc {held ns : List Int} {ps : List (Int × Int)} {p : Int × Int} : dueL held ns (ps ++ [p]) = (dueL held ns ps).set p.1.toNat (held.getD p.2.toNat 0) := by
  unfold dueL
  rw [List.foldl_append]
  rfl
theorem execL_length : ∀ (ps : List (Int × Int)) (ns : List Int), (execL ns ps).length = ns.length
  | [], _ => rfl
  | p :: ps, ns => by
    have := execL_length ps (ns.set p.1.toNat (ns.getD p.2.toNat 0))
    rw [List.length_set] at this
    exact this
theorem dueL_length {held : List Int} : ∀ (ps : List (Int × Int)) (ns : List Int), (dueL held ns ps).length = ns.length
  | [], _ => rfl
  | p :: ps, ns => by
    have := dueL_length (held := held) ps (ns.set p.1.toNat (held.getD p.2.toNat 0))
    rw [List.length_set] at this
    exact this
/-- the registers at first, as _law_right makes them -/
def heldL (k : Nat) : List Int := (rangeKs 0 ((k : Int) - 0).toNat).map (fun k' => 100 + k') ++ [7]
theorem heldL_length (k : Nat) : (heldL k).length = k + 1 := by
  unfold heldL
  rw [List.length_append, List.length_map, rangeKs_length]
  simp
theorem heldL_get {k i : Nat} (h : i < k) : (heldL k)[i]? = some (100 + (i : Int)) := by
  unfold heldL rangeKs
  rw [List.getElem?_append_left (by simp; omega), List.getElem?_map, List.getElem?_map, List.getElem?_range (by omega)]
  simp
theorem heldL_last (k : Nat) : (heldL k)[k]? = some 7 := by
  unfold heldL
  rw [List.getElem?_append_right (by rw [List.length_map, rangeKs_length]; omega), List.length_map, rangeKs_length]
  simp
theorem move_range {P : Int → Prop} {scr : Int} (hs : P scr) : ∀ n c, (∀ p ∈ c, P p.1 ∧ P p.2) → ∀ q ∈ movesM scr n c, P q.1 ∧ P q.2
  | 0, _, _, q, hq => by cases hq
  | n + 1, c, hc, q, hq => by
    have look : ∀ (c : List (Int × Int)) (k : Int), (∀ p ∈ c, P p.1 ∧ P p.2) → kdfHas c k = true → P (kdfLook c k 0) := fun c k hc hk => by
      unfold kdfLook
      cases e : c.find? (fun p => decide (p.1 = k)) with
      | none =>
        have hk' : (c.any fun p => decide (p.1 = k)) = true := hk
        rw [List.any_eq_true] at hk'
        obtain ⟨p, hp, e'⟩ := hk'
        exact absurd e' (List.find?_eq_none.mp e p hp)
      | some p => exact (hc p (List.mem_of_find?_eq_some e)).2
    have del : ∀ (c : List (Int × Int)) (k : Int), (∀ p ∈ c, P p.1 ∧ P p.2) → ∀ p ∈ kdyDel c k, P p.1 ∧ P p.2 := fun c k hc p hp => hc p (List.mem_filter.mp hp).1
    unfold movesM at hq
    split at hq
    · cases hq
    · rename_i hne
      have step : (∀ p ∈ (turnM scr c).1, P p.1 ∧ P p.2) ∧ ∀ p ∈ (turnM scr c).2, P p.1 ∧ P p.2 := by
        unfold turnM
        cases hf : freeP c with
        | some p =>
          refine ⟨del c _ hc, fun q hq => ?_⟩
          rw [List.mem_singleton] at hq
          subst hq
          exact ⟨(hc p (List.mem_of_find?_eq_some hf)).1, look c _ hc (free_has hf)⟩
        | none =>
          cases c with
          | nil => exact ⟨fun _ h => (nomatch h), fun _ h => (nomatch h)⟩
          | cons p r =>
            obtain ⟨k, v⟩ := p
            have hk := (hc (k, v) (.head _)).1
            have hm : ∀ p ∈ ((k, v) :: r).map (elseF k scr), P p.1 ∧ P p.2 := fun p hp => by
              obtain ⟨q, hq, e⟩ := List.mem_map.mp hp
              subst e
              unfold elseF
              split
              · exact ⟨(hc q hq).1, hs⟩
              · exact hc q hq
            refine ⟨del _ _ hm, fun q hq => ?_⟩
            rcases List.mem_cons.mp hq with rfl | hq
            · exact ⟨hs, hk⟩
            · rw [List.mem_singleton] at hq
              subst hq
              exact ⟨hk, look _ _ hm (by rw [has_map (elseF_key _ _)]; exact has_iff.mpr ⟨v, .head _⟩)⟩
      rcases List.mem_append.mp hq with hq | hq
      · exact step.2 q hq
      · exact move_range hs n _ step.1 q hq
theorem real_range {ts ss : List Int} {k : Nat} (ht : ∀ x ∈ ts, 0 ≤ x ∧ x < (k : Int)) (hs : ∀ x ∈ ss, 0 ≤ x ∧ x < (k : Int)) : ∀ p ∈ realM ts ss, (0 ≤ p.1 ∧ p.1 ≤ (k : Int)) ∧ 0 ≤ p.2 ∧ p.2 ≤ (k : Int) := fun p hp => by
  have hz := (List.mem_filter.mp hp).1
  obtain ⟨h1, h2⟩ := List.of_mem_zip (a := p.1) (b := p.2) hz
  have e1 := ht _ h1
  have e2 := hs _ h2
  exact ⟨⟨e1.1, by omega⟩, e2.1, by omega⟩
theorem News.more {h₀ h : Heap} {L : Addr} {news : List (Addr × Obj)} {p : Addr × Obj} (N : News h₀ L h news) (hm : p ∈ news) : News h₀ L h (p :: news) := fun q hq => by
  rcases List.mem_cons.mp hq with rfl | hq
  · exact N _ hm
  · exact N _ hq
theorem ints_set {u : Tok} {x : Int} : ∀ {vs : List Value} {ns : List Int}, IntsAre vs ns → ∀ k : Nat, IntsAre (vs.set k (.int x u)) (ns.set k x)
  | _, _, .nil, _ => .nil
  | _, _, .cons _ _ h, 0 => .cons x u h
  | _, _, .cons c t h, k + 1 => .cons c t (ints_set h k)
theorem set_ints {prog : Program} {w : World} {A : Around} {E : Value → Shared → Prop} {s : Shared} {h₀ : Heap} {L D : Addr} {m : Str → Option Value} {news news' : List (Addr × Obj)} {vs : List Value} {ns : List Int} {n : Nat} {k x : Int} {t u : Tok} {Q : Unit → Shared → Prop}
    (F : Fr h₀ L s.heap m) (N : News h₀ L s.heap news) (U : Upd D (listOf vs.toArray n) (listOf (vs.set k.toNat (.int x u)).toArray n) news news') (hb : IntsAre vs ns) (h0 : 0 ≤ k) (h1 : k < ns.length) (hfit : k < 2 ^ 63)
    (h : ∀ h', Fr h₀ L h' m → News h₀ L h' news' → IntsAre (vs.set k.toNat (.int x u)) (ns.set k.toNat x) → Q () { s with heap := h' }) :
    wpAny (model prog w) A (setItem (.ref D) (.int k t) (.int x u)) Q E s := by
  obtain ⟨pre, post, rfl, rfl, a, b'⟩ := U.split
  have z := N (D, listOf vs.toArray n) (List.mem_append.mpr (.inr (.head _)))
  have hs : vs.toArray.size = ns.length := by rw [List.size_toArray]; exact hb.length
  refine ki_setAt z.1 h0 hfit (by omega) (h _ (F.change (Heap.SameBut.update ..) z.2.1 z.2.2) (ki_turn _ N a b' ?_ ?_) (ints_set hb _))
  · apply Array.toList_inj.mp
    simp
  · simp
theorem StepsAre.at {tl : List (Addr × Obj)} : ∀ {vs : List Value} {ps : List (Int × Int)} {i : Nat} {b : Itm}, StepsAre tl vs ps → (vs.map Itm.val)[i]? = some b →
    ∃ T p t0 ta tb n, b = Itm.val (.ref T) ∧ ps[i]? = some p ∧ (T, ({ cls := .type "tuple", data := .seq [.str (Str.ofString "move") t0, .int p.1 ta, .int p.2 tb].toArray n } : Obj)) ∈ tl
  | _, _, _, _, .nil, h => by simp at h
  | _, _, 0, _, .cons hm _, h => by
    simp at h
    exact ⟨_, _, _, _, _, _, h.symm, rfl, hm⟩
  | _, _, i + 1, _, .cons _ hr, h => by
    obtain ⟨T, p, t0, ta, tb, n, e, e', hm⟩ := StepsAre.at (i := i) hr (by simpa using h)
    exact ⟨T, p, t0, ta, tb, n, e, by simpa using e', hm⟩
end Mine
namespace Mine
/-- one or more steps along the pairs -/
inductive Run (c : List (Int × Int)) : Int → Int → Prop
  | one {x y : Int} : (x, y) ∈ c → Run c x y
  | more {x y z : Int} : Run c x y → (y, z) ∈ c → Run c x z
theorem Run.trans {c : List (Int × Int)} {x y z : Int} (h : Run c x y) (h' : Run c y z) : Run c x z := by
  induction h' with
  | one e => exact .more h e
  | more _ e ih => exact .more ih e
theorem Run.head {c : List (Int × Int)} {x y : Int} (h : Run c x y) : ∃ w, (x, w) ∈ c ∧ (w = y ∨ Run c w y) := by
  induction h with
  | one e => exact ⟨_, e, .inl rfl⟩
  | more _ e ih =>
    obtain ⟨w, hw, h⟩ := ih
    refine ⟨w, hw, .inr ?_⟩
    rcases h with rfl | h
    · exact .one e
    · exact .more h e
theorem Run.last {c : List (Int × Int)} {x y : Int} (h : Run c x y) : ∃ w, (w, y) ∈ c := by
  cases h with
  | one e => exact ⟨_, e⟩
  | more _ e => exact ⟨_, e⟩
theorem Run.mono {c c' : List (Int × Int)} (hs : ∀ p ∈ c, p ∈ c') {x y : Int} (h : Run c x y) : Run c' x y := by
  induction h with
  | one e => exact .one (hs _ e)
  | more _ e ih => exact .more ih (hs _ e)
theorem func_of : ∀ {c : List (Int × Int)}, (c.map (·.1)).Nodup → ∀ {x y y' : Int}, (x, y) ∈ c → (x, y') ∈ c → y = y'
  | [], _, _, _, _, h, _ => nomatch h
  | p :: c, hn, x, y, y', h, h' => by
    rw [List.map_cons, List.nodup_cons] at hn
    rcases List.mem_cons.mp h with e | h
    · rcases List.mem_cons.mp h' with e' | h'
      · rw [← e] at e'
        exact (congrArg Prod.snd e').symm
      · exact absurd (List.mem_map.mpr ⟨_, h', by rw [← e]⟩) hn.1
    · rcases List.mem_cons.mp h' with e' | h'
      · exact absurd (List.mem_map.mpr ⟨_, h, by rw [← e']⟩) hn.1
      · exact func_of hn.2 h h'
theorem Run.back {c : List (Int × Int)} (hn : (c.map (·.1)).Nodup) {x y : Int} (hx : Run c x x) (h : Run c x y) : Run c y x := by
  induction h with
  | one e =>
    obtain ⟨w, hw, h⟩ := hx.head
    have := func_of hn e hw
    subst this
    rcases h with rfl | h
    · exact .one e
    · exact h
  | more _ e ih =>
    obtain ⟨w, hw, h⟩ := ih.head
    have := func_of hn e hw
    subst this
    rcases h with rfl | h
    · exact hx
    · exact h
/-- one of each ring -/
def Reps (c : List (Int × Int)) (R : List Int) : Prop := (∀ r ∈ R, Run c r r) ∧ R.Pairwise (fun r q => ¬ Run c r q) ∧ ∀ x, Run c x x → ∃ r ∈ R, Run c x r
theorem reps_le {c : List (Int × Int)} (hn : (c.map (·.1)).Nodup) : ∀ {R R' : List Int}, (∀ r ∈ R, Run c r r) → R.Pairwise (fun r q => ¬ Run c r q) → (∀ r ∈ R, ∃ r' ∈ R', Run c r r') → R.length ≤ R'.length
  | [], _, _, _, _ => Nat.zero_le _
  | r :: R, R', h1, h2, h3 => by
    rw [List.pairwise_cons] at h2
    obtain ⟨r', hr', hrun⟩ := h3 r (.head _)
    have ih := reps_le hn (R := R) (R' := R'.erase r') (fun q hq => h1 q (.tail _ hq)) h2.2 fun q hq => by
      obtain ⟨q', hq', hrun'⟩ := h3 q (.tail _ hq)
      refine ⟨q', (List.mem_erase_of_ne fun (e : q' = r') => ?_).mpr hq', hrun'⟩
      subst e
      have := Run.back hn (h1 q (.tail _ hq)) hrun'
      exact h2.1 q hq (hrun.trans this)
    rw [List.length_erase_of_mem hr'] at ih
    have := List.length_pos_of_mem hr'
    rw [List.length_cons]
    omega
theorem reps_eq {c : List (Int × Int)} (hn : (c.map (·.1)).Nodup) {R R' : List Int} (h : Reps c R) (h' : Reps c R') : R.length = R'.length :=
  Nat.le_antisymm (reps_le hn h.1 h.2.1 fun r hr => h'.2.2 r (h.1 r hr)) (reps_le hn h'.1 h'.2.1 fun r hr => h.2.2 r (h'.1 r hr))
theorem reps_nil : Reps [] [] := ⟨fun _ h => (nomatch h), .nil, fun x h => by obtain ⟨w, hw, _⟩ := h.head; cases hw⟩
/-- a target that nobody reads is on no ring -/
theorem reps_free {c c' : List (Int × Int)} {t : Int} (hc : ∀ p, p ∈ c' ↔ p ∈ c ∧ p.1 ≠ t) (ht : ∀ p ∈ c, p.2 ≠ t) {R : List Int} (h : Reps c' R) : Reps c R := by
  have up : ∀ {x y}, Run c' x y → Run c x y := fun h => h.mono fun p hp => ((hc p).mp hp).1
  have off : ∀ {x y}, Run c x y → y ≠ t := fun h => by
    obtain ⟨w, hw⟩ := h.last
    exact ht _ hw
  have down : ∀ {x y}, Run c x y → x ≠ t → Run c' x y := fun {x y} h hx => by
    induction h with
    | one e => exact .one ((hc _).mpr ⟨e, hx⟩)
    | more h e ih => exact .more ih ((hc _).mpr ⟨e, off h⟩)
  refine ⟨fun r hr => up (h.1 r hr), ?_, fun x hx => ?_⟩
  · refine List.Pairwise.imp_of_mem (fun {r q} hr _ hrq hrun => hrq (down hrun (off (up (h.1 r hr))))) h.2.1
  · obtain ⟨r, hr, hrun⟩ := h.2.2 x (down hx (off hx))
    exact ⟨r, hr, up hrun⟩
/-- breaking a ring takes that ring away, and no other -/
theorem reps_break {c c' : List (Int × Int)} {k scr : Int} (hn : (c.map (·.1)).Nodup) (hn' : (c'.map (·.1)).Nodup) (hk : Run c k k) (hscr : ∀ p ∈ c, p.1 ≠ scr)
    (hc : ∀ x y, (x, y) ∈ c' ↔ x ≠ k ∧ ∃ v, (x, v) ∈ c ∧ y = if v = k then scr else v) (hsrc : ∀ p ∈ c, p.2 ≠ scr) {R : List Int} (h : Reps c' R) : Reps c (k :: R) := by
  have nokey : ∀ y, (scr, y) ∉ c' := fun y hy => by
    obtain ⟨_, v, hv, _⟩ := (hc _ _).mp hy
    exact hscr _ hv rfl
  have edge : ∀ {x y}, (x, y) ∈ c' → y ≠ scr → (x, y) ∈ c := fun {x y} e hy => by
    obtain ⟨_, v, hv, rfl⟩ := (hc _ _).mp e
    by_cases hvk : v = k
    · rw [if_pos hvk] at hy
      exact absurd rfl hy
    · rw [if_neg hvk]
      exact hv
  have up : ∀ {x y}, Run c' x y → y ≠ scr → Run c x y := fun {x y} h hy => by
    induction h with
    | one e => exact .one (edge e hy)
    | more h e ih => exact .more (ih fun q => nokey _ (q ▸ e)) (edge e hy)
  have key : ∀ {x y}, Run c' x y → x ≠ scr := fun h q => by
    obtain ⟨w, hw, _⟩ := h.head
    exact nokey _ (q ▸ hw)
  have stay : ∀ {z y}, Run c' z z → (z, y) ∈ c → (z, y) ∈ c' ∧ y ≠ k := fun {z y} hz e => by
    obtain ⟨w, hw, hzw⟩ := hz.head
    obtain ⟨hzk, v, hv, hwv⟩ := (hc _ _).mp hw
    have hvy := func_of hn e hv
    subst hvy
    by_cases hyk : y = k
    · rw [if_pos hyk] at hwv
      subst hwv
      rcases hzw with q | hzw
      · exact absurd q.symm (key hz)
      · exact absurd rfl (key hzw)
    · rw [if_neg hyk] at hwv
      subst hwv
      exact ⟨hw, hyk⟩
  have keep : ∀ {q y}, Run c' q q → Run c q y → Run c' q y ∧ y ≠ k := fun {q y} hq h => by
    induction h with
    | one e =>
      obtain ⟨e', hk'⟩ := stay hq e
      exact ⟨.one e', hk'⟩
    | more h e ih =>
      have hz := ih.1
      have hzz : Run c' _ _ := (Run.back hn' hq hz).trans hz
      obtain ⟨e', hk'⟩ := stay hzz e
      exact ⟨.more hz e', hk'⟩
  have far : ∀ {x y}, Run c x y → x ≠ k → ¬ Run c x k → Run c' x y := fun {x y} h hx hno => by
    induction h with
    | one e =>
      refine .one ((hc _ _).mpr ⟨hx, _, e, ?_⟩)
      rw [if_neg (fun (q : _ = k) => hno (q ▸ Run.one e))]
    | more h e ih =>
      refine .more ih ((hc _ _).mpr ⟨fun q => hno (q ▸ h), _, e, ?_⟩)
      rw [if_neg (fun (q : _ = k) => hno (q ▸ Run.more h e))]
  refine ⟨fun r hr => ?_, ?_, fun x hx => ?_⟩
  · rcases List.mem_cons.mp hr with rfl | hr
    · exact hk
    · exact up (h.1 r hr) (key (h.1 r hr))
  · refine List.pairwise_cons.mpr ⟨fun q hq hrun => ?_, List.Pairwise.imp_of_mem (fun {r q} hr _ hrq hrun => hrq (keep (h.1 r hr) hrun).1) h.2.1⟩
    exact (keep (h.1 q hq) (Run.back hn hk hrun)).2 rfl
  · by_cases hxk : Run c x k
    · exact ⟨k, .head _, hxk⟩
    · have hne : x ≠ k := fun q => hxk (q ▸ hx)
      obtain ⟨r, hr, hrun⟩ := h.2.2 x (far hx hne hxk)
      exact ⟨r, .tail _ hr, up hrun (key (h.1 r hr))⟩
/-- where every target is read, the first is on a ring -/
theorem ring_of_full {c : List (Int × Int)} {k : Int} (hn : (c.map (·.1)).Nodup) (hk : k ∈ c.map (·.1)) (hfull : ∀ p ∈ c, ∃ q ∈ c, q.2 = p.1) : Run c k k := by
  classical
  false_or_by_contra
  rename_i hno
  let T := (c.map (·.1)).filter fun x => decide (¬ Run c k x)
  have hT : T.Nodup := hn.filter _
  have hkT : k ∈ T := List.mem_filter.mpr ⟨hk, by simpa using hno⟩
  let D := c.filter fun p => decide (p.1 ∈ T.erase k)
  have hsub : ∀ y ∈ T, y ∈ D.map (·.2) := fun y hy => by
    obtain ⟨hy1, hy2⟩ := List.mem_filter.mp hy
    have hy2' : ¬ Run c k y := by simpa using hy2
    obtain ⟨p, hp, rfl⟩ := List.mem_map.mp hy1
    obtain ⟨q, hq, e⟩ := hfull p hp
    refine List.mem_map.mpr ⟨q, List.mem_filter.mpr ⟨hq, ?_⟩, e⟩
    have he : (q.1, p.1) ∈ c := by rw [← e]; exact hq
    have hqk : q.1 ≠ k := fun h => hy2' (.one (h ▸ he))
    have hqT : q.1 ∈ T := List.mem_filter.mpr ⟨List.mem_map.mpr ⟨q, hq, rfl⟩, by
      have : ¬ Run c k q.1 := fun h => hy2' (.more h he)
      simpa using this⟩
    exact decide_eq_true ((List.mem_erase_of_ne hqk).mpr hqT)
  have h1 := nodup_len hT hsub
  have h2 : (D.map (·.1)).Nodup := hn.sublist (List.Sublist.map _ List.filter_sublist)
  have h3 := nodup_len (l := D.map (·.1)) (l' := T.erase k) h2 fun x hx => by
    obtain ⟨p, hp, rfl⟩ := List.mem_map.mp hx
    exact of_decide_eq_true (List.mem_filter.mp hp).2
  rw [List.length_erase_of_mem hkT] at h3
  have h4 := List.length_pos_of_mem hkT
  rw [List.length_map] at h1 h3
  omega
theorem src_not_scr {c : List (Int × Int)} {scr : Int} (hn : (c.map (·.1)).Nodup) (hs : ∀ p ∈ c, p.1 ≠ scr) (hfull : ∀ p ∈ c, ∃ q ∈ c, q.2 = p.1) : ∀ p ∈ c, p.2 ≠ scr := by
  intro p hp e
  have h := nodup_len (l := scr :: c.map (·.1)) (l' := c.map (·.2)) (List.nodup_cons.mpr ⟨fun hm => by
    obtain ⟨q, hq, e'⟩ := List.mem_map.mp hm
    exact hs q hq e', hn⟩) fun x hx => by
    rcases List.mem_cons.mp hx with rfl | hx
    · exact List.mem_map.mpr ⟨p, hp, e⟩
    · obtain ⟨q, hq, rfl⟩ := List.mem_map.mp hx
      obtain ⟨q', hq', e'⟩ := hfull q hq
      exact List.mem_map.mpr ⟨q', hq', e'⟩
  rw [List.length_cons, List.length_map, List.length_map] at h
  omega
end Mine
namespace Mine
/-- the registers behind some moves, as a function -/
def execF (σ : Int → Int) : List (Int × Int) → Int → Int
  | [] => σ
  | p :: ps => execF (fun x => if x = p.1 then σ p.2 else σ x) ps
theorem del_mem {c : List (Int × Int)} {k : Int} (p : Int × Int) : p ∈ kdyDel c k ↔ p ∈ c ∧ p.1 ≠ k := by
  unfold kdyDel
  rw [List.mem_filter]
  simp
theorem del_len : ∀ {c : List (Int × Int)} {p : Int × Int}, (c.map (·.1)).Nodup → p ∈ c → (kdyDel c p.1).length + 1 = c.length
  | [], _, _, h => nomatch h
  | q :: c, p, hn, h => by
    rw [List.map_cons, List.nodup_cons] at hn
    unfold kdyDel
    rw [List.filter_cons]
    rcases List.mem_cons.mp h with e | h
    · subst e
      rw [if_neg (by simp)]
      have : c.filter (fun q => !decide (q.1 = p.1)) = c := List.filter_eq_self.mpr fun q hq => by
        have : ¬ q.1 = p.1 := fun e => hn.1 (by rw [← e]; exact List.mem_map.mpr ⟨q, hq, rfl⟩)
        simpa using this
      rw [this, List.length_cons]
    · have hne : ¬ q.1 = p.1 := fun e => hn.1 (by rw [e]; exact List.mem_map.mpr ⟨p, h, rfl⟩)
      rw [if_pos (by simpa using hne), List.length_cons, List.length_cons]
      have := del_len (c := c) hn.2 h
      unfold kdyDel at this
      omega
theorem del_keys {c : List (Int × Int)} {k : Int} (hn : (c.map (·.1)).Nodup) : ((kdyDel c k).map (·.1)).Nodup := by
  unfold kdyDel
  exact hn.sublist (List.Sublist.map _ List.filter_sublist)
/-- what the moves of move_steps do, and how many they are -/
theorem moves_law (scr : Int) : ∀ (n : Nat) (c : List (Int × Int)) (σ : Int → Int), (c.map (·.1)).Nodup → (∀ p ∈ c, p.1 ≠ scr) → (∀ p ∈ c, p.1 ≠ p.2) → c.length ≤ n → (∀ p ∈ c, σ p.1 ≠ 7 ∧ σ p.2 ≠ 7) →
    ∃ R, Reps c R ∧ (movesM scr n c).length = c.length + R.length ∧ (∀ p ∈ c, execF σ (movesM scr n c) p.1 = σ p.2) ∧ (∀ x, x ≠ scr → (∀ p ∈ c, p.1 ≠ x) → execF σ (movesM scr n c) x = σ x) ∧
      (R = [] → execF σ (movesM scr n c) scr = σ scr) ∧ (R ≠ [] → execF σ (movesM scr n c) scr ≠ 7)
  | 0, c, σ, _, _, _, hl, _ => by
    have : c = [] := List.eq_nil_of_length_eq_zero (by omega)
    subst this
    exact ⟨[], reps_nil, rfl, fun _ h => (nomatch h), fun _ _ _ => rfl, fun _ => rfl, fun h => absurd rfl h⟩
  | n + 1, [], σ, _, _, _, _, _ => ⟨[], reps_nil, rfl, fun _ h => (nomatch h), fun _ _ _ => rfl, fun _ => rfl, fun h => absurd rfl h⟩
  | n + 1, (k, v) :: r, σ, hn, hscr, hne, hl, hv7 => by
    generalize hc0 : (k, v) :: r = c at *
    have hcn : c.isEmpty = false := by rw [← hc0]; rfl
    have hm : movesM scr (n + 1) c = (turnM scr c).2 ++ movesM scr n (turnM scr c).1 := by
      show (if c.isEmpty = true then [] else (turnM scr c).2 ++ movesM scr n (turnM scr c).1) = _
      rw [hcn]
      rfl
    rw [hm]
    cases hf : freeP c with
    | some p =>
      have hp : p ∈ c := List.mem_of_find?_eq_some hf
      have hfree : ∀ q ∈ c, q.2 ≠ p.1 := fun q hq e => by
        have h := List.find?_some hf
        have : (c.any fun q => q.2 == p.1) = true := List.any_eq_true.mpr ⟨q, hq, by simpa using e⟩
        rw [this] at h
        cases h
      have hlook : kdfLook c p.1 0 = p.2 := (look_of hn (k := p.1) (v := p.2) hp).1
      have ht : turnM scr c = (kdyDel c p.1, [(p.1, p.2)]) := by
        unfold turnM
        rw [hf]
        show (kdyDel c p.1, [(p.1, kdfLook c p.1 0)]) = _
        rw [hlook]
      rw [ht]
      have hlen := del_len hn hp
      obtain ⟨R, h1, h2, h3, h4, h5, h6⟩ := moves_law scr n (kdyDel c p.1) (fun x => if x = p.1 then σ p.2 else σ x) (del_keys hn) (fun q hq => hscr q ((del_mem q).mp hq).1) (fun q hq => hne q ((del_mem q).mp hq).1) (by omega) (fun q hq => by
        obtain ⟨hq, hqk⟩ := (del_mem q).mp hq
        rw [if_neg hqk, if_neg (hfree q hq)]
        exact hv7 q hq)
      have hps : p.1 ≠ scr := hscr p hp
      refine ⟨R, reps_free (t := p.1) (fun q => del_mem q) hfree h1, ?_, fun q hq => ?_, fun x hx hxc => ?_, fun h => ?_, h6⟩
      · rw [List.length_append, h2]
        show 1 + _ = _
        omega
      · show execF _ (movesM scr n (kdyDel c p.1)) q.1 = σ q.2
        by_cases hqk : q.1 = p.1
        · have hq2 : q.2 = p.2 := func_of hn (x := p.1) (by rw [← hqk]; exact hq) hp
          rw [hqk, h4 p.1 hps fun q' hq' => ((del_mem q').mp hq').2, if_pos rfl, hq2]
        · rw [h3 q ((del_mem q).mpr ⟨hq, hqk⟩), if_neg (hfree q hq)]
      · show execF _ (movesM scr n (kdyDel c p.1)) x = σ x
        rw [h4 x hx fun q hq => hxc q ((del_mem q).mp hq).1, if_neg fun e => hxc p hp e.symm]
      · show execF _ (movesM scr n (kdyDel c p.1)) scr = σ scr
        rw [h5 h, if_neg fun e => hps e.symm]
    | none =>
      have hfull : ∀ p ∈ c, ∃ q ∈ c, q.2 = p.1 := fun p hp => by
        have h := List.find?_eq_none.mp hf p hp
        have h' : (c.any fun q => q.2 == p.1) = true := by simpa using h
        obtain ⟨q, hq, e⟩ := List.any_eq_true.mp h'
        exact ⟨q, hq, by simpa using e⟩
      have hkv : (k, v) ∈ c := by rw [← hc0]; exact .head _
      have hkk : k ≠ v := hne _ hkv
      have hks : k ≠ scr := hscr _ hkv
      have hsrc := src_not_scr hn hscr hfull
      have hring := ring_of_full hn (List.mem_map.mpr ⟨_, hkv, rfl⟩) hfull
      have hkeys : (c.map (elseF k scr)).map (·.1) = c.map (·.1) := by
        rw [List.map_map]
        exact List.map_congr_left fun p _ => elseF_key _ _ p
      have hn2 : ((c.map (elseF k scr)).map (·.1)).Nodup := by rw [hkeys]; exact hn
      have hkv2 : (k, v) ∈ c.map (elseF k scr) := List.mem_map.mpr ⟨_, hkv, by
        show (if v = k then (k, scr) else (k, v)) = (k, v)
        rw [if_neg (Ne.symm hkk)]⟩
      have hlook : kdfLook (c.map (elseF k scr)) k 0 = v := (look_of hn2 hkv2).1
      have ht : turnM scr c = (kdyDel (c.map (elseF k scr)) k, [(scr, k), (k, v)]) := by
        unfold turnM
        rw [hf, ← hc0]
        show (kdyDel (((k, v) :: r).map (elseF k scr)) k, [(scr, k), (k, kdfLook (((k, v) :: r).map (elseF k scr)) k 0)]) = _
        rw [hc0, hlook]
      rw [ht]
      generalize hc2 : kdyDel (c.map (elseF k scr)) k = c2
      have hlen := del_len hn2 hkv2
      rw [hc2, List.length_map] at hlen
      have hn3 : (c2.map (·.1)).Nodup := by rw [← hc2]; exact del_keys hn2
      have hmem : ∀ x y, (x, y) ∈ c2 ↔ x ≠ k ∧ ∃ w, (x, w) ∈ c ∧ y = if w = k then scr else w := fun x y => by
        rw [← hc2, del_mem, List.mem_map]
        constructor
        · rintro ⟨⟨p, hp, e⟩, hx⟩
          unfold elseF at e
          by_cases hpk : p.2 = k
          · rw [if_pos hpk] at e
            cases e
            exact ⟨hx, p.2, hp, by rw [if_pos hpk]⟩
          · rw [if_neg hpk] at e
            subst e
            exact ⟨hx, y, hp, by rw [if_neg hpk]⟩
        · rintro ⟨hx, w, hw, rfl⟩
          refine ⟨⟨(x, w), hw, ?_⟩, hx⟩
          unfold elseF
          by_cases hwk : w = k
          · rw [if_pos hwk, if_pos hwk]
          · rw [if_neg hwk, if_neg hwk]
      have hv_s : v ≠ scr := hsrc _ hkv
      obtain ⟨σ2, hσ2⟩ : ∃ σ2 : Int → Int, σ2 = fun x => if x = k then (fun x => if x = scr then σ k else σ x) v else (fun x => if x = scr then σ k else σ x) x := ⟨_, rfl⟩
      have hσ : ∀ x : Int, σ2 x = if x = k then σ v else if x = scr then σ k else σ x := fun x => by
        rw [hσ2]
        show (if x = k then (if v = scr then σ k else σ v) else if x = scr then σ k else σ x) = _
        rw [if_neg hv_s]
      have hex : execF σ ([(scr, k), (k, v)] ++ movesM scr n c2) = execF σ2 (movesM scr n c2) := by
        rw [hσ2]
        rfl
      rw [hex]
      have hval : ∀ x y, (x, y) ∈ c2 → ∀ w, (x, w) ∈ c → (if y = k then σ v else if y = scr then σ k else σ y) = σ w := fun x y hxy w hw => by
        obtain ⟨hx, w', hw', rfl⟩ := (hmem x y).mp hxy
        have := func_of hn hw hw'
        subst this
        by_cases hwk : w = k
        · rw [if_pos hwk, if_neg (Ne.symm hks), if_pos rfl, hwk]
        · rw [if_neg hwk, if_neg hwk, if_neg (hsrc _ hw)]
      obtain ⟨R, h1, h2, h3, h4, h5, h6⟩ := moves_law scr n c2 σ2 hn3 (fun p hp => by
          obtain ⟨x, y⟩ := p
          obtain ⟨_, w, hw, _⟩ := (hmem x y).mp hp
          exact (hscr (x, w) hw : x ≠ scr)) (fun p hp => by
          obtain ⟨x, y⟩ := p
          obtain ⟨_, w, hw, rfl⟩ := (hmem x y).mp hp
          by_cases hwk : w = k
          · rw [if_pos hwk]
            exact (hscr (x, w) hw : x ≠ scr)
          · rw [if_neg hwk]
            exact hne _ hw) (by omega) (fun p hp => by
          obtain ⟨x, y⟩ := p
          obtain ⟨hx, w, hw, hy⟩ := (hmem x y).mp hp
          rw [hσ, hσ]
          refine ⟨?_, ?_⟩
          · show (if x = k then σ v else if x = scr then σ k else σ x) ≠ 7
            rw [if_neg hx, if_neg (hscr _ hw)]
            exact (hv7 _ hw).1
          · show (if y = k then σ v else if y = scr then σ k else σ y) ≠ 7
            rw [hval x y hp w hw]
            exact (hv7 _ hw).2)
      refine ⟨k :: R, reps_break hn hn3 hring hscr hmem hsrc h1, ?_, fun p hp => ?_, fun x hx hxc => ?_, fun h => (nomatch h), fun _ => ?_⟩
      · simp only [List.length_append, List.length_cons, List.length_nil, h2]
        omega
      · show execF _ (movesM scr n c2) p.1 = σ p.2
        obtain ⟨x, w⟩ := p
        show execF _ (movesM scr n c2) x = σ w
        by_cases hx : x = k
        · subst hx
          have := func_of hn hp hkv
          subst this
          rw [h4 x hks fun q hq => by
            obtain ⟨x', y'⟩ := q
            exact ((hmem x' y').mp hq).1, hσ, if_pos rfl]
        · have hxy : (x, if w = k then scr else w) ∈ c2 := (hmem _ _).mpr ⟨hx, w, hp, rfl⟩
          rw [h3 _ hxy, hσ]
          exact hval x _ hxy w hp
      · show execF _ (movesM scr n c2) x = σ x
        rw [h4 x hx fun q hq => by
          obtain ⟨x', y'⟩ := q
          obtain ⟨_, w, hw, _⟩ := (hmem x' y').mp hq
          exact (hxc (x', w) hw : x' ≠ x), hσ, if_neg fun e => hxc _ hkv e.symm, if_neg hx]
      · show execF _ (movesM scr n c2) scr ≠ 7
        by_cases hR : R = []
        · rw [h5 hR, hσ, if_neg (Ne.symm hks), if_pos rfl]
          exact (hv7 _ hkv).1
        · exact h6 hR
end Mine
namespace Mine
theorem has_put {c : List (Int × Int)} {k v x : Int} (h : kdfHas c k = false) : kdfHas (kdfPut c k v) x = true ↔ kdfHas c x = true ∨ x = k := by
  rw [put_fresh h, has_iff, has_iff]
  constructor
  · rintro ⟨w, hw⟩
    rcases List.mem_append.mp hw with hw | hw
    · exact .inl ⟨w, hw⟩
    · rw [List.mem_singleton] at hw
      exact .inr (congrArg Prod.fst hw)
  · rintro (⟨w, hw⟩ | rfl)
    · exact ⟨w, List.mem_append_left _ hw⟩
    · exact ⟨v, List.mem_append_right _ (List.mem_singleton.mpr rfl)⟩
theorem put_keys {c : List (Int × Int)} {k v : Int} (hn : (c.map (·.1)).Nodup) (h : kdfHas c k = false) : ((kdfPut c k v).map (·.1)).Nodup := by
  rw [put_fresh h, List.map_append]
  refine List.nodup_append.mpr ⟨hn, by simp, fun a ha b hb e => ?_⟩
  have hb' : b = k := by simpa using hb
  subst e
  subst hb'
  obtain ⟨p, hp, e⟩ := List.mem_map.mp ha
  have : kdfHas c a = true := has_iff.mpr ⟨p.2, e ▸ hp⟩
  rw [h] at this
  cases this
theorem look_put_old {c : List (Int × Int)} {k v x : Int} (hn : (c.map (·.1)).Nodup) (h : kdfHas c k = false) (hx : kdfHas c x = true) : kdfLook (kdfPut c k v) x 0 = kdfLook c x 0 := by
  obtain ⟨w, hw⟩ := has_iff.mp hx
  rw [(look_of hn hw).1]
  refine (look_of (put_keys hn h) ?_).1
  rw [put_fresh h]
  exact List.mem_append_left _ hw
theorem look_put_new {c : List (Int × Int)} {k v : Int} (hn : (c.map (·.1)).Nodup) (h : kdfHas c k = false) : kdfLook (kdfPut c k v) k 0 = v := by
  refine (look_of (put_keys hn h) ?_).1
  rw [put_fresh h]
  exact List.mem_append_right _ (List.mem_singleton.mpr rfl)
theorem look_mem {c : List (Int × Int)} {k : Int} (hn : (c.map (·.1)).Nodup) (h : kdfHas c k = true) : (k, kdfLook c k 0) ∈ c := by
  obtain ⟨w, hw⟩ := has_iff.mp h
  rw [(look_of hn hw).1]
  exact hw
/-- what a chase has laid down -/
theorem reach_law {a c met₀ met : List (Int × Int)} {first here : Int} {fs : List Int} (ha : (a.map (·.1)).Nodup) (hc : ∀ p, p ∈ c ↔ p ∈ a ∧ p.1 ≠ p.2)
    (h0 : (met₀.map (·.1)).Nodup) (hclosed : ∀ x y, (x, y) ∈ c → kdfHas met₀ x = true → kdfHas met₀ y = true ∨ kdfHas a y = false) (hlab : ∀ p ∈ met₀, p.2 ∈ fs) (r : Reach a first met₀ met here) :
    (∀ x, kdfHas met₀ x = true → kdfHas met x = true ∧ kdfLook met x 0 = kdfLook met₀ x 0) ∧
    (∀ x, kdfHas met x = true → kdfHas met₀ x = true ∨ (kdfLook met x 0 = first ∧ (Run c x here ∨ (x = here ∧ kdfLook a x 0 = x)))) ∧
    (∀ x y, (x, y) ∈ c → kdfHas met x = true → kdfHas met y = true ∨ kdfHas a y = false ∨ y = here) ∧
    (first = here ∨ kdfHas met first = true) ∧ (met.map (·.1)).Nodup ∧ (∀ p ∈ met, p.2 ∈ fs ∨ p.2 = first) := by
  induction r with
  | start => exact ⟨fun x hx => ⟨hx, rfl⟩, fun x hx => .inl hx, fun x y e hx => (hclosed x y e hx).imp id .inl, .inl rfl, h0, fun p hp => .inl (hlab p hp)⟩
  | step _ hah hmh ih =>
    rename_i met here _
    obtain ⟨r1, r2, r3, r4, r5, r6⟩ := ih
    have hlook := look_mem ha hah
    refine ⟨fun x hx => ?_, fun x hx => ?_, fun x y e hx => ?_, ?_, put_keys r5 hmh, fun p hp => ?_⟩
    · obtain ⟨h1, h2⟩ := r1 x hx
      exact ⟨(has_put hmh).mpr (.inl h1), by rw [look_put_old r5 hmh h1, h2]⟩
    · rcases (has_put hmh).mp hx with hxo | rfl
      · rcases r2 x hxo with h | ⟨h1, h2⟩
        · exact .inl h
        · refine .inr ⟨by rw [look_put_old r5 hmh hxo, h1], ?_⟩
          rcases h2 with h2 | ⟨rfl, _⟩
          · by_cases hw : kdfLook a here 0 = here
            · rw [hw]
              exact .inl h2
            · exact .inl (.more h2 ((hc _).mpr ⟨hlook, Ne.symm hw⟩))
          · rw [hmh] at hxo
            cases hxo
      · refine .inr ⟨look_put_new r5 hmh, ?_⟩
        by_cases hw : kdfLook a x 0 = x
        · exact .inr ⟨hw.symm, hw⟩
        · exact .inl (.one ((hc _).mpr ⟨hlook, Ne.symm hw⟩))
    · rcases (has_put hmh).mp hx with hx | rfl
      · rcases r3 x y e hx with h | h | rfl
        · exact .inl ((has_put hmh).mpr (.inl h))
        · exact .inr (.inl h)
        · exact .inl ((has_put hmh).mpr (.inr rfl))
      · exact .inr (.inr (func_of ha ((hc _).mp e).1 hlook))
    · rcases r4 with h | h
      · exact .inr ((has_put hmh).mpr (.inr h))
      · exact .inr ((has_put hmh).mpr (.inl h))
    · rw [put_fresh hmh] at hp
      rcases List.mem_append.mp hp with hp | hp
      · exact r6 p hp
      · rw [List.mem_singleton] at hp
        subst hp
        exact .inr rfl
/-- _law_rings counts the rings -/
theorem rings_law {a c : List (Int × Int)} (ha : (a.map (·.1)).Nodup) (hc : ∀ p, p ∈ c ↔ p ∈ a ∧ p.1 ≠ p.2) (hcn : (c.map (·.1)).Nodup) {fs : List Int} {met : List (Int × Int)} {n : Nat} (r : Rings a fs met n) (hfs : fs.Nodup) :
    ∃ R : List Int, R.length = n ∧ (∀ x y, (x, y) ∈ c → kdfHas met x = true → kdfHas met y = true ∨ kdfHas a y = false) ∧ (∀ q ∈ R, Run c q q ∧ kdfHas met q = true) ∧ R.Pairwise (fun q q' => ¬ Run c q q') ∧
      (∀ x, Run c x x → kdfHas met x = true → ∃ q ∈ R, Run c x q) ∧ (∀ p ∈ met, p.2 ∈ fs) ∧ (∀ f ∈ fs, kdfHas a f = true → kdfHas met f = true) ∧ (met.map (·.1)).Nodup := by
  induction r with
  | nil => exact ⟨[], rfl, fun _ _ _ h => (nomatch h), fun _ h => (nomatch h), .nil, fun _ _ h => (nomatch h), fun _ h => (nomatch h), fun _ h => (nomatch h), .nil⟩
  | snoc _ rc hstop ih =>
    rename_i fs met met' n first here _
    obtain ⟨hfs1, hfs2⟩ : fs.Nodup ∧ first ∉ fs := by
      obtain ⟨h1, _, h3⟩ := List.nodup_append.mp hfs
      exact ⟨h1, fun hm => h3 first hm first (List.mem_singleton.mpr rfl) rfl⟩
    obtain ⟨R, k0, k1, k2, k3, k4, k5, k6, k7⟩ := ih hfs1
    obtain ⟨r1, r2, r3, r4, r5, r6⟩ := reach_law ha hc k7 k1 k5 rc
    have hasOf : ∀ {x y}, (x, y) ∈ c → kdfHas a x = true := fun e => has_iff.mpr ⟨_, ((hc _).mp e).1⟩
    have closed0 : ∀ {q y}, kdfHas met q = true → Run c q y → kdfHas a y = true → kdfHas met y = true := fun {q y} hq h => by
      induction h with
      | one e =>
        intro hy
        rcases k1 _ _ e hq with h | h
        · exact h
        · rw [hy] at h; cases h
      | more h e ih =>
        intro hy
        have hz := ih (hasOf e)
        rcases k1 _ _ e hz with h | h
        · exact h
        · rw [hy] at h; cases h
    have c1 : ∀ x y, (x, y) ∈ c → kdfHas met' x = true → kdfHas met' y = true ∨ kdfHas a y = false := fun x y e hx => by
      rcases r3 x y e hx with h | h | rfl
      · exact .inl h
      · exact .inr h
      · exact hstop.symm
    have c5 : ∀ p ∈ met', p.2 ∈ fs ++ [first] := fun p hp => by
      rcases r6 p hp with h | h
      · exact List.mem_append_left _ h
      · rw [h]; exact List.mem_append_right _ (List.mem_singleton.mpr rfl)
    have c6 : ∀ f ∈ fs ++ [first], kdfHas a f = true → kdfHas met' f = true := fun f hf haf => by
      rcases List.mem_append.mp hf with hf | hf
      · exact (r1 f (k6 f hf haf)).1
      · rw [List.mem_singleton] at hf
        subst hf
        rcases r4 with h | h
        · subst h
          rcases hstop with h | h
          · rw [haf] at h; cases h
          · exact h
        · exact h
    have lab0 : ∀ {x}, kdfHas met x = true → kdfLook met' x 0 ≠ first := fun {x} hx e => by
      rw [(r1 x hx).2] at e
      have := k5 _ (look_mem k7 hx)
      rw [e] at this
      exact hfs2 this
    by_cases hit : ringHit a met' first here = true
    · rw [if_pos hit]
      unfold ringHit at hit
      rw [Bool.and_eq_true, Bool.and_eq_true] at hit
      obtain ⟨hah, hl, hne⟩ := hit
      have hl' : kdfLook met' here 0 = first := of_decide_eq_true hl
      have hne' : ¬ kdfLook a here 0 = here := by simpa using hne
      have hmh : kdfHas met' here = true := by
        rcases hstop with h | h
        · rw [hah] at h; cases h
        · exact h
      have hm0 : ¬ kdfHas met here = true := fun h => lab0 h hl'
      have hring : Run c here here := by
        rcases r2 here hmh with h | ⟨_, h | ⟨_, h⟩⟩
        · exact absurd h hm0
        · exact h
        · exact absurd h hne'
      refine ⟨here :: R, by rw [List.length_cons, k0], c1, fun q hq => ?_, List.pairwise_cons.mpr ⟨fun q hq hrun => ?_, k3⟩, fun x hx hmx => ?_, c5, c6, r5⟩
      · rcases List.mem_cons.mp hq with rfl | hq
        · exact ⟨hring, hmh⟩
        · exact ⟨(k2 q hq).1, (r1 q (k2 q hq).2).1⟩
      · exact hm0 (closed0 (k2 q hq).2 (Run.back hcn hring hrun) hah)
      · rcases r2 x hmx with h | ⟨_, h | ⟨rfl, _⟩⟩
        · obtain ⟨q, hq, hrun⟩ := k4 x hx h
          exact ⟨q, .tail _ hq, hrun⟩
        · exact ⟨here, .head _, h⟩
        · exact ⟨x, .head _, hx⟩
    · rw [if_neg hit]
      refine ⟨R, k0, c1, fun q hq => ⟨(k2 q hq).1, (r1 q (k2 q hq).2).1⟩, k3, fun x hx hmx => ?_, c5, c6, r5⟩
      rcases r2 x hmx with h | ⟨_, h | ⟨rfl, h⟩⟩
      · exact k4 x hx h
      · have hback := Run.back hcn hx h
        have hhh := hback.trans h
        obtain ⟨w, hw, _⟩ := hhh.head
        obtain ⟨hwa, hwne⟩ := (hc _).mp hw
        have hah : kdfHas a here = true := has_iff.mpr ⟨w, hwa⟩
        have hlw : kdfLook a here 0 = w := (look_of ha hwa).1
        have hmh : kdfHas met' here = true := by
          rcases hstop with h | h
          · rw [hah] at h; cases h
          · exact h
        have hlf : ¬ kdfLook met' here 0 = first := fun e => hit (by
          unfold ringHit
          rw [hah, decide_eq_true e, hlw, decide_eq_false (fun (e : w = here) => hwne e.symm)]
          rfl)
        rcases r2 here hmh with h0 | ⟨h0, _⟩
        · obtain ⟨q, hq, hrun⟩ := k4 here hhh h0
          exact ⟨q, hq, h.trans hrun⟩
        · exact absurd h0 hlf
      · obtain ⟨w, hw, _⟩ := hx.head
        obtain ⟨hwa, hwne⟩ := (hc _).mp hw
        rw [(look_of ha hwa).1] at h
        exact absurd h.symm hwne
end Mine
namespace Mine
theorem getD_set {ns : List Int} {i j : Nat} {v : Int} (hi : i < ns.length) : (ns.set i v).getD j 0 = if j = i then v else ns.getD j 0 := by
  rw [List.getD_eq_getElem?_getD, List.getElem?_set]
  by_cases e : i = j
  · subst e
    rw [if_pos rfl, if_pos hi, if_pos rfl]
    rfl
  · rw [if_neg e, if_neg (Ne.symm e), List.getD_eq_getElem?_getD]
/-- moves on a list and moves as functions agree -/
theorem exec_agree : ∀ (ps : List (Int × Int)) (ns : List Int) (σ : Int → Int), (∀ x : Int, 0 ≤ x → ns.getD x.toNat 0 = σ x) → (∀ p ∈ ps, (0 ≤ p.1 ∧ p.1.toNat < ns.length) ∧ 0 ≤ p.2) →
    ∀ x : Int, 0 ≤ x → (execL ns ps).getD x.toNat 0 = execF σ ps x
  | [], _, _, h, _, x, hx => h x hx
  | p :: ps, ns, σ, h, hp, x, hx => by
    obtain ⟨⟨h0, h1⟩, h2⟩ := hp p (.head _)
    refine exec_agree ps (ns.set p.1.toNat (ns.getD p.2.toNat 0)) (fun x => if x = p.1 then σ p.2 else σ x) (fun y hy => ?_) (fun q hq => ?_) x hx
    · rw [getD_set h1]
      by_cases e : y = p.1
      · rw [if_pos (by rw [e]), if_pos e, h _ h2]
      · rw [if_neg (by omega), if_neg e, h _ hy]
    · rw [List.length_set]
      exact hp q (.tail _ hq)
theorem due_agree {held : List Int} : ∀ (ps : List (Int × Int)) (ns : List Int), (ps.map (·.1)).Nodup → (∀ p ∈ ps, 0 ≤ p.1 ∧ p.1.toNat < ns.length) →
    (∀ p ∈ ps, (dueL held ns ps).getD p.1.toNat 0 = held.getD p.2.toNat 0) ∧ (∀ i : Nat, (∀ p ∈ ps, p.1 ≠ (i : Int)) → (dueL held ns ps).getD i 0 = ns.getD i 0)
  | [], _, _, _ => ⟨fun _ h => (nomatch h), fun _ _ => rfl⟩
  | p :: ps, ns, hn, hp => by
    rw [List.map_cons, List.nodup_cons] at hn
    obtain ⟨h0, h1⟩ := hp p (.head _)
    obtain ⟨k1, k2⟩ := due_agree ps (ns.set p.1.toNat (held.getD p.2.toNat 0)) hn.2 fun q hq => by
      rw [List.length_set]
      exact hp q (.tail _ hq)
    refine ⟨fun q hq => ?_, fun i hi => ?_⟩
    · show (dueL held (ns.set p.1.toNat (held.getD p.2.toNat 0)) ps).getD q.1.toNat 0 = _
      rcases List.mem_cons.mp hq with rfl | hq
      · rw [k2 q.1.toNat fun q' hq' e => hn.1 (List.mem_map.mpr ⟨q', hq', by rw [e, Int.toNat_of_nonneg h0]⟩), getD_set h1, if_pos rfl]
      · exact k1 q hq
    · show (dueL held (ns.set p.1.toNat (held.getD p.2.toNat 0)) ps).getD i 0 = _
      have hne : p.1 ≠ (i : Int) := hi p (.head _)
      rw [k2 i fun q hq => hi q (.tail _ hq), getD_set h1, if_neg (by omega)]
theorem right_law {k : Nat} {ts ss : List Int} {met : List (Int × Int)} {nr : Nat} (hnd : ts.Nodup) (hlen2 : ss.length = ts.length) (ht : ∀ x ∈ ts, 0 ≤ x ∧ x < (k : Int)) (hs : ∀ x ∈ ss, 0 ≤ x ∧ x < (k : Int)) (hr : Rings (ts.zip ss) ts met nr) :
    (execL (heldL k) (movesM (k : Int) ts.length (realM ts ss))).take k = dueL (heldL k) ((heldL k).take k) (ts.zip ss) ∧
    (movesM (k : Int) ts.length (realM ts ss)).length = ((ts.zip ss).filter fun p => !decide (p.1 = p.2)).length + nr ∧
    ((execL (heldL k) (movesM (k : Int) ts.length (realM ts ss))).getD k 0 = 7 ↔ nr = 0) := by
  have ha : ((ts.zip ss).map (·.1)).Nodup := by
    rw [List.map_fst_zip (by omega)]
    exact hnd
  have hz : ∀ p ∈ ts.zip ss, (0 ≤ p.1 ∧ p.1 < (k : Int)) ∧ 0 ≤ p.2 ∧ p.2 < (k : Int) := fun p hp => by
    obtain ⟨h1, h2⟩ := List.of_mem_zip (a := p.1) (b := p.2) hp
    exact ⟨ht _ h1, hs _ h2⟩
  have hc : ∀ p, p ∈ realM ts ss ↔ p ∈ ts.zip ss ∧ p.1 ≠ p.2 := fun p => by
    unfold realM
    rw [List.mem_filter]
    simp
  have hcn : ((realM ts ss).map (·.1)).Nodup := ha.sublist (List.Sublist.map _ List.filter_sublist)
  have hcl : (realM ts ss).length ≤ ts.length := by
    refine Nat.le_trans (List.length_filter_le _ _) ?_
    rw [List.length_zip]
    omega
  obtain ⟨R', q0, _, q2, q3, q4, _, q6, _⟩ := rings_law ha hc hcn hr hnd
  have hR' : Reps (realM ts ss) R' := ⟨fun r hr => (q2 r hr).1, q3, fun x hx => by
    obtain ⟨w, hw, _⟩ := hx.head
    have hwa := ((hc _).mp hw).1
    have hxt := (List.of_mem_zip hwa).1
    exact q4 x hx (q6 x hxt (has_iff.mpr ⟨w, hwa⟩))⟩
  have hl := heldL_length k
  have hval : ∀ x : Int, 0 ≤ x → x < (k : Int) → (heldL k).getD x.toNat 0 ≠ 7 := fun x h0 h1 => by
    rw [List.getD_eq_getElem?_getD, heldL_get (by omega)]
    show 100 + (x.toNat : Int) ≠ 7
    omega
  obtain ⟨R, m1, m2, m3, m4, m5, m6⟩ := moves_law (k : Int) ts.length (realM ts ss) (fun x => (heldL k).getD x.toNat 0) hcn (fun p hp => by
    have := hz p ((hc p).mp hp).1
    omega) (fun p hp => ((hc p).mp hp).2) hcl (fun p hp => by
    have := hz p ((hc p).mp hp).1
    exact ⟨hval _ this.1.1 this.1.2, hval _ this.2.1 this.2.2⟩)
  have hRn : R.length = nr := by rw [← q0]; exact reps_eq hcn m1 hR'
  have hrg := move_range (P := fun x => 0 ≤ x ∧ x ≤ (k : Int)) (scr := (k : Int)) ⟨by omega, by omega⟩ ts.length (realM ts ss) (real_range ht hs)
  have hag := exec_agree (movesM (k : Int) ts.length (realM ts ss)) (heldL k) (fun x => (heldL k).getD x.toNat 0) (fun _ _ => rfl) (fun p hp => by
    obtain ⟨h1, h2⟩ := hrg p hp
    exact ⟨⟨h1.1, by omega⟩, h2.1⟩)
  have hEl := execL_length (movesM (k : Int) ts.length (realM ts ss)) (heldL k)
  obtain ⟨d1, d2⟩ := due_agree (held := heldL k) (ts.zip ss) ((heldL k).take k) ha fun p hp => by
    have := (hz p hp).1
    refine ⟨this.1, ?_⟩
    rw [List.length_take]
    omega
  have hDl := dueL_length (held := heldL k) (ts.zip ss) ((heldL k).take k)
  generalize hS : movesM (k : Int) ts.length (realM ts ss) = st at *
  refine ⟨?_, ?_, ?_⟩
  · have at_ : ∀ i : Nat, i < k → (execL (heldL k) st).getD i 0 = (dueL (heldL k) ((heldL k).take k) (ts.zip ss)).getD i 0 := fun i hi => by
      have h1 := hag (i : Int) (by omega)
      rw [Int.toNat_natCast] at h1
      rw [h1]
      by_cases hk : ∃ p ∈ ts.zip ss, p.1 = (i : Int)
      · obtain ⟨p, hp, e⟩ := hk
        have h2 := d1 p hp
        rw [e, Int.toNat_natCast] at h2
        rw [h2]
        by_cases hpe : p.1 = p.2
        · rw [m4 (i : Int) (by omega) fun q hq e' => ?_]
          · show (heldL k).getD (i : Int).toNat 0 = _
            rw [← e, hpe]
          · obtain ⟨hq1, hq2⟩ := (hc q).mp hq
            have hqp : q.1 = p.1 := by rw [e', e]
            have := func_of ha (x := p.1) (y := q.2) (y' := p.2) (by rw [← hqp]; exact hq1) hp
            exact hq2 (by rw [hqp, this, hpe])
        · have := m3 p ((hc p).mpr ⟨hp, hpe⟩)
          rw [e] at this
          exact this
      · have hno : ∀ p ∈ ts.zip ss, p.1 ≠ (i : Int) := fun p hp e => hk ⟨p, hp, e⟩
        rw [d2 i hno, m4 (i : Int) (by omega) fun q hq => hno q ((hc q).mp hq).1]
        show (heldL k).getD (i : Int).toNat 0 = _
        rw [Int.toNat_natCast, List.getD_eq_getElem?_getD, List.getD_eq_getElem?_getD, List.getElem?_take_of_lt hi]
    rw [List.length_take] at hDl
    refine List.ext_getElem (by rw [List.length_take, hEl, hDl]) fun i h1 h2 => ?_
    have hi : i < k := by
      rw [hDl] at h2
      omega
    have := at_ i hi
    rw [List.getD_eq_getElem?_getD, List.getD_eq_getElem?_getD, List.getElem?_eq_getElem h2, List.getElem?_eq_getElem (by rw [hEl, hl]; omega)] at this
    rw [List.getElem_take]
    exact this
  · rw [m2, hRn]
    rfl
  · have h1 := hag (k : Int) (by omega)
    rw [Int.toNat_natCast] at h1
    rw [h1]
    have h7 : (heldL k).getD (k : Int).toNat 0 = 7 := by
      rw [Int.toNat_natCast, List.getD_eq_getElem?_getD, heldL_last]
      rfl
    constructor
    · intro e
      by_cases hR : R = []
      · rw [← hRn, hR]
        rfl
      · exact absurd e (m6 hR)
    · intro e
      have hR : R = [] := List.eq_nil_of_length_eq_zero (by omega)
      rw [m5 hR]
      exact h7
end Mine
namespace Mine
section
local macro_rules | `(tactic| walk_at "eval ListComp") => `(tactic| ((have hStop' := (by assumption : Mine.Stopper)); clear hStop'; refine Halt.out ?_))
local macro_rules | `(tactic| walk_at "call ref") => `(tactic| (refine Halt.out ?_))
local macro_rules | `(tactic| walk_at "exec For Name Name cons nil") => `(tactic| (refine Halt.out ?_))
local macro_rules | `(tactic| walk_at "exec For Tuple Call cons nil") => `(tactic| (refine Halt.out ?_))
local macro_rules | `(tactic| walk_at "setItem ref int") => `(tactic| (refine Halt.out ?_))
local macro_rules | `(tactic| walk_at "pyIter ref") => `(tactic| (refine Halt.out ?_))
local macro_rules | `(tactic| walk_at "call type:zip") => `(tactic| (refine Halt.out ?_))
set_option maxHeartbeats 1600000 in
theorem right_ok {w : World} {p : Program} {loose : List Str} {mean : ExcName → Option Value} {mg mb : Str → Option Value}
    {dp un : Nat} {gd : Option (List Code)} {cn : Str} {cs : Scope} {a : Addr} {ccd : Value} {cl : List (Str × Addr)} {outer : List Env} {A₀ : Around} {base h₀ : Heap} {L : Addr} {m : Str → Option Value} {s : Shared}
    {Q E : Value → Shared → Prop} {many : Int} {tl sl : Addr} {vt vs : List Value} {ts ss : List Int} {n1 n2 k : Nat} {tm : Tok} {news : List (Addr × Obj)}
    (B : Below A₀ base outer h₀) (F : Fr h₀ L s.heap m) (X : (Mine.hd.heap_39 w.params).In h₀)
    (N : News h₀ L s.heap news) (m1 : (tl, listOf vt.toArray n1) ∈ news) (m2 : (sl, listOf vs.toArray n2) ∈ news) (i1 : IntsAre vt ts) (i2 : IntsAre vs ss) (hnd : ts.Nodup) (hlen : ts.length ≤ 100) (hlen2 : ss.length = ts.length)
    (hmany : many = (k : Int)) (hk1 : 2 ≤ k) (hk2 : k ≤ 6) (ht : ∀ x ∈ ts, 0 ≤ x ∧ x < (k : Int)) (hs : ∀ x ∈ ss, 0 ≤ x ∧ x < (k : Int))
    (T : Top p loose mean mg mb h₀) (hk : cs.kind = .function)
    (hd : dp + 12 < recursionLimit) (hu : un + 140 < cLine)
    (ret : ∀ h' tk', Fr h₀ L h' m → News h₀ L h' news → Q (.bool true) { s with heap := h', toks := tk' }) :
    wpAny (model PySem.Challenge.pw_nt0157_01 w) (ktrTop dp un gd cn cs L a ccd cl outer) (call (.ref 99) [.ref tl, .ref sl, .int many tm]) Q E s := by
  subst hmany
  w_top off
  obtain ⟨sh, sg, sd, st, so⟩ := s
  dsimp only at F N ret
  refine wpAny_call ?_
  k_dflt ktr_enter
  k_steps
  refine Halt.mk ?_
  rename_i C1 _ tk7 _ l7 _ _ _ hp vh _ hIh _ _ _ _ _ np cn _ _ _ _ l1n _ Fx Nx
  have hIh' : IntsAre vh (heldL k) := hIh
  clear hIh
  have hHl : (heldL k).length = k + 1 := heldL_length k
  have hvh : vh.length = k + 1 := by rw [hIh'.length, hHl]
  k_dflt (refine steps_ok (by k_asm) (by k_asm) (by k_asm) (by k_asm) (by k_mem) (by k_mem) i1 i2 hnd hlen hlen2 (by k_asm) rfl (by ktr_room) (by ktr_units) ?_)
  intro fl fs nf tup h' tk' hoff hofl hsteps F' N'
  have g1 : @LT.lt Nat _ hp np := by assumption
  have g2 : @LT.lt Nat _ l7 np := by assumption
  have g3 : @LT.lt Nat _ C1 np := by assumption
  generalize hR : (hp, listOf vh.toArray 0) :: (l7, listOf #[Value.int 7 tk7] 0) :: (C1, LCg.lst ys) :: news = R at N' hoff
  have hRn : ∀ p ∈ R, p.1 ≠ np := fun q hq => by
    rw [← hR] at hq
    rcases List.mem_cons.mp hq with rfl | hq
    · exact Nat.ne_of_lt g1
    rcases List.mem_cons.mp hq with rfl | hq
    · exact Nat.ne_of_lt g2
    rcases List.mem_cons.mp hq with rfl | hq
    · exact Nat.ne_of_lt g3
    · exact ne_of_allLt l1n q hq
  have hnf : @Ne Nat np fl := (hoff (np, listOf vh.toArray cn) (List.mem_cons_self ..)).1
  have htR : ∀ p ∈ tup ++ R, p.1 ≠ np := fun q hq => (List.mem_append.mp hq).elim (fun hq => Ne.symm ((hoff (np, listOf vh.toArray cn) (List.mem_cons_self ..)).2 q hq)) (hRn q)
  have N2 : News _ _ _ ((np, listOf vh.toArray cn) :: (fl, listOf fs.toArray nf) :: (tup ++ R)) := drop_to N' fun q hq => by
    simp only [List.mem_cons, List.mem_append] at hq ⊢
    rcases hq with hq | hq | hq | hq <;> simp [hq]
  clear N'
  k_steps
  refine Halt.mk ?_
  refine For_turns (by k_asm) ?_
  k_steps
  refine Halt.mk ?_
  refine iter_listTurns (lo := listOf fs.toArray nf) (vs := fs) rfl (by k_asm) (by k_asm) (by k_mem) rfl rfl ?_
  intro I hI
  refine items_inv (fun i m' nw => ∃ vn nn, IntsAre vn (execL (heldL k) ((movesM (k : Int) ts.length (realM ts ss)).take i)) ∧ nw = (np, listOf vn.toArray nn) :: (fl, listOf fs.toArray nf) :: (tup ++ R) ∧ Over [Str.ofString "step"] _ m') (fun p hp b hb => by rw [List.map_cons, List.map_nil, List.mem_singleton] at hb; subst hb; exact Nat.ne_of_lt (hI p hp)) ⟨vh, cn, hIh', rfl, Over.refl⟩ ?_ ?_ ?_
  · rintro i m' nw ⟨vn, nn, _, rfl, _⟩
    k_subL
  · rintro i b m' nw v h tk its hx ⟨vn, nn, hvn, rfl, u, rfl⟩ hb F' N' off
    obtain ⟨T1, q, t0, ta, tb, n7, rfl, hq, hT⟩ := hsteps.at hx
    subst hb
    have hqr := move_range (P := fun x => 0 ≤ x ∧ x ≤ (k : Int)) (scr := (k : Int)) ⟨by omega, by omega⟩ ts.length (realM ts ss) (real_range ht hs) q (List.mem_of_getElem? hq)
    try dsimp only [envOf] at F' N'
    simp only [List.cons_append] at N'
    have hTn : @Ne Nat T1 np := htR _ (List.mem_append_left _ hT)
    have N3 := News.more N' (List.mem_cons_of_mem _ (List.mem_cons_of_mem _ (List.mem_append_left _ (List.mem_append_left _ hT))))
    have hA : ∀ p ∈ tup ++ R ++ its, p.1 ≠ np := fun z hz => (List.mem_append.mp hz).elim (htR z) fun hz => Ne.symm (off (np, listOf vn.toArray nn) (List.mem_cons_self ..) z hz)
    clear N'
    have hvl : vn.length = k + 1 := by rw [hvn.length, execL_length, hHl]
    k_steps
    refine Halt.mk ?_
    refine' set_ints (n := nn) ?k1 ?k2 ?k3 hvn hqr.1.1 ?k5 ?k6 ?_
    case k1 => k_asm
    case k2 => k_asm
    case k3 => k_upd
    case k5 =>
      rw [execL_length, hHl]
      omega
    case k6 => omega
    intro h9 F9 N9 i9
    k_steps
    refine TurnE.intro (by k_asm) (drop_to N9 fun z hz => List.mem_cons_of_mem _ hz) (off_same (by rfl) off) ⟨_, nn, ?_, rfl, by walk_at "over"⟩
    rw [List.take_add_one, hq]
    exact (execL_snoc (ns := heldL k)) ▸ i9
  · rintro m' nw h tk ⟨vn, nn, hvn, rfl, u, rfl⟩ F' N'
    try dsimp only [envOf] at F' N'
    try dsimp only
    have hfl : fs.length = (movesM (k : Int) ts.length (realM ts ss)).length := hsteps.length
    rw [List.length_map, hfl, List.take_length] at hvn
    have N2 : News _ _ _ ((np, listOf vn.toArray nn) :: (fl, listOf fs.toArray nf) :: (hp, listOf vh.toArray 0) :: news) := drop_to N' fun q hq => by
      rw [← hR]
      simp only [List.mem_cons, List.mem_append] at hq ⊢
      rcases hq with hq | hq | hq | hq <;> simp [hq]
    clear N'
    k_steps
    refine Halt.mk ?_
    rename_i d1 vd _ hId _ _ _ _ _ l1d dq cd _ _ _ _ _ l1q _ _ _
    rw [Int.toNat_natCast] at hId
    refine For_turns (by k_asm) ?_
    k_steps
    refine Halt.mk ?_
    refine ktu_zip (lo1 := listOf vt.toArray n1) (lo2 := listOf vs.toArray n2) (news := (dq, listOf vd.toArray cd) :: (np, listOf vn.toArray nn) :: (fl, listOf fs.toArray nf) :: (hp, listOf vh.toArray 0) :: news) rfl (by k_asm) (by walk_at "ledger") (by k_mem) rfl rfl (by k_mem) rfl rfl ?_
    intro I2 hI2
    refine items_inv (fun i m' nw => ∃ vv n8, IntsAre vv (dueL (heldL k) ((heldL k).take k) ((ts.zip ss).take i)) ∧ nw = (dq, listOf vv.toArray n8) :: (np, listOf vn.toArray nn) :: (fl, listOf fs.toArray nf) :: (hp, listOf vh.toArray 0) :: news ∧ Over [Str.ofString "target", Str.ofString "source"] _ m')
      (fun p hp b hb => by
        have hlt : @LT.lt Nat _ p.1 I2 := hI2 p hp
        have hb' : b = I2 + 4 ∨ b = I2 + 2 ∨ b = I2 + 3 ∨ b = I2 ∨ b = I2 + 1 := by simpa using hb
        show @Ne Nat p.1 b
        rcases hb' with rfl | rfl | rfl | rfl | rfl <;> omega) ⟨vd, cd, hId, rfl, Over.refl⟩ ?_ ?_ ?_
    · rintro i m' nw ⟨vv, n8, _, rfl, _⟩
      k_subL
    · rintro i b m' nw v h tk its hx ⟨vv, n8, hvv, rfl, u, rfl⟩ hb F' N' off
      obtain ⟨q, t, t', hq, rfl⟩ := zip_itm i1 i2 hx
      obtain ⟨T9, t9, rfl, hT⟩ := hb
      have hqz := List.mem_of_getElem? hq
      obtain ⟨hz1, hz2⟩ := List.of_mem_zip (a := q.1) (b := q.2) hqz
      have hq1 := ht _ hz1
      have hq2 := hs _ hz2
      have hvl : vv.length = k := by
        rw [hvv.length, dueL_length, List.length_take, hHl]
        omega
      have hA : ∀ p ∈ news ++ its, p.1 ≠ dq := fun z hz => (List.mem_append.mp hz).elim (fun hz => ne_of_allLt l1q z hz) fun hz => Ne.symm (off (dq, listOf vv.toArray n8) (List.mem_cons_self ..) z hz)
      try dsimp only [envOf] at F' N'
      simp only [List.cons_append] at N'
      k_steps
      refine Halt.mk ?_
      refine' set_ints (n := n8) ?k1 ?k2 ?k3 hvv hq1.1 ?k5 ?k6 ?_
      case k1 => k_asm
      case k2 => k_asm
      case k3 => k_upd
      case k5 =>
        rw [dueL_length, List.length_take, hHl]
        omega
      case k6 => omega
      intro h9 F9 N9 i9
      k_steps
      refine TurnE.intro (by k_asm) (by k_asm) (off_same (by rfl) off) ⟨_, n8, ?_, rfl, by walk_at "over"⟩
      rw [List.take_add_one, hq]
      exact (dueL_snoc (held := heldL k) (ns := (heldL k).take k)) ▸ i9
    · rintro m' nw h tk ⟨vv, n8, hvv, rfl, u, rfl⟩ F' N'
      try dsimp only [envOf] at F' N'
      try dsimp only
      have hfin : (ts.zip ss).take (zipItems vt vs).length = ts.zip ss := by
        rw [zipItems_length, i1.length, i2.length]
        exact List.take_of_length_le (by rw [List.length_zip]; exact Nat.le_refl _)
      rw [hfin] at hvv
      have stopper : Stopper := trivial
      k_steps
      refine Halt.mk ?_
      k_dflt (refine rings_ok (by k_asm) (by k_asm) (by k_asm) (by k_asm) (by k_mem) (by k_mem) i1 i2 hnd hlen hlen2 (by k_asm) rfl (by ktr_room) (by ktr_units) ?_)
      intro met nr tr h' tk' hrings F' N'
      k_steps
      refine Halt.mk ?_
      refine zcomp (fun p => !decide (p.1 = p.2)) (by k_asm) (by with_unfolding_all rfl) (by decide) (by rfl) (by decide) (by rfl) (by rfl) (by decide) ?_
      k_steps
      refine Halt.mk ?_
      refine zip_make (by k_asm) (by k_asm) (by k_mem) (by k_mem) ?_
      intro z9 h' F' N' Z
      refine ⟨z9, tl, sl, vt, vs, ts, ss, _, rfl, rfl, F', N', Z, i1, i2, hlen, ?_, ?_, ?_⟩
      · intro x y t t' C oC m₂ h tk E' hC hx hy F' N'
        k_steps
      · intro x y t t' C oC m₂ h tk E' hC hx hy F' N'
        k_steps
      · intro D h tk ys F' N' hD hys
        have hcl : ((ts.zip ss).filter fun p => !decide (p.1 = p.2)).length ≤ 100 := by
          refine Nat.le_trans (List.length_filter_le _ _) ?_
          rw [List.length_zip]
          omega
        k_steps
        refine KM.len_K (by k_asm) (by k_mem) (by exact hys) (by omega) ?_
        obtain ⟨hP1, hP2, hP3⟩ := right_law (k := k) hnd hlen2 ht hs hrings
        have hE := execL_length (movesM (k : Int) ts.length (realM ts ss)) (heldL k)
        have hU := dueL_length (held := heldL k) (ts.zip ss) ((heldL k).take k)
        have hml := moves_length (k : Int) ts.length (realM ts ss)
        rw [hHl] at hE
        rw [List.length_take, hHl] at hU
        generalize he : execL (heldL k) (movesM (k : Int) ts.length (realM ts ss)) = eL at hvn hE hP1 hP3
        generalize hu' : dueL (heldL k) ((heldL k).take k) (ts.zip ss) = uL at hvv hU hP1
        generalize hst' : movesM (k : Int) ts.length (realM ts ss) = st at he hfl hml hsteps hP2
        have hEv : vn.length = k + 1 := by rw [hvn.length, hE]
        have hUv : vv.length = k := by rw [hvv.length, hU]; omega
        have hfl2 : fs.length ≤ 200 := by omega
        k_steps
        · refine KM.len_K (n := st.length) (by k_asm) (by k_mem) (by rw [List.size_toArray]; exact hfl) (by omega) ?_
          k_steps
          · have hb : ((eL.getD (k : Int).toNat 0 != 7) == decide (0 < (nr : Int))) = true := by
              rw [Int.toNat_natCast]
              by_cases h0 : nr = 0
              · rw [hP3.mpr h0, h0]
                rfl
              · have h7 : ¬ eL.getD k 0 = 7 := fun e => h0 (hP3.mp e)
                have h1 : (0 : Int) < (nr : Int) := by omega
                rw [decide_eq_true h1]
                simpa using h7
            rw [hb]
            exact ret _ _ (by k_asm) (by walk_at "ledger")
          · have ha : ¬ (st.length : Int) = (((ts.zip ss).filter fun p => !decide (p.1 = p.2)).length : Int) + (nr : Int) := by assumption
            exact absurd (by omega) ha
        · have ha : ¬ List.take (k : Int).toNat eL = uL := by assumption
          exact absurd (by rw [Int.toNat_natCast]; exact hP1) ha
end
end Mine
namespace Mine
section
variable {prog : Program} {w : World} {A : Around} {E : Value → Shared → Prop} {s : Shared} {env : Env} {h₀ : Heap} {body : List Stmt} {Q : Flow → Shared → Prop}
/-- a for over a range, by the entry of the general turns -/
theorem iter_rangeTurns {x : Str} {px : Pos} {r : Addr} {b : Int} {t u v : Tok} {n : Nat} {m₀ : Str → Option Value} {news : List (Addr × Obj)}
    (hh : A.handled = none) (hr : IsRange s.heap r 0 b 1 t u v) (hsmall : Builtin.Range.small 0 b 1 = true) (hn : Builtin.Range.rangeSize 0 b 1 = (n : Int)) (F : Fr h₀ env.locals s.heap m₀) (N : News h₀ env.locals s.heap news)
    (rest₀ : ∀ I : Addr, (∀ p ∈ news, p.1 < I) → ItemsRest prog w A E h₀ env (.Name x px) body Q s [(I, "range_iterator")] [] ((List.range n).map fun (i : Nat) => Itm.tok (Value.int (i : Int))) m₀ news) :
    wpAny (model prog w) A (pyIter (.ref r)) (fun it s₂ => TurnsAt prog w A h₀ env (.Name x px) body Q E it s₂) E s := by
  refine wpAny_pyIter_range hr hsmall ?_
  refine ktu_core (tk0 := s.toks) (keep := []) (KTurns.ofWalks ((Walks.range hh s.heap.objs.size 0 1 n).bound) fun i v s Q E st q => wpAny_pure q) (by simp) ?_ (fun i h st => ?_) (fun b hb => ?_) (fun b hb => by simpa using hb) (fun b hb => ?_) ?_ (fun p hp hI => ?_) ?_ (F.push _) (fun p hp => ⟨Heap.get?_push_of_some _ (N p hp).1, (N p hp).2⟩) trivial (rest₀ _ fun p hp => Heap.lt_size (N p hp).1)
  · rintro i v h ⟨hi, t, rfl⟩
    refine ⟨Itm.tok (Value.int (i : Int)), by simp [hi], t, by simp⟩
  · exact ⟨[(s.heap.objs.size, _)], ⟨⟨rfl, rfl⟩, trivial⟩, fun p hp => by rw [List.mem_singleton.mp hp]; exact st⟩
  · have hb' : b = s.heap.objs.size := by simpa using hb
    rw [hb']
    exact ⟨List.mem_cons_self .., next_is_new F⟩
  · exact .inl (by simpa using hb)
  · intro hI
    exact absurd F.ns.lt ((List.mem_singleton.mp hI) ▸ Nat.lt_irrefl _)
  · exact absurd (Heap.lt_size (N p hp).1) ((List.mem_singleton.mp hI) ▸ Nat.lt_irrefl _)
  · show IsRangeIter _ _ _ _ _
    rw [hn]
    simpa using Heap.get?_push_size _ rfl
theorem range_itm {n i : Nat} {b : Itm} (h : ((List.range n).map fun (i : Nat) => Itm.tok (Value.int (i : Int)))[i]? = some b) : i < n ∧ b = Itm.tok (Value.int (i : Int)) := by
  rw [List.getElem?_map] at h
  by_cases hi : i < n
  · rw [List.getElem?_range hi] at h
    exact ⟨hi, (Option.some.inj h).symm⟩
  · rw [List.getElem?_eq_none (by simpa using hi)] at h
    cases h
theorem cut_at : ∀ {l : List Value} {k : Nat} {y : Value}, l[k]? = some y → kl_cut l k = some (l.take k, y, l.drop (k + 1))
  | [], _, _, h => by simp at h
  | x :: r, 0, y, h => by
    simp at h
    subst h
    rfl
  | x :: r, k + 1, y, h => by
    have := cut_at (l := r) (k := k) (y := y) (by simpa using h)
    show (match kl_cut r k with | some (p, y, q) => some (x :: p, y, q) | none => none) = _
    rw [this]
    rfl
theorem ints_cut : ∀ {vs : List Value} {ns : List Int}, IntsAre vs ns → ∀ {k : Nat}, k < ns.length → ∃ t, vs[k]? = some (.int (ns.getD k 0) t) ∧ IntsAre (vs.take k ++ vs.drop (k + 1)) (ns.take k ++ ns.drop (k + 1))
  | _, _, .nil, k, h => by simp at h
  | _, _, .cons n t h, 0, _ => ⟨t, by simp, by simpa using h⟩
  | _, _, .cons n t h, k + 1, hk => by
    obtain ⟨t', e, h'⟩ := ints_cut h (k := k) (by simpa using hk)
    exact ⟨t', by simpa using e, .cons n t h'⟩
theorem pop_ints {L D : Addr} {m : Str → Option Value} {news news' : List (Addr × Obj)} {vs : List Value} {ns : List Int} {n : Nat} {k : Int} {u : Tok} {Q : Value → Shared → Prop}
    (F : Fr h₀ L s.heap m) (N : News h₀ L s.heap news) (U : Upd D (listOf vs.toArray n) (listOf (vs.take k.toNat ++ vs.drop (k.toNat + 1)).toArray (n + 1)) news news') (hb : IntsAre vs ns) (h0 : 0 ≤ k) (h1 : k < ns.length) (hz : ns.length ≤ 100)
    (h : ∀ h' t, Fr h₀ L h' m → News h₀ L h' news' → IntsAre (vs.take k.toNat ++ vs.drop (k.toNat + 1)) (ns.take k.toNat ++ ns.drop (k.toNat + 1)) → Q (.int (ns.getD k.toNat 0) t) { s with heap := h' }) :
    wpAny (model prog w) A (call (.builtin "list.pop") [.ref D, .int k u]) Q E s := by
  obtain ⟨t, e, hc⟩ := ints_cut hb (k := k.toNat) (by omega)
  have hl := hb.length
  refine kl_popAt (k := k.toNat) (p := vs.take k.toNat) (q := vs.drop (k.toNat + 1)) (y := .int (ns.getD k.toNat 0) t) F N ?_ ?_ (cut_at e) U ?_ fun h' F' N' => h h' t F' N' hc
  · unfold Builtin.List.listFitsIndex
    rw [Bool.and_eq_true, decide_eq_true_eq, decide_eq_true_eq]
    omega
  · unfold seqIndex?
    have hk : ¬ k < 0 := by omega
    simp only [hk, if_false]
    rw [if_pos]
    rw [Bool.and_eq_true, decide_eq_true_eq, decide_eq_true_eq, List.size_toArray]
    omega
  · show vs.length ≤ sizeLine
    rw [sizeLine_eq]
    omega
end
end Mine
namespace Mine
theorem pop_nodup {l t : List Int} {k : Nat} (hk : k < l.length) (h : (l ++ t).Nodup) : ((l.take k ++ l.drop (k + 1)) ++ (t ++ [l.getD k 0])).Nodup := by
  have e : l = l.take k ++ l.getD k 0 :: l.drop (k + 1) := by
    rw [List.getD_eq_getElem?_getD, List.getElem?_eq_getElem hk]
    show l = l.take k ++ l[k] :: l.drop (k + 1)
    rw [← List.drop_eq_getElem_cons hk, List.take_append_drop]
  have p : (l ++ t).Perm ((l.take k ++ l.drop (k + 1)) ++ (t ++ [l.getD k 0])) := by
    generalize l.getD k 0 = x at e
    generalize l.take k = a at e
    generalize l.drop (k + 1) = b at e
    subst e
    refine List.Perm.trans (l₂ := x :: (a ++ b ++ t)) ?_ ?_
    · rw [List.append_assoc, List.append_assoc]
      exact List.perm_middle
    · rw [← List.append_assoc]
      exact (List.perm_append_singleton x _).symm
  exact p.nodup_iff.mp h
theorem pop_mem {l t : List Int} {k : Nat} {P : Int → Prop} (hk : k < l.length) (h : ∀ x ∈ l ++ t, P x) : ∀ x ∈ (l.take k ++ l.drop (k + 1)) ++ (t ++ [l.getD k 0]), P x := by
  intro x hx
  rcases List.mem_append.mp hx with hx | hx
  · rcases List.mem_append.mp hx with hx | hx
    · exact h x (List.mem_append_left _ (List.mem_of_mem_take hx))
    · exact h x (List.mem_append_left _ (List.mem_of_mem_drop hx))
  · rcases List.mem_append.mp hx with hx | hx
    · exact h x (List.mem_append_right _ hx)
    · rw [List.mem_singleton] at hx
      subst hx
      rw [List.getD_eq_getElem?_getD, List.getElem?_eq_getElem hk]
      exact h _ (List.mem_append_left _ (List.getElem_mem hk))
theorem lt_of_allLt {d : Addr} : ∀ {l : List (Addr × Obj)}, AllLt d l → ∀ p ∈ l, @LT.lt Nat _ p.1 d
  | [], _, _, hp => nomatch hp
  | q :: _, h, p, hp => by
    rcases List.mem_cons.mp hp with rfl | hp
    · exact h.1
    · exact lt_of_allLt h.2 p hp
theorem ints_snoc {x : Int} {t : Tok} : ∀ {vs : List Value} {ns : List Int}, IntsAre vs ns → IntsAre (vs ++ [.int x t]) (ns ++ [x])
  | _, _, .nil => .cons x t .nil
  | _, _, .cons n t' h => .cons n t' (ints_snoc h)
theorem rangeKs_nodup (k : Nat) : (rangeKs 0 k).Nodup := by
  unfold rangeKs
  exact List.Pairwise.map _ (fun a b h => by omega) (List.nodup_range (n := k))
section
local macro_rules | `(tactic| walk_at "CompSrc") => `(tactic| (refine Halt.out ?_))
local macro_rules | `(tactic| walk_at "subscriptTail Name Slice ref ref") => `(tactic| ((have hStop' := (by assumption : Mine.Stopper)); clear hStop'; refine Halt.out ?_))
local macro_rules | `(tactic| walk_at "newList") => `(tactic| (refine Halt.out ?_))
local macro_rules | `(tactic| walk_at "off") => `(tactic| first | assumption | exact fun q hq => (hoff q hq).1 | (refine List.forall_mem_cons.mpr ⟨?_, ?_⟩; (· show @Ne Nat _ _; omega); walk_at "off"))
local macro_rules | `(tactic| walk_at "eval ListComp") => `(tactic| (refine Halt.out ?_))
local macro_rules | `(tactic| walk_at "call type:list") => `(tactic| (refine Halt.out ?_))
local macro_rules | `(tactic| walk_at "call ref") => `(tactic| (refine Halt.out ?_))
local macro_rules | `(tactic| walk_at "exec For Name Call cons nil") => `(tactic| (refine Halt.out ?_))
local macro_rules | `(tactic| walk_at "pyIter ref") => `(tactic| (refine Halt.out ?_))
local macro_rules | `(tactic| walk_at "call builtin:list.pop") => `(tactic| (refine Halt.out ?_))
set_option maxHeartbeats 1600000 in
theorem moves_ok {w : World} {p : Program} {loose : List Str} {mean : ExcName → Option Value} {mg mb : Str → Option Value}
    {dp un : Nat} {gd : Option (List Code)} {cn : Str} {cs : Scope} {a : Addr} {ccd : Value} {cl : List (Str × Addr)} {outer : List Env} {A₀ : Around} {base h₀ : Heap} {L : Addr} {m : Str → Option Value} {s : Shared}
    {Q E : Value → Shared → Prop} {many : Int} {dk it : Addr} {vs : List Value} {ns : List Int} {c : Int} {tc : Tok} {n0 n1 k : Nat} {tm : Tok} {rest : List (Addr × Obj)}
    (B : Below A₀ base outer h₀) (F : Fr h₀ L s.heap m) (X : (Mine.hd.heap_39 w.params).In h₀)
    (N : News h₀ L s.heap ((dk, listOf [Value.ref it, Value.int c tc].toArray n0) :: (it, listOf vs.toArray n1) :: rest))
    (T : Top p loose mean mg mb h₀) (hk : cs.kind = .function)
    (hne : it ≠ dk) (hrest : ∀ p ∈ rest, p.1 ≠ dk) (hi : IntsAre vs ns) (hlen : ns.length ≤ 40) (hc0 : 0 ≤ c) (hc1 : c ≤ 500) (hmany : many = (k : Int)) (hk1 : 2 ≤ k) (hk2 : k ≤ 6)
    (hd : dp + 3 < recursionLimit) (hu : un + 24 < cLine)
    (ret : ∀ T tl sl vt vs' ts ss nt n2 n3 c' tc' n0' h' tk', ts.Nodup → ts.length ≤ 100 → ss.length = ts.length → (∀ x ∈ ts, 0 ≤ x ∧ x < (k : Int)) → (∀ x ∈ ss, 0 ≤ x ∧ x < (k : Int)) → IntsAre vt ts → IntsAre vs' ss → c ≤ c' → c' ≤ c + 20 → Fr h₀ L h' m →
      News h₀ L h' ((T, ({ cls := .type "tuple", data := .seq [Value.ref tl, Value.ref sl].toArray nt } : Obj)) :: (tl, listOf vt.toArray n2) :: (sl, listOf vs'.toArray n3) :: (dk, listOf [Value.ref it, Value.int c' tc'].toArray n0') :: (it, listOf vs.toArray n1) :: rest) → Q (.ref T) { s with heap := h', toks := tk' }) :
    wpAny (model PySem.Challenge.pw_nt0157_01 w) (ktrTop dp un gd cn cs L a ccd cl outer) (call (.ref 87) [.ref dk, .int many tm]) Q E s := by
  subst hmany
  w_top off
  obtain ⟨sh, sg, sd, st, so⟩ := s
  dsimp only at F N ret
  refine wpAny_call ?_
  k_dflt (walk_at "my_enterC")
  rename_i g1 L1 _ _ _ _ _ _ _ lg1 lg2 lg3 o1 o2 d1 d2 N1
  k_steps
  refine Halt.mk ?_
  refine kll_range rfl (by k_asm) (by k_asm) (by assumption) (small_one (by omega) (by omega) (by omega) (by omega)) (rangeSize_nat _ _) (by omega) ?_
  intro ll vl0 cl0 h' tk' F' N' l1 hIl
  k_lt l1
  k_steps
  refine Halt.mk ?_
  k_dflt (refine' newList_K ?k1 ?k2 ?_; (case k1 => k_asm); (case k2 => k_asm))
  intro tl h' F' N' l1
  k_lt l1
  have ll_tl : @LT.lt Nat _ ll tl := by assumption
  have c1_ll : @LT.lt Nat _ (L1 + 1 + 1) ll := by assumption
  have dk_L : @LT.lt Nat _ dk L1 := by assumption
  have it_L : @LT.lt Nat _ it L1 := by assumption
  have hoff : ∀ p ∈ (L1 + 1 + 1, o1) :: (L1 + 1, o2) :: rest, @Ne Nat p.1 dk ∧ @LT.lt Nat _ p.1 ll := by
    refine List.forall_mem_cons.mpr ⟨⟨?_, by assumption⟩, List.forall_mem_cons.mpr ⟨⟨?_, ?_⟩, fun q hq => ⟨hrest q hq, ?_⟩⟩⟩
    · show @Ne Nat (L1 + 1 + 1) dk
      omega
    · show @Ne Nat (L1 + 1) dk
      omega
    · show @LT.lt Nat _ (L1 + 1) ll
      omega
    · have := lt_of_allLt lg3 q hq
      omega
  k_steps
  refine Halt.mk ?_
  refine For_turns (by k_asm) ?_
  k_steps
  refine Halt.mk ?_
  k_dflt (refine draw_ok (rest := (tl, listOf [].toArray 0) :: (ll, listOf vl0.toArray cl0) :: (L1 + 1 + 1, o1) :: (L1 + 1, o2) :: rest) (by k_asm) (by k_asm) (by k_asm) (by walk_at "ledger") (by k_asm) rfl hne (by walk_at "off") hi hlen hc0 (by omega) (by omega) (by omega) (by ktr_room) (by ktr_units) ?_)
  intro r tr t1 n0' h' tk' hr0 hr1 F' N'
  k_steps
  refine Halt.mk ?_
  have hIl' : IntsAre vl0 (rangeKs 0 k) := by
    have e : ((k : Int) - 0).toNat = k := by omega
    rw [e] at hIl
    exact hIl
  generalize hRR : (L1 + 1 + 1, o1) :: (L1 + 1, o2) :: rest = RR
  refine iter_rangeTurns (n := (1 + r - 0).toNat) (news := (dk, listOf [Value.ref it, Value.int (c + 1) t1].toArray n0') :: (it, listOf vs.toArray n1) :: (tl, listOf [].toArray 0) :: (ll, listOf vl0.toArray cl0) :: RR) rfl (by assumption) (small_one (by omega) (by omega) (by omega) (by omega)) (rangeSize_nat _ _) (by k_asm) (by subst hRR; k_asm) ?_
  intro I hI
  subst hRR
  refine items_inv (fun i m' nw => ∃ l t vl vT nl nT n7 c' t', IntsAre vl l ∧ IntsAre vT t ∧ l.length + i = k ∧ t.length = i ∧ (l ++ t).Nodup ∧ (∀ x ∈ l ++ t, 0 ≤ x ∧ x < (k : Int)) ∧ c' = c + 1 + (i : Int) ∧ nw = (dk, listOf [Value.ref it, Value.int c' t'].toArray n7) :: (it, listOf vs.toArray n1) :: (tl, listOf vT.toArray nT) :: (ll, listOf vl.toArray nl) :: (L1 + 1 + 1, o1) :: (L1 + 1, o2) :: rest ∧ Over [Str.ofString "turn"] _ m') (fun p hp b hb => by rw [List.map_cons, List.map_nil, List.mem_singleton] at hb; subst hb; exact Nat.ne_of_lt (hI p hp))
    ⟨rangeKs 0 k, [], vl0, [], cl0, 0, n0', c + 1, t1, hIl', .nil, by rw [rangeKs_length]; omega, rfl, by rw [List.append_nil]; exact rangeKs_nodup k, fun x hx => ?_, by omega, rfl, Over.refl⟩ ?_ ?_ ?_
  · rw [List.append_nil] at hx
    have := mem_rangeKs hx
    omega
  · rintro i m' nw ⟨l, t, vl, vT, nl, nT, n7, c', t', _, _, _, _, _, _, _, rfl, _⟩
    k_subL
  · rintro i b m' nw v h tk its hx ⟨l, t, vl, vT, nl, nT, n7, c', t', hvl, hvT, hll, htl, hnd, hrg, hc', rfl, u, rfl⟩ hb F' N' off
    obtain ⟨hin, rfl⟩ := range_itm hx
    obtain ⟨tv, rfl⟩ := hb
    have hik : i < k := by omega
    have hvll := hvl.length
    have hvTl := hvT.length
    try dsimp only [envOf] at F' N'
    simp only [List.cons_append] at N'
    have hRd : ∀ p ∈ rest ++ its, p.1 ≠ dk := fun z hz => (List.mem_append.mp hz).elim (hrest z) fun hz => Ne.symm (off (dk, listOf [Value.ref it, Value.int c' t'].toArray n7) (List.mem_cons_self ..) z hz)
    have hRl : ∀ p ∈ rest ++ its, p.1 ≠ ll := fun z hz => (List.mem_append.mp hz).elim (fun hz => Nat.ne_of_lt (hoff z (List.mem_cons_of_mem _ (List.mem_cons_of_mem _ hz))).2) fun hz => Ne.symm (off (ll, listOf vl.toArray nl) (by simp) z hz)
    have hRt : ∀ p ∈ rest ++ its, p.1 ≠ tl := fun z hz => (List.mem_append.mp hz).elim (fun hz => Nat.ne_of_lt (Nat.lt_trans (hoff z (List.mem_cons_of_mem _ (List.mem_cons_of_mem _ hz))).2 ll_tl)) fun hz => Ne.symm (off (tl, listOf vT.toArray nT) (by simp) z hz)
    k_steps
    refine Halt.mk ?_
    k_dflt (refine draw_ok (rest := (tl, listOf vT.toArray nT) :: (ll, listOf vl.toArray nl) :: (L1 + 1 + 1, o1) :: (L1 + 1, o2) :: (rest ++ its)) (by k_asm) (by k_asm) (by k_asm) (by walk_at "ledger") (by k_asm) rfl hne (by walk_at "off") hi hlen (by omega) (by omega) (by omega) (by omega) (by ktr_room) (by ktr_units) ?_)
    intro r2 tr2 t2 n8 h' tk' hr20 hr21 F' N'
    k_steps
    refine Halt.mk ?_
    refine' pop_ints (n := nl) ?k1 ?k2 ?k3 hvl hr20 ?k5 ?k6 ?_
    case k1 => k_asm
    case k2 => k_asm
    case k3 => k_upd
    case k5 => omega
    case k6 => omega
    intro h9 t9 F9 N9 i9
    k_steps
    refine TurnE.intro (nw' := (dk, listOf [Value.ref it, Value.int (c' + 1) t2].toArray n8) :: (it, listOf vs.toArray n1) :: (tl, listOf (vT ++ [Value.int (l.getD r2.toNat 0) t9]).toArray (nT + 1)) :: (ll, listOf (vl.take r2.toNat ++ vl.drop (r2.toNat + 1)).toArray (nl + 1)) :: (L1 + 1 + 1, o1) :: (L1 + 1, o2) :: rest) (by k_asm) (by simp only [List.push_toArray] at *; k_asm) (off_same (by rfl) off)
      ⟨l.take r2.toNat ++ l.drop (r2.toNat + 1), t ++ [l.getD r2.toNat 0], _, _, _, _, _, _, _, i9, ints_snoc hvT, ?_, by rw [List.length_append, htl]; rfl, pop_nodup (by omega) hnd, pop_mem (by omega) hrg, by omega, rfl, by walk_at "over"⟩
    rw [List.length_append, List.length_take, List.length_drop]
    omega
  · rintro m' nw h tk ⟨l, t, vl, vT, nl, nT, n7, c', t', hvl, hvT, hll, htl, hnd, hrg, hc', rfl, u, rfl⟩ F' N'
    try dsimp only [envOf] at F' N'
    try dsimp only
    rw [List.length_map, List.length_range] at htl hc'
    have hnt : t.Nodup := (List.nodup_append.mp hnd).2.1
    have hrt : ∀ x ∈ t, 0 ≤ x ∧ x < (k : Int) := fun x hx => hrg x (List.mem_append_right _ hx)
    have ht1 : 1 ≤ t.length := by omega
    have ht6 : t.length ≤ 6 := by omega
    have hvTl := hvT.length
    have hRd : ∀ p ∈ rest, p.1 ≠ dk := hrest
    k_steps
    refine Halt.mk ?_
    k_dflt (refine draw_ok (rest := (tl, listOf vT.toArray nT) :: (ll, listOf vl.toArray nl) :: (L1 + 1 + 1, o1) :: (L1 + 1, o2) :: rest) (by k_asm) (by k_asm) (by k_asm) (by walk_at "ledger") (by k_asm) rfl hne (by walk_at "off") hi hlen (by omega) (by omega) (by omega) (by omega) (by ktr_room) (by ktr_units) ?_)
    intro way tw t3 n9 h' tk' hw0 hw1 F' N'
    k_steps
    · refine ret _ tl _ vT _ t (t.drop 1 ++ t.take 1) _ _ _ _ _ _ _ _ hnt (by omega) ?_ hrt ?_ hvT (by assumption) ?_ ?_ (by k_asm) (by walk_at "ledger")
      · rw [List.length_append, List.length_drop, List.length_take]
        omega
      · intro x hx
        rcases List.mem_append.mp hx with hx | hx
        · exact hrt x (List.mem_of_mem_drop hx)
        · exact hrt x (List.mem_of_mem_take hx)
      · omega
      · omega
    · refine Halt.mk ?_
      k_dflt (refine draw_ok (rest := (tl, listOf vT.toArray nT) :: (ll, listOf vl.toArray nl) :: (L1 + 1 + 1, o1) :: (L1 + 1, o2) :: rest) (by k_asm) (by k_asm) (by k_asm) (by walk_at "ledger") (by k_asm) rfl hne (by walk_at "off") hi hlen (by omega) (by omega) (by omega) (by omega) (by ktr_room) (by ktr_units) ?_)
      intro at1 ta1 t4 n10 h' tk' ha0 ha1 F' N'
      have stopper : Stopper := trivial
      k_steps
      refine Halt.mk ?_
      refine kmk_slice_ints (ns := t) (by k_asm) (by k_asm) (News.isList (by k_asm) (by k_mem)) (IsPart.int _ _) (IsPart.int _ _) hvT (kmk_run hvT (by omega) (by omega)) rfl ?_ (by with_unfolding_all rfl) (by intro _; with_unfolding_all rfl) (by rw [List.size_toArray, sizeLine_eq]; omega)
      intro D1 w1 h' F' N' l1 hI1 hC1 hL1
      k_lt l1
      k_steps
      refine Halt.mk ?_
      refine kmk_slice_ints (ns := t) (by k_asm) (by k_asm) (News.isList (by k_asm) (by k_mem)) IsPart.none (IsPart.int _ _) hvT (kmk_upto hvT (by omega)) rfl ?_ (by with_unfolding_all rfl) (by intro _; with_unfolding_all rfl) (by rw [List.size_toArray, sizeLine_eq]; omega)
      intro D2 w2 h' F' N' l1 hI2 hC2 hL2
      k_lt l1
      k_steps
      refine Halt.mk ?_
      refine kmk_slice_ints (ns := t) (by k_asm) (by k_asm) (News.isList (by k_asm) (by k_mem)) (IsPart.int _ _) IsPart.none hvT (kmk_from hvT (by omega)) rfl ?_ (by with_unfolding_all rfl) (by intro _; with_unfolding_all rfl) (by rw [List.size_toArray, sizeLine_eq]; omega)
      intro D3 w3 h' F' N' l1 hI3 hC3 hL3
      k_lt l1
      k_steps
      refine Halt.mk ?_
      refine krv_ints (ns := t.drop (at1 + 1).toNat) (by k_asm) (by k_asm) (News.isList (by k_asm) (by k_mem)) (IsPart.int _ _) hI3 ?_ (by with_unfolding_all rfl) (by intro _; with_unfolding_all rfl) (by rw [List.size_toArray, sizeLine_eq, hI3.length]; omega)
      intro D4 w4 h' F' N' l1 hI4 hC4
      k_lt l1
      k_steps
      refine ret _ tl _ vT _ t (List.take (min (at1 + 1).toNat t.length - Int.toNat 1) (List.drop (Int.toNat 1) t) ++ List.take (Int.toNat 1) t ++ (List.drop (at1 + 1).toNat t).reverse) _ _ _ _ _ _ _ _ hnt (by omega) ?_ hrt ?_ hvT (by assumption) ?_ ?_ (by k_asm) (by walk_at "ledger")
      · rw [List.length_append, List.length_append, List.length_take, List.length_drop, List.length_take, List.length_reverse, List.length_drop]
        have e1 : Int.toNat 1 = 1 := rfl
        rw [e1]
        omega
      · intro x hx
        rcases List.mem_append.mp hx with hx | hx
        · rcases List.mem_append.mp hx with hx | hx
          · exact hrt x (List.mem_of_mem_drop (List.mem_of_mem_take hx))
          · exact hrt x (List.mem_of_mem_take hx)
        · exact hrt x (List.mem_of_mem_drop (List.mem_reverse.mp hx))
      · omega
      · omega
    · refine Halt.mk ?_
      refine LCg.ListComp_U (F₀ := by k_asm) (by with_unfolding_all rfl) (by decide) (by rfl) (by decide) (by rfl) ?_
      k_steps
      refine Halt.mk ?_
      refine LCg.CompSrc.ledger (its := vT.toArray) (k := nT) (news := (dk, listOf [Value.ref it, Value.int (c' + 1) t3].toArray n9) :: (it, listOf vs.toArray n1) :: (tl, listOf vT.toArray nT) :: (ll, listOf vl.toArray nl) :: (L1 + 1 + 1, o1) :: (L1 + 1, o2) :: rest) rfl (by k_asm) (by k_asm) (by k_mem) (by rw [List.size_toArray, sizeLine_eq]; omega) ?_
      intro g
      refine compRest_inv (n := vT.toArray.size) (fun i ys nw => ∃ zs n11 t5, IntsAre ys zs ∧ zs.length = i ∧ (∀ x ∈ zs, 0 ≤ x ∧ x < (k : Int)) ∧ nw = (dk, listOf [Value.ref it, Value.int (c' + 1 + (i : Int)) t5].toArray n11) :: (it, listOf vs.toArray n1) :: (tl, listOf vT.toArray nT) :: (ll, listOf vl.toArray nl) :: (L1 + 1 + 1, o1) :: (L1 + 1, o2) :: rest) ?_ ?_ _ 0 [] _ (Nat.zero_add _) ⟨[], n9, t3, .nil, rfl, fun x hx => (nomatch hx), by simp⟩
      · rintro i ys nw v I2 oI C2 oC D2 m₂ h tk E' hi' ⟨zs, n11, t5, hys, hzl, hzr, rfl⟩ hv hC hx F' N' off2 ne2
        have hi6 : i < t.length := by
          rw [List.size_toArray] at hi'
          omega
        simp only [LCg.Off3] at off2
        obtain ⟨⟨f1, f2, f3⟩, f4⟩ := off2
        k_steps
        refine Halt.mk ?_
        k_dflt (refine draw_ok (rest := (I2, oI) :: (C2, oC) :: (D2, LCg.lst ys) :: (tl, listOf vT.toArray nT) :: (ll, listOf vl.toArray nl) :: (L1 + 1 + 1, o1) :: (L1 + 1, o2) :: rest) (by k_asm) (by k_asm) (by k_asm) (by walk_at "ledger") (by k_asm) rfl hne (by walk_at "off") hi hlen (by omega) (by omega) (by omega) (by omega) (by ktr_room) (by ktr_units) ?_)
        intro r6 tr6 t6 n12 h' tk' hr60 hr61 F' N'
        k_steps
        refine LCg.CompEnd.intro (by k_asm) (by k_asm) ((dk, listOf [Value.ref it, Value.int (c' + 1 + (i : Int) + 1) t6].toArray n12) :: (it, listOf vs.toArray n1) :: (tl, listOf vT.toArray nT) :: (ll, listOf vl.toArray nl) :: (L1 + 1 + 1, o1) :: (L1 + 1, o2) :: rest) (by walk_at "sub") ⟨⟨f1, f2, f3⟩, f4⟩ (.inr ⟨_, by k_mem, rfl, _, rfl⟩) ⟨zs ++ [r6], n12, t6, ints_snoc hys, by rw [List.length_append, hzl]; rfl, fun x hx => ?_, ?_⟩
        · rcases List.mem_append.mp hx with hx | hx
          · exact hzr x hx
          · rw [List.mem_singleton] at hx
            subst hx
            exact ⟨hr60, hr61⟩
        · have e : c' + 1 + (i : Int) + 1 = c' + 1 + ((i + 1 : Nat) : Int) := by omega
          rw [e]
      · rintro ys nw ⟨zs, n11, t5, hys, hzl, hzr, rfl⟩
        intro D5 h5 tk5 F' N' hoff5
        have hsz : vT.toArray.size = t.length := by rw [List.size_toArray]; exact hvTl
        k_steps
        refine ret _ tl D5 vT ys t zs _ _ _ _ _ _ _ _ hnt (by omega) (by omega) hrt hzr hvT hys ?_ ?_ (by k_asm) (by walk_at "ledger")
        · omega
        · omega
end
end Mine
namespace Mine
theorem ints_reads {h : Heap} : ∀ {vs : List Value} {ns : List Int}, IntsAre vs ns → ReadsAll h vs (ns.map PyData.int) []
  | _, _, .nil => .nil
  | _, _, .cons n t r => ReadsAll.cons (as := []) (bs := []) (.int n t) (ints_reads r)
theorem six {x : Int} (h : 0 ≤ x ∧ x < 6) : x = 0 ∨ x = 1 ∨ x = 2 ∨ x = 3 ∨ x = 4 ∨ x = 5 := by omega
theorem small_leaves : ∀ {ns : List Int}, (∀ x ∈ ns, 0 ≤ x ∧ x < 6) → PyData.leavesShortAll 8 (ns.map PyData.int) = true
  | [], _ => rfl
  | x :: ns, h => by
    have hx := six (h x (.head _))
    have ih := small_leaves (ns := ns) fun y hy => h y (.tail _ hy)
    rw [List.map_cons, PyData.leavesShortAll, ih, Bool.and_true]
    rcases hx with rfl | rfl | rfl | rfl | rfl | rfl <;> decide +kernel
theorem small_weight : ∀ {ns : List Int}, (∀ x ∈ ns, 0 ≤ x ∧ x < 6) → PyData.weightAll (ns.map PyData.int) ≤ 4 * ns.length
  | [], _ => Nat.le_refl _
  | x :: ns, h => by
    have hx := six (h x (.head _))
    have ih := small_weight (ns := ns) fun y hy => h y (.tail _ hy)
    rw [List.map_cons, PyData.weightAll, List.length_cons]
    have e : PyData.weight (PyData.int x) ≤ 3 := by
      rcases hx with rfl | rfl | rfl | rfl | rfl | rfl <;> decide +kernel
    omega
theorem small_show : ∀ {ns : List Int}, (∀ x ∈ ns, 0 ≤ x ∧ x < 6) → PyData.showableAll (ns.map PyData.int) = true
  | [], _ => rfl
  | x :: ns, h => by
    have hx := six (h x (.head _))
    have ih := small_show (ns := ns) fun y hy => h y (.tail _ hy)
    rw [List.map_cons, PyData.showableAll, ih, Bool.and_true]
    rcases hx with rfl | rfl | rfl | rfl | rfl | rfl <;> decide +kernel
theorem ints_noDict : ∀ ns : List Int, PyData.hasDictAll (ns.map PyData.int) = false
  | [] => rfl
  | x :: ns => by
    rw [List.map_cons, PyData.hasDictAll, ints_noDict ns]
    rfl
theorem ints_depth : ∀ ns : List Int, PyData.depthAll (ns.map PyData.int) = 0
  | [] => rfl
  | x :: ns => by
    rw [List.map_cons, PyData.depthAll, ints_depth ns]
    rfl
/-- the text that repr makes of two lists of ints in one -/
def twoShown (ts ss : List Int) : Str := PyData.shown (.list [.list (ts.map PyData.int), .list (ss.map PyData.int)])
theorem repr_two {prog : Program} {w : World} {A : Around} {E : Value → Shared → Prop} {s : Shared} {h₀ : Heap} {L D tl sl : Addr} {m : Str → Option Value} {news : List (Addr × Obj)} {vt vs : List Value} {ts ss : List Int} {n1 n2 n3 : Nat} {Q : Value → Shared → Prop}
    (F : Fr h₀ L s.heap m) (N : News h₀ L s.heap news) (m0 : (D, listOf [Value.ref tl, Value.ref sl].toArray n3) ∈ news) (m1 : (tl, listOf vt.toArray n1) ∈ news) (m2 : (sl, listOf vs.toArray n2) ∈ news) (i1 : IntsAre vt ts) (i2 : IntsAre vs ss)
    (ht : ∀ x ∈ ts, 0 ≤ x ∧ x < 6) (hs : ∀ x ∈ ss, 0 ≤ x ∧ x < 6) (hl1 : ts.length ≤ 100) (hl2 : ss.length ≤ 100) (hg : A.guards = some []) (hu : A.units + 3 < cLine)
    (h : ∀ h' u tk, Fr h₀ L h' m → News h₀ L h' news → Q (.str (twoShown ts ss) u) { s with heap := h', toks := tk }) :
    wpAny (model prog w) A (call (.builtin "repr") [.ref D]) Q E s := by
  have r1 : Reads s.heap (.ref tl) (.list (ts.map PyData.int)) [tl] := .list (N _ m1).1 rfl rfl (ints_reads i1)
  have r2 : Reads s.heap (.ref sl) (.list (ss.map PyData.int)) [sl] := .list (N _ m2).1 rfl rfl (ints_reads i2)
  have r : Reads s.heap (.ref D) (.list [.list (ts.map PyData.int), .list (ss.map PyData.int)]) (D :: ([tl] ++ ([sl] ++ []))) := .list (N _ m0).1 rfl rfl (.cons r1 (.cons r2 .nil))
  have hd : (PyData.list [.list (ts.map PyData.int), .list (ss.map PyData.int)]).hasDict = false := by
    simp only [PyData.hasDict, PyData.hasDictAll, ints_noDict, Bool.or_false]
  refine repr_of_reads' r ?_ (PyData.noDict_hsm hd) hg ?_ (fun _ _ e => e) (fun h' u tk hk => h h' u tk (F.keeps hk) (N.grown hk)) (PyData.shown_fits (B := 8) (by decide) (by decide) ?_ ?_)
  · simp only [PyData.showable, PyData.showableAll, small_show ht, small_show hs, Bool.and_true]
  · simp only [PyData.depth, PyData.depthAll, ints_depth]
    exact hu
  · simp only [PyData.leavesShort, PyData.leavesShortAll, small_leaves ht, small_leaves hs, Bool.and_true]
  · have e1 := small_weight ht
    have e2 := small_weight hs
    simp only [PyData.weight, PyData.weightAll]
    omega
end Mine
namespace Mine
theorem two_of {h₀ h : Heap} {L : Addr} {p q : Addr × Obj} {r : List (Addr × Obj)} (N : News h₀ L h (p :: q :: r)) : News h₀ L h [p, q] := fun z hz => N z (by
  rcases List.mem_cons.mp hz with rfl | hz
  · exact List.mem_cons_self ..
  · rw [List.mem_singleton] at hz
    subst hz
    exact List.mem_cons_of_mem _ (List.mem_cons_self ..))
end Mine
section
local macro_rules | `(tactic| walk_at "call builtin:repr") => `(tactic| (refine Mine.Halt.out ?_))
local macro_rules | `(tactic| walk_at "call ref") => `(tactic| (refine Mine.Halt.out ?_))
local macro_rules | `(tactic| walk_at "exec For Name Call cons nil") => `(tactic| (refine Mine.Halt.out ?_))
local macro_rules | `(tactic| walk_at "pyIter ref") => `(tactic| (refine Mine.Halt.out ?_))
set_option maxHeartbeats 1600000 in
theorem PySem.Challenge.cw_nt0157_01_holds : PySem.Challenge.rw_nt0157_01.Holds := by
  exact Mine.hd (by
    w_top off
    k_go0
    (all_goals try k_fold)
    k_steps
    refine Mine.Halt.mk ?_
    rename_i d1 c1 _ _ it0 vs0 _ hI0 hC0 hL0 _ dk _ hl1 hl2 _ F1 N1
    have hlen0 := hC0
    generalize hns : List.take 40 _ = ns0 at hI0 hC0 hL0 hlen0
    have hlen0 : ns0.length ≤ 40 := by omega
    have hne : @Ne Nat it0 dk := Nat.ne_of_lt hl1
    refine For_turns (by k_asm) ?_
    k_steps
    refine Mine.Halt.mk ?_
    refine Mine.iter_rangeTurns (n := 2) rfl (by assumption) (by decide) rfl (by k_asm) (Mine.two_of (by k_asm)) ?_
    intro I hI
    refine Mine.items_inv (fun i m' nw => ∃ c' t' n', 0 ≤ c' ∧ c' ≤ 30 * (i : Int) ∧ nw = [(dk, PySem.W.listOf [Value.ref it0, Value.int c' t'].toArray n'), (it0, PySem.W.listOf vs0.toArray 0)] ∧ Mine.Over [Str.ofString "turn", Str.ofString "many", Str.ofString "targets", Str.ofString "sources", Str.ofString "shown"] _ m') (fun p hp b hb => by rw [List.map_cons, List.map_nil, List.mem_singleton] at hb; subst hb; exact Nat.ne_of_lt (hI p hp)) ⟨0, _, 0, by omega, by omega, rfl, Mine.Over.refl⟩ ?_ ?_ ?_
    · rintro i m' nw ⟨c', t', n', _, _, rfl, _⟩
      trivial
    · rintro i b m' nw v h tk its hx ⟨c', t', n', hc0, hc1, rfl, u, rfl⟩ hb F' N' off
      obtain ⟨hin, rfl⟩ := Mine.range_itm hx
      obtain ⟨tv, rfl⟩ := hb
      try dsimp only [envOf] at F' N'
      simp only [List.cons_append, List.nil_append] at N'
      have hits : ∀ p ∈ its, p.1 ≠ dk := fun z hz => Ne.symm (off (dk, _) (List.mem_cons_self ..) z hz)
      k_steps
      refine Mine.Halt.mk ?_
      k_dflt (refine Mine.draw_ok (rest := its) (by k_asm) (by k_asm) (by k_asm) (by k_asm) (by k_asm) rfl hne hits hI0 hlen0 hc0 (by omega) (by omega) (by omega) (by ktr_room) (by ktr_units) ?_)
      intro r tr t1 n1 h' tk' hr0 hr1 F' N'
      obtain ⟨k, hk⟩ := Int.eq_ofNat_of_zero_le (a := 2 + r) (by omega)
      k_steps
      refine Mine.Halt.mk ?_
      k_dflt (refine Mine.moves_ok (k := k) (rest := its) (by k_asm) (by k_asm) (by k_asm) (by k_asm) (by k_asm) rfl hne hits hI0 hlen0 (by omega) (by omega) hk (by omega) (by omega) (by ktr_room) (by ktr_units) ?_)
      intro T1 tl sl vt vs ts ss nt n2 n3 c2 t2 n4 h' tk' hnd hl100 hl2 hrt hrs hvt hvs hcl hch F' N'
      have h6 : ∀ x : Int, 0 ≤ x ∧ x < (k : Int) → 0 ≤ x ∧ x < 6 := fun x hx => ⟨hx.1, by omega⟩
      k_steps
      refine Mine.Halt.mk ?_
      refine Mine.repr_two (by k_asm) (by k_asm) (by k_mem) (by k_mem) (by k_mem) hvt hvs (fun x hx => h6 x (hrt x hx)) (fun x hx => h6 x (hrs x hx)) hl100 (by omega) (by first | rfl | k_asm) (by ktr_units) ?_
      intro h' u2 tk' F' N'
      k_steps
      refine Mine.Halt.mk ?_
      k_dflt (refine Mine.right_ok (k := k) (by k_asm) (by k_asm) (by k_asm) (by k_asm) (by k_mem) (by k_mem) hvt hvs hnd hl100 hl2 hk (by omega) (by omega) hrt hrs (by k_asm) rfl (by ktr_room) (by ktr_units) ?_)
      intro h' tk' F' N'
      k_steps
      refine Mine.Halt.mk ?_
      refine Mine.repr_two (by k_asm) (by k_asm) (by k_mem) (by k_mem) (by k_mem) hvt hvs (fun x hx => h6 x (hrt x hx)) (fun x hx => h6 x (hrs x hx)) hl100 (by omega) (by first | rfl | k_asm) (by ktr_units) ?_
      intro h' u3 tk' F' N'
      k_steps
      all_goals first | (exfalso; exact (by assumption : ¬ Mine.twoShown ts ss = Mine.twoShown ts ss) rfl) | skip
      refine Mine.TurnE.intro (nw' := [(dk, PySem.W.listOf [Value.ref it0, Value.int c2 t2].toArray n4), (it0, PySem.W.listOf vs0.toArray 0)]) (by k_asm) (by simp only [List.cons_append, List.nil_append]; walk_at "ledger") (Mine.off_same (by rfl) off) ⟨c2, t2, n4, by omega, by omega, rfl, by walk_at "over"⟩
    · rintro m' nw h tk ⟨c', t', n', hc0, hc1, rfl, u, rfl⟩ F' N'
      try dsimp only [envOf] at F' N'
      try dsimp only
      k_steps
      refine Mine.Halt.mk ?_
      k_dflt (refine Mine.right_ok (k := 5) (ts := [0, 1, 2, 3]) (ss := [1, 0, 3, 2]) (by k_asm) (by k_asm) (by k_asm) (by k_asm) (by k_mem) (by k_mem) (.cons 0 _ (.cons 1 _ (.cons 2 _ (.cons 3 _ .nil)))) (.cons 1 _ (.cons 0 _ (.cons 3 _ (.cons 2 _ .nil)))) (by decide) (by decide) rfl rfl (by omega) (by omega) (by decide) (by decide) (by k_asm) rfl (by ktr_room) (by ktr_units) ?_)
      intro h' tk' F' N'
      k_steps
      refine Mine.Halt.mk ?_
      k_dflt (refine Mine.right_ok (k := 3) (ts := [0, 1, 2]) (ss := [1, 2, 0]) (by k_asm) (by k_asm) (by k_asm) (by k_asm) (by k_mem) (by k_mem) (.cons 0 _ (.cons 1 _ (.cons 2 _ .nil))) (.cons 1 _ (.cons 2 _ (.cons 0 _ .nil))) (by decide) (by decide) rfl rfl (by omega) (by omega) (by decide) (by decide) (by k_asm) rfl (by ktr_room) (by ktr_units) ?_)
      intro h' tk' F' N'
      k_steps
      refine Mine.Halt.mk ?_
      k_dflt (refine Mine.steps_ok (ts := []) (ss := []) (by k_asm) (by k_asm) (by k_asm) (by k_asm) (by k_mem) (by k_mem) .nil .nil (by decide) (by decide) rfl (by k_asm) rfl (by ktr_room) (by ktr_units) ?_)
      intro fl fs nf tup h' tk' hoff hofl hst F' N'
      cases hst
      k_steps
      refine Mine.Halt.mk ?_
      k_dflt (refine Mine.steps_ok (ts := [4, 2]) (ss := [4, 2]) (by k_asm) (by k_asm) (by k_asm) (by k_asm) (by k_mem) (by k_mem) (.cons 4 _ (.cons 2 _ .nil)) (.cons 4 _ (.cons 2 _ .nil)) (by decide) (by decide) rfl (by k_asm) rfl (by ktr_room) (by ktr_units) ?_)
      intro fl2 fs2 nf2 tup2 h' tk' hoff2 hofl2 hst2 F' N'
      have hst3 : Mine.StepsAre tup2 fs2 [] := hst2
      clear hst2
      cases hst3
      k_steps)
end
