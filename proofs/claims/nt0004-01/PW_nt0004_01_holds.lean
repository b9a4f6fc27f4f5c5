import PyProof.Rows.All
import Wide.All
import OpenK.AllK
import Wide.FinOn
import PySem.Challenge.RW_nt0004_01
open PySem PySem.W PyProof.Rows
set_option Elab.async false
set_option maxRecDepth 100000
namespace Mine
set_option maxHeartbeats 8000000 in
open_top hd for PySem.Challenge.rw_nt0004_01
open PySem PySem.Calls PyProof.Rows PySem.W

noncomputable abbrev looseN : List Str := looseW hd.view_39 [Str.ofString "SYLLABLES", Str.ofString "hangul_composed", Str.ofString "_law_borders", Str.ofString "_law_others"]

/-- a proposition that the walk leaves as it lies -/
structure Wrap (P : Prop) : Prop where
  out : P

def LedAt (hT h : Heap) (led : List (Addr × Obj)) : Prop := ∀ p ∈ led, h.get? p.1 = some p.2 ∧ hT.get? p.1 = none

abbrev AR (dp un : Nat) (fr : Option (List Env)) (gd : Option (List Code)) : Around := { handled := none, depth := dp, frames := fr, guards := gd, units := un }
theorem dOk {dp un : Nat} {fr : Option (List Env)} {gd : Option (List Code)} {env : Env} {D D' : Nat} (h : dp + D' < recursionLimit) (k : Nat.ble (D + 1) D' = true) : ((AR dp un fr gd).deeper env).depth + D < recursionLimit := by
  have := Nat.le_of_ble_eq_true k
  show dp + 1 + D < recursionLimit
  omega
theorem uOk {dp un : Nat} {fr : Option (List Env)} {gd : Option (List Code)} {env : Env} {D D' : Nat} (h : un + D' < cLine) (k : Nat.ble (D + 3) D' = true) : ((AR dp un fr gd).deeper env).units + D < cLine := by
  have := Nat.le_of_ble_eq_true k
  show un + 3 + D < cLine
  omega
/-- the contract of a call: led is what it may turn -/
def Con (w : World) (f : Addr) (vs : List Value) (D U : Nat) (led : List (Addr × Obj)) (Post : Heap → Heap → Value → Prop) : Prop :=
  ∀ (mean : ExcName → Option Value) (mg mb : Str → Option Value) (hT : Heap) (dp un : Nat) (fr : Option (List Env)) (gd : Option (List Code)) (s : Shared) (Q E : Value → Shared → Prop),
    Top hd.view_39 looseN mean mg mb hT → (hd.heap_39 w.params).In hT → hT.StaysIn s.heap → LedAt hT s.heap led → dp + D < recursionLimit → un + U < cLine →
    (∀ r h' tk', (∀ b o, s.heap.get? b = some o → b ∉ led.map (·.1) → h'.get? b = some o) → Post s.heap h' r → Q r { s with heap := h', toks := tk' }) →
    wpAny (model PySem.Challenge.rw_nt0004_01.row.prog w) (AR dp un fr gd) (call (.ref f) vs) Q E s

theorem enterC {prog : Program} {w : World} {K : Frag} {p : Program} {loose : List Str} {mean : ExcName → Option Value} {mg mb : Str → Option Value} {hT : Heap} {A : Around} {s : Shared} {Q E : Value → Shared → Prop} {led : List (Addr × Obj)}
    {name qual : Str} {params : Arguments} {body : List Stmt} {scope : Scope} {dV kV doc pm cdv ct oc : Value} {an od : Option Addr} {osl : Array (Option Value)} {f : Addr} {vs : List Value} {binds : List (Str × Value)}
    (T : Top p loose mean mg mb hT) (X : K.In hT) (st : hT.StaysIn s.heap) (hl : LedAt hT s.heap led)
    (hroom : A.depth < recursionLimit)
    (ho : K.lookup f = some ⟨oc, od, .func (fnOf name qual params body scope dV kV doc pm an cdv ct), osl⟩) (hcd : codeIn K cdv qual = true)
    (hbind : BindsTo s (fnOf name qual params body scope dV kV doc pm an cdv ct) ⟨vs, []⟩ binds) (hloc : ∀ y ∈ binds, scope.names.lookup y.1 = some .local)
    (h : ∀ g L' h₁, (∀ b o, s.heap.get? b = some o → b ∉ led.map (·.1) → g.get? b = some o) → (∀ b, s.heap.objs.size ≤ b → g.get? b = none) → Fr g L' h₁ (fun y => binds.reverse.lookup y) → News g L' h₁ led → K.In g → Top p loose mean mg mb g → 
      wpAny (model prog w) (A.deeper (envOf qual scope L' f cdv)) (execs body (envOf qual scope L' f cdv))
        (fun fl s' => Wrap (Q (match fl with | .ret v => v | _ => .none) s')) (fun _ _ => False)
        { s with heap := h₁, toks := s.toks + binds.length })
    (hco : scope.isCoroutine = false) (hgen : scope.isGenerator = false) (hk : scope.kind = .function)
    (hcell : ∀ x ∈ scope.names, x.2 ≠ .cell) : wpAny (model prog w) A (call (.ref f) vs) Q E s := by
  refine wpAny_call ?_
  refine codeAny_call_def (fd := fnOf name qual params body scope dV kV doc pm an cdv ct) (body := body) (binds := binds) hroom ((X.keeps st) _ _ ho) rfl (T.nolimit.keeps st) (codeRec_of (X.keeps st) hcd) rfl hbind hcell hloc (fun h₁ hns hk₁ => ?_) hco hgen hk
  have stg : ∀ b o, hT.get? b = some o → (hideAll s.heap (led.map (·.1))).get? b = some o := fun b o e => hideAll_get _ (st b o e) (fun q => by
    obtain ⟨p, hp, rfl⟩ := List.mem_map.mp q
    rw [(hl p hp).2] at e; cases e)
  refine wpAny_mono (h (hideAll s.heap (led.map (·.1))) s.heap.objs.size h₁ (fun b o e n => hideAll_get _ e n) (fun b hb => ?_) ⟨hns, fun b o e => hk₁ b o (of_hideAll _ e), Nat.le_of_eq (hideAll_size _ _)⟩
    (fun p hp => ⟨hk₁ _ _ (hl p hp).1, Nat.ne_of_lt (Heap.lt_size (hl p hp).1), hideAll_none _ (List.mem_map_of_mem hp)⟩) (X.keeps stg) (T.keeps stg)) (fun fl s' hl => ?_) (fun _ _ hh => hh.elim)
  · cases q : (hideAll s.heap (led.map (·.1))).get? b with
    | none => rfl
    | some o => exact absurd (Heap.lt_size (of_hideAll _ q)) (Nat.not_lt.mpr hb)
  · exact hl.out

def PV (V : Tok → Value) : Heap → Heap → Value → Prop := fun _ _ r => ∃ t : Tok, r = V t

section
variable {w : World} {f : Addr} {vs : List Value} {D U : Nat} {A : Around} {s : Shared} {Q E : Value → Shared → Prop} {h₀ : Heap} {L : Addr} {m : Str → Option Value} {news : List (Addr × Obj)} {mean : ExcName → Option Value} {mg mb : Str → Option Value}
theorem use_con {Post : Heap → Heap → Value → Prop} (C : Con w f vs D U [] Post) (T : Top hd.view_39 looseN mean mg mb h₀) (X : (hd.heap_39 w.params).In h₀) (F : Fr h₀ L s.heap m) (N : News h₀ L s.heap news)
    (hh : A.handled = none) (hd : A.depth + D < recursionLimit) (hu : A.units + U < cLine)
    (h : ∀ r h' tk', Fr h₀ L h' m → News h₀ L h' news → (∀ b o, s.heap.get? b = some o → h'.get? b = some o) → Post s.heap h' r → Q r { s with heap := h', toks := tk' }) :
    wpAny (model PySem.Challenge.rw_nt0004_01.row.prog w) A (call (.ref f) vs) Q E s := by
  obtain ⟨a0, dp, fr, gd, un⟩ := A
  dsimp only at hh; subst hh
  refine C mean mg mb h₀ dp un fr gd s Q E T X F.keep (fun p hp => nomatch hp) hd hu (fun r h' tk' k P => ?_)
  have k' : ∀ b o, s.heap.get? b = some o → h'.get? b = some o := fun b o e => k b o e (fun hm => nomatch hm)
  refine h r h' tk' ⟨F.ns.keeps k', fun b o e => k' b o (F.keep b o e), F.above⟩ (fun p hp => ⟨k' _ _ (N p hp).1, (N p hp).2⟩) k' P
theorem use_val {V : Tok → Value} (C : Con w f vs D U [] (PV V)) (T : Top hd.view_39 looseN mean mg mb h₀) (X : (hd.heap_39 w.params).In h₀) (F : Fr h₀ L s.heap m) (N : News h₀ L s.heap news)
    (hh : A.handled = none) (hd : A.depth + D < recursionLimit) (hu : A.units + U < cLine)
    (h : ∀ t h' tk', Fr h₀ L h' m → News h₀ L h' news → Q (V t) { s with heap := h', toks := tk' }) :
    wpAny (model PySem.Challenge.rw_nt0004_01.row.prog w) A (call (.ref f) vs) Q E s :=
  use_con C T X F N hh hd hu (fun r h' tk' F' N' _ P => by obtain ⟨t, rfl⟩ := P; exact h t h' tk' F' N')
end
theorem Con.weaken {w : World} {f : Addr} {vs : List Value} {D U : Nat} {led : List (Addr × Obj)} {P P' : Heap → Heap → Value → Prop} (C : Con w f vs D U led P) (h : ∀ a b r, P a b r → P' a b r) : Con w f vs D U led P' :=
  fun mean mg mb hT dp un fr gd s Q E T X st hl hd hu k => C mean mg mb hT dp un fr gd s Q E T X st hl hd hu (fun r h' tk' k1 p => k r h' tk' k1 (h _ _ _ p))

/-- an int or None -/
def optI : Option Int → Tok → Value
  | none, _ => .none
  | some i, t => .int i t
def optS : Option Str → Tok → Value
  | none, _ => .none
  | some i, t => .str i t
-- C2
theorem con_is (w : World) (code : Int) (t : Tok) : Con w 21 [.int code t] 1 8 [] (PV fun _ => .bool (decide (44032 ≤ code ∧ code < 55204))) := by
  unfold Con
  k_fill
  intro mean mg mb hT dp un fr gd s Q E TT KX st hl hd9 hu9 hret
  refine' enterC (K := hd.heap_39 _) (binds := [(Str.ofString "code", .int code t)]) ?kT ?kX ?kst ?kl ?kroom ?kho ?khcd ?kbind ?kloc ?_ ?kco ?kgen ?kk ?kcell
  (case kT => assumption)
  (case kX => assumption)
  (case kst => assumption)
  (case kl => assumption)
  (case kroom => (show dp < _; omega))
  (case kho => k_is)
  (case khcd => k_is)
  (case kbind => exact BindsTo.of_eq rfl)
  (case kloc => exact locs rfl)
  (case kco => exact rfl)
  (case kgen => exact rfl)
  (case kk => exact rfl)
  (case kcell => decide)
  intro g L' h₁ hgs hgn F' N' X' T'
  (try dsimp only)
  (try k_fold)
  repeat' (first | (k_unfold; (try dsimp only)) | walk1 | (dsimp only; walk1) | fail "no step")
  all_goals ((try dsimp only); (try k_unfold); (try dsimp only); refine Wrap.mk (hret _ _ _ (fun b o e n => Fr.keep (by with_reducible assumption) b o (hgs b o e n)) ?_))
  all_goals (refine ⟨0, congrArg Value.bool ?_⟩; rw [decide_eq_decide]; omega)
theorem con_lis (w : World) (code : Int) (t : Tok) : Con w 132 [.int code t] 1 8 [] (PV fun _ => .bool (decide (44032 ≤ code ∧ code < 55204))) := by
  unfold Con
  k_fill
  intro mean mg mb hT dp un fr gd s Q E TT KX st hl hd9 hu9 hret
  refine' enterC (K := hd.heap_39 _) (binds := [(Str.ofString "code", .int code t)]) ?kT ?kX ?kst ?kl ?kroom ?kho ?khcd ?kbind ?kloc ?_ ?kco ?kgen ?kk ?kcell
  (case kT => assumption)
  (case kX => assumption)
  (case kst => assumption)
  (case kl => assumption)
  (case kroom => (show dp < _; omega))
  (case kho => k_is)
  (case khcd => k_is)
  (case kbind => exact BindsTo.of_eq rfl)
  (case kloc => exact locs rfl)
  (case kco => exact rfl)
  (case kgen => exact rfl)
  (case kk => exact rfl)
  (case kcell => decide)
  intro g L' h₁ hgs hgn F' N' X' T'
  (try dsimp only)
  (try k_fold)
  repeat' (first | (k_unfold; (try dsimp only)) | walk1 | (dsimp only; walk1) | fail "no step")
  all_goals ((try dsimp only); (try k_unfold); (try dsimp only); refine Wrap.mk (hret _ _ _ (fun b o e n => Fr.keep (by with_reducible assumption) b o (hgs b o e n)) ?_))
  all_goals (refine ⟨0, congrArg Value.bool ?_⟩; rw [decide_eq_decide]; omega)
abbrev tupOf (vs : List Value) : Obj := { cls := .type "tuple", data := .seq vs.toArray }
theorem Gone.of {g h : Heap} {led : List (Addr × Obj)} {a : Addr} (hgs : ∀ b o, h.get? b = some o → b ∉ led.map (·.1) → g.get? b = some o) (e : g.get? a = none) (hn : a ∉ led.map (·.1)) : h.get? a = none := by
  cases q : h.get? a with
  | none => rfl
  | some o => rw [hgs a o q hn] at e; cases e
theorem con_numbers (w : World) (code : Int) (t : Tok) : Con w 28 [.int code t] 1 8 [] (fun h h' r => ∃ a t1 t2 t3, r = .ref a ∧ h.get? a = none ∧ h'.get? a = some (tupOf [.int ((code - 44032).fdiv 588) t1, .int (((code - 44032).fdiv 28).fmod 21) t2, .int ((code - 44032).fmod 28) t3])) := by
  unfold Con
  k_fill
  intro mean mg mb hT dp un fr gd s Q E TT KX st hl hd9 hu9 hret
  refine' enterC (K := hd.heap_39 _) (binds := [(Str.ofString "code", .int code t)]) ?kT ?kX ?kst ?kl ?kroom ?kho ?khcd ?kbind ?kloc ?_ ?kco ?kgen ?kk ?kcell
  (case kT => assumption)
  (case kX => assumption)
  (case kst => assumption)
  (case kl => assumption)
  (case kroom => (show dp < _; omega))
  (case kho => k_is)
  (case khcd => k_is)
  (case kbind => exact BindsTo.of_eq rfl)
  (case kloc => exact locs rfl)
  (case kco => exact rfl)
  (case kgen => exact rfl)
  (case kk => exact rfl)
  (case kcell => decide)
  intro g L' h₁ hgs hgn F' N' X' T'
  (try dsimp only)
  (try k_fold)
  repeat' (first | (k_unfold; (try dsimp only)) | walk1 | (dsimp only; walk1) | fail "no step")
  all_goals ((try dsimp only); (try k_unfold); (try dsimp only); refine Wrap.mk (hret _ _ _ (fun b o e n => Fr.keep (by with_reducible assumption) b o (hgs b o e n)) ?_))
  all_goals (rename News _ _ _ _ => N1; exact ⟨_, _, _, _, rfl, Gone.of hgs (N1 _ (.head _)).2.2 (fun h => nomatch h), (N1 _ (.head _)).1⟩)
def pairF (a b : Int) : Option Int := if (4352 ≤ a ∧ a < 4371) ∧ (4449 ≤ b ∧ b < 4470) then some (44032 + ((a - 4352) * 21 + (b - 4449)) * 28) else if (44032 ≤ a ∧ a < 55204) ∧ (a - 44032).fmod 28 = 0 ∧ (4519 < b ∧ b < 4547) then some (a + b - 4519) else none
theorem pairF_lv {a b c : Int} (h : (4352 ≤ a ∧ a < 4371) ∧ (4449 ≤ b ∧ b < 4470)) (e : 44032 + ((a - 4352) * 21 + (b - 4449)) * 28 = c) : pairF a b = some c := by
  unfold pairF; rw [if_pos h, e]
theorem pairF_lvt {a b c : Int} (h : (44032 ≤ a ∧ a < 55204) ∧ (a - 44032).fmod 28 = 0 ∧ (4519 < b ∧ b < 4547)) (e : a + b - 4519 = c) : pairF a b = some c := by
  unfold pairF; rw [if_neg (by omega), if_pos h, e]
theorem pairF_none {a b : Int} (h : ¬ ((4352 ≤ a ∧ a < 4371) ∧ (4449 ≤ b ∧ b < 4470))) (h' : ¬ ((44032 ≤ a ∧ a < 55204) ∧ (a - 44032).fmod 28 = 0 ∧ (4519 < b ∧ b < 4547))) : pairF a b = none := by
  unfold pairF; rw [if_neg h, if_neg h']
theorem PV.int {F : Option Int} {h h' : Heap} {c : Int} {t : Tok} (e : F = some c) : PV (optI F) h h' (.int c t) := ⟨t, by rw [e]; rfl⟩
theorem PV.noint {F : Option Int} {h h' : Heap} (e : F = none) : PV (optI F) h h' .none := ⟨(0 : Nat), by rw [e]; rfl⟩
theorem PV.str {F : Option Str} {h h' : Heap} {c : Str} {t : Tok} (e : F = some c) : PV (optS F) h h' (.str c t) := ⟨t, by rw [e]; rfl⟩
theorem PV.nostr {F : Option Str} {h h' : Heap} (e : F = none) : PV (optS F) h h' .none := ⟨(0 : Nat), by rw [e]; rfl⟩
theorem con_pair (w : World) (a b : Int) (t u : Tok) : Con w 42 [.int a t, .int b u] 3 16 [] (PV (optI (pairF a b))) := by
  unfold Con
  k_fill
  intro mean mg mb hT dp un fr gd s Q E TT KX st hl hd9 hu9 hret
  refine' enterC (K := hd.heap_39 _) (binds := [(Str.ofString "one", .int a t), (Str.ofString "other", .int b u)]) ?kT ?kX ?kst ?kl ?kroom ?kho ?khcd ?kbind ?kloc ?_ ?kco ?kgen ?kk ?kcell
  (case kT => assumption)
  (case kX => assumption)
  (case kst => assumption)
  (case kl => assumption)
  (case kroom => (show dp < _; omega))
  (case kho => k_is)
  (case khcd => k_is)
  (case kbind => exact BindsTo.of_eq rfl)
  (case kloc => exact locs rfl)
  (case kco => exact rfl)
  (case kgen => exact rfl)
  (case kk => exact rfl)
  (case kcell => decide)
  intro g L' h₁ hgs hgn F' N' X' T'
  (try dsimp only)
  (try k_fold)
  repeat' (first | (k_unfold; (try dsimp only)) | ((with_reducible show wpAny _ _ (call (Value.ref _) _) _ _ _); first | ((with_reducible show wpAny _ _ (call (Value.ref 21) [Value.int _ _]) _ _ _); refine' use_val (con_is _ _ _) ?k1 ?k2 ?k3 ?k4 ?kh ?k5 ?k6 ?_; (case k3 => k_asm); (case k4 => k_asm); (case k1 => k_asm); (case k2 => k_asm); (case kh => exact rfl); (case k5 => first | (refine' dOk ?da ?db; (case da => assumption); (case db => exact rfl)) | exact Nat.le_of_ble_eq_true rfl | (simp only [depth_deeper, depth_in1]; (try dsimp only [AR]); omega)); (case k6 => first | (refine' uOk ?da ?db; (case da => assumption); (case db => exact rfl)) | exact Nat.le_of_ble_eq_true rfl | (simp only [units_deeper, units_in1]; (try dsimp only [AR]); omega)); intro t9 h9 tk9 F9 N9; (try dsimp only); (try k_sweep))) | walk1 | (dsimp only; first | ((with_reducible show wpAny _ _ (call (Value.ref _) _) _ _ _); first | ((with_reducible show wpAny _ _ (call (Value.ref 21) [Value.int _ _]) _ _ _); refine' use_val (con_is _ _ _) ?k1 ?k2 ?k3 ?k4 ?kh ?k5 ?k6 ?_; (case k3 => k_asm); (case k4 => k_asm); (case k1 => k_asm); (case k2 => k_asm); (case kh => exact rfl); (case k5 => first | (refine' dOk ?da ?db; (case da => assumption); (case db => exact rfl)) | exact Nat.le_of_ble_eq_true rfl | (simp only [depth_deeper, depth_in1]; (try dsimp only [AR]); omega)); (case k6 => first | (refine' uOk ?da ?db; (case da => assumption); (case db => exact rfl)) | exact Nat.le_of_ble_eq_true rfl | (simp only [units_deeper, units_in1]; (try dsimp only [AR]); omega)); intro t9 h9 tk9 F9 N9; (try dsimp only); (try k_sweep))) | walk1) | fail "no step")
  all_goals ((try dsimp only); (try k_unfold); (try dsimp only); refine Wrap.mk (hret _ _ _ (fun b o e n => Fr.keep (by with_reducible assumption) b o (hgs b o e n)) ?_))
  all_goals first | exact PV.int (pairF_lv (by omega) rfl) | exact PV.int (pairF_lvt (by omega) rfl) | exact PV.noint (pairF_none (by omega) (by omega)) | trace_state
def kindF (c : Int) : Option Str := if 44032 ≤ c ∧ c < 55204 then (if (c - 44032).fmod 28 = 0 then some (Str.ofString "LV") else some (Str.ofString "LVT")) else if (4352 ≤ c ∧ c ≤ 4447) ∨ (43360 ≤ c ∧ c ≤ 43388) then some (Str.ofString "L") else if (4448 ≤ c ∧ c ≤ 4519) ∨ (55216 ≤ c ∧ c ≤ 55238) then some (Str.ofString "V") else if (4520 ≤ c ∧ c ≤ 4607) ∨ (55243 ≤ c ∧ c ≤ 55291) then some (Str.ofString "T") else none
theorem kindF_lv {c : Int} (h : 44032 ≤ c ∧ c < 55204) (h' : (c - 44032).fmod 28 = 0) : kindF c = some (Str.ofString "LV") := by unfold kindF; rw [if_pos h, if_pos h']
theorem kindF_lvt {c : Int} (h : 44032 ≤ c ∧ c < 55204) (h' : ¬ (c - 44032).fmod 28 = 0) : kindF c = some (Str.ofString "LVT") := by unfold kindF; rw [if_pos h, if_neg h']
theorem kindF_l {c : Int} (h : (4352 ≤ c ∧ c ≤ 4447) ∨ (43360 ≤ c ∧ c ≤ 43388)) : kindF c = some (Str.ofString "L") := by unfold kindF; rw [if_neg (by omega), if_pos h]
theorem kindF_v {c : Int} (h : (4448 ≤ c ∧ c ≤ 4519) ∨ (55216 ≤ c ∧ c ≤ 55238)) : kindF c = some (Str.ofString "V") := by unfold kindF; rw [if_neg (by omega), if_neg (by omega), if_pos h]
theorem kindF_t {c : Int} (h : (4520 ≤ c ∧ c ≤ 4607) ∨ (55243 ≤ c ∧ c ≤ 55291)) : kindF c = some (Str.ofString "T") := by unfold kindF; rw [if_neg (by omega), if_neg (by omega), if_neg (by omega), if_pos h]
theorem kindF_n {c : Int} (h0 : ¬ (44032 ≤ c ∧ c < 55204)) (h1 : ¬ ((4352 ≤ c ∧ c ≤ 4447) ∨ (43360 ≤ c ∧ c ≤ 43388))) (h2 : ¬ ((4448 ≤ c ∧ c ≤ 4519) ∨ (55216 ≤ c ∧ c ≤ 55238))) (h3 : ¬ ((4520 ≤ c ∧ c ≤ 4607) ∨ (55243 ≤ c ∧ c ≤ 55291))) : kindF c = none := by
  unfold kindF; rw [if_neg h0, if_neg h1, if_neg h2, if_neg h3]
theorem con_kind (w : World) (code : Int) (t : Tok) : Con w 57 [.int code t] 3 16 [] (PV (optS (kindF code))) := by
  unfold Con
  k_fill
  intro mean mg mb hT dp un fr gd s Q E TT KX st hl hd9 hu9 hret
  refine' enterC (K := hd.heap_39 _) (binds := [(Str.ofString "code", .int code t)]) ?kT ?kX ?kst ?kl ?kroom ?kho ?khcd ?kbind ?kloc ?_ ?kco ?kgen ?kk ?kcell
  (case kT => assumption)
  (case kX => assumption)
  (case kst => assumption)
  (case kl => assumption)
  (case kroom => (show dp < _; omega))
  (case kho => k_is)
  (case khcd => k_is)
  (case kbind => exact BindsTo.of_eq rfl)
  (case kloc => exact locs rfl)
  (case kco => exact rfl)
  (case kgen => exact rfl)
  (case kk => exact rfl)
  (case kcell => decide)
  intro g L' h₁ hgs hgn F' N' X' T'
  (try dsimp only)
  (try k_fold)
  repeat' (first | (k_unfold; (try dsimp only)) | ((with_reducible show wpAny _ _ (call (Value.ref _) _) _ _ _); first | ((with_reducible show wpAny _ _ (call (Value.ref 21) [Value.int _ _]) _ _ _); refine' use_val (con_is _ _ _) ?k1 ?k2 ?k3 ?k4 ?kh ?k5 ?k6 ?_; (case k3 => k_asm); (case k4 => k_asm); (case k1 => k_asm); (case k2 => k_asm); (case kh => exact rfl); (case k5 => first | (refine' dOk ?da ?db; (case da => assumption); (case db => exact rfl)) | exact Nat.le_of_ble_eq_true rfl | (simp only [depth_deeper, depth_in1]; (try dsimp only [AR]); omega)); (case k6 => first | (refine' uOk ?da ?db; (case da => assumption); (case db => exact rfl)) | exact Nat.le_of_ble_eq_true rfl | (simp only [units_deeper, units_in1]; (try dsimp only [AR]); omega)); intro t9 h9 tk9 F9 N9; (try dsimp only); (try k_sweep))) | walk1 | (dsimp only; first | ((with_reducible show wpAny _ _ (call (Value.ref _) _) _ _ _); first | ((with_reducible show wpAny _ _ (call (Value.ref 21) [Value.int _ _]) _ _ _); refine' use_val (con_is _ _ _) ?k1 ?k2 ?k3 ?k4 ?kh ?k5 ?k6 ?_; (case k3 => k_asm); (case k4 => k_asm); (case k1 => k_asm); (case k2 => k_asm); (case kh => exact rfl); (case k5 => first | (refine' dOk ?da ?db; (case da => assumption); (case db => exact rfl)) | exact Nat.le_of_ble_eq_true rfl | (simp only [depth_deeper, depth_in1]; (try dsimp only [AR]); omega)); (case k6 => first | (refine' uOk ?da ?db; (case da => assumption); (case db => exact rfl)) | exact Nat.le_of_ble_eq_true rfl | (simp only [units_deeper, units_in1]; (try dsimp only [AR]); omega)); intro t9 h9 tk9 F9 N9; (try dsimp only); (try k_sweep))) | walk1) | fail "no step")
  all_goals ((try dsimp only); (try k_unfold); (try dsimp only); refine Wrap.mk (hret _ _ _ (fun b o e n => Fr.keep (by with_reducible assumption) b o (hgs b o e n)) ?_))
  all_goals first | exact PV.str (kindF_lv (by omega) (by omega)) | exact PV.str (kindF_lvt (by omega) (by omega)) | exact PV.str (kindF_l (by omega)) | exact PV.str (kindF_v (by omega)) | exact PV.str (kindF_t (by omega)) | exact PV.nostr (kindF_n (by omega) (by omega) (by omega) (by omega)) | trace_state
theorem con_lkind (w : World) (code : Int) (t : Tok) : Con w 139 [.int code t] 3 16 [] (PV (optS (kindF code))) := by
  unfold Con
  k_fill
  intro mean mg mb hT dp un fr gd s Q E TT KX st hl hd9 hu9 hret
  refine' enterC (K := hd.heap_39 _) (binds := [(Str.ofString "code", .int code t)]) ?kT ?kX ?kst ?kl ?kroom ?kho ?khcd ?kbind ?kloc ?_ ?kco ?kgen ?kk ?kcell
  (case kT => assumption)
  (case kX => assumption)
  (case kst => assumption)
  (case kl => assumption)
  (case kroom => (show dp < _; omega))
  (case kho => k_is)
  (case khcd => k_is)
  (case kbind => exact BindsTo.of_eq rfl)
  (case kloc => exact locs rfl)
  (case kco => exact rfl)
  (case kgen => exact rfl)
  (case kk => exact rfl)
  (case kcell => decide)
  intro g L' h₁ hgs hgn F' N' X' T'
  (try dsimp only)
  (try k_fold)
  repeat' (first | (k_unfold; (try dsimp only)) | ((with_reducible show wpAny _ _ (call (Value.ref _) _) _ _ _); first | ((with_reducible show wpAny _ _ (call (Value.ref 132) [Value.int _ _]) _ _ _); refine' use_val (con_lis _ _ _) ?k1 ?k2 ?k3 ?k4 ?kh ?k5 ?k6 ?_; (case k3 => k_asm); (case k4 => k_asm); (case k1 => k_asm); (case k2 => k_asm); (case kh => exact rfl); (case k5 => first | (refine' dOk ?da ?db; (case da => assumption); (case db => exact rfl)) | exact Nat.le_of_ble_eq_true rfl | (simp only [depth_deeper, depth_in1]; (try dsimp only [AR]); omega)); (case k6 => first | (refine' uOk ?da ?db; (case da => assumption); (case db => exact rfl)) | exact Nat.le_of_ble_eq_true rfl | (simp only [units_deeper, units_in1]; (try dsimp only [AR]); omega)); intro t9 h9 tk9 F9 N9; (try dsimp only); (try k_sweep)) | ((with_reducible show wpAny _ _ (call (Value.ref 21) [Value.int _ _]) _ _ _); refine' use_val (con_is _ _ _) ?k1 ?k2 ?k3 ?k4 ?kh ?k5 ?k6 ?_; (case k3 => k_asm); (case k4 => k_asm); (case k1 => k_asm); (case k2 => k_asm); (case kh => exact rfl); (case k5 => first | (refine' dOk ?da ?db; (case da => assumption); (case db => exact rfl)) | exact Nat.le_of_ble_eq_true rfl | (simp only [depth_deeper, depth_in1]; (try dsimp only [AR]); omega)); (case k6 => first | (refine' uOk ?da ?db; (case da => assumption); (case db => exact rfl)) | exact Nat.le_of_ble_eq_true rfl | (simp only [units_deeper, units_in1]; (try dsimp only [AR]); omega)); intro t9 h9 tk9 F9 N9; (try dsimp only); (try k_sweep))) | walk1 | (dsimp only; first | ((with_reducible show wpAny _ _ (call (Value.ref _) _) _ _ _); first | ((with_reducible show wpAny _ _ (call (Value.ref 132) [Value.int _ _]) _ _ _); refine' use_val (con_lis _ _ _) ?k1 ?k2 ?k3 ?k4 ?kh ?k5 ?k6 ?_; (case k3 => k_asm); (case k4 => k_asm); (case k1 => k_asm); (case k2 => k_asm); (case kh => exact rfl); (case k5 => first | (refine' dOk ?da ?db; (case da => assumption); (case db => exact rfl)) | exact Nat.le_of_ble_eq_true rfl | (simp only [depth_deeper, depth_in1]; (try dsimp only [AR]); omega)); (case k6 => first | (refine' uOk ?da ?db; (case da => assumption); (case db => exact rfl)) | exact Nat.le_of_ble_eq_true rfl | (simp only [units_deeper, units_in1]; (try dsimp only [AR]); omega)); intro t9 h9 tk9 F9 N9; (try dsimp only); (try k_sweep)) | ((with_reducible show wpAny _ _ (call (Value.ref 21) [Value.int _ _]) _ _ _); refine' use_val (con_is _ _ _) ?k1 ?k2 ?k3 ?k4 ?kh ?k5 ?k6 ?_; (case k3 => k_asm); (case k4 => k_asm); (case k1 => k_asm); (case k2 => k_asm); (case kh => exact rfl); (case k5 => first | (refine' dOk ?da ?db; (case da => assumption); (case db => exact rfl)) | exact Nat.le_of_ble_eq_true rfl | (simp only [depth_deeper, depth_in1]; (try dsimp only [AR]); omega)); (case k6 => first | (refine' uOk ?da ?db; (case da => assumption); (case db => exact rfl)) | exact Nat.le_of_ble_eq_true rfl | (simp only [units_deeper, units_in1]; (try dsimp only [AR]); omega)); intro t9 h9 tk9 F9 N9; (try dsimp only); (try k_sweep))) | walk1) | fail "no step")
  all_goals ((try dsimp only); (try k_unfold); (try dsimp only); refine Wrap.mk (hret _ _ _ (fun b o e n => Fr.keep (by with_reducible assumption) b o (hgs b o e n)) ?_))
  all_goals first | exact PV.str (kindF_lv (by omega) (by omega)) | exact PV.str (kindF_lvt (by omega) (by omega)) | exact PV.str (kindF_l (by omega)) | exact PV.str (kindF_v (by omega)) | exact PV.str (kindF_t (by omega)) | exact PV.nostr (kindF_n (by omega) (by omega) (by omega) (by omega)) | trace_state
-- B1
inductive BytesAre : List Value → List (List UInt8) → Prop
  | nil : BytesAre [] []
  | cons (b : List UInt8) (t : Tok) {vs bs} : BytesAre vs bs → BytesAre (.bytes b.toArray t :: vs) (b :: bs)
theorem BytesAre.length {vs : List Value} {bs : List (List UInt8)} (h : BytesAre vs bs) : vs.length = bs.length := by
  induction h with
  | nil => rfl
  | cons _ _ _ ih => rw [List.length_cons, List.length_cons, ih]
theorem BytesAre.get {vs : List Value} {bs : List (List UInt8)} (h : BytesAre vs bs) : ∀ (i : Nat) (v : Value), vs[i]? = some v → ∃ t, v = .bytes (bs.getD i []).toArray t := by
  induction h with
  | nil => intro i v e; simp at e
  | cons b t r ih =>
    intro i v e
    cases i with
    | zero => simp at e; subst e; exact ⟨t, rfl⟩
    | succ i => simpa using ih i v (by simpa using e)
theorem BytesAre.mem {vs : List Value} {bs : List (List UInt8)} (h : BytesAre vs bs) {v : Value} (hv : v ∈ vs) : ∃ b t, b ∈ bs ∧ v = .bytes b.toArray t := by
  induction h with
  | nil => exact nomatch hv
  | cons b t r ih =>
    rcases List.mem_cons.mp hv with rfl | hv
    · exact ⟨b, t, .head _, rfl⟩
    · obtain ⟨b', t', m, e⟩ := ih hv
      exact ⟨b', t', .tail _ m, e⟩
theorem eqGives_bytes (x y : Array UInt8) (t u : Tok) : MeetsSeq.EqGives (.bytes x t) (.bytes y u) (x.toList == y.toList) := by
  intro prog w A E s Q h
  unfold eqBool
  refine wpAny_holding ?_
  refine wpAny_ite_split (fun hab => ?_) (fun hab => ?_)
  · have e : x = y := by have := eq_of_beq hab; injection this
    subst e
    exact wpAny_bind (wpAny_rule (wpAny_pure (by simpa using h)))
  · exact wpAny_bind (richCompare_gives (typeIs_bytes s x t) (typeIs_bytes s y u) FB.slot_bytes_eq FB.entry_bytes_eq (FB.args_bytes_eq_2 _ _) (gives_bytes_eq x y t u) (by simp [Made.takes]) (wpAny_truthy_bool h))
def isB (x : List UInt8) : Value → Bool
  | .bytes b _ => b.toList == x
  | _ => false
theorem eq_isB (x : List UInt8) (t : Tok) {vs : List Value} {bs : List (List UInt8)} (h : BytesAre vs bs) : ∀ y, y ∈ vs.toArray → MeetsSeq.EqGives y (.bytes x.toArray t) (isB x y) := by
  intro y hy
  obtain ⟨b, u, _, rfl⟩ := h.mem (by simpa using hy)
  exact eqGives_bytes _ _ _ _
theorem any_isB (x : List UInt8) {vs : List Value} {bs : List (List UInt8)} (h : BytesAre vs bs) : vs.toArray.any (isB x) = bs.contains x := by
  rw [List.any_toArray]
  induction h with
  | nil => rfl
  | cons b t r ih =>
    have e : isB x (.bytes b.toArray t) = (x == b) := by
      show (b == x) = (x == b)
      rw [Bool.eq_iff_iff, beq_iff_eq, beq_iff_eq]; exact eq_comm
    rw [List.any_cons, List.contains_cons, ih, e]
theorem isB_at (x : List UInt8) {vs : List Value} {bs : List (List UInt8)} (h : BytesAre vs bs) : ∀ (i : Nat) (h1 : i < vs.length) (h2 : i < bs.length), isB x vs[i] = (bs[i] == x) := by
  induction h with
  | nil => intro i h1; exact absurd h1 (Nat.not_lt_zero _)
  | cons b t r ih =>
    intro i h1 h2
    cases i with
    | zero => rfl
    | succ i => simpa using ih i (by simpa using h1) (by simpa using h2)
section
variable {prog : Program} {w : World} {A : Around} {E : Value → Shared → Prop} {s : Shared} {h₀ : Heap} {L : Addr} {m : Str → Option Value} {news : List (Addr × Obj)} {x y : List UInt8} {t u : Tok}
theorem in_B {l : Addr} {vs : List Value} {bs : List (List UInt8)} {Q : Value → Shared → Prop} (hl : s.heap.IsList l vs.toArray) (hb : BytesAre vs bs) (h : Q (.bool (bs.contains x)) s) :
    wpAny (model prog w) A (compareOp .In (.bytes x.toArray t) (.ref l)) Q E s :=
  SeqInW.in_listW (isB x) (eq_isB x t hb) hl (by rw [any_isB x hb]; exact h)
theorem notIn_B {l : Addr} {vs : List Value} {bs : List (List UInt8)} {Q : Value → Shared → Prop} (hl : s.heap.IsList l vs.toArray) (hb : BytesAre vs bs) (h : Q (.bool (!bs.contains x)) s) :
    wpAny (model prog w) A (compareOp .NotIn (.bytes x.toArray t) (.ref l)) Q E s :=
  SeqInW.notIn_listW (isB x) (eq_isB x t hb) hl (by rw [any_isB x hb]; exact h)
theorem index_B {l : Addr} {vs : List Value} {bs : List (List UInt8)} {n : Nat} {Q : Value → Shared → Prop} (hl : s.heap.get? l = some (W.listOf vs.toArray n)) (hb : BytesAre vs bs) (hm : bs.contains x = true) (hz : bs.length < 1000)
    (h : Q (.int (bs.idxOf x : Nat) s.toks) { s with toks := s.toks + 1 }) : wpAny (model prog w) A (call (.builtin "list.index") [.ref l, .bytes x.toArray t]) Q E s := by
  have hlen := hb.length
  have hj : bs.idxOf x < bs.length := List.idxOf_lt_length_iff.mpr (by simpa using hm)
  refine call_meets PySem.F.slot_list_index ⟨_, hl, rfl⟩ PySem.F.entry_list_index (PySem.F.args_list_index_2 _ _)
    (MeetsSeq.list_index l vs.toArray n (.bytes x.toArray t) (isB x) (eq_isB x t hb) (bs.idxOf x) (by simpa [hlen] using hj) (by omega) ?_ ?_) ⟨hl, h⟩
  · show isB x vs[bs.idxOf x] = true
    rw [isB_at x hb _ (by omega) hj]
    simp
  · intro j hjs hlt
    show isB x vs[j] = false
    rw [isB_at x hb j (by simpa using hjs) (by omega)]
    have := List.not_of_lt_findIdx (p := fun y => y == x) hlt
    simpa using this
theorem eq_B {Q : Value → Shared → Prop} (h : Q (.bool (x == y)) s) : wpAny (model prog w) A (compareOp .Eq (.bytes x.toArray t) (.bytes y.toArray u)) Q E s := eq_bytes h
theorem ne_B {Q : Value → Shared → Prop} (h : Q (.bool (x != y)) s) : wpAny (model prog w) A (compareOp .NotEq (.bytes x.toArray t) (.bytes y.toArray u)) Q E s := ne_bytes h
theorem len_B {Q : Value → Shared → Prop} (hz : x.length ≤ 1099511627776) (h : Q (.int (x.length : Nat) (s.toks + 1)) { s with toks := s.toks + 1 + 1 }) : wpAny (model prog w) A (call (.builtin "len") [.bytes x.toArray t]) Q E s :=
  len_bytes (by simpa using hz) (by simpa using h)
theorem add_B {Q : Value → Shared → Prop} (hz : x.length + y.length ≤ 16777216) (h : ∀ t' k, Q (.bytes (x ++ y).toArray t') { s with toks := k }) : wpAny (model prog w) A (binaryOp .Add (.bytes x.toArray t) (.bytes y.toArray u)) Q E s :=
  KBy.add_bytes (by simpa using hz) (fun t' k => by rw [List.append_toArray]; exact h t' k)
theorem item_B {value slice : PySem.Expr} {i : Int} {ui : Tok} {Q : Value → Shared → Prop} (hfit : x.length ≤ 1099511627776) (h0 : 0 ≤ i) (h1 : i < (x.length : Int)) (h : Q (.int (x.getD i.toNat 0).toNat s.toks) { s with toks := s.toks + 1 })
    (hs : subscripted slice false (.bytes x.toArray t) (.int i ui) = operate [.bytes x.toArray t, .int i ui] (getItem (.bytes x.toArray t) (.int i ui)) := by with_unfolding_all rfl)
    (ht : ∀ r, letTemporaryGo value (.bytes x.toArray t) r = pure () := by intro _; with_unfolding_all rfl) :
    wpAny (model prog w) A (subscriptTail value slice (.bytes x.toArray t) (.int i ui)) Q E s := KBy.item_N hfit h0 h1 h hs ht
end
-- B2
open Builtin in
theorem meets_int_in (x : List UInt8) (c : Int) (t u : Tok) (h0 : 0 ≤ c) (h1 : c < 256) : Meets («bytes.__contains__» ⟨[.bytes x.toArray t, .int c u], []⟩) (fun _ R s => R (.ok (.ret (.bool (x.contains c.toNat.toUInt8)))) s) := by
  refine .of_wp fun prog w A R s hq => ?_
  show wpAny _ _ (Bytes.containsIn "bytes.__contains__" (.bytes x.toArray t) (.int c u) >>= fun b => _) _ _ s
  refine wpAny_bind ?_
  unfold Bytes.containsIn
  refine wpAny_bind (wpAny_attempt (wpAny_of_eq (a := c) rfl ?_))
  refine wpAny_bind (wpAny_of_eq KBy.buffer_eq ?_)
  dsimp only
  refine wpAny_ite (KBy.ite_no (by simp; omega) ?_)
  refine wpAny_pure ?_
  refine wpAny_pure ⟨_, rfl, ?_⟩
  rw [List.contains_toArray]
  exact hq
section
variable {prog : Program} {w : World} {A : Around} {E : Value → Shared → Prop} {s : Shared} {x : List UInt8} {t u : Tok}
theorem int_in_B {c : Int} {Q : Value → Shared → Prop} (h0 : 0 ≤ c) (h1 : c < 256) (h : Q (.bool (x.contains c.toNat.toUInt8)) s) : wpAny (model prog w) A (compareOp .In (.int c u) (.bytes x.toArray t)) Q E s :=
  SeqRoads2.in_meets (typeIs_bytes s _ t) FB.slot_bytes_contains FB.entry_bytes_contains (FB.args_bytes_contains_2 _ _) (meets_int_in x c t u h0 h1) ⟨_, rfl, h⟩
theorem int_notIn_B {c : Int} {Q : Value → Shared → Prop} (h0 : 0 ≤ c) (h1 : c < 256) (h : Q (.bool (!x.contains c.toNat.toUInt8)) s) : wpAny (model prog w) A (compareOp .NotIn (.int c u) (.bytes x.toArray t)) Q E s :=
  SeqRoads2.notIn_meets (typeIs_bytes s _ t) FB.slot_bytes_contains FB.entry_bytes_contains (FB.args_bytes_contains_2 _ _) (meets_int_in x c t u h0 h1) ⟨_, rfl, h⟩
end
section
variable {prog : Program} {w : World} {A : Around} {E : Value → Shared → Prop} {s : Shared} {value slice : PySem.Expr} {x : List UInt8} {t : Tok} {h₀ : Heap} {L : Addr} {m : PySem.Str → Option Value} {news : List (Addr × Obj)} {l u : Value} {lo hi : Option Int} {Q : Value → Shared → Prop}
theorem slice_B (hF : Fr h₀ L s.heap m) (hN : News h₀ L s.heap news) (hl : IsPart l lo) (hu : IsPart u hi) (hz : x.length ≤ 16777216) {y : List UInt8} (e : (x.drop (lo.elim 0 (clipAt x.length))).take (hi.elim x.length (clipAt x.length) - lo.elim 0 (clipAt x.length)) = y)
    (h : ∀ h' t' k, Fr h₀ L h' m → News h₀ L h' news → Q (.bytes y.toArray t') { s with heap := h', toks := k })
    (hs : subscripted slice false (.bytes x.toArray t) (.ref s.heap.objs.size) = operate [.ref s.heap.objs.size, .bytes x.toArray t] (getItem (.bytes x.toArray t) (.ref s.heap.objs.size)) := by with_unfolding_all rfl)
    (ht : ∀ r, letTemporaryGo value (.bytes x.toArray t) r = pure () := by intro _; with_unfolding_all rfl) :
    wpAny (model prog w) A (subscriptTail value slice (.bytes x.toArray t) (.ref s.heap.objs.size)) Q E { s with heap := s.heap.push { cls := .type "slice", data := .fields #[l, u, .none] } } := by
  have ep : KBy.picked x.toArray lo hi = y.toArray := by
    rw [KBc.picked_eq, ← e]; simp
  exact tail_of_ItemOn ⟨"bytes", _, FB.slot_bytes_getitem.lookup, typeIs_bytes _ _ _, getItem_meets (typeIs_bytes _ _ _) (by decide) FB.slot_bytes_getitem FB.entry_bytes_getitem (FB.args_bytes_getitem_2 _ _) (KBc.meets_slice2 x.toArray t _ hl hu)
    ⟨Heap.IsSliceOf.new _ _ _ _, Nat.le_trans (KBc.size_picked_le _ lo hi) (by rw [sizeLine_eq]; simpa using hz), fun t' k => by rw [ep]; exact h _ _ _ (hF.push _) (News.pushKeep hN _)⟩⟩ hs ht
end
theorem clip_nn {n : Nat} {k : Int} (h : 0 ≤ k) : clipAt n k = min k.toNat n := by
  obtain ⟨j, rfl⟩ := Int.eq_ofNat_of_zero_le h
  exact clipAt_nat n j
theorem sl_to {x : List UInt8} {k : Int} (h : 0 ≤ k) : (x.drop ((none : Option Int).elim 0 (clipAt x.length))).take ((some k).elim x.length (clipAt x.length) - (none : Option Int).elim 0 (clipAt x.length)) = x.take k.toNat := by
  show (x.drop 0).take (clipAt x.length k - 0) = _
  rw [clip_nn h, List.drop_zero, Nat.sub_zero]
  by_cases q : k.toNat ≤ x.length
  · rw [Nat.min_eq_left q]
  · rw [Nat.min_eq_right (by omega), List.take_of_length_le (by omega), List.take_of_length_le (by omega)]
theorem sl_from {x : List UInt8} {k : Int} (h : 0 ≤ k) : (x.drop ((some k).elim 0 (clipAt x.length))).take ((none : Option Int).elim x.length (clipAt x.length) - (some k).elim 0 (clipAt x.length)) = x.drop k.toNat := by
  show (x.drop (clipAt x.length k)).take (x.length - clipAt x.length k) = _
  rw [clip_nn h]
  by_cases q : k.toNat ≤ x.length
  · rw [Nat.min_eq_left q, List.take_of_length_le (by rw [List.length_drop]; omega)]
  · rw [Nat.min_eq_right (by omega), List.drop_of_length_le (by omega), List.drop_of_length_le (by omega), List.take_nil]
theorem sl_mid {x : List UInt8} {j k : Int} (h : 0 ≤ j) (h' : 0 ≤ k) : (x.drop ((some j).elim 0 (clipAt x.length))).take ((some k).elim x.length (clipAt x.length) - (some j).elim 0 (clipAt x.length)) = (x.drop j.toNat).take (k.toNat - j.toNat) := by
  show (x.drop (clipAt x.length j)).take (clipAt x.length k - clipAt x.length j) = _
  rw [clip_nn h, clip_nn h']
  by_cases q : j.toNat ≤ x.length
  · rw [Nat.min_eq_left q]
    by_cases q' : k.toNat ≤ x.length
    · rw [Nat.min_eq_left q']
    · rw [Nat.min_eq_right (by omega), List.take_of_length_le (by rw [List.length_drop]; omega), List.take_of_length_le (by rw [List.length_drop]; omega)]
  · rw [Nat.min_eq_right (a := j.toNat) (by omega), List.drop_of_length_le (by omega), List.drop_of_length_le (by omega), List.take_nil, List.take_nil]
-- B3
namespace FS
theorem slot_bytes_split : Slot "bytes" "split" "bytes.split" :=
  .of (owner := "bytes") (n := "split") (by rw [typeLookup_type, builtinLookup_eq_fast]; kernel_rfl) (by decide +kernel) (by decide +kernel) (by decide +kernel)
    (by first | exact .inl (by decide +kernel) | exact .inr (by decide +kernel)) (by rw [isSubtype_type]; kernel_rfl)
theorem type_bytes_split : typeOf (.builtin "bytes.split") = pure (.type "method_descriptor") := by show builtinType _ = _; rw [builtinType_eq_fast]; kernel_rfl
theorem entry_bytes_split : entryFor table "bytes.split" = some Builtin.«bytes.split» := entryFor_of_tree (by kernel_rfl)
theorem args_bytes_split_2 (a b : Value) : argsOk "bytes.split" ⟨[a, b], []⟩ := by
  unfold argsOk; rw [signature?_of (id := "bytes.split") (n := ['t', 'i', 'l', 'p', 's']) (o := ['s', 'e', 't', 'y', 'b']) (by kernel_rfl) FB.owner_bytes]; kernel_rfl
end FS
def bytesFrom : Nat → List (List UInt8) → List Value
  | _, [] => []
  | tk, x :: r => .bytes x.toArray tk :: bytesFrom (tk + 1) r
theorem bytesFrom_are : ∀ (tk : Nat) (xs : List (List UInt8)), BytesAre (bytesFrom tk xs) xs
  | _, [] => .nil
  | tk, x :: r => .cons x tk (bytesFrom_are (tk + 1) r)
theorem wpAny_mapM_mkBytes {M : Model} {A : Around} {E : Value → Shared → Prop} : ∀ (xs : List (List UInt8)) (s : Shared) (Q : List Value → Shared → Prop), (∀ x ∈ xs, x.length ≤ sizeLine) → Q (bytesFrom s.toks xs) { s with toks := s.toks + xs.length } → wpAny M A ((xs.map List.toArray).mapM mkBytes) Q E s
  | [], s, Q, _, h => by rw [List.map_nil, List.mapM_nil]; exact wpAny_pure h
  | x :: r, s, Q, hx, h => by
    rw [List.map_cons, List.mapM_cons]
    refine wpAny_bind (wpAny_mkBytes (wpAny_bind (wpAny_mapM_mkBytes r _ _ (fun y hy => hx y (List.mem_cons_of_mem _ hy)) (wpAny_pure ?_))) (by simpa using hx x (List.mem_cons_self ..)))
    have e : s.toks + 1 + r.length = s.toks + (x :: r).length := by simp [Nat.add_comm, Nat.add_left_comm]
    show Q (.bytes x.toArray s.toks :: bytesFrom (s.toks + 1) r) { s with toks := s.toks + 1 + r.length }
    rw [e]; exact h
open Builtin in
theorem meets_split (b : List UInt8) (parts : List (List UInt8)) (t u : Tok) (hne : ((Bytes.occurrences b.toArray #[32] 0 b.toArray.size).take (b.toArray.size + 1)).isEmpty = false)
    (hp : Bytes.between b.toArray 1 ((Bytes.occurrences b.toArray #[32] 0 b.toArray.size).take (b.toArray.size + 1)) = parts.map List.toArray) (hz : ∀ p ∈ parts, p.length ≤ sizeLine) (hz2 : parts.length ≤ sizeLine) :
    Meets («bytes.split» ⟨[.bytes b.toArray t, .bytes #[32] u], []⟩) (fun _ R s => R (.ok (.ret (.ref s.heap.objs.size))) { s with toks := s.toks + parts.length, heap := s.heap.push (W.listOf (bytesFrom s.toks parts).toArray 0) }) := by
  refine .of_wp fun prog w A R s h => ?_
  show wpAny _ _ (Bytes.splitM .bytes "split" false ⟨[.bytes b.toArray t, .bytes #[32] u], []⟩) _ _ s
  unfold Bytes.splitM
  dsimp only
  refine wpAny_bind (wpAny_of_eq (a := [some (.bytes #[32] u), none]) (by rfl) ?_)
  refine wpAny_bind (wpAny_of_eq (a := (-1 : Int)) (by rfl) ?_)
  refine wpAny_bind (wpAny_of_eq (a := b.toArray) (by rfl) ?_)
  show wpAny _ _ (Bytes.bytesLike _ (.bytes #[32] u) >>= fun sep => _) _ _ s
  refine wpAny_bind ?_
  unfold Bytes.bytesLike
  refine wpAny_bind (wpAny_of_eq KBy.buffer_eq ?_)
  show wpAny _ _ (pure (#[32] : Array UInt8)) _ _ s
  refine wpAny_pure ?_
  show wpAny _ _ (if (#[32] : Array UInt8).isEmpty = true then _ else _) _ _ s
  refine wpAny_ite (KBy.ite_no (by decide) ?_)
  show wpAny _ _ (if ((Bytes.occurrences b.toArray #[32] 0 b.toArray.size).take (b.toArray.size + 1)).isEmpty = true then _ else _) _ _ s
  refine wpAny_ite (KBy.ite_no (by rw [hne]; exact Bool.false_ne_true) ?_)
  show wpAny _ _ (List.mapM mkBytes (Bytes.between b.toArray 1 ((Bytes.occurrences b.toArray #[32] 0 b.toArray.size).take (b.toArray.size + 1))) >>= fun l => newList l >>= fun v => ret v) _ _ s
  rw [hp]
  refine wpAny_bind (wpAny_mapM_mkBytes parts s _ hz (wpAny_bind (wpAny_newList (wpAny_pure ⟨_, rfl, h⟩) ?_)))
  rw [(bytesFrom_are _ _).length]; exact hz2
section
variable {prog : Program} {w : World} {A : Around} {E : Value → Shared → Prop} {s : Shared} {h₀ : Heap} {L : Addr} {m : Str → Option Value} {news : List (Addr × Obj)} {t u : Tok} {Q : Value → Shared → Prop}
open Builtin in
theorem split_B {b : List UInt8} (parts : List (List UInt8)) (F : Fr h₀ L s.heap m) (N : News h₀ L s.heap news) (hne : ((Bytes.occurrences b.toArray #[32] 0 b.toArray.size).take (b.toArray.size + 1)).isEmpty = false)
    (hp : Bytes.between b.toArray 1 ((Bytes.occurrences b.toArray #[32] 0 b.toArray.size).take (b.toArray.size + 1)) = parts.map List.toArray) (hz : ∀ p ∈ parts, p.length ≤ sizeLine) (hz2 : parts.length ≤ sizeLine)
    (h : ∀ l vs h' tk, BytesAre vs parts → Fr h₀ L h' m → News h₀ L h' ((l, W.listOf vs.toArray 0) :: news) → (∀ p ∈ news, p.1 < l) → Q (.ref l) { s with heap := h', toks := tk }) :
    wpAny (model prog w) A (call (.builtin "bytes.split") [.bytes b.toArray t, .bytes #[32] u]) Q E s :=
  call_meets FS.slot_bytes_split (typeIs_bytes _ _ _) FS.entry_bytes_split (FS.args_bytes_split_2 _ _) (meets_split b parts t u hne hp hz hz2)
    (h _ _ _ _ (bytesFrom_are _ _) (F.push _) (N.push F _) (fun p hp => Heap.lt_size (N p hp).1))
theorem method_split {b : Array UInt8} {pl : Sem Bool} {Q : Value × List Value → Shared → Prop} (h : Q (.builtin "bytes.split", [.bytes b t]) s) : wpAny (model prog w) A (getMethod (.bytes b t) (Str.ofString "split") pl) Q E s :=
  getMethod_builtin (typeIs_bytes s b t) FB.plainAttrs_bytes FS.slot_bytes_split FS.type_bytes_split (fun a e => nomatch e) h
end
open Builtin in
example : Bytes.between ([71, 32, 71, 71] : List UInt8).toArray 1 ((Bytes.occurrences ([71, 32, 71, 71] : List UInt8).toArray #[32] 0 ([71, 32, 71, 71] : List UInt8).toArray.size).take (([71, 32, 71, 71] : List UInt8).toArray.size + 1)) = ([[71], [71, 71]] : List (List UInt8)).map List.toArray := by decide +kernel
-- B4
theorem bytes_paired {f : List UInt8 → List UInt8} {F : Value → Value → Prop} (hF : ∀ v y, F v y → ∀ b t, v = .bytes (List.toArray b) t → ∃ u, y = .bytes (f b).toArray u) : ∀ {vs : List Value} {bs : List (List UInt8)} {ys : List Value}, BytesAre vs bs → Paired F vs ys → BytesAre ys (bs.map f)
  | _, _, _, .nil, .nil => .nil
  | _, _, _, .cons b t r, .cons h p => by
    obtain ⟨u, rfl⟩ := hF _ _ h b t rfl
    exact .cons _ u (bytes_paired hF r p)
section
variable {prog : Program} {w : World} {A : Around} {E : Value → Shared → Prop} {s : Shared} {h₀ : Heap} {L : Addr} {m : Str → Option Value} {env : Env}
theorem ListComp_B {elt iter : PySem.Expr} {x : Str} {px : Pos} {scope : Scope} {cl : List (Str × Addr)} {pos : Pos} {Q : Value → Shared → Prop} (f : List UInt8 → List UInt8)
    (hh : A.handled = none) (hclos : closureFor scope env = pure cl) (hcell : ∀ y ∈ scope.names, y.2 ≠ .cell) (hkind : scope.kind = .function)
    (hnames : ∀ y ∈ scope.names, y.2 = .local → scope.names.lookup y.1 = some .local) (hx : scope.names.lookup x = some .local)
    (h : wpAny (model prog w) A (eval iter env) (fun xv s₁ => ∃ news : List (Addr × Obj), ∃ ax vs bs, xv = .ref ax ∧ s₁.heap.IsList ax (List.toArray vs) ∧ BytesAre vs bs ∧ bs.length ≤ sizeLine ∧ Fr h₀ L s₁.heap m ∧ News h₀ L s₁.heap news ∧
      (∀ C b t s₂ m₂ E', s₂.heap.Ns C m₂ → m₂ x = some (.bytes (List.toArray b) t) → (∀ b o, s₁.heap.get? b = some o → s₂.heap.get? b = some o) →
        wpAny (model prog w) A (eval elt (compEnvC scope cl C env)) (fun y s₃ => (∃ u, y = .bytes (f b).toArray u) ∧ Keeps s₂ s₃) E' s₂) ∧
      (∀ D (ys : List Value) n h' tk, Fr h₀ L h' m → News h₀ L h' ((D, W.listOf ys.toArray n) :: news) → (∀ p ∈ news, p.1 ≠ D) → BytesAre ys (bs.map f) → Q (.ref D) { s₁ with heap := h', toks := tk })) E s)
    (hs : ∀ x, foldedSetIterable iter env x = pure x) :
    wpAny (model prog w) A (eval (.ListComp elt [⟨.Name x px, iter, [], 0⟩] scope pos) env) Q E s := by
  refine wpAny_ListComp_free (fun _ => true) (fun v y => ∀ b t, v = .bytes (List.toArray b) t → ∃ u, y = .bytes (f b).toArray u) hclos hcell hkind hnames hx (wpAny_mono h (fun xv s₁ h₁ => ?_) fun _ _ e => e) hs
  obtain ⟨news, ax, vs, bs, rfl, hl, hi, hsz, F, N, helt, hQ⟩ := h₁
  have hlt : ax < s₁.heap.objs.size := by obtain ⟨_, e, _⟩ := hl; exact Heap.lt_size e
  have up : ∀ (s₃ : Shared), (∀ b o, b ∉ [s₁.heap.objs.size] → (s₁.heap.push { cls := .type "list_iterator", data := .fields #[.ref ax, .int 0 0] }).get? b = some o → s₃.heap.get? b = some o) → ∀ b o, s₁.heap.get? b = some o → s₃.heap.get? b = some o :=
    fun s₃ hk b o e => hk b o (fun hm => by rcases List.mem_cons.mp hm with rfl | hm; exact Nat.lt_irrefl _ (Heap.lt_size e); cases hm) (Heap.get?_push_of_some _ e)
  refine wpAny_pyIter_list hl ⟨s₁.heap.objs.size, [s₁.heap.objs.size, ax], [s₁.heap.objs.size], vs.toArray.size, _, _, rfl, Walks.list hh _ _ (Nat.ne_of_lt hlt) vs.toArray, (by rw [List.size_toArray, hi.length]; exact hsz), ⟨⟨_, Heap.get?_push_size _ rfl, rfl, rfl⟩, hl.push _⟩, ?_, ⟨?_, ?_⟩, ?_⟩
  · intro b hb
    show b < (s₁.heap.push _).objs.size
    rw [Heap.size_push]
    rcases List.mem_cons.mp hb with rfl | hb
    · exact Nat.lt_succ_self _
    · rcases List.mem_cons.mp hb with rfl | hb
      · exact Nat.lt_succ_of_lt hlt
      · cases hb
  · intro C i v s₃ m₃ E' hC hP hn hm hk _
    exact wpAny_pure ⟨rfl, s₃.heap, s₃.toks, rfl, fun _ _ e => e⟩
  · intro C i v s₃ m₃ E' hC hP hp hn hm hk _
    obtain ⟨b, t, _, rfl⟩ := hi.mem (by simpa using Array.mem_of_getElem? hP)
    refine wpAny_mono (helt C b t s₃ m₃ E' hn hm (up s₃ hk)) (fun y s₄ h₄ => ⟨fun b' t' e => ?_, h₄.2⟩) fun _ _ e => e
    have : b = b' := by
      injection e with e1 e2
      simpa using congrArg Array.toList e1
    subst this; exact h₄.1
  · intro D h' tk ys vs' hnew hlD hplD hlen hP hF hk
    have e : vs' = vs := by simpa using list_of_places hlen hP
    subst e
    have keep : ∀ b o, s₁.heap.get? b = some o → h'.get? b = some o := up { s₁ with heap := h' } hk
    have hne : ∀ p ∈ news, p.1 ≠ D := fun p hp e => by rw [← e, Heap.get?_push_of_some _ (N p hp).1] at hnew; cases hnew
    obtain ⟨n, hD⟩ := hplD
    have hfr : Fr h₀ L h' m := F.keeps keep
    have h0 : h₀.get? D = none := by
      cases e : h₀.get? D with
      | none => rfl
      | some o' => rw [Heap.get?_push_of_some _ (F.keep _ _ e)] at hnew; cases hnew
    refine hQ D ys.toList n h' tk hfr (fun p hp => ?_) hne ?_
    · rcases List.mem_cons.mp hp with rfl | hp
      · refine ⟨by rw [Array.toArray_toList]; exact hD, fun q => ?_, h0⟩
        obtain ⟨o, _, _, ho, _⟩ := F.ns
        rw [← q] at ho; dsimp only at ho; rw [Heap.get?_push_of_some _ ho] at hnew; cases hnew
      · exact N.grown keep p hp
    · refine bytes_paired (F := fun v y => ∀ b t, v = .bytes (List.toArray b) t → ∃ u, y = .bytes (f b).toArray u) (fun v y hv => hv) hi ?_
      have : vs'.filter (fun _ => true) = vs' := List.filter_eq_self.mpr (fun _ _ => rfl)
      rw [this] at hF; exact hF
end

def PackB (P : Prop) : Prop := P
def EltB (f : List UInt8 → List UInt8) (b : List UInt8) (s₂ : Shared) (y : Value) (s₃ : Shared) : Prop := (∃ u, y = .bytes (f b).toArray u) ∧ Keeps s₂ s₃
section
variable {prog : Program} {w : World} {A : Around} {E : Value → Shared → Prop} {s : Shared} {h₀ : Heap} {L : Addr} {m : Str → Option Value} {env : Env}
theorem ListComp_B' {elt iter : PySem.Expr} {x : Str} {px : Pos} {scope : Scope} {cl : List (Str × Addr)} {pos : Pos} {Q : Value → Shared → Prop} (f : List UInt8 → List UInt8)
    (hh : A.handled = none) (hclos : closureFor scope env = pure cl) (hcell : ∀ y ∈ scope.names, y.2 ≠ .cell) (hkind : scope.kind = .function)
    (hnames : ∀ y ∈ scope.names, y.2 = .local → scope.names.lookup y.1 = some .local) (hx : scope.names.lookup x = some .local)
    (h : wpAny (model prog w) A (eval iter env) (fun xv s₁ => PackB (∃ news : List (Addr × Obj), ∃ ax vs bs, xv = .ref ax ∧ s₁.heap.IsList ax (List.toArray vs) ∧ BytesAre vs bs ∧ bs.length ≤ sizeLine ∧ Fr h₀ L s₁.heap m ∧ News h₀ L s₁.heap news ∧
      (∀ C b t s₂ m₂ E', s₂.heap.Ns C m₂ → m₂ x = some (.bytes (List.toArray b) t) → (∀ b o, s₁.heap.get? b = some o → s₂.heap.get? b = some o) → Fr h₀ L s₂.heap m → News h₀ L s₂.heap news →
        wpAny (model prog w) A (eval elt (compEnvC scope cl C env)) (EltB f b s₂) E' s₂) ∧
      (∀ D (ys : List Value) n h' tk, Fr h₀ L h' m → News h₀ L h' ((D, W.listOf ys.toArray n) :: news) → (∀ p ∈ news, p.1 ≠ D) → BytesAre ys (bs.map f) → Q (.ref D) { s₁ with heap := h', toks := tk }))) E s)
    (hs : ∀ x, foldedSetIterable iter env x = pure x) :
    wpAny (model prog w) A (eval (.ListComp elt [⟨.Name x px, iter, [], 0⟩] scope pos) env) Q E s :=
  ListComp_B f hh hclos hcell hkind hnames hx (wpAny_mono h (fun xv s₁ ⟨news, ax, vs, bs, a1, a2, a3, a4, a5, a6, a7, a8⟩ => ⟨news, ax, vs, bs, a1, a2, a3, a4, a5, a6, fun C b t s₂ m₂ E' n1 n2 n3 => a7 C b t s₂ m₂ E' n1 n2 n3 (a5.keeps n3) (a6.grown n3), a8⟩) fun _ _ e => e) hs
end
section
variable {w : World} {f : Addr} {vs : List Value} {D U : Nat} {A : Around} {s : Shared} {Q E : Value → Shared → Prop} {h₀ : Heap} {L : Addr} {m : Str → Option Value} {news : List (Addr × Obj)} {mean : ExcName → Option Value} {mg mb : Str → Option Value}
theorem use_valK {V : Tok → Value} (C : Con w f vs D U [] (PV V)) (T : Top hd.view_39 looseN mean mg mb h₀) (X : (hd.heap_39 w.params).In h₀) (F : Fr h₀ L s.heap m) (N : News h₀ L s.heap news)
    (hh : A.handled = none) (hd : A.depth + D < recursionLimit) (hu : A.units + U < cLine)
    (h : ∀ t h' tk', Fr h₀ L h' m → News h₀ L h' news → (∀ b o, s.heap.get? b = some o → h'.get? b = some o) → Q (V t) { s with heap := h', toks := tk' }) :
    wpAny (model PySem.Challenge.rw_nt0004_01.row.prog w) A (call (.ref f) vs) Q E s :=
  use_con C T X F N hh hd hu (fun r h' tk' F' N' k P => by obtain ⟨t, rfl⟩ := P; exact h t h' tk' F' N' k)
end
-- B5
abbrev VOW : List UInt8 := [65, 69, 73, 79, 85, 87, 89]
def isV (c : UInt8) : Bool := VOW.contains c
def StepB (h₀ : Heap) (L : Addr) (s : Shared) (k : Str) (p : UInt8 → Bool) (x : List UInt8) (m : Str → Option Value) (news : List (Addr × Obj)) (i : Nat) (f : Flow) (s' : Shared) : Prop :=
  f = .next ∧ ∃ t h' tk, s' = { s with heap := h', toks := tk } ∧ Fr h₀ L h' (fun y => if y = k then some (.int ((i : Int) + 1) t) else m y) ∧ News h₀ L h' news ∧ i < x.length ∧ p (x.getD i 0) = true
def EndB (h₀ : Heap) (L : Addr) (s : Shared) (k : Str) (p : UInt8 → Bool) (x : List UInt8) (m : Str → Option Value) (news : List (Addr × Obj)) (i : Nat) (s' : Shared) : Prop :=
  ∃ t h' tk, s' = { s with heap := h', toks := tk } ∧ Fr h₀ L h' (fun y => if y = k then some (.int (i : Int) t) else m y) ∧ News h₀ L h' news ∧ (x.length ≤ i ∨ p (x.getD i 0) = false)
theorem takeWhile_len {p : UInt8 → Bool} {x : List UInt8} : ∀ {n : Nat}, n ≤ x.length → (∀ j, j < n → p (x.getD j 0) = true) → (x.length ≤ n ∨ p (x.getD n 0) = false) → (x.takeWhile p).length = n := by
  induction x with
  | nil => intro n h _ _; simp at h; subst h; rfl
  | cons c r ih =>
    intro n h h1 h2
    cases n with
    | zero =>
      rcases h2 with h2 | h2
      · simp at h2
      · have : p c = false := by simpa using h2
        simp [List.takeWhile_cons, this]
    | succ n =>
      have hc : p c = true := by simpa using h1 0 (Nat.succ_pos _)
      rw [List.takeWhile_cons, if_pos hc, List.length_cons]
      rw [ih (n := n) (by simpa using h) (fun j hj => by simpa using h1 (j + 1) (by omega)) (h2.imp (fun a => by simpa using a) (fun a => by simpa using a))]
theorem upd_twice {k : Str} {a b : Option Value} {m : Str → Option Value} : (fun y => if y = k then a else if y = k then b else m y) = fun y => if y = k then a else m y := by
  funext y; by_cases h : y = k <;> simp [h]
theorem step_fr {h₀ h' : Heap} {L : Addr} {k : Str} {a b : Option Value} {m : Str → Option Value} (F : Fr h₀ L h' (fun y => if y = k then a else if y = k then b else m y)) : Fr h₀ L h' (fun y => if y = k then a else m y) := by
  rw [upd_twice] at F; exact F
section
variable {prog : Program} {w : World} {A : Around} {E : Value → Shared → Prop} {Q : Flow → Shared → Prop} {s : Shared} {env : Env} {h₀ : Heap} {L : Addr}
theorem while_B {test : PySem.Expr} {body : List Stmt} {pos : Pos} {m : Str → Option Value} {news : List (Addr × Obj)} (k : Str) (p : UInt8 → Bool) {x : List UInt8} {i0 : Nat} {t0 : Tok}
    (F : Fr h₀ L s.heap m) (N : News h₀ L s.heap news) (h0 : m k = some (.int (i0 : Int) t0)) (hi0 : i0 ≤ x.length)
    (turn : ∀ (i : Nat) t h₁ tk₁, i0 ≤ i → i ≤ x.length → Fr h₀ L h₁ (fun y => if y = k then some (.int (i : Int) t) else m y) → News h₀ L h₁ news →
      wpAny (model prog w) A (isTrue test env (eval test env)) (fun b s₂ => if b = true then wpAny (model prog w) A (execs body env) (StepB h₀ L s k p x m news i) E s₂ else EndB h₀ L s k p x m news i s₂) E { s with heap := h₁, toks := tk₁ })
    (cont : ∀ (i : Nat) t h' tk, i = i0 + ((x.drop i0).takeWhile p).length → i ≤ x.length → Fr h₀ L h' (fun y => if y = k then some (.int (i : Int) t) else m y) → News h₀ L h' news → Q .next { s with heap := h', toks := tk })
    (hE : ∀ v s', E v s' → False) :
    wpAny (model prog w) A (exec (.While test body [] pos) env) Q E s := by
  have hm : m = fun y => if y = k then some (.int (i0 : Int) t0) else m y := by
    funext y; by_cases h : y = k
    · simp [h, h0]
    · simp [h]
  have hPE : PassesOwn (model prog w) A env E := fun v s' h => (hE v s' h).elim
  refine While_inv (fun n m₁ news₁ => ∃ (i : Nat) (t : Tok), m₁ = (fun y => if y = k then some (.int (i : Int) t) else m y) ∧ news₁ = news ∧ i0 ≤ i ∧ i ≤ x.length ∧ n = x.length - i ∧ ∀ j, i0 ≤ j → j < i → p (x.getD j 0) = true) (n₀ := x.length - i0) F N
    ⟨i0, t0, hm, rfl, Nat.le_refl _, hi0, rfl, fun j a b => absurd b (Nat.not_lt.mpr a)⟩ ?_ hPE
  rintro n m₁ news₁ h₁ tk₁ F₁ N₁ ⟨i, t, rfl, rfl, a1, a2, rfl, a3⟩
  refine wpAny_mono (turn i t h₁ tk₁ a1 a2 F₁ N₁) (fun b s₂ h₂ => ?_) fun _ _ e => e
  cases b with
  | false =>
    simp only [Bool.false_eq_true, if_false] at h₂ ⊢
    obtain ⟨t', h', tk, rfl, F₂, N₂, e⟩ := h₂
    refine cont i t' h' tk ?_ a2 F₂ N₂
    have hl : (x.drop i0).length = x.length - i0 := List.length_drop
    have hg : ∀ j, (x.drop i0).getD j 0 = x.getD (i0 + j) 0 := fun j => by
      rw [List.getD_eq_getElem?_getD, List.getD_eq_getElem?_getD, List.getElem?_drop]
    rw [takeWhile_len (n := i - i0) (by omega) (fun j hj => by rw [hg]; exact a3 _ (by omega) (by omega)) (e.imp (fun z => by omega) (fun z => by rw [hg, show i0 + (i - i0) = i by omega]; exact z))]
    omega
  | true =>
    simp only [if_true] at h₂ ⊢
    refine wpAny_mono h₂ (fun f s₃ h₃ => ?_) fun _ _ e => e
    obtain ⟨rfl, t', h', tk, rfl, F₂, N₂, b1, b2⟩ := h₃
    refine WhileStep.intro (n' := x.length - (i + 1)) F₂ N₂ (by omega) ⟨i + 1, t', by push_cast; rfl, rfl, by omega, by omega, rfl, fun j c1 c2 => ?_⟩
    by_cases q : j = i
    · rw [q]; exact b2
    · exact a3 j c1 (by omega)
theorem nv_false {c : UInt8} (h : VOW.contains c = true) : (!isV c) = false := by unfold isV; rw [h]; rfl
theorem nv_true {c : UInt8} (h : VOW.contains c = false) : (!isV c) = true := by unfold isV; rw [h]; rfl
theorem while_B' {test : PySem.Expr} {body : List Stmt} {pos : Pos} {m : Str → Option Value} {news : List (Addr × Obj)} (k : Str) (p : UInt8 → Bool) {x : List UInt8} {i0 : Nat} {t0 tx : Tok}
    (F : Fr h₀ L s.heap m) (N : News h₀ L s.heap news) (_hx : m (Str.ofString "octets") = some (.bytes x.toArray tx)) (h0 : m k = some (.int (i0 : Int) t0)) (hi0 : i0 ≤ x.length)
    (turn : ∀ (i : Nat) t h₁ tk₁, i0 ≤ i → i ≤ x.length → Fr h₀ L h₁ (fun y => if y = k then some (.int (i : Int) t) else m y) → News h₀ L h₁ news →
      wpAny (model prog w) A (isTrue test env (eval test env)) (fun b s₂ => if b = true then wpAny (model prog w) A (execs body env) (StepB h₀ L s k p x m news i) E s₂ else EndB h₀ L s k p x m news i s₂) E { s with heap := h₁, toks := tk₁ })
    (cont : ∀ (i : Nat) t h' tk, i = i0 + ((x.drop i0).takeWhile p).length → i ≤ x.length → Fr h₀ L h' (fun y => if y = k then some (.int (i : Int) t) else m y) → News h₀ L h' news → Q .next { s with heap := h', toks := tk })
    (hE : ∀ v s', E v s' → False) :
    wpAny (model prog w) A (exec (.While test body [] pos) env) Q E s := while_B k p F N h0 hi0 turn cont hE
theorem byte_notIn_B {x : List UInt8} {b : UInt8} {t u : Tok} {Q : Value → Shared → Prop} (h : Q (.bool (!x.contains b)) s) : wpAny (model prog w) A (compareOp .NotIn (.int (b.toNat : Nat) u) (.bytes x.toArray t)) Q E s := by
  have hb := b.toNat_lt
  refine int_notIn_B (by omega) (by omega) ?_
  have : ((b.toNat : Int)).toNat.toUInt8 = b := by simp
  rw [this]; exact h
theorem byte_in_B {x : List UInt8} {b : UInt8} {t u : Tok} {Q : Value → Shared → Prop} (h : Q (.bool (x.contains b)) s) : wpAny (model prog w) A (compareOp .In (.int (b.toNat : Nat) u) (.bytes x.toArray t)) Q E s := by
  have hb := b.toNat_lt
  refine int_in_B (by omega) (by omega) ?_
  have : ((b.toNat : Int)).toNat.toUInt8 = b := by simp
  rw [this]; exact h
end
-- B6
def TurnB (h₀ : Heap) (L : Addr) (J : (Str → Option Value) → Prop) (need : List (Addr × Obj)) (s₁ : Shared) (Q : Flow → Shared → Prop) (f : Flow) (s₂ : Shared) : Prop :=
  match f with
  | .ret v => Q (.ret v) s₂
  | .brk => Q .next s₂
  | _ => ∃ h' tk m' news', s₂ = { s₁ with heap := h', toks := tk } ∧ Fr h₀ L h' m' ∧ News h₀ L h' news' ∧ (∀ p ∈ need, p ∈ news') ∧ J m'
theorem TurnB.next {h₀ h' : Heap} {L : Addr} {J : (Str → Option Value) → Prop} {need news' : List (Addr × Obj)} {s₁ : Shared} {Q : Flow → Shared → Prop} {m' : Str → Option Value} {tk : Nat} (F : Fr h₀ L h' m') (N : News h₀ L h' news') (hs : ∀ p ∈ need, p ∈ news') (hj : J m') :
    TurnB h₀ L J need s₁ Q .next { s₁ with heap := h', toks := tk } := ⟨h', tk, m', news', rfl, F, N, hs, hj⟩
section
variable {prog : Program} {w : World} {A : Around} {E : Value → Shared → Prop} {s : Shared} {h₀ : Heap} {env : Env} {xi xc : Str} {body : List Stmt} {Q : Flow → Shared → Prop}
theorem enum_B {l : Addr} {vs : List Value} {n : Nat} {bs : List (List UInt8)} {m₀ : Str → Option Value} {news : List (Addr × Obj)} (J : Nat → (Str → Option Value) → Prop)
    (hh : A.handled = none) (F : Fr h₀ env.locals s.heap m₀) (N : News h₀ env.locals s.heap news) (hm : (l, W.listOf vs.toArray n) ∈ news) (hb : BytesAre vs bs) (hj : J 0 m₀)
    (turn : ∀ (i : Nat) b t t' m₁ h tk own, bs[i]? = some b → J i m₁ → Fr h₀ env.locals h (fun y => if y = xc then some (.bytes (List.toArray b) t') else if y = xi then some (.int (i : Int) t) else m₁ y) → News h₀ env.locals h (news ++ own) →
      wpAny (model prog w) A (execs body env) (TurnB h₀ env.locals (J (i + 1)) (news ++ own) { s with heap := h, toks := tk } Q) E { s with heap := h, toks := tk })
    (done : ∀ m₁ h tk, J bs.length m₁ → Fr h₀ env.locals h m₁ → News h₀ env.locals h news → Q .next { s with heap := h, toks := tk }) :
    wpAny (model prog w) A (call (.type "enumerate") [.ref l]) (fun xv s₁ => wpAny (model prog w) A (pyIter xv) (fun it s₂ => PairAt3 prog w A h₀ env xi xc body Q E it s₂) E s₁) E s := by
  have hax := N _ hm
  have hl : s.heap.IsList l vs.toArray := ⟨_, hax.1, rfl, n, rfl⟩
  have hlt : l < s.heap.objs.size := Heap.lt_size hax.1
  have hLs : env.locals < s.heap.objs.size := F.ns.lt
  refine call_enumerate_list hl fun h' hE hI hsz hk => ?_
  refine wpAny_pyIter_enum hE ?_
  refine ⟨s.heap.objs.size + 1, [s.heap.objs.size + 1, s.heap.objs.size, l], [s.heap.objs.size + 1, s.heap.objs.size], vs.toArray.size, _, _, _, (fun i v0 v1 => ∃ t, v0 = .int (i : Int) t ∧ vs[i]? = some v1), m₀, news, (fun i m₁ news₁ => news₁ = news ∧ J i m₁), rfl,
    WalksT.enumerate hh (s.heap.objs.size + 1) s.heap.objs.size l (Nat.succ_ne_self _) (Nat.ne_of_lt (Nat.lt_succ_of_lt hlt)) (Nat.ne_of_lt hlt) vs.toArray, ?_, ?_, ?_, ?_, ⟨⟨.none, hE⟩, hI, hl.at fun o e => hk l o e⟩, F.keeps hk, N.grown hk, ⟨rfl, hj⟩, ?_, ?_⟩
  · rintro i vals ⟨t, x, hx, rfl⟩
    exact ⟨_, _, rfl, t, rfl, by simpa using hx⟩
  · intro hI'
    have hb' : env.locals = s.heap.objs.size + 1 ∨ env.locals = s.heap.objs.size ∨ env.locals = l := by simpa using hI'
    rcases hb' with e | e | e
    · exact absurd e (Nat.ne_of_lt (Nat.lt_succ_of_lt hLs))
    · exact Nat.ne_of_lt hLs e
    · exact hax.2.1 e.symm
  · intro b hb'
    have hb'' : b = s.heap.objs.size + 1 ∨ b = s.heap.objs.size := by simpa using hb'
    cases q : h₀.get? b with
    | none => rfl
    | some o =>
      have := Heap.lt_size (F.keep _ _ q)
      rcases hb'' with rfl | rfl
      · exact absurd this (Nat.not_lt.mpr (Nat.le_succ _))
      · exact absurd this (Nat.lt_irrefl _)
  · intro p hp hI'
    have hb' : p.1 = s.heap.objs.size + 1 ∨ p.1 = s.heap.objs.size := by simpa using hI'
    have hlp := Heap.lt_size (N p hp).1
    rcases hb' with e | e
    · exact absurd e (Nat.ne_of_lt (Nat.lt_succ_of_lt hlp))
    · exact Nat.ne_of_lt hlp e
  · rintro i v0 v1 m₁ news₁ s₁ own ⟨hh₁, tk₁, rfl⟩ hin ⟨t, rfl, hv⟩ ⟨rfl, hJ⟩ _ _ F₁ N₁
    obtain ⟨t', rfl⟩ := hb.get i _ hv
    have hi : i < bs.length := by rw [← hb.length]; simpa using hin
    have hbi : bs[i]? = some (bs.getD i []) := by rw [List.getElem?_eq_getElem hi, List.getD_eq_getElem?_getD, List.getElem?_eq_getElem hi]; rfl
    have N₂ : News h₀ env.locals hh₁ (news₁ ++ own) := fun p hp => N₁ p ((List.mem_append.mp hp).elim (fun h => List.mem_append.mpr (.inr h)) fun h => List.mem_append.mpr (.inl h))
    refine wpAny_mono (turn i _ t t' m₁ hh₁ tk₁ own hbi hJ F₁ N₂) (fun f s₂ p => ?_) fun _ _ e => e
    cases f with
    | ret v => exact p
    | brk => exact p
    | next =>
      obtain ⟨h2, tk2, m', news', e, F', N', hs, hJ'⟩ := p
      exact ⟨rfl, h2, tk2, m', news₁, e, F', fun q hq => N' q (hs q ((List.mem_append.mp hq).elim (fun h => List.mem_append.mpr (.inr h)) fun h => List.mem_append.mpr (.inl h))), rfl, rfl, hJ'⟩
    | cont =>
      obtain ⟨h2, tk2, m', news', e, F', N', hs, hJ'⟩ := p
      exact ⟨rfl, h2, tk2, m', news₁, e, F', fun q hq => N' q (hs q ((List.mem_append.mp hq).elim (fun h => List.mem_append.mpr (.inr h)) fun h => List.mem_append.mpr (.inl h))), rfl, rfl, hJ'⟩
  · rintro h'' tk m' news' F' N' _ ⟨rfl, hJ⟩
    exact done m' h'' tk (by rw [← hb.length]; simpa using hJ) F' N'
end
theorem map_at {k : Str} {m : Str → Option Value} {v : Value} (h : m k = some v) : m = fun y => if y = k then some v else m y := by
  funext y; by_cases q : y = k
  · rw [if_pos q, q, h]
  · rw [if_neg q]
-- UB
section
variable {w : World} {f : Addr} {vs : List Value} {D U : Nat} {A : Around} {s : Shared} {Q E : Value → Shared → Prop} {h₀ : Heap} {L : Addr} {m : Str → Option Value} {news : List (Addr × Obj)} {mean : ExcName → Option Value} {mg mb : Str → Option Value}
theorem use_optI {F : Option Int} (C : Con w f vs D U [] (PV (optI F))) (T : Top hd.view_39 looseN mean mg mb h₀) (X : (hd.heap_39 w.params).In h₀) (Fr9 : Fr h₀ L s.heap m) (N : News h₀ L s.heap news)
    (hh : A.handled = none) (hd : A.depth + D < recursionLimit) (hu : A.units + U < cLine)
    (hn : ∀ h' tk', F = none → Fr h₀ L h' m → News h₀ L h' news → Q .none { s with heap := h', toks := tk' })
    (hs : ∀ i t h' tk', F = some i → Fr h₀ L h' m → News h₀ L h' news → Q (.int i t) { s with heap := h', toks := tk' }) :
    wpAny (model PySem.Challenge.rw_nt0004_01.row.prog w) A (call (.ref f) vs) Q E s := by
  refine use_val C T X Fr9 N hh hd hu (fun t h' tk' F' N' => ?_)
  cases e : F with
  | none => exact hn h' tk' e F' N'
  | some i => exact hs i t h' tk' e F' N'
theorem use_int {F : Option Int} {c : Int} (C : Con w f vs D U [] (PV (optI F))) (e : F = some c) (T : Top hd.view_39 looseN mean mg mb h₀) (X : (hd.heap_39 w.params).In h₀) (Fr9 : Fr h₀ L s.heap m) (N : News h₀ L s.heap news)
    (hh : A.handled = none) (hd : A.depth + D < recursionLimit) (hu : A.units + U < cLine)
    (hs : ∀ t h' tk', Fr h₀ L h' m → News h₀ L h' news → Q (.int c t) { s with heap := h', toks := tk' }) :
    wpAny (model PySem.Challenge.rw_nt0004_01.row.prog w) A (call (.ref f) vs) Q E s := by
  subst e
  exact use_val C T X Fr9 N hh hd hu (fun t h' tk' F' N' => hs t h' tk' F' N')
theorem use_noint {F : Option Int} (C : Con w f vs D U [] (PV (optI F))) (e : F = none) (T : Top hd.view_39 looseN mean mg mb h₀) (X : (hd.heap_39 w.params).In h₀) (Fr9 : Fr h₀ L s.heap m) (N : News h₀ L s.heap news)
    (hh : A.handled = none) (hd : A.depth + D < recursionLimit) (hu : A.units + U < cLine)
    (hn : ∀ h' tk', Fr h₀ L h' m → News h₀ L h' news → Q .none { s with heap := h', toks := tk' }) :
    wpAny (model PySem.Challenge.rw_nt0004_01.row.prog w) A (call (.ref f) vs) Q E s := by
  subst e
  exact use_val C T X Fr9 N hh hd hu (fun t h' tk' F' N' => hn h' tk' F' N')
theorem use_str {F : Option Str} {c : Str} (C : Con w f vs D U [] (PV (optS F))) (e : F = some c) (T : Top hd.view_39 looseN mean mg mb h₀) (X : (hd.heap_39 w.params).In h₀) (Fr9 : Fr h₀ L s.heap m) (N : News h₀ L s.heap news)
    (hh : A.handled = none) (hd : A.depth + D < recursionLimit) (hu : A.units + U < cLine)
    (hs : ∀ t h' tk', Fr h₀ L h' m → News h₀ L h' news → Q (.str c t) { s with heap := h', toks := tk' }) :
    wpAny (model PySem.Challenge.rw_nt0004_01.row.prog w) A (call (.ref f) vs) Q E s := by
  subst e
  exact use_val C T X Fr9 N hh hd hu (fun t h' tk' F' N' => hs t h' tk' F' N')
theorem kindF_split {P : Value → Prop} {c : Int} {t : Tok} (h1 : 44032 ≤ c ∧ c < 55204 → (c - 44032).fmod 28 = 0 → P (.str (Str.ofString "LV") t)) (h2 : ¬ ((44032 ≤ c ∧ c < 55204) ∧ (c - 44032).fmod 28 = 0) → P (.str (Str.ofString "LVT") t))
    (h3 : ¬ (44032 ≤ c ∧ c < 55204) → P (.str (Str.ofString "L") t)) (h4 : ¬ (44032 ≤ c ∧ c < 55204) → P (.str (Str.ofString "V") t)) (h5 : ¬ (44032 ≤ c ∧ c < 55204) → P (.str (Str.ofString "T") t)) (h6 : ¬ (44032 ≤ c ∧ c < 55204) → P .none) : P (optS (kindF c) t) := by
  unfold kindF
  by_cases q : 44032 ≤ c ∧ c < 55204
  · rw [if_pos q]
    by_cases q' : (c - 44032).fmod 28 = 0
    · rw [if_pos q']; exact h1 q q'
    · rw [if_neg q']; exact h2 (fun z => q' z.2)
  · rw [if_neg q]
    repeat' split
    · exact h3 q
    · exact h4 q
    · exact h5 q
    · exact h6 q
theorem use_kind {c : Int} (C : Con w f vs D U [] (PV (optS (kindF c)))) (T : Top hd.view_39 looseN mean mg mb h₀) (X : (hd.heap_39 w.params).In h₀) (Fr9 : Fr h₀ L s.heap m) (N : News h₀ L s.heap news)
    (hh : A.handled = none) (hd : A.depth + D < recursionLimit) (hu : A.units + U < cLine)
    (h1 : ∀ t h' tk', 44032 ≤ c ∧ c < 55204 → (c - 44032).fmod 28 = 0 → Fr h₀ L h' m → News h₀ L h' news → Q (.str (Str.ofString "LV") t) { s with heap := h', toks := tk' })
    (h2 : ∀ t h' tk', ¬ ((44032 ≤ c ∧ c < 55204) ∧ (c - 44032).fmod 28 = 0) → Fr h₀ L h' m → News h₀ L h' news → Q (.str (Str.ofString "LVT") t) { s with heap := h', toks := tk' })
    (h3 : ∀ t h' tk', ¬ (44032 ≤ c ∧ c < 55204) → Fr h₀ L h' m → News h₀ L h' news → Q (.str (Str.ofString "L") t) { s with heap := h', toks := tk' })
    (h4 : ∀ t h' tk', ¬ (44032 ≤ c ∧ c < 55204) → Fr h₀ L h' m → News h₀ L h' news → Q (.str (Str.ofString "V") t) { s with heap := h', toks := tk' })
    (h5 : ∀ t h' tk', ¬ (44032 ≤ c ∧ c < 55204) → Fr h₀ L h' m → News h₀ L h' news → Q (.str (Str.ofString "T") t) { s with heap := h', toks := tk' })
    (h6 : ∀ h' tk', ¬ (44032 ≤ c ∧ c < 55204) → Fr h₀ L h' m → News h₀ L h' news → Q .none { s with heap := h', toks := tk' }) :
    wpAny (model PySem.Challenge.rw_nt0004_01.row.prog w) A (call (.ref f) vs) Q E s :=
  use_val C T X Fr9 N hh hd hu (fun t h' tk' F' N' => kindF_split (P := fun v => Q v { s with heap := h', toks := tk' }) (fun a b => h1 _ _ _ a b F' N') (fun a => h2 _ _ _ a F' N') (fun a => h3 _ _ _ a F' N') (fun a => h4 _ _ _ a F' N') (fun a => h5 _ _ _ a F' N') (fun a => h6 _ _ a F' N'))
/-- a new tuple comes back -/
theorem use_tup3 {x y z : Int} (C : Con w f vs D U [] (fun h h' r => ∃ a t1 t2 t3, r = .ref a ∧ h.get? a = none ∧ h'.get? a = some (tupOf [.int x t1, .int y t2, .int z t3])))
    (T : Top hd.view_39 looseN mean mg mb h₀) (X : (hd.heap_39 w.params).In h₀) (Fr9 : Fr h₀ L s.heap m) (N : News h₀ L s.heap news)
    (hh : A.handled = none) (hd : A.depth + D < recursionLimit) (hu : A.units + U < cLine)
    (h : ∀ a t1 t2 t3 h' tk', Fr h₀ L h' m → News h₀ L h' ((a, tupOf [.int x t1, .int y t2, .int z t3]) :: news) → (∀ p ∈ news, p.1 ≠ a) → Q (.ref a) { s with heap := h', toks := tk' }) :
    wpAny (model PySem.Challenge.rw_nt0004_01.row.prog w) A (call (.ref f) vs) Q E s := by
  refine use_con C T X Fr9 N hh hd hu (fun r h' tk' F' N' k P => ?_)
  obtain ⟨a, t1, t2, t3, rfl, e1, e2⟩ := P
  refine h a t1 t2 t3 h' tk' F' (fun p hp => ?_) (fun p hp e => ?_)
  · rcases List.mem_cons.mp hp with rfl | hp
    · refine ⟨e2, fun e => ?_, ?_⟩
      · obtain ⟨o, _, _, ho, _⟩ := Fr9.ns
        rw [← e] at ho; dsimp only at ho; rw [e1] at ho; cases ho
      · cases q : h₀.get? a with
        | none => rfl
        | some o => rw [Fr9.keep a o q] at e1; cases e1
    · exact N' p hp
  · have := (N p hp).1
    rw [e, e1] at this; cases this
/-- a new tuple of two comes back -/
theorem use_tup2 {x y : Int} (C : Con w f vs D U [] (fun h h' r => ∃ a t1 t2, r = .ref a ∧ h.get? a = none ∧ h'.get? a = some (tupOf [.int x t1, .int y t2])))
    (T : Top hd.view_39 looseN mean mg mb h₀) (X : (hd.heap_39 w.params).In h₀) (Fr9 : Fr h₀ L s.heap m) (N : News h₀ L s.heap news)
    (hh : A.handled = none) (hd : A.depth + D < recursionLimit) (hu : A.units + U < cLine)
    (h : ∀ a t1 t2 h' tk', Fr h₀ L h' m → News h₀ L h' ((a, tupOf [.int x t1, .int y t2]) :: news) → (∀ p ∈ news, p.1 ≠ a) → Q (.ref a) { s with heap := h', toks := tk' }) :
    wpAny (model PySem.Challenge.rw_nt0004_01.row.prog w) A (call (.ref f) vs) Q E s := by
  refine use_con C T X Fr9 N hh hd hu (fun r h' tk' F' N' k P => ?_)
  obtain ⟨a, t1, t2, rfl, e1, e2⟩ := P
  refine h a t1 t2 h' tk' F' (fun p hp => ?_) (fun p hp e => ?_)
  · rcases List.mem_cons.mp hp with rfl | hp
    · refine ⟨e2, fun e => ?_, ?_⟩
      · obtain ⟨o, _, _, ho, _⟩ := Fr9.ns
        rw [← e] at ho; dsimp only at ho; rw [e1] at ho; cases ho
      · cases q : h₀.get? a with
        | none => rfl
        | some o => rw [Fr9.keep a o q] at e1; cases e1
    · exact N' p hp
  · have := (N p hp).1
    rw [e, e1] at this; cases this
end
-- C3
theorem con_lpair (w : World) (a b : Int) (t u : Tok) : Con w 146 [.int a t, .int b u] 5 24 [] (PV (optI (pairF a b))) := by
  unfold Con
  k_fill
  intro mean mg mb hT dp un fr gd s Q E TT KX st hl hd9 hu9 hret
  refine' enterC (K := hd.heap_39 _) (binds := [(Str.ofString "one", .int a t), (Str.ofString "other", .int b u)]) ?kT ?kX ?kst ?kl ?kroom ?kho ?khcd ?kbind ?kloc ?_ ?kco ?kgen ?kk ?kcell
  (case kT => assumption)
  (case kX => assumption)
  (case kst => assumption)
  (case kl => assumption)
  (case kroom => (show dp < _; omega))
  (case kho => k_is)
  (case khcd => k_is)
  (case kbind => exact BindsTo.of_eq rfl)
  (case kloc => exact locs rfl)
  (case kco => exact rfl)
  (case kgen => exact rfl)
  (case kk => exact rfl)
  (case kcell => decide)
  intro g L' h₁ hgs hgn F' N' X' T'
  (try dsimp only)
  (try k_fold)
  repeat' (first | (k_unfold; (try dsimp only)) | ((with_reducible show wpAny _ _ (call (Value.ref _) _) _ _ _); first | ((with_reducible show wpAny _ _ (call (Value.ref 42) [Value.int _ _, Value.int _ _]) _ _ _); refine' use_optI (con_pair _ _ _ _ _) ?k1 ?k2 ?k3 ?k4 ?kh ?k5 ?k6 ?_ ?_; (case k3 => k_asm); (case k4 => k_asm); (case k1 => k_asm); (case k2 => k_asm); (case kh => exact rfl); (case k5 => first | (refine' dOk ?da ?db; (case da => assumption); (case db => exact rfl)) | exact Nat.le_of_ble_eq_true rfl | (simp only [depth_deeper, depth_in1]; (try dsimp only [AR]); omega)); (case k6 => first | (refine' uOk ?da ?db; (case da => assumption); (case db => exact rfl)) | exact Nat.le_of_ble_eq_true rfl | (simp only [units_deeper, units_in1]; (try dsimp only [AR]); omega)); intros; (try dsimp only); (try k_sweep)) | ((with_reducible show wpAny _ _ (call (Value.ref 139) [Value.int _ _]) _ _ _); refine' use_kind (con_lkind _ _ _) ?k1 ?k2 ?k3 ?k4 ?kh ?k5 ?k6 ?_ ?_ ?_ ?_ ?_ ?_; (case k3 => k_asm); (case k4 => k_asm); (case k1 => k_asm); (case k2 => k_asm); (case kh => exact rfl); (case k5 => first | (refine' dOk ?da ?db; (case da => assumption); (case db => exact rfl)) | exact Nat.le_of_ble_eq_true rfl | (simp only [depth_deeper, depth_in1]; (try dsimp only [AR]); omega)); (case k6 => first | (refine' uOk ?da ?db; (case da => assumption); (case db => exact rfl)) | exact Nat.le_of_ble_eq_true rfl | (simp only [units_deeper, units_in1]; (try dsimp only [AR]); omega)); intros; (try dsimp only); (try k_sweep)) | ((with_reducible show wpAny _ _ (call (Value.ref 132) [Value.int _ _]) _ _ _); refine' use_val (con_lis _ _ _) ?k1 ?k2 ?k3 ?k4 ?kh ?k5 ?k6 ?_; (case k3 => k_asm); (case k4 => k_asm); (case k1 => k_asm); (case k2 => k_asm); (case kh => exact rfl); (case k5 => first | (refine' dOk ?da ?db; (case da => assumption); (case db => exact rfl)) | exact Nat.le_of_ble_eq_true rfl | (simp only [depth_deeper, depth_in1]; (try dsimp only [AR]); omega)); (case k6 => first | (refine' uOk ?da ?db; (case da => assumption); (case db => exact rfl)) | exact Nat.le_of_ble_eq_true rfl | (simp only [units_deeper, units_in1]; (try dsimp only [AR]); omega)); intro t9 h9 tk9 F9 N9; (try dsimp only); (try k_sweep)) | ((with_reducible show wpAny _ _ (call (Value.ref 21) [Value.int _ _]) _ _ _); refine' use_val (con_is _ _ _) ?k1 ?k2 ?k3 ?k4 ?kh ?k5 ?k6 ?_; (case k3 => k_asm); (case k4 => k_asm); (case k1 => k_asm); (case k2 => k_asm); (case kh => exact rfl); (case k5 => first | (refine' dOk ?da ?db; (case da => assumption); (case db => exact rfl)) | exact Nat.le_of_ble_eq_true rfl | (simp only [depth_deeper, depth_in1]; (try dsimp only [AR]); omega)); (case k6 => first | (refine' uOk ?da ?db; (case da => assumption); (case db => exact rfl)) | exact Nat.le_of_ble_eq_true rfl | (simp only [units_deeper, units_in1]; (try dsimp only [AR]); omega)); intro t9 h9 tk9 F9 N9; (try dsimp only); (try k_sweep))) | walk1 | (dsimp only; first | ((with_reducible show wpAny _ _ (call (Value.ref _) _) _ _ _); first | ((with_reducible show wpAny _ _ (call (Value.ref 42) [Value.int _ _, Value.int _ _]) _ _ _); refine' use_optI (con_pair _ _ _ _ _) ?k1 ?k2 ?k3 ?k4 ?kh ?k5 ?k6 ?_ ?_; (case k3 => k_asm); (case k4 => k_asm); (case k1 => k_asm); (case k2 => k_asm); (case kh => exact rfl); (case k5 => first | (refine' dOk ?da ?db; (case da => assumption); (case db => exact rfl)) | exact Nat.le_of_ble_eq_true rfl | (simp only [depth_deeper, depth_in1]; (try dsimp only [AR]); omega)); (case k6 => first | (refine' uOk ?da ?db; (case da => assumption); (case db => exact rfl)) | exact Nat.le_of_ble_eq_true rfl | (simp only [units_deeper, units_in1]; (try dsimp only [AR]); omega)); intros; (try dsimp only); (try k_sweep)) | ((with_reducible show wpAny _ _ (call (Value.ref 139) [Value.int _ _]) _ _ _); refine' use_kind (con_lkind _ _ _) ?k1 ?k2 ?k3 ?k4 ?kh ?k5 ?k6 ?_ ?_ ?_ ?_ ?_ ?_; (case k3 => k_asm); (case k4 => k_asm); (case k1 => k_asm); (case k2 => k_asm); (case kh => exact rfl); (case k5 => first | (refine' dOk ?da ?db; (case da => assumption); (case db => exact rfl)) | exact Nat.le_of_ble_eq_true rfl | (simp only [depth_deeper, depth_in1]; (try dsimp only [AR]); omega)); (case k6 => first | (refine' uOk ?da ?db; (case da => assumption); (case db => exact rfl)) | exact Nat.le_of_ble_eq_true rfl | (simp only [units_deeper, units_in1]; (try dsimp only [AR]); omega)); intros; (try dsimp only); (try k_sweep)) | ((with_reducible show wpAny _ _ (call (Value.ref 132) [Value.int _ _]) _ _ _); refine' use_val (con_lis _ _ _) ?k1 ?k2 ?k3 ?k4 ?kh ?k5 ?k6 ?_; (case k3 => k_asm); (case k4 => k_asm); (case k1 => k_asm); (case k2 => k_asm); (case kh => exact rfl); (case k5 => first | (refine' dOk ?da ?db; (case da => assumption); (case db => exact rfl)) | exact Nat.le_of_ble_eq_true rfl | (simp only [depth_deeper, depth_in1]; (try dsimp only [AR]); omega)); (case k6 => first | (refine' uOk ?da ?db; (case da => assumption); (case db => exact rfl)) | exact Nat.le_of_ble_eq_true rfl | (simp only [units_deeper, units_in1]; (try dsimp only [AR]); omega)); intro t9 h9 tk9 F9 N9; (try dsimp only); (try k_sweep)) | ((with_reducible show wpAny _ _ (call (Value.ref 21) [Value.int _ _]) _ _ _); refine' use_val (con_is _ _ _) ?k1 ?k2 ?k3 ?k4 ?kh ?k5 ?k6 ?_; (case k3 => k_asm); (case k4 => k_asm); (case k1 => k_asm); (case k2 => k_asm); (case kh => exact rfl); (case k5 => first | (refine' dOk ?da ?db; (case da => assumption); (case db => exact rfl)) | exact Nat.le_of_ble_eq_true rfl | (simp only [depth_deeper, depth_in1]; (try dsimp only [AR]); omega)); (case k6 => first | (refine' uOk ?da ?db; (case da => assumption); (case db => exact rfl)) | exact Nat.le_of_ble_eq_true rfl | (simp only [units_deeper, units_in1]; (try dsimp only [AR]); omega)); intro t9 h9 tk9 F9 N9; (try dsimp only); (try k_sweep))) | walk1) | fail "no step")
  all_goals ((try dsimp only); (try k_unfold); (try dsimp only); refine Wrap.mk (hret _ _ _ (fun b o e n => Fr.keep (by with_reducible assumption) b o (hgs b o e n)) ?_))
  all_goals first | exact PV.int (pairF_lv (by omega) (by omega)) | exact PV.int (pairF_lvt (by omega) rfl) | exact PV.noint (pairF_none (by omega) (by omega)) | trace_state
def compF (a b : Int) : Option Int := if 44032 ≤ a ∧ a < 55204 then none else pairF a b
def compF3 (a b c : Int) : Option Int := match compF a b with | none => none | some x => pairF x c
theorem compF_syl {a b : Int} (h : 44032 ≤ a ∧ a < 55204) : compF a b = none := by unfold compF; rw [if_pos h]
theorem compF_not {a b : Int} {r : Option Int} (h : ¬ (44032 ≤ a ∧ a < 55204)) (e : pairF a b = r) : compF a b = r := by unfold compF; rw [if_neg h, e]
theorem compF3_none {a b c : Int} (e : compF a b = none) : compF3 a b c = none := by unfold compF3; rw [e]
theorem compF3_some {a b c x : Int} {r : Option Int} (e : compF a b = some x) (e' : pairF x c = r) : compF3 a b c = r := by unfold compF3; rw [e]; exact e'
theorem con_comp3 (w : World) (a b c : Int) (t u v : Tok) : Con w 50 [.int a t, .int b u, .int c v] 5 24 [] (PV (optI (compF3 a b c))) := by
  unfold Con
  k_fill
  intro mean mg mb hT dp un fr gd s Q E TT KX st hl hd9 hu9 hret
  refine' enterC (K := hd.heap_39 _) (binds := [(Str.ofString "lead", .int a t), (Str.ofString "vowel", .int b u), (Str.ofString "tail", .int c v)]) ?kT ?kX ?kst ?kl ?kroom ?kho ?khcd ?kbind ?kloc ?_ ?kco ?kgen ?kk ?kcell
  (case kT => assumption)
  (case kX => assumption)
  (case kst => assumption)
  (case kl => assumption)
  (case kroom => (show dp < _; omega))
  (case kho => k_is)
  (case khcd => k_is)
  (case kbind => exact binds_K (Frag.In.keeps KX st) rfl (by k_is) rfl rfl rfl)
  (case kloc => exact locs rfl)
  (case kco => exact rfl)
  (case kgen => exact rfl)
  (case kk => exact rfl)
  (case kcell => decide)
  intro g L' h₁ hgs hgn F' N' X' T'
  (try dsimp only)
  (try k_fold)
  repeat' (first | (k_unfold; (try dsimp only)) | ((with_reducible show wpAny _ _ (call (Value.ref _) _) _ _ _); first | ((with_reducible show wpAny _ _ (call (Value.ref 42) [Value.int _ _, Value.int _ _]) _ _ _); refine' use_optI (con_pair _ _ _ _ _) ?k1 ?k2 ?k3 ?k4 ?kh ?k5 ?k6 ?_ ?_; (case k3 => k_asm); (case k4 => k_asm); (case k1 => k_asm); (case k2 => k_asm); (case kh => exact rfl); (case k5 => first | (refine' dOk ?da ?db; (case da => assumption); (case db => exact rfl)) | exact Nat.le_of_ble_eq_true rfl | (simp only [depth_deeper, depth_in1]; (try dsimp only [AR]); omega)); (case k6 => first | (refine' uOk ?da ?db; (case da => assumption); (case db => exact rfl)) | exact Nat.le_of_ble_eq_true rfl | (simp only [units_deeper, units_in1]; (try dsimp only [AR]); omega)); intros; (try dsimp only); (try k_sweep)) | ((with_reducible show wpAny _ _ (call (Value.ref 139) [Value.int _ _]) _ _ _); refine' use_kind (con_lkind _ _ _) ?k1 ?k2 ?k3 ?k4 ?kh ?k5 ?k6 ?_ ?_ ?_ ?_ ?_ ?_; (case k3 => k_asm); (case k4 => k_asm); (case k1 => k_asm); (case k2 => k_asm); (case kh => exact rfl); (case k5 => first | (refine' dOk ?da ?db; (case da => assumption); (case db => exact rfl)) | exact Nat.le_of_ble_eq_true rfl | (simp only [depth_deeper, depth_in1]; (try dsimp only [AR]); omega)); (case k6 => first | (refine' uOk ?da ?db; (case da => assumption); (case db => exact rfl)) | exact Nat.le_of_ble_eq_true rfl | (simp only [units_deeper, units_in1]; (try dsimp only [AR]); omega)); intros; (try dsimp only); (try k_sweep)) | ((with_reducible show wpAny _ _ (call (Value.ref 132) [Value.int _ _]) _ _ _); refine' use_val (con_lis _ _ _) ?k1 ?k2 ?k3 ?k4 ?kh ?k5 ?k6 ?_; (case k3 => k_asm); (case k4 => k_asm); (case k1 => k_asm); (case k2 => k_asm); (case kh => exact rfl); (case k5 => first | (refine' dOk ?da ?db; (case da => assumption); (case db => exact rfl)) | exact Nat.le_of_ble_eq_true rfl | (simp only [depth_deeper, depth_in1]; (try dsimp only [AR]); omega)); (case k6 => first | (refine' uOk ?da ?db; (case da => assumption); (case db => exact rfl)) | exact Nat.le_of_ble_eq_true rfl | (simp only [units_deeper, units_in1]; (try dsimp only [AR]); omega)); intro t9 h9 tk9 F9 N9; (try dsimp only); (try k_sweep)) | ((with_reducible show wpAny _ _ (call (Value.ref 21) [Value.int _ _]) _ _ _); refine' use_val (con_is _ _ _) ?k1 ?k2 ?k3 ?k4 ?kh ?k5 ?k6 ?_; (case k3 => k_asm); (case k4 => k_asm); (case k1 => k_asm); (case k2 => k_asm); (case kh => exact rfl); (case k5 => first | (refine' dOk ?da ?db; (case da => assumption); (case db => exact rfl)) | exact Nat.le_of_ble_eq_true rfl | (simp only [depth_deeper, depth_in1]; (try dsimp only [AR]); omega)); (case k6 => first | (refine' uOk ?da ?db; (case da => assumption); (case db => exact rfl)) | exact Nat.le_of_ble_eq_true rfl | (simp only [units_deeper, units_in1]; (try dsimp only [AR]); omega)); intro t9 h9 tk9 F9 N9; (try dsimp only); (try k_sweep))) | walk1 | (dsimp only; first | ((with_reducible show wpAny _ _ (call (Value.ref _) _) _ _ _); first | ((with_reducible show wpAny _ _ (call (Value.ref 42) [Value.int _ _, Value.int _ _]) _ _ _); refine' use_optI (con_pair _ _ _ _ _) ?k1 ?k2 ?k3 ?k4 ?kh ?k5 ?k6 ?_ ?_; (case k3 => k_asm); (case k4 => k_asm); (case k1 => k_asm); (case k2 => k_asm); (case kh => exact rfl); (case k5 => first | (refine' dOk ?da ?db; (case da => assumption); (case db => exact rfl)) | exact Nat.le_of_ble_eq_true rfl | (simp only [depth_deeper, depth_in1]; (try dsimp only [AR]); omega)); (case k6 => first | (refine' uOk ?da ?db; (case da => assumption); (case db => exact rfl)) | exact Nat.le_of_ble_eq_true rfl | (simp only [units_deeper, units_in1]; (try dsimp only [AR]); omega)); intros; (try dsimp only); (try k_sweep)) | ((with_reducible show wpAny _ _ (call (Value.ref 139) [Value.int _ _]) _ _ _); refine' use_kind (con_lkind _ _ _) ?k1 ?k2 ?k3 ?k4 ?kh ?k5 ?k6 ?_ ?_ ?_ ?_ ?_ ?_; (case k3 => k_asm); (case k4 => k_asm); (case k1 => k_asm); (case k2 => k_asm); (case kh => exact rfl); (case k5 => first | (refine' dOk ?da ?db; (case da => assumption); (case db => exact rfl)) | exact Nat.le_of_ble_eq_true rfl | (simp only [depth_deeper, depth_in1]; (try dsimp only [AR]); omega)); (case k6 => first | (refine' uOk ?da ?db; (case da => assumption); (case db => exact rfl)) | exact Nat.le_of_ble_eq_true rfl | (simp only [units_deeper, units_in1]; (try dsimp only [AR]); omega)); intros; (try dsimp only); (try k_sweep)) | ((with_reducible show wpAny _ _ (call (Value.ref 132) [Value.int _ _]) _ _ _); refine' use_val (con_lis _ _ _) ?k1 ?k2 ?k3 ?k4 ?kh ?k5 ?k6 ?_; (case k3 => k_asm); (case k4 => k_asm); (case k1 => k_asm); (case k2 => k_asm); (case kh => exact rfl); (case k5 => first | (refine' dOk ?da ?db; (case da => assumption); (case db => exact rfl)) | exact Nat.le_of_ble_eq_true rfl | (simp only [depth_deeper, depth_in1]; (try dsimp only [AR]); omega)); (case k6 => first | (refine' uOk ?da ?db; (case da => assumption); (case db => exact rfl)) | exact Nat.le_of_ble_eq_true rfl | (simp only [units_deeper, units_in1]; (try dsimp only [AR]); omega)); intro t9 h9 tk9 F9 N9; (try dsimp only); (try k_sweep)) | ((with_reducible show wpAny _ _ (call (Value.ref 21) [Value.int _ _]) _ _ _); refine' use_val (con_is _ _ _) ?k1 ?k2 ?k3 ?k4 ?kh ?k5 ?k6 ?_; (case k3 => k_asm); (case k4 => k_asm); (case k1 => k_asm); (case k2 => k_asm); (case kh => exact rfl); (case k5 => first | (refine' dOk ?da ?db; (case da => assumption); (case db => exact rfl)) | exact Nat.le_of_ble_eq_true rfl | (simp only [depth_deeper, depth_in1]; (try dsimp only [AR]); omega)); (case k6 => first | (refine' uOk ?da ?db; (case da => assumption); (case db => exact rfl)) | exact Nat.le_of_ble_eq_true rfl | (simp only [units_deeper, units_in1]; (try dsimp only [AR]); omega)); intro t9 h9 tk9 F9 N9; (try dsimp only); (try k_sweep))) | walk1) | fail "no step")
  all_goals ((try dsimp only); (try k_unfold); (try dsimp only); refine Wrap.mk (hret _ _ _ (fun b o e n => Fr.keep (by with_reducible assumption) b o (hgs b o e n)) ?_))
  all_goals first | exact PV.noint (compF3_none (compF_syl (by assumption))) | exact PV.noint (compF3_none (compF_not (by assumption) (by assumption))) | exact PV.noint (compF3_some (compF_not (by assumption) (by assumption)) (by assumption)) | exact PV.int (compF3_some (compF_not (by assumption) (by assumption)) (by assumption))
theorem con_comp (w : World) (a b : Int) (t u : Tok) : Con w 50 [.int a t, .int b u] 5 24 [] (PV (optI (compF a b))) := by
  unfold Con
  k_fill
  intro mean mg mb hT dp un fr gd s Q E TT KX st hl hd9 hu9 hret
  refine' enterC (K := hd.heap_39 _) (binds := [(Str.ofString "lead", .int a t), (Str.ofString "vowel", .int b u), (Str.ofString "tail", .none)]) ?kT ?kX ?kst ?kl ?kroom ?kho ?khcd ?kbind ?kloc ?_ ?kco ?kgen ?kk ?kcell
  (case kT => assumption)
  (case kX => assumption)
  (case kst => assumption)
  (case kl => assumption)
  (case kroom => (show dp < _; omega))
  (case kho => k_is)
  (case khcd => k_is)
  (case kbind => exact binds_K (Frag.In.keeps KX st) rfl (by k_is) rfl rfl rfl)
  (case kloc => exact locs rfl)
  (case kco => exact rfl)
  (case kgen => exact rfl)
  (case kk => exact rfl)
  (case kcell => decide)
  intro g L' h₁ hgs hgn F' N' X' T'
  (try dsimp only)
  (try k_fold)
  repeat' (first | (k_unfold; (try dsimp only)) | ((with_reducible show wpAny _ _ (call (Value.ref _) _) _ _ _); first | ((with_reducible show wpAny _ _ (call (Value.ref 42) [Value.int _ _, Value.int _ _]) _ _ _); refine' use_optI (con_pair _ _ _ _ _) ?k1 ?k2 ?k3 ?k4 ?kh ?k5 ?k6 ?_ ?_; (case k3 => k_asm); (case k4 => k_asm); (case k1 => k_asm); (case k2 => k_asm); (case kh => exact rfl); (case k5 => first | (refine' dOk ?da ?db; (case da => assumption); (case db => exact rfl)) | exact Nat.le_of_ble_eq_true rfl | (simp only [depth_deeper, depth_in1]; (try dsimp only [AR]); omega)); (case k6 => first | (refine' uOk ?da ?db; (case da => assumption); (case db => exact rfl)) | exact Nat.le_of_ble_eq_true rfl | (simp only [units_deeper, units_in1]; (try dsimp only [AR]); omega)); intros; (try dsimp only); (try k_sweep)) | ((with_reducible show wpAny _ _ (call (Value.ref 139) [Value.int _ _]) _ _ _); refine' use_kind (con_lkind _ _ _) ?k1 ?k2 ?k3 ?k4 ?kh ?k5 ?k6 ?_ ?_ ?_ ?_ ?_ ?_; (case k3 => k_asm); (case k4 => k_asm); (case k1 => k_asm); (case k2 => k_asm); (case kh => exact rfl); (case k5 => first | (refine' dOk ?da ?db; (case da => assumption); (case db => exact rfl)) | exact Nat.le_of_ble_eq_true rfl | (simp only [depth_deeper, depth_in1]; (try dsimp only [AR]); omega)); (case k6 => first | (refine' uOk ?da ?db; (case da => assumption); (case db => exact rfl)) | exact Nat.le_of_ble_eq_true rfl | (simp only [units_deeper, units_in1]; (try dsimp only [AR]); omega)); intros; (try dsimp only); (try k_sweep)) | ((with_reducible show wpAny _ _ (call (Value.ref 132) [Value.int _ _]) _ _ _); refine' use_val (con_lis _ _ _) ?k1 ?k2 ?k3 ?k4 ?kh ?k5 ?k6 ?_; (case k3 => k_asm); (case k4 => k_asm); (case k1 => k_asm); (case k2 => k_asm); (case kh => exact rfl); (case k5 => first | (refine' dOk ?da ?db; (case da => assumption); (case db => exact rfl)) | exact Nat.le_of_ble_eq_true rfl | (simp only [depth_deeper, depth_in1]; (try dsimp only [AR]); omega)); (case k6 => first | (refine' uOk ?da ?db; (case da => assumption); (case db => exact rfl)) | exact Nat.le_of_ble_eq_true rfl | (simp only [units_deeper, units_in1]; (try dsimp only [AR]); omega)); intro t9 h9 tk9 F9 N9; (try dsimp only); (try k_sweep)) | ((with_reducible show wpAny _ _ (call (Value.ref 21) [Value.int _ _]) _ _ _); refine' use_val (con_is _ _ _) ?k1 ?k2 ?k3 ?k4 ?kh ?k5 ?k6 ?_; (case k3 => k_asm); (case k4 => k_asm); (case k1 => k_asm); (case k2 => k_asm); (case kh => exact rfl); (case k5 => first | (refine' dOk ?da ?db; (case da => assumption); (case db => exact rfl)) | exact Nat.le_of_ble_eq_true rfl | (simp only [depth_deeper, depth_in1]; (try dsimp only [AR]); omega)); (case k6 => first | (refine' uOk ?da ?db; (case da => assumption); (case db => exact rfl)) | exact Nat.le_of_ble_eq_true rfl | (simp only [units_deeper, units_in1]; (try dsimp only [AR]); omega)); intro t9 h9 tk9 F9 N9; (try dsimp only); (try k_sweep))) | walk1 | (dsimp only; first | ((with_reducible show wpAny _ _ (call (Value.ref _) _) _ _ _); first | ((with_reducible show wpAny _ _ (call (Value.ref 42) [Value.int _ _, Value.int _ _]) _ _ _); refine' use_optI (con_pair _ _ _ _ _) ?k1 ?k2 ?k3 ?k4 ?kh ?k5 ?k6 ?_ ?_; (case k3 => k_asm); (case k4 => k_asm); (case k1 => k_asm); (case k2 => k_asm); (case kh => exact rfl); (case k5 => first | (refine' dOk ?da ?db; (case da => assumption); (case db => exact rfl)) | exact Nat.le_of_ble_eq_true rfl | (simp only [depth_deeper, depth_in1]; (try dsimp only [AR]); omega)); (case k6 => first | (refine' uOk ?da ?db; (case da => assumption); (case db => exact rfl)) | exact Nat.le_of_ble_eq_true rfl | (simp only [units_deeper, units_in1]; (try dsimp only [AR]); omega)); intros; (try dsimp only); (try k_sweep)) | ((with_reducible show wpAny _ _ (call (Value.ref 139) [Value.int _ _]) _ _ _); refine' use_kind (con_lkind _ _ _) ?k1 ?k2 ?k3 ?k4 ?kh ?k5 ?k6 ?_ ?_ ?_ ?_ ?_ ?_; (case k3 => k_asm); (case k4 => k_asm); (case k1 => k_asm); (case k2 => k_asm); (case kh => exact rfl); (case k5 => first | (refine' dOk ?da ?db; (case da => assumption); (case db => exact rfl)) | exact Nat.le_of_ble_eq_true rfl | (simp only [depth_deeper, depth_in1]; (try dsimp only [AR]); omega)); (case k6 => first | (refine' uOk ?da ?db; (case da => assumption); (case db => exact rfl)) | exact Nat.le_of_ble_eq_true rfl | (simp only [units_deeper, units_in1]; (try dsimp only [AR]); omega)); intros; (try dsimp only); (try k_sweep)) | ((with_reducible show wpAny _ _ (call (Value.ref 132) [Value.int _ _]) _ _ _); refine' use_val (con_lis _ _ _) ?k1 ?k2 ?k3 ?k4 ?kh ?k5 ?k6 ?_; (case k3 => k_asm); (case k4 => k_asm); (case k1 => k_asm); (case k2 => k_asm); (case kh => exact rfl); (case k5 => first | (refine' dOk ?da ?db; (case da => assumption); (case db => exact rfl)) | exact Nat.le_of_ble_eq_true rfl | (simp only [depth_deeper, depth_in1]; (try dsimp only [AR]); omega)); (case k6 => first | (refine' uOk ?da ?db; (case da => assumption); (case db => exact rfl)) | exact Nat.le_of_ble_eq_true rfl | (simp only [units_deeper, units_in1]; (try dsimp only [AR]); omega)); intro t9 h9 tk9 F9 N9; (try dsimp only); (try k_sweep)) | ((with_reducible show wpAny _ _ (call (Value.ref 21) [Value.int _ _]) _ _ _); refine' use_val (con_is _ _ _) ?k1 ?k2 ?k3 ?k4 ?kh ?k5 ?k6 ?_; (case k3 => k_asm); (case k4 => k_asm); (case k1 => k_asm); (case k2 => k_asm); (case kh => exact rfl); (case k5 => first | (refine' dOk ?da ?db; (case da => assumption); (case db => exact rfl)) | exact Nat.le_of_ble_eq_true rfl | (simp only [depth_deeper, depth_in1]; (try dsimp only [AR]); omega)); (case k6 => first | (refine' uOk ?da ?db; (case da => assumption); (case db => exact rfl)) | exact Nat.le_of_ble_eq_true rfl | (simp only [units_deeper, units_in1]; (try dsimp only [AR]); omega)); intro t9 h9 tk9 F9 N9; (try dsimp only); (try k_sweep))) | walk1) | fail "no step")
  all_goals ((try dsimp only); (try k_unfold); (try dsimp only); refine Wrap.mk (hret _ _ _ (fun b o e n => Fr.keep (by with_reducible assumption) b o (hgs b o e n)) ?_))
  all_goals first | exact PV.noint (compF_syl (by assumption)) | exact PV.noint (compF_not (by assumption) (by assumption)) | exact PV.int (compF_not (by assumption) (by assumption)) | trace_state
-- D1
abbrev theProg : Program := PySem.Challenge.rw_nt0004_01.row.prog
def DeckIs (w : World) (c : Addr) (k : Int) (od : Obj) : Prop := ∃ m tm tk, od.IsDictOf (PySem.strKind PySem.Challenge.rw_nt0004_01.row.prog w) [(Str.ofString "cells", .ref c), (Str.ofString "mixed", .int m tm), (Str.ofString "turn", .int k tk)]
def CellsIs (oc : Obj) : Prop := ∃ vs ns n, oc = W.listOf (List.toArray vs) n ∧ IntsAre vs ns ∧ ns.length ≤ 64
theorem pos_of {vs : List Value} {ns : List Int} (hi : IntsAre vs ns) (h : decide (ns = []) = false) : 0 < vs.length := by
  cases hi with
  | nil => simp at h
  | cons _ _ _ => exact Nat.succ_pos _
theorem size_of {vs : List Value} {ns : List Int} (hi : IntsAre vs ns) (h : ns.length ≤ 64) : vs.length ≤ sizeLine := by rw [hi.length, sizeLine_eq]; omega
theorem size_of' {vs : List Value} {ns : List Int} (hi : IntsAre vs ns) (h : ns.length ≤ 64) : (vs.dropLast.toArray).size ≤ sizeLine := by rw [List.size_toArray, List.length_dropLast, hi.length, sizeLine_eq]; omega
theorem cells_drop {vs : List Value} {ns : List Int} {n : Nat} (hi : IntsAre vs.dropLast ns.dropLast) (h : ns.length ≤ 64) : CellsIs (W.listOf vs.dropLast.toArray n) :=
  ⟨_, _, _, rfl, hi, by rw [List.length_dropLast]; omega⟩
theorem cells_push {vs : List Value} {ns : List Int} {n : Nat} {x : Int} {t : Tok} (hi : IntsAre vs.dropLast ns.dropLast) (h : ns.length ≤ 64) : CellsIs (W.listOf (vs.dropLast.toArray.push (Value.int x t)) n) :=
  ⟨vs.dropLast ++ [.int x t], ns.dropLast ++ [x], n, by rw [List.push_toArray], IntsAre.append hi (.cons x t .nil), by rw [List.length_append, List.length_dropLast]; simp; omega⟩
set_option maxHeartbeats 4000000 in
theorem con_draw (w : World) (d c : Addr) (od oc : Obj) (k below : Int) (tb : Tok) (hdc : @Ne Nat d c) (D : DeckIs w c k od) (C : CellsIs oc) (hk : 0 ≤ k ∧ k < 1000) (hb : 0 < below ∧ below < 2000000) :
    Con w 118 [.ref d, .int below tb] 3 200 [(d, od), (c, oc)] (fun h h' r => ∃ x t od' oc', r = .int x t ∧ 0 ≤ x ∧ x < below ∧ h'.get? d = some od' ∧ h'.get? c = some oc' ∧ DeckIs w c (k + 1) od' ∧ CellsIs oc') := by
  obtain ⟨m9, tm9, tk9, D⟩ := D
  obtain ⟨vs, ns, n9, rfl, hI, hlen⟩ := C
  unfold Con
  k_fill
  intro mean mg mb hT dp un fr gd s Q E TT KX st hl hd9 hu9 hret
  refine' enterC (K := hd.heap_39 _) (binds := [(Str.ofString "deck", .ref d), (Str.ofString "below", .int below tb)]) ?kT ?kX ?kst ?kl ?kroom ?kho ?khcd ?kbind ?kloc ?_ ?kco ?kgen ?kk ?kcell
  (case kT => assumption)
  (case kX => assumption)
  (case kst => assumption)
  (case kl => assumption)
  (case kroom => (show dp < _; omega))
  (case kho => k_is)
  (case khcd => k_is)
  (case kbind => exact BindsTo.of_eq rfl)
  (case kloc => exact locs rfl)
  (case kco => exact rfl)
  (case kgen => exact rfl)
  (case kk => exact rfl)
  (case kcell => decide)
  intro g L' h₁ hgs hgn F' N' X' T'
  (try dsimp only)
  (try k_fold)
  repeat' (first | (k_unfold; (try dsimp only)) | ((with_reducible show wpAny _ _ (call (Value.builtin "list.append") _) _ _ _); ((try dsimp only [List.nil_append, List.cons_append]); (with_reducible show wpAny _ _ (call (Value.builtin _) [Value.ref _, _]) _ _ _); k_dflt (refine' append_K ?k1 ?k2 ?k3 ?_ ?z; (case k1 => k_asm); (case k2 => k_asm); (case k3 => k_upd); (case z => exact size_of' (by assumption) (by assumption)); k_whole); intro h' F' N'; (try k_sweep))) | ((with_reducible show wpAny _ _ (call (Value.builtin "list.pop") _) _ _ _); (k_dflt (refine' kpa_pop ?F ?N ?U ?i ?l ?z ?_; (case F => k_asm); (case N => k_asm); (case U => k_upd); (case i => assumption); (case l => exact pos_of (by assumption) (by assumption)); (case z => exact size_of (by assumption) (by assumption))); (intro h' t' F' N' hI'; (try dsimp only [List.nil_append, List.cons_append] at N')))) | ((with_reducible show wpAny _ _ (compareOp _ _ _) _ _ _); first | ((with_reducible show wpAny _ _ (compareOp CmpOp.NotEq (Value.ref _) (Value.ref _)) _ _ _); (with_unfolding_all refine' ne_intsK ?k1 ?k2 ?k3 ?k4 ?k5 ?_; (case k1 => is_list); (case k2 => l_intsC); (case k3 => is_list); (case k4 => l_intsC); (case k5 => (simp only [units_deeper, units_in1]; (try dsimp only [AR]); omega)); k_whole))) | walk1 | (dsimp only; first | ((with_reducible show wpAny _ _ (call (Value.builtin "list.append") _) _ _ _); ((try dsimp only [List.nil_append, List.cons_append]); (with_reducible show wpAny _ _ (call (Value.builtin _) [Value.ref _, _]) _ _ _); k_dflt (refine' append_K ?k1 ?k2 ?k3 ?_ ?z; (case k1 => k_asm); (case k2 => k_asm); (case k3 => k_upd); (case z => exact size_of' (by assumption) (by assumption)); k_whole); intro h' F' N'; (try k_sweep))) | ((with_reducible show wpAny _ _ (call (Value.builtin "list.pop") _) _ _ _); (k_dflt (refine' kpa_pop ?F ?N ?U ?i ?l ?z ?_; (case F => k_asm); (case N => k_asm); (case U => k_upd); (case i => assumption); (case l => exact pos_of (by assumption) (by assumption)); (case z => exact size_of (by assumption) (by assumption))); (intro h' t' F' N' hI'; (try dsimp only [List.nil_append, List.cons_append] at N')))) | ((with_reducible show wpAny _ _ (compareOp _ _ _) _ _ _); first | ((with_reducible show wpAny _ _ (compareOp CmpOp.NotEq (Value.ref _) (Value.ref _)) _ _ _); (with_unfolding_all refine' ne_intsK ?k1 ?k2 ?k3 ?k4 ?k5 ?_; (case k1 => is_list); (case k2 => l_intsC); (case k3 => is_list); (case k4 => l_intsC); (case k5 => (simp only [units_deeper, units_in1]; (try dsimp only [AR]); omega)); k_whole))) | walk1) | fail "no step")
  all_goals ((try dsimp only); (try k_unfold); (try dsimp only); refine Wrap.mk (hret _ _ _ (fun b o e n => Fr.keep (by with_reducible assumption) b o (hgs b o e n)) ?_))
  all_goals (rename News _ _ _ _ => N1; refine ⟨_, _, _, _, rfl, fmod_lo _ hb.1, fmod_hi _ hb.1, (N1 _ (.tail _ (.head _))).1, (N1 _ (.tail _ (.tail _ (.head _)))).1, ⟨_, _, _, by assumption⟩, ?_⟩)
  all_goals first | exact ⟨_, _, _, rfl, by assumption, by assumption⟩ | exact cells_drop (by assumption) (by assumption) | exact cells_push (by assumption) (by assumption)

inductive Upd2 (d : Addr) (od : Obj) (c : Addr) (oc : Obj) : List (Addr × Obj) → (Obj → Obj → List (Addr × Obj)) → Prop
  | head1 {r g} : (∀ p ∈ r, p.1 ≠ d) → @Ne Nat d c → UpdF c oc r g → Upd2 d od c oc ((d, od) :: r) (fun x y => (d, x) :: g y)
  | head2 {r g} : (∀ p ∈ r, p.1 ≠ c) → @Ne Nat d c → UpdF d od r g → Upd2 d od c oc ((c, oc) :: r) (fun x y => (c, y) :: g x)
  | tail {p r g} : @Ne Nat p.1 d → @Ne Nat p.1 c → Upd2 d od c oc r g → Upd2 d od c oc (p :: r) (fun x y => p :: g x y)
theorem updF_has {d : Addr} {o : Obj} {l : List (Addr × Obj)} {g : Obj → List (Addr × Obj)} (U : UpdF d o l g) : (d, o) ∈ l := by
  induction U with
  | head _ => exact .head _
  | tail _ _ ih => exact .tail _ ih
theorem updF_mem {d : Addr} {o : Obj} {l : List (Addr × Obj)} {g : Obj → List (Addr × Obj)} (U : UpdF d o l g) {o' : Obj} {p : Addr × Obj} (hp : p ∈ g o') : p = (d, o') ∨ (p ∈ l ∧ p.1 ≠ d) := by
  induction U with
  | head h =>
    rcases List.mem_cons.mp hp with rfl | hp
    · exact .inl rfl
    · exact .inr ⟨.tail _ hp, h p hp⟩
  | tail h _ ih =>
    rcases List.mem_cons.mp hp with rfl | hp
    · exact .inr ⟨.head _, h⟩
    · exact (ih hp).imp id (fun z => ⟨.tail _ z.1, z.2⟩)
theorem Upd2.has {d c : Addr} {od oc : Obj} {l : List (Addr × Obj)} {g : Obj → Obj → List (Addr × Obj)} (U : Upd2 d od c oc l g) : (d, od) ∈ l ∧ (c, oc) ∈ l := by
  induction U with
  | head1 _ _ u => exact ⟨.head _, .tail _ (updF_has u)⟩
  | head2 _ _ u => exact ⟨.tail _ (updF_has u), .head _⟩
  | tail _ _ _ ih => exact ⟨.tail _ ih.1, .tail _ ih.2⟩
theorem Upd2.mem {d c : Addr} {od oc : Obj} {l : List (Addr × Obj)} {g : Obj → Obj → List (Addr × Obj)} (U : Upd2 d od c oc l g) {od' oc' : Obj} {p : Addr × Obj} (hp : p ∈ g od' oc') : p = (d, od') ∨ p = (c, oc') ∨ (p ∈ l ∧ p.1 ≠ d ∧ p.1 ≠ c) := by
  induction U with
  | head1 h hne u =>
    rcases List.mem_cons.mp hp with rfl | hp
    · exact .inl rfl
    · rcases updF_mem u hp with rfl | ⟨a, b⟩
      · exact .inr (.inl rfl)
      · exact .inr (.inr ⟨.tail _ a, h p a, b⟩)
  | head2 h hne u =>
    rcases List.mem_cons.mp hp with rfl | hp
    · exact .inr (.inl rfl)
    · rcases updF_mem u hp with rfl | ⟨a, b⟩
      · exact .inl rfl
      · exact .inr (.inr ⟨.tail _ a, b, h p a⟩)
  | tail h h' _ ih =>
    rcases List.mem_cons.mp hp with rfl | hp
    · exact .inr (.inr ⟨.head _, h, h'⟩)
    · rcases ih hp with a | a | ⟨a, b⟩
      · exact .inl a
      · exact .inr (.inl a)
      · exact .inr (.inr ⟨.tail _ a, b⟩)

def AllNe (d : Nat) : List (Addr × Obj) → Prop
  | [] => True
  | p :: r => @Ne Nat p.1 d ∧ AllNe d r
theorem allNe_of {d : Addr} : ∀ {l : List (Addr × Obj)}, (∀ p ∈ l, p.1 ≠ d) → AllNe d l
  | [], _ => trivial
  | p :: _, h => ⟨h p (.head _), allNe_of fun q hq => h q (.tail _ hq)⟩

section
variable {w : World} {f : Addr} {vs : List Value} {D U : Nat} {A : Around} {s : Shared} {Q E : Value → Shared → Prop} {h₀ : Heap} {L d c : Addr} {m : Str → Option Value} {news : List (Addr × Obj)} {mean : ExcName → Option Value} {mg mb : Str → Option Value} {od oc : Obj} {g : Obj → Obj → List (Addr × Obj)}
/-- a call that turns the deck alone -/
theorem use_deck {P : Value → Prop} {k : Int} (C : Con w f vs D U [(d, od), (c, oc)] (fun _ h' r => P r ∧ ∃ od' oc', h'.get? d = some od' ∧ h'.get? c = some oc' ∧ DeckIs w c k od' ∧ CellsIs oc')) (Up : Upd2 d od c oc news g) (T : Top hd.view_39 looseN mean mg mb h₀) (X : (hd.heap_39 w.params).In h₀) (F : Fr h₀ L s.heap m) (N : News h₀ L s.heap news)
    (hh : A.handled = none) (hd : A.depth + D < recursionLimit) (hu : A.units + U < cLine)
    (h : ∀ r od' oc' h' tk', P r → Fr h₀ L h' m → News h₀ L h' (g od' oc') → DeckIs w c k od' → CellsIs oc' → Q r { s with heap := h', toks := tk' }) :
    wpAny (model PySem.Challenge.rw_nt0004_01.row.prog w) A (call (.ref f) vs) Q E s := by
  have N1 := N _ Up.has.1
  have N2 := N _ Up.has.2
  obtain ⟨a0, dp, fr, gd, un⟩ := A
  dsimp only at hh; subst hh
  refine C mean mg mb h₀ dp un fr gd s Q E T X F.keep (fun p hp => ?_) hd hu (fun r h' tk' k' P => ?_)
  · rcases List.mem_cons.mp hp with rfl | hp
    · exact ⟨N1.1, N1.2.2⟩
    · rcases List.mem_cons.mp hp with rfl | hp
      · exact ⟨N2.1, N2.2.2⟩
      · exact nomatch hp
  · obtain ⟨pr, od', oc', e1, e2, e3, e4⟩ := P
    have kp : ∀ b o, s.heap.get? b = some o → b ≠ d → b ≠ c → h'.get? b = some o := fun b o e n1 n2 => k' b o e (fun hm => by
      rcases List.mem_cons.mp hm with e | hm
      · exact n1 e
      · rcases List.mem_cons.mp hm with e | hm
        · exact n2 e
        · exact nomatch hm)
    obtain ⟨oL, es, ep, hL, rr⟩ := F.ns
    refine h r od' oc' h' tk' pr ⟨⟨oL, es, ep, kp _ _ hL (Ne.symm N1.2.1) (Ne.symm N2.2.1), rr⟩, fun b o e => kp b o (F.keep b o e) (fun q => by rw [q, N1.2.2] at e; cases e) (fun q => by rw [q, N2.2.2] at e; cases e), F.above⟩ (fun p hp => ?_) e3 e4
    rcases Up.mem hp with rfl | rfl | ⟨a, b1, b2⟩
    · exact ⟨e1, N1.2⟩
    · exact ⟨e2, N2.2⟩
    · exact ⟨kp _ _ (N p a).1 b1 b2, (N p a).2⟩
end
theorem con_draw' (w : World) (d c : Addr) (od oc : Obj) (k below : Int) (tb : Tok) (hdc : @Ne Nat d c) (D : DeckIs w c k od) (C : CellsIs oc) (hk : 0 ≤ k ∧ k < 1000) (hb : 0 < below ∧ below < 2000000) :
    Con w 118 [.ref d, .int below tb] 3 200 [(d, od), (c, oc)] (fun _ h' r => (∃ x t, r = .int x t ∧ 0 ≤ x ∧ x < below) ∧ ∃ od' oc', h'.get? d = some od' ∧ h'.get? c = some oc' ∧ DeckIs w c (k + 1) od' ∧ CellsIs oc') :=
  (con_draw w d c od oc k below tb hdc D C hk hb).weaken (fun _ _ _ ⟨x, t, od', oc', a1, a2, a3, a4, a5, a6, a7⟩ => ⟨⟨x, t, a1, a2, a3⟩, od', oc', a4, a5, a6, a7⟩)
-- D2
section
variable {prog : Program} {w : World} {A : Around} {E : Value → Shared → Prop} {s : Shared}
theorem item_gen {value slice : PySem.Expr} {l : Addr} {vs : List Value} {k : Int} {u : Tok} {Q : Value → Shared → Prop}
    (hl : s.heap.IsList l vs.toArray) (h0 : 0 ≤ k) (h1 : k < vs.length) (hz : (vs.length : Int) < 2 ^ 62) (h : ∀ v, vs[k.toNat]? = some v → Q v s)
    (hs : subscripted slice false (.ref l) (.int k u) = operate [.ref l, .int k u] (getItem (.ref l) (.int k u)) := by with_unfolding_all rfl) :
    wpAny (model prog w) A (subscriptTail value slice (.ref l) (.int k u)) Q E s := by
  have hx : vs[k.toNat]? = some (vs[k.toNat]'(by omega)) := List.getElem?_eq_getElem _
  exact tail_any hl.typeIs slot_list_getitem.lookup (wpAny_getItem_list hl h0 (by omega) (by simpa using hx) (h _ hx)) hs
theorem len_gen {l : Addr} {vs : List Value} {Q : Value → Shared → Prop} (hl : s.heap.IsList l vs.toArray) (hz : vs.length < 2 ^ 62)
    (h : Q (.int (vs.length : Nat) (s.toks + 1)) { s with toks := s.toks + 1 + 1 }) : wpAny (model prog w) A (call (.builtin "len") [.ref l]) Q E s := by
  refine Calls.call_len_list hl (by simpa using by omega) ?_
  simpa using h
end
set_option maxHeartbeats 4000000 in
theorem con_pick (w : World) (d c l : Addr) (od oc : Obj) (k : Int) (vs : List Value) (n : Nat) (hdc : @Ne Nat d c) (hld : @Ne Nat l d) (hlc : @Ne Nat l c) (hD : DeckIs w c k od) (hC : CellsIs oc) (hk : 0 ≤ k ∧ k < 1000) (hb : 0 < vs.length ∧ vs.length < 2000000) :
    Con w 125 [.ref d, .ref l] 6 300 [(d, od), (c, oc), (l, W.listOf vs.toArray n)] (fun _ h' r => ∃ v od' oc', r = v ∧ v ∈ vs ∧ h'.get? d = some od' ∧ h'.get? c = some oc' ∧ DeckIs w c (k + 1) od' ∧ CellsIs oc' ∧ h'.get? l = some (W.listOf vs.toArray n)) := by
  unfold Con
  k_fill
  intro mean mg mb hT dp un fr gd s Q E TT KX st hl hd9 hu9 hret
  refine' enterC (K := hd.heap_39 _) (binds := [(Str.ofString "deck", .ref d), (Str.ofString "some", .ref l)]) ?kT ?kX ?kst ?kl ?kroom ?kho ?khcd ?kbind ?kloc ?_ ?kco ?kgen ?kk ?kcell
  (case kT => assumption)
  (case kX => assumption)
  (case kst => assumption)
  (case kl => assumption)
  (case kroom => (show dp < _; omega))
  (case kho => k_is)
  (case khcd => k_is)
  (case kbind => exact BindsTo.of_eq rfl)
  (case kloc => exact locs rfl)
  (case kco => exact rfl)
  (case kgen => exact rfl)
  (case kk => exact rfl)
  (case kcell => decide)
  intro g L' h₁ hgs hgn F' N' X' T'
  (try dsimp only)
  (try k_fold)
  repeat' (first | (k_unfold; (try dsimp only)) | ((with_reducible show wpAny _ _ (subscriptTail _ _ _ _) _ _ _); first | ((with_reducible show wpAny _ _ (subscriptTail _ _ (Value.ref _) (Value.int _ _)) _ _ _); (with_unfolding_all refine' item_gen ?k1 ?k2 ?k3 ?k4 ?_ ?k6; (case k1 => first | is_list | exact News.isList (by assumption) (by k_mem)); (case k2 => omega); (case k3 => omega); (case k4 => omega); (case k6 => with_unfolding_all rfl); k_whole); intro v9 e9)) | ((with_reducible show wpAny _ _ (call (Value.builtin "len") _) _ _ _); ((with_reducible show wpAny _ _ (call (Value.builtin _) [Value.ref _]) _ _ _); (with_unfolding_all refine' len_gen ?k1 ?k3 ?_; (case k1 => first | is_list | exact News.isList (by assumption) (by k_mem)); (case k3 => omega); k_whole))) | ((with_reducible show wpAny _ _ (call (Value.ref _) _) _ _ _); first | ((with_reducible show wpAny _ _ (call (Value.ref 118) [Value.ref _, Value.int _ _]) _ _ _); (with_reducible rename DeckIs _ _ _ _ => D9); (with_reducible rename CellsIs _ => C9); refine' use_deck (con_draw' _ _ _ _ _ _ _ _ ?hdc D9 C9 ?hk ?hb) ?U ?k1 ?k2 ?k3 ?k4 ?kh ?k5 ?k6 ?_; (case k3 => k_asm); (case k4 => k_asm); (case k1 => k_asm); (case k2 => k_asm); (case kh => exact rfl); (case k5 => first | (refine' dOk ?da ?db; (case da => assumption); (case db => exact rfl)) | exact Nat.le_of_ble_eq_true rfl | (simp only [depth_deeper, depth_in1]; (try dsimp only [AR]); omega)); (case k6 => first | (refine' uOk ?da ?db; (case da => assumption); (case db => exact rfl)) | exact Nat.le_of_ble_eq_true rfl | (simp only [units_deeper, units_in1]; (try dsimp only [AR]); omega)); (case hdc => (refine neN ?_; (try dsimp only); first | assumption | exact Ne.symm (by assumption) | omega)); (case hk => omega); (case hb => omega); (case U => (repeat' (first | with_reducible refine' Upd2.head1 ?_ ?_ ?_ | with_reducible refine' Upd2.head2 ?_ ?_ ?_ | with_reducible refine' Upd2.tail ?_ ?_ ?_ | with_reducible refine' UpdF.head ?_ | with_reducible refine' UpdF.tail ?_ ?_ | exact List.forall_mem_nil _ | refine' List.forall_mem_cons.mpr ⟨?_, ?_⟩ | (refine neN ?_; (try dsimp only); first | assumption | exact Ne.symm (by assumption) | omega)))); intro r9 od9 oc9 h9 tk9 P9 F9 N9 D8 C8; clear D9 C9; obtain ⟨x9, t9, e9, lo9, hi9⟩ := P9; subst e9; (try dsimp only at N9); (try dsimp only); (try k_sweep))) | walk1 | (dsimp only; first | ((with_reducible show wpAny _ _ (subscriptTail _ _ _ _) _ _ _); first | ((with_reducible show wpAny _ _ (subscriptTail _ _ (Value.ref _) (Value.int _ _)) _ _ _); (with_unfolding_all refine' item_gen ?k1 ?k2 ?k3 ?k4 ?_ ?k6; (case k1 => first | is_list | exact News.isList (by assumption) (by k_mem)); (case k2 => omega); (case k3 => omega); (case k4 => omega); (case k6 => with_unfolding_all rfl); k_whole); intro v9 e9)) | ((with_reducible show wpAny _ _ (call (Value.builtin "len") _) _ _ _); ((with_reducible show wpAny _ _ (call (Value.builtin _) [Value.ref _]) _ _ _); (with_unfolding_all refine' len_gen ?k1 ?k3 ?_; (case k1 => first | is_list | exact News.isList (by assumption) (by k_mem)); (case k3 => omega); k_whole))) | ((with_reducible show wpAny _ _ (call (Value.ref _) _) _ _ _); first | ((with_reducible show wpAny _ _ (call (Value.ref 118) [Value.ref _, Value.int _ _]) _ _ _); (with_reducible rename DeckIs _ _ _ _ => D9); (with_reducible rename CellsIs _ => C9); refine' use_deck (con_draw' _ _ _ _ _ _ _ _ ?hdc D9 C9 ?hk ?hb) ?U ?k1 ?k2 ?k3 ?k4 ?kh ?k5 ?k6 ?_; (case k3 => k_asm); (case k4 => k_asm); (case k1 => k_asm); (case k2 => k_asm); (case kh => exact rfl); (case k5 => first | (refine' dOk ?da ?db; (case da => assumption); (case db => exact rfl)) | exact Nat.le_of_ble_eq_true rfl | (simp only [depth_deeper, depth_in1]; (try dsimp only [AR]); omega)); (case k6 => first | (refine' uOk ?da ?db; (case da => assumption); (case db => exact rfl)) | exact Nat.le_of_ble_eq_true rfl | (simp only [units_deeper, units_in1]; (try dsimp only [AR]); omega)); (case hdc => (refine neN ?_; (try dsimp only); first | assumption | exact Ne.symm (by assumption) | omega)); (case hk => omega); (case hb => omega); (case U => (repeat' (first | with_reducible refine' Upd2.head1 ?_ ?_ ?_ | with_reducible refine' Upd2.head2 ?_ ?_ ?_ | with_reducible refine' Upd2.tail ?_ ?_ ?_ | with_reducible refine' UpdF.head ?_ | with_reducible refine' UpdF.tail ?_ ?_ | exact List.forall_mem_nil _ | refine' List.forall_mem_cons.mpr ⟨?_, ?_⟩ | (refine neN ?_; (try dsimp only); first | assumption | exact Ne.symm (by assumption) | omega)))); intro r9 od9 oc9 h9 tk9 P9 F9 N9 D8 C8; clear D9 C9; obtain ⟨x9, t9, e9, lo9, hi9⟩ := P9; subst e9; (try dsimp only at N9); (try dsimp only); (try k_sweep))) | walk1) | fail "no step")
  all_goals ((try dsimp only); (try k_unfold); (try dsimp only); refine Wrap.mk (hret _ _ _ (fun b o e n => Fr.keep (by with_reducible assumption) b o (hgs b o e n)) ?_))
  all_goals (rename News _ _ _ _ => N1; exact ⟨_, _, _, rfl, List.mem_of_getElem? (by assumption), (N1 _ (.head _)).1, (N1 _ (.tail _ (.head _))).1, by assumption, by assumption, (N1 _ (.tail _ (.tail _ (.head _)))).1⟩)

theorem ints_mem {vs : List Value} {ns : List Int} (h : IntsAre vs ns) {v : Value} (hv : v ∈ vs) : ∃ x t, v = .int x t := by
  induction h with
  | nil => exact nomatch hv
  | cons k t r ih =>
    rcases List.mem_cons.mp hv with rfl | hv
    · exact ⟨_, _, rfl⟩
    · exact ih hv
set_option maxHeartbeats 4000000 in
theorem con_pickB (w : World) (d c : Addr) (od oc : Obj) (k : Int) (hdc : @Ne Nat d c) (hD : DeckIs w c k od) (hC : CellsIs oc) (hk : 0 ≤ k ∧ k < 1000) :
    Con w 125 [.ref d, .ref 105] 6 300 [(d, od), (c, oc)] (fun _ h' r => (∃ x t, r = .int x t) ∧ ∃ od' oc', h'.get? d = some od' ∧ h'.get? c = some oc' ∧ DeckIs w c (k + 1) od' ∧ CellsIs oc') := by
  unfold Con
  k_fill
  intro mean mg mb hT dp un fr gd s Q E TT KX st hl hd9 hu9 hret
  refine' enterC (K := hd.heap_39 _) (binds := [(Str.ofString "deck", .ref d), (Str.ofString "some", .ref 105)]) ?kT ?kX ?kst ?kl ?kroom ?kho ?khcd ?kbind ?kloc ?_ ?kco ?kgen ?kk ?kcell
  (case kT => assumption)
  (case kX => assumption)
  (case kst => assumption)
  (case kl => assumption)
  (case kroom => (show dp < _; omega))
  (case kho => k_is)
  (case khcd => k_is)
  (case kbind => exact BindsTo.of_eq rfl)
  (case kloc => exact locs rfl)
  (case kco => exact rfl)
  (case kgen => exact rfl)
  (case kk => exact rfl)
  (case kcell => decide)
  intro g L' h₁ hgs hgn F' N' X' T'
  (try dsimp only)
  (try k_fold)
  repeat' (first | (k_unfold; (try dsimp only)) | ((with_reducible show wpAny _ _ (subscriptTail _ _ _ _) _ _ _); first | ((with_reducible show wpAny _ _ (subscriptTail _ _ (Value.ref 105) (Value.int _ _)) _ _ _); k_dflt (refine' item_gen (lstK (l := [Value.int 4351 320, Value.int 4352 321, Value.int 4370 322, Value.int 4371 323, Value.int 4447 324, Value.int 4448 325, Value.int 4449 326, Value.int 4469 327, Value.int 4470 328, Value.int 4519 329, Value.int 4520 330, Value.int 4546 331, Value.int 4547 332, Value.int 4607 333, Value.int 4608 334]) ?kX ?kl) ?k2 ?k3 ?k4 ?_ ?k6; (case kX => exact Frag.In.keeps (by k_asm) (Fr.keep (by k_asm))); (case kl => k_is); (case k2 => omega); (case k3 => (simp only [List.length_cons, List.length_nil]; omega)); (case k4 => decide); (case k6 => with_unfolding_all rfl); intro v9 e9)) | ((with_reducible show wpAny _ _ (subscriptTail _ _ (Value.ref _) (Value.int _ _)) _ _ _); (with_unfolding_all refine' item_gen ?k1 ?k2 ?k3 ?k4 ?_ ?k6; (case k1 => first | is_list | exact News.isList (by assumption) (by k_mem)); (case k2 => omega); (case k3 => omega); (case k4 => omega); (case k6 => with_unfolding_all rfl); k_whole); intro v9 e9)) | ((with_reducible show wpAny _ _ (call (Value.builtin "len") _) _ _ _); ((with_reducible show wpAny _ _ (call (Value.builtin _) [Value.ref 105]) _ _ _); k_dflt (refine' len_gen (lstK (l := [Value.int 4351 320, Value.int 4352 321, Value.int 4370 322, Value.int 4371 323, Value.int 4447 324, Value.int 4448 325, Value.int 4449 326, Value.int 4469 327, Value.int 4470 328, Value.int 4519 329, Value.int 4520 330, Value.int 4546 331, Value.int 4547 332, Value.int 4607 333, Value.int 4608 334]) ?kX ?kl) ?k3 ?_; (case kX => exact Frag.In.keeps (by k_asm) (Fr.keep (by k_asm))); (case kl => k_is); (case k3 => decide)); (try simp only [List.length_cons, List.length_nil]))) | ((with_reducible show wpAny _ _ (call (Value.builtin "len") _) _ _ _); ((with_reducible show wpAny _ _ (call (Value.builtin _) [Value.ref _]) _ _ _); (with_unfolding_all refine' len_gen ?k1 ?k3 ?_; (case k1 => first | is_list | exact News.isList (by assumption) (by k_mem)); (case k3 => omega); k_whole))) | ((with_reducible show wpAny _ _ (call (Value.ref _) _) _ _ _); first | ((with_reducible show wpAny _ _ (call (Value.ref 118) [Value.ref _, Value.int _ _]) _ _ _); (with_reducible rename DeckIs _ _ _ _ => D9); (with_reducible rename CellsIs _ => C9); refine' use_deck (con_draw' _ _ _ _ _ _ _ _ ?hdc D9 C9 ?hk ?hb) ?U ?k1 ?k2 ?k3 ?k4 ?kh ?k5 ?k6 ?_; (case k3 => k_asm); (case k4 => k_asm); (case k1 => k_asm); (case k2 => k_asm); (case kh => exact rfl); (case k5 => first | (refine' dOk ?da ?db; (case da => assumption); (case db => exact rfl)) | exact Nat.le_of_ble_eq_true rfl | (simp only [depth_deeper, depth_in1]; (try dsimp only [AR]); omega)); (case k6 => first | (refine' uOk ?da ?db; (case da => assumption); (case db => exact rfl)) | exact Nat.le_of_ble_eq_true rfl | (simp only [units_deeper, units_in1]; (try dsimp only [AR]); omega)); (case hdc => (refine neN ?_; (try dsimp only); first | assumption | exact Ne.symm (by assumption) | omega)); (case hk => omega); (case hb => omega); (case U => (repeat' (first | with_reducible refine' Upd2.head1 ?_ ?_ ?_ | with_reducible refine' Upd2.head2 ?_ ?_ ?_ | with_reducible refine' Upd2.tail ?_ ?_ ?_ | with_reducible refine' UpdF.head ?_ | with_reducible refine' UpdF.tail ?_ ?_ | exact List.forall_mem_nil _ | refine' List.forall_mem_cons.mpr ⟨?_, ?_⟩ | (refine neN ?_; (try dsimp only); first | assumption | exact Ne.symm (by assumption) | omega)))); intro r9 od9 oc9 h9 tk9 P9 F9 N9 D8 C8; clear D9 C9; obtain ⟨x9, t9, e9, lo9, hi9⟩ := P9; subst e9; (try dsimp only at N9); (try dsimp only); (try k_sweep))) | walk1 | (dsimp only; first | ((with_reducible show wpAny _ _ (subscriptTail _ _ _ _) _ _ _); first | ((with_reducible show wpAny _ _ (subscriptTail _ _ (Value.ref 105) (Value.int _ _)) _ _ _); k_dflt (refine' item_gen (lstK (l := [Value.int 4351 320, Value.int 4352 321, Value.int 4370 322, Value.int 4371 323, Value.int 4447 324, Value.int 4448 325, Value.int 4449 326, Value.int 4469 327, Value.int 4470 328, Value.int 4519 329, Value.int 4520 330, Value.int 4546 331, Value.int 4547 332, Value.int 4607 333, Value.int 4608 334]) ?kX ?kl) ?k2 ?k3 ?k4 ?_ ?k6; (case kX => exact Frag.In.keeps (by k_asm) (Fr.keep (by k_asm))); (case kl => k_is); (case k2 => omega); (case k3 => (simp only [List.length_cons, List.length_nil]; omega)); (case k4 => decide); (case k6 => with_unfolding_all rfl); intro v9 e9)) | ((with_reducible show wpAny _ _ (subscriptTail _ _ (Value.ref _) (Value.int _ _)) _ _ _); (with_unfolding_all refine' item_gen ?k1 ?k2 ?k3 ?k4 ?_ ?k6; (case k1 => first | is_list | exact News.isList (by assumption) (by k_mem)); (case k2 => omega); (case k3 => omega); (case k4 => omega); (case k6 => with_unfolding_all rfl); k_whole); intro v9 e9)) | ((with_reducible show wpAny _ _ (call (Value.builtin "len") _) _ _ _); ((with_reducible show wpAny _ _ (call (Value.builtin _) [Value.ref 105]) _ _ _); k_dflt (refine' len_gen (lstK (l := [Value.int 4351 320, Value.int 4352 321, Value.int 4370 322, Value.int 4371 323, Value.int 4447 324, Value.int 4448 325, Value.int 4449 326, Value.int 4469 327, Value.int 4470 328, Value.int 4519 329, Value.int 4520 330, Value.int 4546 331, Value.int 4547 332, Value.int 4607 333, Value.int 4608 334]) ?kX ?kl) ?k3 ?_; (case kX => exact Frag.In.keeps (by k_asm) (Fr.keep (by k_asm))); (case kl => k_is); (case k3 => decide)); (try simp only [List.length_cons, List.length_nil]))) | ((with_reducible show wpAny _ _ (call (Value.builtin "len") _) _ _ _); ((with_reducible show wpAny _ _ (call (Value.builtin _) [Value.ref _]) _ _ _); (with_unfolding_all refine' len_gen ?k1 ?k3 ?_; (case k1 => first | is_list | exact News.isList (by assumption) (by k_mem)); (case k3 => omega); k_whole))) | ((with_reducible show wpAny _ _ (call (Value.ref _) _) _ _ _); first | ((with_reducible show wpAny _ _ (call (Value.ref 118) [Value.ref _, Value.int _ _]) _ _ _); (with_reducible rename DeckIs _ _ _ _ => D9); (with_reducible rename CellsIs _ => C9); refine' use_deck (con_draw' _ _ _ _ _ _ _ _ ?hdc D9 C9 ?hk ?hb) ?U ?k1 ?k2 ?k3 ?k4 ?kh ?k5 ?k6 ?_; (case k3 => k_asm); (case k4 => k_asm); (case k1 => k_asm); (case k2 => k_asm); (case kh => exact rfl); (case k5 => first | (refine' dOk ?da ?db; (case da => assumption); (case db => exact rfl)) | exact Nat.le_of_ble_eq_true rfl | (simp only [depth_deeper, depth_in1]; (try dsimp only [AR]); omega)); (case k6 => first | (refine' uOk ?da ?db; (case da => assumption); (case db => exact rfl)) | exact Nat.le_of_ble_eq_true rfl | (simp only [units_deeper, units_in1]; (try dsimp only [AR]); omega)); (case hdc => (refine neN ?_; (try dsimp only); first | assumption | exact Ne.symm (by assumption) | omega)); (case hk => omega); (case hb => omega); (case U => (repeat' (first | with_reducible refine' Upd2.head1 ?_ ?_ ?_ | with_reducible refine' Upd2.head2 ?_ ?_ ?_ | with_reducible refine' Upd2.tail ?_ ?_ ?_ | with_reducible refine' UpdF.head ?_ | with_reducible refine' UpdF.tail ?_ ?_ | exact List.forall_mem_nil _ | refine' List.forall_mem_cons.mpr ⟨?_, ?_⟩ | (refine neN ?_; (try dsimp only); first | assumption | exact Ne.symm (by assumption) | omega)))); intro r9 od9 oc9 h9 tk9 P9 F9 N9 D8 C8; clear D9 C9; obtain ⟨x9, t9, e9, lo9, hi9⟩ := P9; subst e9; (try dsimp only at N9); (try dsimp only); (try k_sweep))) | walk1) | fail "no step")
  all_goals ((try dsimp only); (try k_unfold); (try dsimp only); refine Wrap.mk (hret _ _ _ (fun b o e n => Fr.keep (by with_reducible assumption) b o (hgs b o e n)) ?_))
  all_goals (rename News _ _ _ _ => N1; rename _ = some _ => e1; exact ⟨ints_mem (ns := [4351, 4352, 4370, 4371, 4447, 4448, 4449, 4469, 4470, 4519, 4520, 4546, 4547, 4607, 4608]) (by repeat constructor) (List.mem_of_getElem? e1), _, _, (N1 _ (.head _)).1, (N1 _ (.tail _ (.head _))).1, by assumption, by assumption⟩)
set_option maxHeartbeats 4000000 in
theorem con_pickO (w : World) (d c : Addr) (od oc : Obj) (k : Int) (hdc : @Ne Nat d c) (hD : DeckIs w c k od) (hC : CellsIs oc) (hk : 0 ≤ k ∧ k < 1000) :
    Con w 125 [.ref d, .ref 106] 6 300 [(d, od), (c, oc)] (fun _ h' r => (∃ x t, r = .int x t) ∧ ∃ od' oc', h'.get? d = some od' ∧ h'.get? c = some oc' ∧ DeckIs w c (k + 1) od' ∧ CellsIs oc') := by
  unfold Con
  k_fill
  intro mean mg mb hT dp un fr gd s Q E TT KX st hl hd9 hu9 hret
  refine' enterC (K := hd.heap_39 _) (binds := [(Str.ofString "deck", .ref d), (Str.ofString "some", .ref 106)]) ?kT ?kX ?kst ?kl ?kroom ?kho ?khcd ?kbind ?kloc ?_ ?kco ?kgen ?kk ?kcell
  (case kT => assumption)
  (case kX => assumption)
  (case kst => assumption)
  (case kl => assumption)
  (case kroom => (show dp < _; omega))
  (case kho => k_is)
  (case khcd => k_is)
  (case kbind => exact BindsTo.of_eq rfl)
  (case kloc => exact locs rfl)
  (case kco => exact rfl)
  (case kgen => exact rfl)
  (case kk => exact rfl)
  (case kcell => decide)
  intro g L' h₁ hgs hgn F' N' X' T'
  (try dsimp only)
  (try k_fold)
  repeat' (first | (k_unfold; (try dsimp only)) | ((with_reducible show wpAny _ _ (subscriptTail _ _ _ _) _ _ _); first | ((with_reducible show wpAny _ _ (subscriptTail _ _ (Value.ref 106) (Value.int _ _)) _ _ _); k_dflt (refine' item_gen (lstK (l := [Value.int 43359 336, Value.int 43360 337, Value.int 43388 338, Value.int 43389 339, Value.int 44031 340, Value.int 44032 341, Value.int 44033 342, Value.int 44060 343, Value.int 55203 344, Value.int 55204 345, Value.int 55216 346, Value.int 55238 347, Value.int 55239 348, Value.int 55242 349, Value.int 55243 350, Value.int 55291 351, Value.int 55292 352, Value.int 65 353, Value.int 1114111 354]) ?kX ?kl) ?k2 ?k3 ?k4 ?_ ?k6; (case kX => exact Frag.In.keeps (by k_asm) (Fr.keep (by k_asm))); (case kl => k_is); (case k2 => omega); (case k3 => (simp only [List.length_cons, List.length_nil]; omega)); (case k4 => decide); (case k6 => with_unfolding_all rfl); intro v9 e9)) | ((with_reducible show wpAny _ _ (subscriptTail _ _ (Value.ref 105) (Value.int _ _)) _ _ _); k_dflt (refine' item_gen (lstK (l := [Value.int 4351 320, Value.int 4352 321, Value.int 4370 322, Value.int 4371 323, Value.int 4447 324, Value.int 4448 325, Value.int 4449 326, Value.int 4469 327, Value.int 4470 328, Value.int 4519 329, Value.int 4520 330, Value.int 4546 331, Value.int 4547 332, Value.int 4607 333, Value.int 4608 334]) ?kX ?kl) ?k2 ?k3 ?k4 ?_ ?k6; (case kX => exact Frag.In.keeps (by k_asm) (Fr.keep (by k_asm))); (case kl => k_is); (case k2 => omega); (case k3 => (simp only [List.length_cons, List.length_nil]; omega)); (case k4 => decide); (case k6 => with_unfolding_all rfl); intro v9 e9)) | ((with_reducible show wpAny _ _ (subscriptTail _ _ (Value.ref _) (Value.int _ _)) _ _ _); (with_unfolding_all refine' item_gen ?k1 ?k2 ?k3 ?k4 ?_ ?k6; (case k1 => first | is_list | exact News.isList (by assumption) (by k_mem)); (case k2 => omega); (case k3 => omega); (case k4 => omega); (case k6 => with_unfolding_all rfl); k_whole); intro v9 e9)) | ((with_reducible show wpAny _ _ (call (Value.builtin "len") _) _ _ _); ((with_reducible show wpAny _ _ (call (Value.builtin _) [Value.ref 106]) _ _ _); k_dflt (refine' len_gen (lstK (l := [Value.int 43359 336, Value.int 43360 337, Value.int 43388 338, Value.int 43389 339, Value.int 44031 340, Value.int 44032 341, Value.int 44033 342, Value.int 44060 343, Value.int 55203 344, Value.int 55204 345, Value.int 55216 346, Value.int 55238 347, Value.int 55239 348, Value.int 55242 349, Value.int 55243 350, Value.int 55291 351, Value.int 55292 352, Value.int 65 353, Value.int 1114111 354]) ?kX ?kl) ?k3 ?_; (case kX => exact Frag.In.keeps (by k_asm) (Fr.keep (by k_asm))); (case kl => k_is); (case k3 => decide)); (try simp only [List.length_cons, List.length_nil]))) | ((with_reducible show wpAny _ _ (call (Value.builtin "len") _) _ _ _); ((with_reducible show wpAny _ _ (call (Value.builtin _) [Value.ref 105]) _ _ _); k_dflt (refine' len_gen (lstK (l := [Value.int 4351 320, Value.int 4352 321, Value.int 4370 322, Value.int 4371 323, Value.int 4447 324, Value.int 4448 325, Value.int 4449 326, Value.int 4469 327, Value.int 4470 328, Value.int 4519 329, Value.int 4520 330, Value.int 4546 331, Value.int 4547 332, Value.int 4607 333, Value.int 4608 334]) ?kX ?kl) ?k3 ?_; (case kX => exact Frag.In.keeps (by k_asm) (Fr.keep (by k_asm))); (case kl => k_is); (case k3 => decide)); (try simp only [List.length_cons, List.length_nil]))) | ((with_reducible show wpAny _ _ (call (Value.builtin "len") _) _ _ _); ((with_reducible show wpAny _ _ (call (Value.builtin _) [Value.ref _]) _ _ _); (with_unfolding_all refine' len_gen ?k1 ?k3 ?_; (case k1 => first | is_list | exact News.isList (by assumption) (by k_mem)); (case k3 => omega); k_whole))) | ((with_reducible show wpAny _ _ (call (Value.ref _) _) _ _ _); first | ((with_reducible show wpAny _ _ (call (Value.ref 118) [Value.ref _, Value.int _ _]) _ _ _); (with_reducible rename DeckIs _ _ _ _ => D9); (with_reducible rename CellsIs _ => C9); refine' use_deck (con_draw' _ _ _ _ _ _ _ _ ?hdc D9 C9 ?hk ?hb) ?U ?k1 ?k2 ?k3 ?k4 ?kh ?k5 ?k6 ?_; (case k3 => k_asm); (case k4 => k_asm); (case k1 => k_asm); (case k2 => k_asm); (case kh => exact rfl); (case k5 => first | (refine' dOk ?da ?db; (case da => assumption); (case db => exact rfl)) | exact Nat.le_of_ble_eq_true rfl | (simp only [depth_deeper, depth_in1]; (try dsimp only [AR]); omega)); (case k6 => first | (refine' uOk ?da ?db; (case da => assumption); (case db => exact rfl)) | exact Nat.le_of_ble_eq_true rfl | (simp only [units_deeper, units_in1]; (try dsimp only [AR]); omega)); (case hdc => (refine neN ?_; (try dsimp only); first | assumption | exact Ne.symm (by assumption) | omega)); (case hk => omega); (case hb => omega); (case U => (repeat' (first | with_reducible refine' Upd2.head1 ?_ ?_ ?_ | with_reducible refine' Upd2.head2 ?_ ?_ ?_ | with_reducible refine' Upd2.tail ?_ ?_ ?_ | with_reducible refine' UpdF.head ?_ | with_reducible refine' UpdF.tail ?_ ?_ | exact List.forall_mem_nil _ | refine' List.forall_mem_cons.mpr ⟨?_, ?_⟩ | (refine neN ?_; (try dsimp only); first | assumption | exact Ne.symm (by assumption) | omega)))); intro r9 od9 oc9 h9 tk9 P9 F9 N9 D8 C8; clear D9 C9; obtain ⟨x9, t9, e9, lo9, hi9⟩ := P9; subst e9; (try dsimp only at N9); (try dsimp only); (try k_sweep))) | walk1 | (dsimp only; first | ((with_reducible show wpAny _ _ (subscriptTail _ _ _ _) _ _ _); first | ((with_reducible show wpAny _ _ (subscriptTail _ _ (Value.ref 106) (Value.int _ _)) _ _ _); k_dflt (refine' item_gen (lstK (l := [Value.int 43359 336, Value.int 43360 337, Value.int 43388 338, Value.int 43389 339, Value.int 44031 340, Value.int 44032 341, Value.int 44033 342, Value.int 44060 343, Value.int 55203 344, Value.int 55204 345, Value.int 55216 346, Value.int 55238 347, Value.int 55239 348, Value.int 55242 349, Value.int 55243 350, Value.int 55291 351, Value.int 55292 352, Value.int 65 353, Value.int 1114111 354]) ?kX ?kl) ?k2 ?k3 ?k4 ?_ ?k6; (case kX => exact Frag.In.keeps (by k_asm) (Fr.keep (by k_asm))); (case kl => k_is); (case k2 => omega); (case k3 => (simp only [List.length_cons, List.length_nil]; omega)); (case k4 => decide); (case k6 => with_unfolding_all rfl); intro v9 e9)) | ((with_reducible show wpAny _ _ (subscriptTail _ _ (Value.ref 105) (Value.int _ _)) _ _ _); k_dflt (refine' item_gen (lstK (l := [Value.int 4351 320, Value.int 4352 321, Value.int 4370 322, Value.int 4371 323, Value.int 4447 324, Value.int 4448 325, Value.int 4449 326, Value.int 4469 327, Value.int 4470 328, Value.int 4519 329, Value.int 4520 330, Value.int 4546 331, Value.int 4547 332, Value.int 4607 333, Value.int 4608 334]) ?kX ?kl) ?k2 ?k3 ?k4 ?_ ?k6; (case kX => exact Frag.In.keeps (by k_asm) (Fr.keep (by k_asm))); (case kl => k_is); (case k2 => omega); (case k3 => (simp only [List.length_cons, List.length_nil]; omega)); (case k4 => decide); (case k6 => with_unfolding_all rfl); intro v9 e9)) | ((with_reducible show wpAny _ _ (subscriptTail _ _ (Value.ref _) (Value.int _ _)) _ _ _); (with_unfolding_all refine' item_gen ?k1 ?k2 ?k3 ?k4 ?_ ?k6; (case k1 => first | is_list | exact News.isList (by assumption) (by k_mem)); (case k2 => omega); (case k3 => omega); (case k4 => omega); (case k6 => with_unfolding_all rfl); k_whole); intro v9 e9)) | ((with_reducible show wpAny _ _ (call (Value.builtin "len") _) _ _ _); ((with_reducible show wpAny _ _ (call (Value.builtin _) [Value.ref 106]) _ _ _); k_dflt (refine' len_gen (lstK (l := [Value.int 43359 336, Value.int 43360 337, Value.int 43388 338, Value.int 43389 339, Value.int 44031 340, Value.int 44032 341, Value.int 44033 342, Value.int 44060 343, Value.int 55203 344, Value.int 55204 345, Value.int 55216 346, Value.int 55238 347, Value.int 55239 348, Value.int 55242 349, Value.int 55243 350, Value.int 55291 351, Value.int 55292 352, Value.int 65 353, Value.int 1114111 354]) ?kX ?kl) ?k3 ?_; (case kX => exact Frag.In.keeps (by k_asm) (Fr.keep (by k_asm))); (case kl => k_is); (case k3 => decide)); (try simp only [List.length_cons, List.length_nil]))) | ((with_reducible show wpAny _ _ (call (Value.builtin "len") _) _ _ _); ((with_reducible show wpAny _ _ (call (Value.builtin _) [Value.ref 105]) _ _ _); k_dflt (refine' len_gen (lstK (l := [Value.int 4351 320, Value.int 4352 321, Value.int 4370 322, Value.int 4371 323, Value.int 4447 324, Value.int 4448 325, Value.int 4449 326, Value.int 4469 327, Value.int 4470 328, Value.int 4519 329, Value.int 4520 330, Value.int 4546 331, Value.int 4547 332, Value.int 4607 333, Value.int 4608 334]) ?kX ?kl) ?k3 ?_; (case kX => exact Frag.In.keeps (by k_asm) (Fr.keep (by k_asm))); (case kl => k_is); (case k3 => decide)); (try simp only [List.length_cons, List.length_nil]))) | ((with_reducible show wpAny _ _ (call (Value.builtin "len") _) _ _ _); ((with_reducible show wpAny _ _ (call (Value.builtin _) [Value.ref _]) _ _ _); (with_unfolding_all refine' len_gen ?k1 ?k3 ?_; (case k1 => first | is_list | exact News.isList (by assumption) (by k_mem)); (case k3 => omega); k_whole))) | ((with_reducible show wpAny _ _ (call (Value.ref _) _) _ _ _); first | ((with_reducible show wpAny _ _ (call (Value.ref 118) [Value.ref _, Value.int _ _]) _ _ _); (with_reducible rename DeckIs _ _ _ _ => D9); (with_reducible rename CellsIs _ => C9); refine' use_deck (con_draw' _ _ _ _ _ _ _ _ ?hdc D9 C9 ?hk ?hb) ?U ?k1 ?k2 ?k3 ?k4 ?kh ?k5 ?k6 ?_; (case k3 => k_asm); (case k4 => k_asm); (case k1 => k_asm); (case k2 => k_asm); (case kh => exact rfl); (case k5 => first | (refine' dOk ?da ?db; (case da => assumption); (case db => exact rfl)) | exact Nat.le_of_ble_eq_true rfl | (simp only [depth_deeper, depth_in1]; (try dsimp only [AR]); omega)); (case k6 => first | (refine' uOk ?da ?db; (case da => assumption); (case db => exact rfl)) | exact Nat.le_of_ble_eq_true rfl | (simp only [units_deeper, units_in1]; (try dsimp only [AR]); omega)); (case hdc => (refine neN ?_; (try dsimp only); first | assumption | exact Ne.symm (by assumption) | omega)); (case hk => omega); (case hb => omega); (case U => (repeat' (first | with_reducible refine' Upd2.head1 ?_ ?_ ?_ | with_reducible refine' Upd2.head2 ?_ ?_ ?_ | with_reducible refine' Upd2.tail ?_ ?_ ?_ | with_reducible refine' UpdF.head ?_ | with_reducible refine' UpdF.tail ?_ ?_ | exact List.forall_mem_nil _ | refine' List.forall_mem_cons.mpr ⟨?_, ?_⟩ | (refine neN ?_; (try dsimp only); first | assumption | exact Ne.symm (by assumption) | omega)))); intro r9 od9 oc9 h9 tk9 P9 F9 N9 D8 C8; clear D9 C9; obtain ⟨x9, t9, e9, lo9, hi9⟩ := P9; subst e9; (try dsimp only at N9); (try dsimp only); (try k_sweep))) | walk1) | fail "no step")
  all_goals ((try dsimp only); (try k_unfold); (try dsimp only); refine Wrap.mk (hret _ _ _ (fun b o e n => Fr.keep (by with_reducible assumption) b o (hgs b o e n)) ?_))
  all_goals (rename News _ _ _ _ => N1; rename _ = some _ => e1; exact ⟨ints_mem (ns := [43359, 43360, 43388, 43389, 44031, 44032, 44033, 44060, 55203, 55204, 55216, 55238, 55239, 55242, 55243, 55291, 55292, 65, 1114111]) (by repeat constructor) (List.mem_of_getElem? e1), _, _, (N1 _ (.head _)).1, (N1 _ (.tail _ (.head _))).1, by assumption, by assumption⟩)

section
variable {w : World} {f : Addr} {vs : List Value} {D U : Nat} {A : Around} {s : Shared} {Q E : Value → Shared → Prop} {h₀ : Heap} {L d c l : Addr} {m : Str → Option Value} {news : List (Addr × Obj)} {mean : ExcName → Option Value} {mg mb : Str → Option Value} {od oc lo : Obj} {g : Obj → Obj → List (Addr × Obj)}
/-- a call that turns the deck alone and reads a list of the ledger -/
theorem use_pick {k : Int} {xs : List Value} (C : Con w f vs D U [(d, od), (c, oc), (l, lo)] (fun _ h' r => ∃ v od' oc', r = v ∧ v ∈ xs ∧ h'.get? d = some od' ∧ h'.get? c = some oc' ∧ DeckIs w c k od' ∧ CellsIs oc' ∧ h'.get? l = some lo)) (Up : Upd2 d od c oc news g) (Ml : (l, lo) ∈ news) (T : Top hd.view_39 looseN mean mg mb h₀) (X : (hd.heap_39 w.params).In h₀) (F : Fr h₀ L s.heap m) (N : News h₀ L s.heap news)
    (hh : A.handled = none) (hd : A.depth + D < recursionLimit) (hu : A.units + U < cLine)
    (h : ∀ r od' oc' h' tk', r ∈ xs → Fr h₀ L h' m → News h₀ L h' (g od' oc') → DeckIs w c k od' → CellsIs oc' → Q r { s with heap := h', toks := tk' }) :
    wpAny (model PySem.Challenge.rw_nt0004_01.row.prog w) A (call (.ref f) vs) Q E s := by
  have N1 := N _ Up.has.1
  have N2 := N _ Up.has.2
  have N3 := N _ Ml
  obtain ⟨a0, dp, fr, gd, un⟩ := A
  dsimp only at hh; subst hh
  refine C mean mg mb h₀ dp un fr gd s Q E T X F.keep (fun p hp => ?_) hd hu (fun r h' tk' k' P => ?_)
  · rcases List.mem_cons.mp hp with rfl | hp
    · exact ⟨N1.1, N1.2.2⟩
    · rcases List.mem_cons.mp hp with rfl | hp
      · exact ⟨N2.1, N2.2.2⟩
      · rcases List.mem_cons.mp hp with rfl | hp
        · exact ⟨N3.1, N3.2.2⟩
        · exact nomatch hp
  · obtain ⟨v, od', oc', rfl, pr, e1, e2, e3, e4, e5⟩ := P
    have kp : ∀ b o, s.heap.get? b = some o → b ≠ d → b ≠ c → h'.get? b = some o := fun b o e n1 n2 => by
      by_cases q : b = l
      · rw [q] at e ⊢
        rw [N3.1] at e; cases e; exact e5
      · exact k' b o e (fun hm => by
          rcases List.mem_cons.mp hm with e | hm
          · exact n1 e
          · rcases List.mem_cons.mp hm with e | hm
            · exact n2 e
            · rcases List.mem_cons.mp hm with e | hm
              · exact q e
              · exact nomatch hm)
    obtain ⟨oL, es, ep, hL, rr⟩ := F.ns
    refine h r od' oc' h' tk' pr ⟨⟨oL, es, ep, kp _ _ hL (Ne.symm N1.2.1) (Ne.symm N2.2.1), rr⟩, fun b o e => kp b o (F.keep b o e) (fun q => by rw [q, N1.2.2] at e; cases e) (fun q => by rw [q, N2.2.2] at e; cases e), F.above⟩ (fun p hp => ?_) e3 e4
    rcases Up.mem hp with rfl | rfl | ⟨a, b1, b2⟩
    · exact ⟨e1, N1.2⟩
    · exact ⟨e2, N2.2⟩
    · exact ⟨kp _ _ (N p a).1 b1 b2, (N p a).2⟩
end
-- C4
theorem con_parts_none (w : World) (code : Int) (t : Tok) (hc : ¬ (44032 ≤ code ∧ code < 55204)) : Con w 35 [.int code t] 5 24 [] (PV fun _ => .none) := by
  unfold Con
  k_fill
  intro mean mg mb hT dp un fr gd s Q E TT KX st hl hd9 hu9 hret
  refine' enterC (K := hd.heap_39 _) (binds := [(Str.ofString "code", .int code t)]) ?kT ?kX ?kst ?kl ?kroom ?kho ?khcd ?kbind ?kloc ?_ ?kco ?kgen ?kk ?kcell
  (case kT => assumption)
  (case kX => assumption)
  (case kst => assumption)
  (case kl => assumption)
  (case kroom => (show dp < _; omega))
  (case kho => k_is)
  (case khcd => k_is)
  (case kbind => exact BindsTo.of_eq rfl)
  (case kloc => exact locs rfl)
  (case kco => exact rfl)
  (case kgen => exact rfl)
  (case kk => exact rfl)
  (case kcell => decide)
  intro g L' h₁ hgs hgn F' N' X' T'
  (try dsimp only)
  (try k_fold)
  repeat' (first | (k_unfold; (try dsimp only)) | ((with_reducible show wpAny _ _ (call (Value.ref _) _) _ _ _); first | ((with_reducible show wpAny _ _ (call (Value.ref 28) [Value.int _ _]) _ _ _); refine' use_tup3 (con_numbers _ _ _) ?k1 ?k2 ?k3 ?k4 ?kh ?k5 ?k6 ?_; (case k3 => k_asm); (case k4 => k_asm); (case k1 => k_asm); (case k2 => k_asm); (case kh => exact rfl); (case k5 => first | (refine' dOk ?da ?db; (case da => assumption); (case db => exact rfl)) | exact Nat.le_of_ble_eq_true rfl | (simp only [depth_deeper, depth_in1]; (try dsimp only [AR]); omega)); (case k6 => first | (refine' uOk ?da ?db; (case da => assumption); (case db => exact rfl)) | exact Nat.le_of_ble_eq_true rfl | (simp only [units_deeper, units_in1]; (try dsimp only [AR]); omega)); intros; (try dsimp only); (try k_sweep)) | ((with_reducible show wpAny _ _ (call (Value.ref 21) [Value.int _ _]) _ _ _); refine' use_val (con_is _ _ _) ?k1 ?k2 ?k3 ?k4 ?kh ?k5 ?k6 ?_; (case k3 => k_asm); (case k4 => k_asm); (case k1 => k_asm); (case k2 => k_asm); (case kh => exact rfl); (case k5 => first | (refine' dOk ?da ?db; (case da => assumption); (case db => exact rfl)) | exact Nat.le_of_ble_eq_true rfl | (simp only [depth_deeper, depth_in1]; (try dsimp only [AR]); omega)); (case k6 => first | (refine' uOk ?da ?db; (case da => assumption); (case db => exact rfl)) | exact Nat.le_of_ble_eq_true rfl | (simp only [units_deeper, units_in1]; (try dsimp only [AR]); omega)); intro t9 h9 tk9 F9 N9; (try dsimp only); (try k_sweep))) | walk1 | (dsimp only; first | ((with_reducible show wpAny _ _ (call (Value.ref _) _) _ _ _); first | ((with_reducible show wpAny _ _ (call (Value.ref 28) [Value.int _ _]) _ _ _); refine' use_tup3 (con_numbers _ _ _) ?k1 ?k2 ?k3 ?k4 ?kh ?k5 ?k6 ?_; (case k3 => k_asm); (case k4 => k_asm); (case k1 => k_asm); (case k2 => k_asm); (case kh => exact rfl); (case k5 => first | (refine' dOk ?da ?db; (case da => assumption); (case db => exact rfl)) | exact Nat.le_of_ble_eq_true rfl | (simp only [depth_deeper, depth_in1]; (try dsimp only [AR]); omega)); (case k6 => first | (refine' uOk ?da ?db; (case da => assumption); (case db => exact rfl)) | exact Nat.le_of_ble_eq_true rfl | (simp only [units_deeper, units_in1]; (try dsimp only [AR]); omega)); intros; (try dsimp only); (try k_sweep)) | ((with_reducible show wpAny _ _ (call (Value.ref 21) [Value.int _ _]) _ _ _); refine' use_val (con_is _ _ _) ?k1 ?k2 ?k3 ?k4 ?kh ?k5 ?k6 ?_; (case k3 => k_asm); (case k4 => k_asm); (case k1 => k_asm); (case k2 => k_asm); (case kh => exact rfl); (case k5 => first | (refine' dOk ?da ?db; (case da => assumption); (case db => exact rfl)) | exact Nat.le_of_ble_eq_true rfl | (simp only [depth_deeper, depth_in1]; (try dsimp only [AR]); omega)); (case k6 => first | (refine' uOk ?da ?db; (case da => assumption); (case db => exact rfl)) | exact Nat.le_of_ble_eq_true rfl | (simp only [units_deeper, units_in1]; (try dsimp only [AR]); omega)); intro t9 h9 tk9 F9 N9; (try dsimp only); (try k_sweep))) | walk1) | fail "no step")
  all_goals ((try dsimp only); (try k_unfold); (try dsimp only); refine Wrap.mk (hret _ _ _ (fun b o e n => Fr.keep (by with_reducible assumption) b o (hgs b o e n)) ?_))
  all_goals exact ⟨(0 : Nat), rfl⟩
theorem con_parts2 (w : World) (code : Int) (t : Tok) (hc : 44032 ≤ code ∧ code < 55204) (h0 : (code - 44032).fmod 28 = 0) : Con w 35 [.int code t] 5 24 [] (fun h h' r => ∃ a t1 t2, r = .ref a ∧ h.get? a = none ∧ h'.get? a = some (tupOf [.int (4352 + (code - 44032).fdiv 588) t1, .int (4449 + ((code - 44032).fdiv 28).fmod 21) t2])) := by
  unfold Con
  k_fill
  intro mean mg mb hT dp un fr gd s Q E TT KX st hl hd9 hu9 hret
  refine' enterC (K := hd.heap_39 _) (binds := [(Str.ofString "code", .int code t)]) ?kT ?kX ?kst ?kl ?kroom ?kho ?khcd ?kbind ?kloc ?_ ?kco ?kgen ?kk ?kcell
  (case kT => assumption)
  (case kX => assumption)
  (case kst => assumption)
  (case kl => assumption)
  (case kroom => (show dp < _; omega))
  (case kho => k_is)
  (case khcd => k_is)
  (case kbind => exact BindsTo.of_eq rfl)
  (case kloc => exact locs rfl)
  (case kco => exact rfl)
  (case kgen => exact rfl)
  (case kk => exact rfl)
  (case kcell => decide)
  intro g L' h₁ hgs hgn F' N' X' T'
  (try dsimp only)
  (try k_fold)
  repeat' (first | (k_unfold; (try dsimp only)) | ((with_reducible show wpAny _ _ (call (Value.ref _) _) _ _ _); first | ((with_reducible show wpAny _ _ (call (Value.ref 28) [Value.int _ _]) _ _ _); refine' use_tup3 (con_numbers _ _ _) ?k1 ?k2 ?k3 ?k4 ?kh ?k5 ?k6 ?_; (case k3 => k_asm); (case k4 => k_asm); (case k1 => k_asm); (case k2 => k_asm); (case kh => exact rfl); (case k5 => first | (refine' dOk ?da ?db; (case da => assumption); (case db => exact rfl)) | exact Nat.le_of_ble_eq_true rfl | (simp only [depth_deeper, depth_in1]; (try dsimp only [AR]); omega)); (case k6 => first | (refine' uOk ?da ?db; (case da => assumption); (case db => exact rfl)) | exact Nat.le_of_ble_eq_true rfl | (simp only [units_deeper, units_in1]; (try dsimp only [AR]); omega)); intros; (try dsimp only); (try k_sweep)) | ((with_reducible show wpAny _ _ (call (Value.ref 21) [Value.int _ _]) _ _ _); refine' use_val (con_is _ _ _) ?k1 ?k2 ?k3 ?k4 ?kh ?k5 ?k6 ?_; (case k3 => k_asm); (case k4 => k_asm); (case k1 => k_asm); (case k2 => k_asm); (case kh => exact rfl); (case k5 => first | (refine' dOk ?da ?db; (case da => assumption); (case db => exact rfl)) | exact Nat.le_of_ble_eq_true rfl | (simp only [depth_deeper, depth_in1]; (try dsimp only [AR]); omega)); (case k6 => first | (refine' uOk ?da ?db; (case da => assumption); (case db => exact rfl)) | exact Nat.le_of_ble_eq_true rfl | (simp only [units_deeper, units_in1]; (try dsimp only [AR]); omega)); intro t9 h9 tk9 F9 N9; (try dsimp only); (try k_sweep))) | walk1 | (dsimp only; first | ((with_reducible show wpAny _ _ (call (Value.ref _) _) _ _ _); first | ((with_reducible show wpAny _ _ (call (Value.ref 28) [Value.int _ _]) _ _ _); refine' use_tup3 (con_numbers _ _ _) ?k1 ?k2 ?k3 ?k4 ?kh ?k5 ?k6 ?_; (case k3 => k_asm); (case k4 => k_asm); (case k1 => k_asm); (case k2 => k_asm); (case kh => exact rfl); (case k5 => first | (refine' dOk ?da ?db; (case da => assumption); (case db => exact rfl)) | exact Nat.le_of_ble_eq_true rfl | (simp only [depth_deeper, depth_in1]; (try dsimp only [AR]); omega)); (case k6 => first | (refine' uOk ?da ?db; (case da => assumption); (case db => exact rfl)) | exact Nat.le_of_ble_eq_true rfl | (simp only [units_deeper, units_in1]; (try dsimp only [AR]); omega)); intros; (try dsimp only); (try k_sweep)) | ((with_reducible show wpAny _ _ (call (Value.ref 21) [Value.int _ _]) _ _ _); refine' use_val (con_is _ _ _) ?k1 ?k2 ?k3 ?k4 ?kh ?k5 ?k6 ?_; (case k3 => k_asm); (case k4 => k_asm); (case k1 => k_asm); (case k2 => k_asm); (case kh => exact rfl); (case k5 => first | (refine' dOk ?da ?db; (case da => assumption); (case db => exact rfl)) | exact Nat.le_of_ble_eq_true rfl | (simp only [depth_deeper, depth_in1]; (try dsimp only [AR]); omega)); (case k6 => first | (refine' uOk ?da ?db; (case da => assumption); (case db => exact rfl)) | exact Nat.le_of_ble_eq_true rfl | (simp only [units_deeper, units_in1]; (try dsimp only [AR]); omega)); intro t9 h9 tk9 F9 N9; (try dsimp only); (try k_sweep))) | walk1) | fail "no step")
  all_goals ((try dsimp only); (try k_unfold); (try dsimp only); refine Wrap.mk (hret _ _ _ (fun b o e n => Fr.keep (by with_reducible assumption) b o (hgs b o e n)) ?_))
  all_goals first | (exfalso; omega) | (rename News _ _ _ _ => N1; exact ⟨_, _, _, rfl, Gone.of hgs (N1 _ (.head _)).2.2 (fun h => nomatch h), (N1 _ (.head _)).1⟩)
theorem con_parts3 (w : World) (code : Int) (t : Tok) (hc : 44032 ≤ code ∧ code < 55204) (h0 : ¬ (code - 44032).fmod 28 = 0) : Con w 35 [.int code t] 5 24 [] (fun h h' r => ∃ a t1 t2 t3, r = .ref a ∧ h.get? a = none ∧ h'.get? a = some (tupOf [.int (4352 + (code - 44032).fdiv 588) t1, .int (4449 + ((code - 44032).fdiv 28).fmod 21) t2, .int (4519 + (code - 44032).fmod 28) t3])) := by
  unfold Con
  k_fill
  intro mean mg mb hT dp un fr gd s Q E TT KX st hl hd9 hu9 hret
  refine' enterC (K := hd.heap_39 _) (binds := [(Str.ofString "code", .int code t)]) ?kT ?kX ?kst ?kl ?kroom ?kho ?khcd ?kbind ?kloc ?_ ?kco ?kgen ?kk ?kcell
  (case kT => assumption)
  (case kX => assumption)
  (case kst => assumption)
  (case kl => assumption)
  (case kroom => (show dp < _; omega))
  (case kho => k_is)
  (case khcd => k_is)
  (case kbind => exact BindsTo.of_eq rfl)
  (case kloc => exact locs rfl)
  (case kco => exact rfl)
  (case kgen => exact rfl)
  (case kk => exact rfl)
  (case kcell => decide)
  intro g L' h₁ hgs hgn F' N' X' T'
  (try dsimp only)
  (try k_fold)
  repeat' (first | (k_unfold; (try dsimp only)) | ((with_reducible show wpAny _ _ (call (Value.ref _) _) _ _ _); first | ((with_reducible show wpAny _ _ (call (Value.ref 28) [Value.int _ _]) _ _ _); refine' use_tup3 (con_numbers _ _ _) ?k1 ?k2 ?k3 ?k4 ?kh ?k5 ?k6 ?_; (case k3 => k_asm); (case k4 => k_asm); (case k1 => k_asm); (case k2 => k_asm); (case kh => exact rfl); (case k5 => first | (refine' dOk ?da ?db; (case da => assumption); (case db => exact rfl)) | exact Nat.le_of_ble_eq_true rfl | (simp only [depth_deeper, depth_in1]; (try dsimp only [AR]); omega)); (case k6 => first | (refine' uOk ?da ?db; (case da => assumption); (case db => exact rfl)) | exact Nat.le_of_ble_eq_true rfl | (simp only [units_deeper, units_in1]; (try dsimp only [AR]); omega)); intros; (try dsimp only); (try k_sweep)) | ((with_reducible show wpAny _ _ (call (Value.ref 21) [Value.int _ _]) _ _ _); refine' use_val (con_is _ _ _) ?k1 ?k2 ?k3 ?k4 ?kh ?k5 ?k6 ?_; (case k3 => k_asm); (case k4 => k_asm); (case k1 => k_asm); (case k2 => k_asm); (case kh => exact rfl); (case k5 => first | (refine' dOk ?da ?db; (case da => assumption); (case db => exact rfl)) | exact Nat.le_of_ble_eq_true rfl | (simp only [depth_deeper, depth_in1]; (try dsimp only [AR]); omega)); (case k6 => first | (refine' uOk ?da ?db; (case da => assumption); (case db => exact rfl)) | exact Nat.le_of_ble_eq_true rfl | (simp only [units_deeper, units_in1]; (try dsimp only [AR]); omega)); intro t9 h9 tk9 F9 N9; (try dsimp only); (try k_sweep))) | walk1 | (dsimp only; first | ((with_reducible show wpAny _ _ (call (Value.ref _) _) _ _ _); first | ((with_reducible show wpAny _ _ (call (Value.ref 28) [Value.int _ _]) _ _ _); refine' use_tup3 (con_numbers _ _ _) ?k1 ?k2 ?k3 ?k4 ?kh ?k5 ?k6 ?_; (case k3 => k_asm); (case k4 => k_asm); (case k1 => k_asm); (case k2 => k_asm); (case kh => exact rfl); (case k5 => first | (refine' dOk ?da ?db; (case da => assumption); (case db => exact rfl)) | exact Nat.le_of_ble_eq_true rfl | (simp only [depth_deeper, depth_in1]; (try dsimp only [AR]); omega)); (case k6 => first | (refine' uOk ?da ?db; (case da => assumption); (case db => exact rfl)) | exact Nat.le_of_ble_eq_true rfl | (simp only [units_deeper, units_in1]; (try dsimp only [AR]); omega)); intros; (try dsimp only); (try k_sweep)) | ((with_reducible show wpAny _ _ (call (Value.ref 21) [Value.int _ _]) _ _ _); refine' use_val (con_is _ _ _) ?k1 ?k2 ?k3 ?k4 ?kh ?k5 ?k6 ?_; (case k3 => k_asm); (case k4 => k_asm); (case k1 => k_asm); (case k2 => k_asm); (case kh => exact rfl); (case k5 => first | (refine' dOk ?da ?db; (case da => assumption); (case db => exact rfl)) | exact Nat.le_of_ble_eq_true rfl | (simp only [depth_deeper, depth_in1]; (try dsimp only [AR]); omega)); (case k6 => first | (refine' uOk ?da ?db; (case da => assumption); (case db => exact rfl)) | exact Nat.le_of_ble_eq_true rfl | (simp only [units_deeper, units_in1]; (try dsimp only [AR]); omega)); intro t9 h9 tk9 F9 N9; (try dsimp only); (try k_sweep))) | walk1) | fail "no step")
  all_goals ((try dsimp only); (try k_unfold); (try dsimp only); refine Wrap.mk (hret _ _ _ (fun b o e n => Fr.keep (by with_reducible assumption) b o (hgs b o e n)) ?_))
  all_goals first | (exfalso; omega) | (rename News _ _ _ _ => N1; exact ⟨_, _, _, _, rfl, Gone.of hgs (N1 _ (.head _)).2.2 (fun h => nomatch h), (N1 _ (.head _)).1⟩)
theorem fdiv_lit (a : Int) (n : Nat) : a.fdiv (n : Int) = a / (n : Int) := Int.fdiv_eq_ediv_of_nonneg a (Int.natCast_nonneg n)
theorem fmod_lit (a : Int) (n : Nat) : a.fmod (n : Int) = a % (n : Int) := Int.fmod_eq_emod_of_nonneg a (Int.natCast_nonneg n)
theorem syl_facts {l v t code : Int} (e : code = 44032 + (l * 21 + v) * 28 + t) (hl : 0 ≤ l ∧ l < 19) (hv : 0 ≤ v ∧ v < 21) (ht : 0 ≤ t ∧ t < 28) :
    (44032 ≤ code ∧ code < 55204) ∧ (code - 44032).fdiv 588 = l ∧ ((code - 44032).fdiv 28).fmod 21 = v ∧ (code - 44032).fmod 28 = t := by
  subst e
  have e1 := fdiv_lit (44032 + (l * 21 + v) * 28 + t - 44032) 588
  have e2 := fdiv_lit (44032 + (l * 21 + v) * 28 + t - 44032) 28
  have e3 := fmod_lit (44032 + (l * 21 + v) * 28 + t - 44032) 28
  have e4 := fmod_lit ((44032 + (l * 21 + v) * 28 + t - 44032) / 28) 21
  refine ⟨by omega, e1.trans (by omega), ?_, e3.trans (by omega)⟩
  show ((44032 + (l * 21 + v) * 28 + t - 44032).fdiv ((28 : Nat) : Int)).fmod 21 = v
  rw [e2]
  exact e4.trans (by omega)
theorem con_numbers_at (w : World) {l v t : Int} (tk : Tok) (hl : 0 ≤ l ∧ l < 19) (hv : 0 ≤ v ∧ v < 21) (ht : 0 ≤ t ∧ t < 28) : Con w 28 [.int (44032 + (l * 21 + v) * 28 + t) tk] 1 8 [] (fun h h' r => ∃ a t1 t2 t3, r = .ref a ∧ h.get? a = none ∧ h'.get? a = some (tupOf [.int l t1, .int v t2, .int t t3])) := by
  obtain ⟨_, a, b, c⟩ := syl_facts (l := l) (v := v) (t := t) rfl hl hv ht
  have := con_numbers w (44032 + (l * 21 + v) * 28 + t) tk
  rw [a, b, c] at this
  exact this
theorem con_parts2_at (w : World) {l v t : Int} (tk : Tok) (hl : 0 ≤ l ∧ l < 19) (hv : 0 ≤ v ∧ v < 21) (ht : t = 0) : Con w 35 [.int (44032 + (l * 21 + v) * 28 + t) tk] 5 24 [] (fun h h' r => ∃ a t1 t2, r = .ref a ∧ h.get? a = none ∧ h'.get? a = some (tupOf [.int (4352 + l) t1, .int (4449 + v) t2])) := by
  obtain ⟨p, a, b, c⟩ := syl_facts (l := l) (v := v) (t := t) rfl hl hv (by omega)
  have := con_parts2 w (44032 + (l * 21 + v) * 28 + t) tk p (c.trans ht)
  rw [a, b] at this
  exact this
theorem con_parts3_at (w : World) {l v t : Int} (tk : Tok) (hl : 0 ≤ l ∧ l < 19) (hv : 0 ≤ v ∧ v < 21) (ht : 0 < t ∧ t < 28) : Con w 35 [.int (44032 + (l * 21 + v) * 28 + t) tk] 5 24 [] (fun h h' r => ∃ a t1 t2 t3, r = .ref a ∧ h.get? a = none ∧ h'.get? a = some (tupOf [.int (4352 + l) t1, .int (4449 + v) t2, .int (4519 + t) t3])) := by
  obtain ⟨p, a, b, c⟩ := syl_facts (l := l) (v := v) (t := t) rfl hl hv (by omega)
  have := con_parts3 w (44032 + (l * 21 + v) * 28 + t) tk p (by omega)
  rw [a, b, c] at this
  exact this
-- C5
abbrev rawLeads : List (List UInt8) := [[71], [71, 71], [78], [68], [68, 68], [82], [77], [66], [66, 66], [83], [83, 83], [45], [74], [74, 74], [67], [75], [84], [80], [72]]
abbrev rawVowels : List (List UInt8) := [[65], [65, 69], [89, 65], [89, 65, 69], [69, 79], [69], [89, 69, 79], [89, 69], [79], [87, 65], [87, 65, 69], [79, 69], [89, 79], [85], [87, 69, 79], [87, 69], [87, 73], [89, 85], [69, 85], [89, 73], [73]]
abbrev rawTails : List (List UInt8) := [[45], [71], [71, 71], [71, 83], [78], [78, 74], [78, 72], [68], [76], [76, 71], [76, 77], [76, 66], [76, 83], [76, 84], [76, 80], [76, 72], [77], [66], [66, 83], [83], [83, 83], [78, 71], [74], [67], [75], [84], [80], [72]]
abbrev leadsB : List (List UInt8) := [[71], [71, 71], [78], [68], [68, 68], [82], [77], [66], [66, 66], [83], [83, 83], [], [74], [74, 74], [67], [75], [84], [80], [72]]
abbrev vowelsB : List (List UInt8) := [[65], [65, 69], [89, 65], [89, 65, 69], [69, 79], [69], [89, 69, 79], [89, 69], [79], [87, 65], [87, 65, 69], [79, 69], [89, 79], [85], [87, 69, 79], [87, 69], [87, 73], [89, 85], [69, 85], [89, 73], [73]]
abbrev tailsB : List (List UInt8) := [[], [71], [71, 71], [71, 83], [78], [78, 74], [78, 72], [68], [76], [76, 71], [76, 77], [76, 66], [76, 83], [76, 84], [76, 80], [76, 72], [77], [66], [66, 83], [83], [83, 83], [78, 71], [74], [67], [75], [84], [80], [72]]
def shortF (x : List UInt8) : List UInt8 := if x = [45] then [] else x
theorem con_short (w : World) (x : List UInt8) (t : Tok) : Con w 69 [.bytes x.toArray t] 1 40 [] (PV fun t => .bytes (shortF x).toArray t) := by
  unfold Con
  k_fill
  intro mean mg mb hT dp un fr gd s Q E TT KX st hl hd9 hu9 hret
  refine' enterC (K := hd.heap_39 _) (binds := [(Str.ofString "name", .bytes x.toArray t)]) ?kT ?kX ?kst ?kl ?kroom ?kho ?khcd ?kbind ?kloc ?_ ?kco ?kgen ?kk ?kcell
  (case kT => assumption)
  (case kX => assumption)
  (case kst => assumption)
  (case kl => assumption)
  (case kroom => (show dp < _; omega))
  (case kho => k_is)
  (case khcd => k_is)
  (case kbind => exact BindsTo.of_eq rfl)
  (case kloc => exact locs rfl)
  (case kco => exact rfl)
  (case kgen => exact rfl)
  (case kk => exact rfl)
  (case kcell => decide)
  intro g L' h₁ hgs hgn F' N' X' T'
  (try dsimp only)
  (try k_fold)
  repeat' (first | (k_unfold; (try dsimp only)) | ((with_reducible show wpAny _ _ (compareOp _ _ _) _ _ _); first | ((with_reducible show wpAny _ _ (compareOp CmpOp.NotEq (Value.bytes _ _) (Value.bytes _ _)) _ _ _); (k_dflt (refine ne_B ?_))) | ((with_reducible show wpAny _ _ (compareOp CmpOp.Eq (Value.bytes _ _) (Value.bytes _ _)) _ _ _); (k_dflt (refine eq_B ?_)))) | walk1 | (dsimp only; first | ((with_reducible show wpAny _ _ (compareOp _ _ _) _ _ _); first | ((with_reducible show wpAny _ _ (compareOp CmpOp.NotEq (Value.bytes _ _) (Value.bytes _ _)) _ _ _); (k_dflt (refine ne_B ?_))) | ((with_reducible show wpAny _ _ (compareOp CmpOp.Eq (Value.bytes _ _) (Value.bytes _ _)) _ _ _); (k_dflt (refine eq_B ?_)))) | walk1) | fail "no step")
  all_goals ((try dsimp only); (try k_unfold); (try dsimp only); refine Wrap.mk (hret _ _ _ (fun b o e n => Fr.keep (by with_reducible assumption) b o (hgs b o e n)) ?_))
  · exact ⟨tk + 1, by show Value.bytes _ _ = Value.bytes _ _; rw [shortF, if_pos (by simpa using ‹(x == [45]) = true›)]⟩
  · exact ⟨t, by show Value.bytes _ _ = Value.bytes _ _; rw [shortF, if_neg (by simpa using ‹(x == [45]) = false›)]⟩
theorem short_leads : List.map shortF rawLeads = leadsB := by decide
theorem short_tails : List.map shortF rawTails = tailsB := by decide
set_option maxHeartbeats 1000000 in
theorem con_names (w : World) : Con w 62 [] 3 100 [] (fun h h' r => ∃ a l1 l2 l3 vs1 vs2 vs3 n1 n2 n3, r = .ref a ∧ h'.get? a = some (tupOf [.ref l1, .ref l2, .ref l3]) ∧ h'.get? l1 = some (W.listOf (List.toArray vs1) n1) ∧ h'.get? l2 = some (W.listOf (List.toArray vs2) n2) ∧ h'.get? l3 = some (W.listOf (List.toArray vs3) n3) ∧
    BytesAre vs1 leadsB ∧ BytesAre vs2 vowelsB ∧ BytesAre vs3 tailsB ∧ h.get? a = none ∧ h.get? l1 = none ∧ h.get? l2 = none ∧ h.get? l3 = none) := by
  unfold Con
  k_fill
  intro mean mg mb hT dp un fr gd s Q E TT KX st hl hd9 hu9 hret
  refine' enterC (K := hd.heap_39 _) (binds := []) ?kT ?kX ?kst ?kl ?kroom ?kho ?khcd ?kbind ?kloc ?_ ?kco ?kgen ?kk ?kcell
  (case kT => assumption)
  (case kX => assumption)
  (case kst => assumption)
  (case kl => assumption)
  (case kroom => (show dp < _; omega))
  (case kho => k_is)
  (case khcd => k_is)
  (case kbind => exact BindsTo.of_eq rfl)
  (case kloc => exact locs rfl)
  (case kco => exact rfl)
  (case kgen => exact rfl)
  (case kk => exact rfl)
  (case kcell => decide)
  intro g L' h₁ hgs hgn F' N' X' T'
  (try dsimp only)
  (try k_fold)
  repeat' (first | (k_unfold; (try dsimp only)) | ((with_reducible show EltB ..); (exact ⟨⟨_, rfl⟩, _, _, rfl, by assumption⟩)) | ((with_reducible show PackB ..); (k_dflt (refine' ⟨_, _, _, _, rfl, ?k1, ?k2, ?k3, ?k4, ?k5, ?_, ?_⟩; (case k4 => k_asm); (case k5 => k_asm); (case k1 => exact News.isList (by assumption) (by k_mem)); (case k2 => assumption); (case k3 => decide)); (first | (intro C9 b9 t9 s9 m9 E9 n9 e9 k9 F9 N9; (try dsimp only)) | (intro D9 ys9 n9 h9 tk9 F9 N9 ne9 B9; (replace ne9 := allNe_of ne9; simp only [AllNe, and_true] at ne9; (repeat (rcases ne9 with ⟨n8, ne9⟩))); (try dsimp only); (try k_sweep))))) | ((with_reducible show wpAny _ _ (eval (Expr.ListComp ..) _) _ _ _); ((with_reducible apply ListComp_B' (f := shortF)); (case hh => with_unfolding_all rfl); (case hclos => with_unfolding_all rfl); (case hcell => decide); (case hkind => with_unfolding_all rfl); (case hnames => decide); (case hx => with_unfolding_all rfl); (case hs => intro _; with_unfolding_all rfl))) | ((with_reducible show wpAny _ _ (call (Value.ref _) _) _ _ _); first | ((with_reducible show wpAny _ _ (call (Value.ref 69) [Value.bytes _ _]) _ _ _); refine' use_valK (con_short _ _ _) ?k1 ?k2 ?k3 ?k4 ?kh ?k5 ?k6 ?_; (case k3 => k_asm); (case k4 => k_asm); (case k1 => k_asm); (case k2 => k_asm); (case kh => exact rfl); (case k5 => first | (refine' dOk ?da ?db; (case da => assumption); (case db => exact rfl)) | exact Nat.le_of_ble_eq_true rfl | (simp only [depth_deeper, depth_in1]; (try dsimp only [AR]); omega)); (case k6 => first | (refine' uOk ?da ?db; (case da => assumption); (case db => exact rfl)) | exact Nat.le_of_ble_eq_true rfl | (simp only [units_deeper, units_in1]; (try dsimp only [AR]); omega)); intro t9 h9 tk9 F9 N9 k9; (try dsimp only); (try k_sweep))) | ((with_reducible show wpAny _ _ (call (Value.builtin "bytes.split") _) _ _ _); (k_dflt (refine' split_B rawTails ?k1 ?k2 ?k3 ?k4 ?k5 ?k6 ?_; (case k1 => k_asm); (case k2 => k_asm); (case k4 => decide +kernel); (case k3 => decide +kernel); (case k5 => decide +kernel); (case k6 => decide +kernel)); intro l9 vs9 h9 tk9 B9 F9 N9 ne9; (try k_lt ne9); (try dsimp only); (try k_sweep))) | ((with_reducible show wpAny _ _ (call (Value.builtin "bytes.split") _) _ _ _); (k_dflt (refine' split_B rawVowels ?k1 ?k2 ?k3 ?k4 ?k5 ?k6 ?_; (case k1 => k_asm); (case k2 => k_asm); (case k4 => decide +kernel); (case k3 => decide +kernel); (case k5 => decide +kernel); (case k6 => decide +kernel)); intro l9 vs9 h9 tk9 B9 F9 N9 ne9; (try k_lt ne9); (try dsimp only); (try k_sweep))) | ((with_reducible show wpAny _ _ (call (Value.builtin "bytes.split") _) _ _ _); (k_dflt (refine' split_B rawLeads ?k1 ?k2 ?k3 ?k4 ?k5 ?k6 ?_; (case k1 => k_asm); (case k2 => k_asm); (case k4 => decide +kernel); (case k3 => decide +kernel); (case k5 => decide +kernel); (case k6 => decide +kernel)); intro l9 vs9 h9 tk9 B9 F9 N9 ne9; (try k_lt ne9); (try dsimp only); (try k_sweep))) | ((with_reducible show wpAny _ _ (getMethod _ _ _) _ _ _); first | ((with_reducible show wpAny _ _ (getMethod (Value.bytes _ _) (PySem.Str.ofString "split") _) _ _ _); refine method_split ?_)) | ((with_reducible show wpAny _ _ (compareOp _ _ _) _ _ _); first | ((with_reducible show wpAny _ _ (compareOp CmpOp.NotEq (Value.bytes _ _) (Value.bytes _ _)) _ _ _); (k_dflt (refine ne_B ?_))) | ((with_reducible show wpAny _ _ (compareOp CmpOp.Eq (Value.bytes _ _) (Value.bytes _ _)) _ _ _); (k_dflt (refine eq_B ?_)))) | walk1 | (dsimp only; first | ((with_reducible show EltB ..); (exact ⟨⟨_, rfl⟩, _, _, rfl, by assumption⟩)) | ((with_reducible show PackB ..); (k_dflt (refine' ⟨_, _, _, _, rfl, ?k1, ?k2, ?k3, ?k4, ?k5, ?_, ?_⟩; (case k4 => k_asm); (case k5 => k_asm); (case k1 => exact News.isList (by assumption) (by k_mem)); (case k2 => assumption); (case k3 => decide)); (first | (intro C9 b9 t9 s9 m9 E9 n9 e9 k9 F9 N9; (try dsimp only)) | (intro D9 ys9 n9 h9 tk9 F9 N9 ne9 B9; (replace ne9 := allNe_of ne9; simp only [AllNe, and_true] at ne9; (repeat (rcases ne9 with ⟨n8, ne9⟩))); (try dsimp only); (try k_sweep))))) | ((with_reducible show wpAny _ _ (eval (Expr.ListComp ..) _) _ _ _); ((with_reducible apply ListComp_B' (f := shortF)); (case hh => with_unfolding_all rfl); (case hclos => with_unfolding_all rfl); (case hcell => decide); (case hkind => with_unfolding_all rfl); (case hnames => decide); (case hx => with_unfolding_all rfl); (case hs => intro _; with_unfolding_all rfl))) | ((with_reducible show wpAny _ _ (call (Value.ref _) _) _ _ _); first | ((with_reducible show wpAny _ _ (call (Value.ref 69) [Value.bytes _ _]) _ _ _); refine' use_valK (con_short _ _ _) ?k1 ?k2 ?k3 ?k4 ?kh ?k5 ?k6 ?_; (case k3 => k_asm); (case k4 => k_asm); (case k1 => k_asm); (case k2 => k_asm); (case kh => exact rfl); (case k5 => first | (refine' dOk ?da ?db; (case da => assumption); (case db => exact rfl)) | exact Nat.le_of_ble_eq_true rfl | (simp only [depth_deeper, depth_in1]; (try dsimp only [AR]); omega)); (case k6 => first | (refine' uOk ?da ?db; (case da => assumption); (case db => exact rfl)) | exact Nat.le_of_ble_eq_true rfl | (simp only [units_deeper, units_in1]; (try dsimp only [AR]); omega)); intro t9 h9 tk9 F9 N9 k9; (try dsimp only); (try k_sweep))) | ((with_reducible show wpAny _ _ (call (Value.builtin "bytes.split") _) _ _ _); (k_dflt (refine' split_B rawTails ?k1 ?k2 ?k3 ?k4 ?k5 ?k6 ?_; (case k1 => k_asm); (case k2 => k_asm); (case k4 => decide +kernel); (case k3 => decide +kernel); (case k5 => decide +kernel); (case k6 => decide +kernel)); intro l9 vs9 h9 tk9 B9 F9 N9 ne9; (try k_lt ne9); (try dsimp only); (try k_sweep))) | ((with_reducible show wpAny _ _ (call (Value.builtin "bytes.split") _) _ _ _); (k_dflt (refine' split_B rawVowels ?k1 ?k2 ?k3 ?k4 ?k5 ?k6 ?_; (case k1 => k_asm); (case k2 => k_asm); (case k4 => decide +kernel); (case k3 => decide +kernel); (case k5 => decide +kernel); (case k6 => decide +kernel)); intro l9 vs9 h9 tk9 B9 F9 N9 ne9; (try k_lt ne9); (try dsimp only); (try k_sweep))) | ((with_reducible show wpAny _ _ (call (Value.builtin "bytes.split") _) _ _ _); (k_dflt (refine' split_B rawLeads ?k1 ?k2 ?k3 ?k4 ?k5 ?k6 ?_; (case k1 => k_asm); (case k2 => k_asm); (case k4 => decide +kernel); (case k3 => decide +kernel); (case k5 => decide +kernel); (case k6 => decide +kernel)); intro l9 vs9 h9 tk9 B9 F9 N9 ne9; (try k_lt ne9); (try dsimp only); (try k_sweep))) | ((with_reducible show wpAny _ _ (getMethod _ _ _) _ _ _); first | ((with_reducible show wpAny _ _ (getMethod (Value.bytes _ _) (PySem.Str.ofString "split") _) _ _ _); refine method_split ?_)) | ((with_reducible show wpAny _ _ (compareOp _ _ _) _ _ _); first | ((with_reducible show wpAny _ _ (compareOp CmpOp.NotEq (Value.bytes _ _) (Value.bytes _ _)) _ _ _); (k_dflt (refine ne_B ?_))) | ((with_reducible show wpAny _ _ (compareOp CmpOp.Eq (Value.bytes _ _) (Value.bytes _ _)) _ _ _); (k_dflt (refine eq_B ?_)))) | walk1) | fail "no step")
  all_goals ((try dsimp only); (try k_unfold); (try dsimp only); refine Wrap.mk (hret _ _ _ (fun b o e n => Fr.keep (by with_reducible assumption) b o (hgs b o e n)) ?_))
  all_goals (rename News _ _ _ _ => N1; rename BytesAre _ (List.map shortF rawLeads) => Bl; rename BytesAre _ (List.map shortF rawTails) => Bt; rename BytesAre _ rawVowels => Bv)
  rw [short_leads] at Bl
  rw [short_tails] at Bt
  have G : ∀ p ∈ (_ : List (Addr × Obj)), s.heap.get? p.1 = none := fun p hp => Gone.of hgs (N1 p hp).2.2 (fun h => nomatch h)
  exact ⟨_, _, _, _, _, _, _, _, _, _, rfl, (N1 _ (.head _)).1, (N1 _ (.tail _ (.tail _ (.head _)))).1, (N1 _ (.tail _ (.tail _ (.tail _ (.tail _ (.head _)))))).1, (N1 _ (.tail _ (.head _))).1, Bl, Bv, Bt,
    G _ (.head _), G _ (.tail _ (.tail _ (.head _))), G _ (.tail _ (.tail _ (.tail _ (.tail _ (.head _))))), G _ (.tail _ (.head _))⟩
-- C6
theorem con_leads (w : World) : Con w 90 [] 1 40 [] (fun h h' r => ∃ l vs n, r = .ref l ∧ h'.get? l = some (W.listOf (List.toArray vs) n) ∧ BytesAre vs leadsB ∧ h.get? l = none) := by
  unfold Con
  k_fill
  intro mean mg mb hT dp un fr gd s Q E TT KX st hl hd9 hu9 hret
  refine' enterC (K := hd.heap_39 _) (binds := []) ?kT ?kX ?kst ?kl ?kroom ?kho ?khcd ?kbind ?kloc ?_ ?kco ?kgen ?kk ?kcell
  (case kT => assumption)
  (case kX => assumption)
  (case kst => assumption)
  (case kl => assumption)
  (case kroom => (show dp < _; omega))
  (case kho => k_is)
  (case khcd => k_is)
  (case kbind => exact BindsTo.of_eq rfl)
  (case kloc => exact locs rfl)
  (case kco => exact rfl)
  (case kgen => exact rfl)
  (case kk => exact rfl)
  (case kcell => decide)
  intro g L' h₁ hgs hgn F' N' X' T'
  (try dsimp only)
  (try k_fold)
  repeat' (first | (k_unfold; (try dsimp only)) | walk1 | (dsimp only; walk1) | fail "no step")
  all_goals ((try dsimp only); (try k_unfold); (try dsimp only); refine Wrap.mk (hret _ _ _ (fun b o e n => Fr.keep (by with_reducible assumption) b o (hgs b o e n)) ?_))
  all_goals (rename News _ _ _ _ => N1; exact ⟨_, _, _, rfl, (N1 _ (.head _)).1, (by repeat constructor), Gone.of hgs (N1 _ (.head _)).2.2 (fun h => nomatch h)⟩)
theorem con_vowels (w : World) : Con w 97 [] 1 40 [] (fun h h' r => ∃ l vs n, r = .ref l ∧ h'.get? l = some (W.listOf (List.toArray vs) n) ∧ BytesAre vs vowelsB ∧ h.get? l = none) := by
  unfold Con
  k_fill
  intro mean mg mb hT dp un fr gd s Q E TT KX st hl hd9 hu9 hret
  refine' enterC (K := hd.heap_39 _) (binds := []) ?kT ?kX ?kst ?kl ?kroom ?kho ?khcd ?kbind ?kloc ?_ ?kco ?kgen ?kk ?kcell
  (case kT => assumption)
  (case kX => assumption)
  (case kst => assumption)
  (case kl => assumption)
  (case kroom => (show dp < _; omega))
  (case kho => k_is)
  (case khcd => k_is)
  (case kbind => exact BindsTo.of_eq rfl)
  (case kloc => exact locs rfl)
  (case kco => exact rfl)
  (case kgen => exact rfl)
  (case kk => exact rfl)
  (case kcell => decide)
  intro g L' h₁ hgs hgn F' N' X' T'
  (try dsimp only)
  (try k_fold)
  repeat' (first | (k_unfold; (try dsimp only)) | walk1 | (dsimp only; walk1) | fail "no step")
  all_goals ((try dsimp only); (try k_unfold); (try dsimp only); refine Wrap.mk (hret _ _ _ (fun b o e n => Fr.keep (by with_reducible assumption) b o (hgs b o e n)) ?_))
  all_goals (rename News _ _ _ _ => N1; exact ⟨_, _, _, rfl, (N1 _ (.head _)).1, (by repeat constructor), Gone.of hgs (N1 _ (.head _)).2.2 (fun h => nomatch h)⟩)
theorem con_tails (w : World) : Con w 104 [] 1 40 [] (fun h h' r => ∃ l vs n, r = .ref l ∧ h'.get? l = some (W.listOf (List.toArray vs) n) ∧ BytesAre vs tailsB ∧ h.get? l = none) := by
  unfold Con
  k_fill
  intro mean mg mb hT dp un fr gd s Q E TT KX st hl hd9 hu9 hret
  refine' enterC (K := hd.heap_39 _) (binds := []) ?kT ?kX ?kst ?kl ?kroom ?kho ?khcd ?kbind ?kloc ?_ ?kco ?kgen ?kk ?kcell
  (case kT => assumption)
  (case kX => assumption)
  (case kst => assumption)
  (case kl => assumption)
  (case kroom => (show dp < _; omega))
  (case kho => k_is)
  (case khcd => k_is)
  (case kbind => exact BindsTo.of_eq rfl)
  (case kloc => exact locs rfl)
  (case kco => exact rfl)
  (case kgen => exact rfl)
  (case kk => exact rfl)
  (case kcell => decide)
  intro g L' h₁ hgs hgn F' N' X' T'
  (try dsimp only)
  (try k_fold)
  repeat' (first | (k_unfold; (try dsimp only)) | walk1 | (dsimp only; walk1) | fail "no step")
  all_goals ((try dsimp only); (try k_unfold); (try dsimp only); refine Wrap.mk (hret _ _ _ (fun b o e n => Fr.keep (by with_reducible assumption) b o (hgs b o e n)) ?_))
  all_goals (rename News _ _ _ _ => N1; exact ⟨_, _, _, rfl, (N1 _ (.head _)).1, (by repeat constructor), Gone.of hgs (N1 _ (.head _)).2.2 (fun h => nomatch h)⟩)
-- U2
section
variable {w : World} {f : Addr} {vs : List Value} {D U : Nat} {A : Around} {s : Shared} {Q E : Value → Shared → Prop} {h₀ : Heap} {L : Addr} {m : Str → Option Value} {news : List (Addr × Obj)} {mean : ExcName → Option Value} {mg mb : Str → Option Value}
theorem news_add {h h' : Heap} {a : Addr} {o : Obj} (F : Fr h₀ L h m) (k : ∀ b o, h.get? b = some o → h'.get? b = some o) (N' : News h₀ L h' news) (e1 : h.get? a = none) (e2 : h'.get? a = some o) : News h₀ L h' ((a, o) :: news) := fun p hp => by
  rcases List.mem_cons.mp hp with rfl | hp
  · refine ⟨e2, fun e => ?_, ?_⟩
    · obtain ⟨o, _, _, ho, _⟩ := F.ns
      rw [← e] at ho; dsimp only at ho; rw [e1] at ho; cases ho
    · cases q : h₀.get? a with
      | none => rfl
      | some o => rw [F.keep a o q] at e1; cases e1
  · exact N' p hp
theorem news_ne {h : Heap} {a : Addr} (N : News h₀ L h news) (e1 : h.get? a = none) : ∀ p ∈ news, p.1 ≠ a := fun p hp e => by
  have := (N p hp).1
  rw [e, e1] at this; cases this
theorem use_list {bs : List (List UInt8)} (C : Con w f vs D U [] (fun h h' r => ∃ l xs n, r = .ref l ∧ h'.get? l = some (W.listOf (List.toArray xs) n) ∧ BytesAre xs bs ∧ h.get? l = none))
    (T : Top hd.view_39 looseN mean mg mb h₀) (X : (hd.heap_39 w.params).In h₀) (F : Fr h₀ L s.heap m) (N : News h₀ L s.heap news)
    (hh : A.handled = none) (hd : A.depth + D < recursionLimit) (hu : A.units + U < cLine)
    (h : ∀ l xs n h' tk', Fr h₀ L h' m → News h₀ L h' ((l, W.listOf (List.toArray xs) n) :: news) → (∀ p ∈ news, p.1 ≠ l) → BytesAre xs bs → Q (.ref l) { s with heap := h', toks := tk' }) :
    wpAny (model PySem.Challenge.rw_nt0004_01.row.prog w) A (call (.ref f) vs) Q E s := by
  refine use_con C T X F N hh hd hu (fun r h' tk' F' N' k P => ?_)
  obtain ⟨l, xs, n, rfl, e1, e2, e3⟩ := P
  exact h l xs n h' tk' F' (news_add F k N' e3 e1) (news_ne N e3) e2
theorem use_names (C : Con w f vs D U [] (fun h h' r => ∃ a l1 l2 l3 vs1 vs2 vs3 n1 n2 n3, r = .ref a ∧ h'.get? a = some (tupOf [.ref l1, .ref l2, .ref l3]) ∧ h'.get? l1 = some (W.listOf (List.toArray vs1) n1) ∧ h'.get? l2 = some (W.listOf (List.toArray vs2) n2) ∧ h'.get? l3 = some (W.listOf (List.toArray vs3) n3) ∧
    BytesAre vs1 leadsB ∧ BytesAre vs2 vowelsB ∧ BytesAre vs3 tailsB ∧ h.get? a = none ∧ h.get? l1 = none ∧ h.get? l2 = none ∧ h.get? l3 = none))
    (T : Top hd.view_39 looseN mean mg mb h₀) (X : (hd.heap_39 w.params).In h₀) (F : Fr h₀ L s.heap m) (N : News h₀ L s.heap news)
    (hh : A.handled = none) (hd : A.depth + D < recursionLimit) (hu : A.units + U < cLine)
    (h : ∀ a l1 l2 l3 vs1 vs2 vs3 n1 n2 n3 h' tk', Fr h₀ L h' m → News h₀ L h' ((a, tupOf [.ref l1, .ref l2, .ref l3]) :: (l1, W.listOf (List.toArray vs1) n1) :: (l2, W.listOf (List.toArray vs2) n2) :: (l3, W.listOf (List.toArray vs3) n3) :: news) →
      BytesAre vs1 leadsB → BytesAre vs2 vowelsB → BytesAre vs3 tailsB → Q (.ref a) { s with heap := h', toks := tk' }) :
    wpAny (model PySem.Challenge.rw_nt0004_01.row.prog w) A (call (.ref f) vs) Q E s := by
  refine use_con C T X F N hh hd hu (fun r h' tk' F' N' k P => ?_)
  obtain ⟨a, l1, l2, l3, vs1, vs2, vs3, n1, n2, n3, rfl, e1, e2, e3, e4, b1, b2, b3, g1, g2, g3, g4⟩ := P
  exact h a l1 l2 l3 vs1 vs2 vs3 n1 n2 n3 h' tk' F' (news_add F k (news_add F k (news_add F k (news_add F k N' g4 e4) g3 e3) g2 e2) g1 e1) b1 b2 b3
end
section
variable {prog : Program} {w : World} {A : Around} {E : Value → Shared → Prop} {s : Shared}
theorem getD_len {bs : List (List UInt8)} {N : Nat} (h : bs.all (fun b => decide (b.length ≤ N)) = true) (i : Nat) : (bs.getD i []).length ≤ N := by
  rw [List.getD_eq_getElem?_getD]
  cases q : bs[i]? with
  | none => exact Nat.zero_le _
  | some b => exact of_decide_eq_true (List.all_eq_true.mp h b (List.mem_of_getElem? q))
theorem itemL_B {value slice : PySem.Expr} {l : Addr} {vs : List Value} {bs : List (List UInt8)} {k : Int} {u : Tok} {Q : Value → Shared → Prop}
    (hl : s.heap.IsList l vs.toArray) (hb : BytesAre vs bs) (h0 : 0 ≤ k) (h1 : k < bs.length) (hz : bs.length < 1000) (hN : bs.all (fun b => decide (b.length ≤ 3)) = true) (h : ∀ t, (bs.getD k.toNat []).length ≤ 3 → Q (.bytes (bs.getD k.toNat []).toArray t) s)
    (hs : subscripted slice false (.ref l) (.int k u) = operate [.ref l, .int k u] (getItem (.ref l) (.int k u)) := by with_unfolding_all rfl) :
    wpAny (model prog w) A (subscriptTail value slice (.ref l) (.int k u)) Q E s :=
  item_gen hl h0 (by rw [hb.length]; exact h1) (by rw [hb.length]; omega) (fun v e => by
    obtain ⟨t, rfl⟩ := hb.get _ _ e
    exact h t (getD_len hN _)) hs
end
-- C7
def pageB (l v t : Int) : List UInt8 := leadsB.getD l.toNat [] ++ vowelsB.getD v.toNat [] ++ tailsB.getD t.toNat []
theorem con_ntail_none (w : World) (code : Int) (t : Tok) (hc : ¬ (44032 ≤ code ∧ code < 55204)) : Con w 76 [.int code t] 6 200 [] (PV fun _ => .none) := by
  unfold Con
  k_fill
  intro mean mg mb hT dp un fr gd s Q E TT KX st hl hd9 hu9 hret
  refine' enterC (K := hd.heap_39 _) (binds := [(Str.ofString "code", .int code t)]) ?kT ?kX ?kst ?kl ?kroom ?kho ?khcd ?kbind ?kloc ?_ ?kco ?kgen ?kk ?kcell
  (case kT => assumption)
  (case kX => assumption)
  (case kst => assumption)
  (case kl => assumption)
  (case kroom => (show dp < _; omega))
  (case kho => k_is)
  (case khcd => k_is)
  (case kbind => exact BindsTo.of_eq rfl)
  (case kloc => exact locs rfl)
  (case kco => exact rfl)
  (case kgen => exact rfl)
  (case kk => exact rfl)
  (case kcell => decide)
  intro g L' h₁ hgs hgn F' N' X' T'
  (try dsimp only)
  (try k_fold)
  repeat' (first | (k_unfold; (try dsimp only)) | ((with_reducible show wpAny _ _ (binaryOp _ _ _) _ _ _); first | ((with_reducible show wpAny _ _ (binaryOp _ (Value.bytes _ _) (Value.bytes _ _)) _ _ _); (k_dflt (refine' add_B ?k1 ?_; (case k1 => ((try simp only [List.length_append, List.length_take, List.length_drop]); omega))); intro t9 k9))) | ((with_reducible show wpAny _ _ (subscriptTail _ _ _ _) _ _ _); first | ((with_reducible show wpAny _ _ (subscriptTail _ _ (Value.ref _) (Value.int _ _)) _ _ _); k_dflt (refine' itemL_B ?k1 ?k2 ?k3 ?k4 ?k5 ?k7 ?_ ?k6; (case k1 => exact News.isList (by assumption) (by k_mem)); (case k2 => assumption); (case k3 => omega); (case k4 => (simp only [List.length_cons, List.length_nil]; omega)); (case k5 => decide); (case k7 => decide); (case k6 => with_unfolding_all rfl)); intro t9 z9)) | ((with_reducible show wpAny _ _ (call (Value.ref _) _) _ _ _); first | ((with_reducible show wpAny _ _ (call (Value.ref 62) _) _ _ _); refine' use_names (con_names _) ?k1 ?k2 ?k3 ?k4 ?kh ?k5 ?k6 ?_; (case k3 => k_asm); (case k4 => k_asm); (case k1 => k_asm); (case k2 => k_asm); (case kh => exact rfl); (case k5 => first | (refine' dOk ?da ?db; (case da => assumption); (case db => exact rfl)) | exact Nat.le_of_ble_eq_true rfl | (simp only [depth_deeper, depth_in1]; (try dsimp only [AR]); omega)); (case k6 => first | (refine' uOk ?da ?db; (case da => assumption); (case db => exact rfl)) | exact Nat.le_of_ble_eq_true rfl | (simp only [units_deeper, units_in1]; (try dsimp only [AR]); omega)); intro a9 l9 l8 l7 x9 x8 x7 n9 n8 n7 h9 tk9 F9 N9 B9 B8 B7; (try dsimp only); (try k_sweep)) | ((with_reducible show wpAny _ _ (call (Value.ref 21) [Value.int _ _]) _ _ _); refine' use_val (con_is _ _ _) ?k1 ?k2 ?k3 ?k4 ?kh ?k5 ?k6 ?_; (case k3 => k_asm); (case k4 => k_asm); (case k1 => k_asm); (case k2 => k_asm); (case kh => exact rfl); (case k5 => first | (refine' dOk ?da ?db; (case da => assumption); (case db => exact rfl)) | exact Nat.le_of_ble_eq_true rfl | (simp only [depth_deeper, depth_in1]; (try dsimp only [AR]); omega)); (case k6 => first | (refine' uOk ?da ?db; (case da => assumption); (case db => exact rfl)) | exact Nat.le_of_ble_eq_true rfl | (simp only [units_deeper, units_in1]; (try dsimp only [AR]); omega)); intro t9 h9 tk9 F9 N9; (try dsimp only); (try k_sweep))) | walk1 | (dsimp only; first | ((with_reducible show wpAny _ _ (binaryOp _ _ _) _ _ _); first | ((with_reducible show wpAny _ _ (binaryOp _ (Value.bytes _ _) (Value.bytes _ _)) _ _ _); (k_dflt (refine' add_B ?k1 ?_; (case k1 => ((try simp only [List.length_append, List.length_take, List.length_drop]); omega))); intro t9 k9))) | ((with_reducible show wpAny _ _ (subscriptTail _ _ _ _) _ _ _); first | ((with_reducible show wpAny _ _ (subscriptTail _ _ (Value.ref _) (Value.int _ _)) _ _ _); k_dflt (refine' itemL_B ?k1 ?k2 ?k3 ?k4 ?k5 ?k7 ?_ ?k6; (case k1 => exact News.isList (by assumption) (by k_mem)); (case k2 => assumption); (case k3 => omega); (case k4 => (simp only [List.length_cons, List.length_nil]; omega)); (case k5 => decide); (case k7 => decide); (case k6 => with_unfolding_all rfl)); intro t9 z9)) | ((with_reducible show wpAny _ _ (call (Value.ref _) _) _ _ _); first | ((with_reducible show wpAny _ _ (call (Value.ref 62) _) _ _ _); refine' use_names (con_names _) ?k1 ?k2 ?k3 ?k4 ?kh ?k5 ?k6 ?_; (case k3 => k_asm); (case k4 => k_asm); (case k1 => k_asm); (case k2 => k_asm); (case kh => exact rfl); (case k5 => first | (refine' dOk ?da ?db; (case da => assumption); (case db => exact rfl)) | exact Nat.le_of_ble_eq_true rfl | (simp only [depth_deeper, depth_in1]; (try dsimp only [AR]); omega)); (case k6 => first | (refine' uOk ?da ?db; (case da => assumption); (case db => exact rfl)) | exact Nat.le_of_ble_eq_true rfl | (simp only [units_deeper, units_in1]; (try dsimp only [AR]); omega)); intro a9 l9 l8 l7 x9 x8 x7 n9 n8 n7 h9 tk9 F9 N9 B9 B8 B7; (try dsimp only); (try k_sweep)) | ((with_reducible show wpAny _ _ (call (Value.ref 21) [Value.int _ _]) _ _ _); refine' use_val (con_is _ _ _) ?k1 ?k2 ?k3 ?k4 ?kh ?k5 ?k6 ?_; (case k3 => k_asm); (case k4 => k_asm); (case k1 => k_asm); (case k2 => k_asm); (case kh => exact rfl); (case k5 => first | (refine' dOk ?da ?db; (case da => assumption); (case db => exact rfl)) | exact Nat.le_of_ble_eq_true rfl | (simp only [depth_deeper, depth_in1]; (try dsimp only [AR]); omega)); (case k6 => first | (refine' uOk ?da ?db; (case da => assumption); (case db => exact rfl)) | exact Nat.le_of_ble_eq_true rfl | (simp only [units_deeper, units_in1]; (try dsimp only [AR]); omega)); intro t9 h9 tk9 F9 N9; (try dsimp only); (try k_sweep))) | walk1) | fail "no step")
  all_goals ((try dsimp only); (try k_unfold); (try dsimp only); refine Wrap.mk (hret _ _ _ (fun b o e n => Fr.keep (by with_reducible assumption) b o (hgs b o e n)) ?_))
  all_goals exact ⟨(0 : Nat), rfl⟩
theorem con_ntail (w : World) {l v t : Int} (tk : Tok) (hl : 0 ≤ l ∧ l < 19) (hv : 0 ≤ v ∧ v < 21) (ht : 0 ≤ t ∧ t < 28) : Con w 76 [.int (44032 + (l * 21 + v) * 28 + t) tk] 6 200 [] (PV fun u => .bytes (pageB l v t).toArray u) := by
  unfold Con
  k_fill
  intro mean mg mb hT dp un fr gd s Q E TT KX st hl hd9 hu9 hret
  refine' enterC (K := hd.heap_39 _) (binds := [(Str.ofString "code", .int (44032 + (l * 21 + v) * 28 + t) tk)]) ?kT ?kX ?kst ?kl ?kroom ?kho ?khcd ?kbind ?kloc ?_ ?kco ?kgen ?kk ?kcell
  (case kT => assumption)
  (case kX => assumption)
  (case kst => assumption)
  (case kl => assumption)
  (case kroom => (show dp < _; omega))
  (case kho => k_is)
  (case khcd => k_is)
  (case kbind => exact BindsTo.of_eq rfl)
  (case kloc => exact locs rfl)
  (case kco => exact rfl)
  (case kgen => exact rfl)
  (case kk => exact rfl)
  (case kcell => decide)
  intro g L' h₁ hgs hgn F' N' X' T'
  (try dsimp only)
  (try k_fold)
  repeat' (first | (k_unfold; (try dsimp only)) | ((with_reducible show wpAny _ _ (call (Value.ref _) _) _ _ _); first | ((with_reducible show wpAny _ _ (call (Value.ref 28) [Value.int _ _]) _ _ _); refine' use_tup3 (con_numbers_at _ _ ?hl ?hv ?ht) ?k1 ?k2 ?k3 ?k4 ?kh ?k5 ?k6 ?_; (case hl => omega); (case hv => omega); (case ht => omega); (case k3 => k_asm); (case k4 => k_asm); (case k1 => k_asm); (case k2 => k_asm); (case kh => exact rfl); (case k5 => first | (refine' dOk ?da ?db; (case da => assumption); (case db => exact rfl)) | exact Nat.le_of_ble_eq_true rfl | (simp only [depth_deeper, depth_in1]; (try dsimp only [AR]); omega)); (case k6 => first | (refine' uOk ?da ?db; (case da => assumption); (case db => exact rfl)) | exact Nat.le_of_ble_eq_true rfl | (simp only [units_deeper, units_in1]; (try dsimp only [AR]); omega)); intros; (try dsimp only); (try k_sweep)) | ((with_reducible show wpAny _ _ (call (Value.ref 62) _) _ _ _); refine' use_names (con_names _) ?k1 ?k2 ?k3 ?k4 ?kh ?k5 ?k6 ?_; (case k3 => k_asm); (case k4 => k_asm); (case k1 => k_asm); (case k2 => k_asm); (case kh => exact rfl); (case k5 => first | (refine' dOk ?da ?db; (case da => assumption); (case db => exact rfl)) | exact Nat.le_of_ble_eq_true rfl | (simp only [depth_deeper, depth_in1]; (try dsimp only [AR]); omega)); (case k6 => first | (refine' uOk ?da ?db; (case da => assumption); (case db => exact rfl)) | exact Nat.le_of_ble_eq_true rfl | (simp only [units_deeper, units_in1]; (try dsimp only [AR]); omega)); intro a9 l9 l8 l7 x9 x8 x7 n9 n8 n7 h9 tk9 F9 N9 B9 B8 B7; (try dsimp only); (try k_sweep)) | ((with_reducible show wpAny _ _ (call (Value.ref 21) [Value.int _ _]) _ _ _); refine' use_val (con_is _ _ _) ?k1 ?k2 ?k3 ?k4 ?kh ?k5 ?k6 ?_; (case k3 => k_asm); (case k4 => k_asm); (case k1 => k_asm); (case k2 => k_asm); (case kh => exact rfl); (case k5 => first | (refine' dOk ?da ?db; (case da => assumption); (case db => exact rfl)) | exact Nat.le_of_ble_eq_true rfl | (simp only [depth_deeper, depth_in1]; (try dsimp only [AR]); omega)); (case k6 => first | (refine' uOk ?da ?db; (case da => assumption); (case db => exact rfl)) | exact Nat.le_of_ble_eq_true rfl | (simp only [units_deeper, units_in1]; (try dsimp only [AR]); omega)); intro t9 h9 tk9 F9 N9; (try dsimp only); (try k_sweep))) | ((with_reducible show wpAny _ _ (binaryOp _ _ _) _ _ _); first | ((with_reducible show wpAny _ _ (binaryOp _ (Value.bytes _ _) (Value.bytes _ _)) _ _ _); (k_dflt (refine' add_B ?k1 ?_; (case k1 => ((try simp only [List.length_append, List.length_take, List.length_drop]); omega))); intro t9 k9))) | ((with_reducible show wpAny _ _ (subscriptTail _ _ _ _) _ _ _); first | ((with_reducible show wpAny _ _ (subscriptTail _ _ (Value.ref _) (Value.int _ _)) _ _ _); k_dflt (refine' itemL_B ?k1 ?k2 ?k3 ?k4 ?k5 ?k7 ?_ ?k6; (case k1 => exact News.isList (by assumption) (by k_mem)); (case k2 => assumption); (case k3 => omega); (case k4 => (simp only [List.length_cons, List.length_nil]; omega)); (case k5 => decide); (case k7 => decide); (case k6 => with_unfolding_all rfl)); intro t9 z9)) | walk1 | (dsimp only; first | ((with_reducible show wpAny _ _ (call (Value.ref _) _) _ _ _); first | ((with_reducible show wpAny _ _ (call (Value.ref 28) [Value.int _ _]) _ _ _); refine' use_tup3 (con_numbers_at _ _ ?hl ?hv ?ht) ?k1 ?k2 ?k3 ?k4 ?kh ?k5 ?k6 ?_; (case hl => omega); (case hv => omega); (case ht => omega); (case k3 => k_asm); (case k4 => k_asm); (case k1 => k_asm); (case k2 => k_asm); (case kh => exact rfl); (case k5 => first | (refine' dOk ?da ?db; (case da => assumption); (case db => exact rfl)) | exact Nat.le_of_ble_eq_true rfl | (simp only [depth_deeper, depth_in1]; (try dsimp only [AR]); omega)); (case k6 => first | (refine' uOk ?da ?db; (case da => assumption); (case db => exact rfl)) | exact Nat.le_of_ble_eq_true rfl | (simp only [units_deeper, units_in1]; (try dsimp only [AR]); omega)); intros; (try dsimp only); (try k_sweep)) | ((with_reducible show wpAny _ _ (call (Value.ref 62) _) _ _ _); refine' use_names (con_names _) ?k1 ?k2 ?k3 ?k4 ?kh ?k5 ?k6 ?_; (case k3 => k_asm); (case k4 => k_asm); (case k1 => k_asm); (case k2 => k_asm); (case kh => exact rfl); (case k5 => first | (refine' dOk ?da ?db; (case da => assumption); (case db => exact rfl)) | exact Nat.le_of_ble_eq_true rfl | (simp only [depth_deeper, depth_in1]; (try dsimp only [AR]); omega)); (case k6 => first | (refine' uOk ?da ?db; (case da => assumption); (case db => exact rfl)) | exact Nat.le_of_ble_eq_true rfl | (simp only [units_deeper, units_in1]; (try dsimp only [AR]); omega)); intro a9 l9 l8 l7 x9 x8 x7 n9 n8 n7 h9 tk9 F9 N9 B9 B8 B7; (try dsimp only); (try k_sweep)) | ((with_reducible show wpAny _ _ (call (Value.ref 21) [Value.int _ _]) _ _ _); refine' use_val (con_is _ _ _) ?k1 ?k2 ?k3 ?k4 ?kh ?k5 ?k6 ?_; (case k3 => k_asm); (case k4 => k_asm); (case k1 => k_asm); (case k2 => k_asm); (case kh => exact rfl); (case k5 => first | (refine' dOk ?da ?db; (case da => assumption); (case db => exact rfl)) | exact Nat.le_of_ble_eq_true rfl | (simp only [depth_deeper, depth_in1]; (try dsimp only [AR]); omega)); (case k6 => first | (refine' uOk ?da ?db; (case da => assumption); (case db => exact rfl)) | exact Nat.le_of_ble_eq_true rfl | (simp only [units_deeper, units_in1]; (try dsimp only [AR]); omega)); intro t9 h9 tk9 F9 N9; (try dsimp only); (try k_sweep))) | ((with_reducible show wpAny _ _ (binaryOp _ _ _) _ _ _); first | ((with_reducible show wpAny _ _ (binaryOp _ (Value.bytes _ _) (Value.bytes _ _)) _ _ _); (k_dflt (refine' add_B ?k1 ?_; (case k1 => ((try simp only [List.length_append, List.length_take, List.length_drop]); omega))); intro t9 k9))) | ((with_reducible show wpAny _ _ (subscriptTail _ _ _ _) _ _ _); first | ((with_reducible show wpAny _ _ (subscriptTail _ _ (Value.ref _) (Value.int _ _)) _ _ _); k_dflt (refine' itemL_B ?k1 ?k2 ?k3 ?k4 ?k5 ?k7 ?_ ?k6; (case k1 => exact News.isList (by assumption) (by k_mem)); (case k2 => assumption); (case k3 => omega); (case k4 => (simp only [List.length_cons, List.length_nil]; omega)); (case k5 => decide); (case k7 => decide); (case k6 => with_unfolding_all rfl)); intro t9 z9)) | walk1) | fail "no step")
  all_goals ((try dsimp only); (try k_unfold); (try dsimp only); refine Wrap.mk (hret _ _ _ (fun b o e n => Fr.keep (by with_reducible assumption) b o (hgs b o e n)) ?_))
  all_goals exact ⟨_, rfl⟩
-- C8
def codeF (x : List UInt8) : Option Int :=
  let i := (x.takeWhile (fun c => !isV c)).length
  let e := i + ((x.drop i).takeWhile isV).length
  if leadsB.contains (x.take i) = true ∧ vowelsB.contains ((x.drop i).take (e - i)) = true ∧ tailsB.contains (x.drop e) = true then
    some (44032 + (((leadsB.idxOf (x.take i) : Nat) : Int) * 21 + ((vowelsB.idxOf ((x.drop i).take (e - i)) : Nat) : Int)) * 28 + ((tailsB.idxOf (x.drop e) : Nat) : Int)) else none
theorem codeF_some {x : List UInt8} {i e : Nat} (hi : i = 0 + ((x.drop 0).takeWhile (fun c => !isV c)).length) (he : e = i + ((x.drop i).takeWhile isV).length)
    (h1 : leadsB.contains (x.take (i : Int).toNat) = true) (h2 : vowelsB.contains ((x.drop (i : Int).toNat).take ((e : Int).toNat - (i : Int).toNat)) = true) (h3 : tailsB.contains (x.drop (e : Int).toNat) = true) :
    codeF x = some (44032 + (((leadsB.idxOf (x.take (i : Int).toNat) : Nat) : Int) * 21 + ((vowelsB.idxOf ((x.drop (i : Int).toNat).take ((e : Int).toNat - (i : Int).toNat)) : Nat) : Int)) * 28 + ((tailsB.idxOf (x.drop (e : Int).toNat) : Nat) : Int)) := by
  simp only [Int.toNat_natCast] at h1 h2 h3 ⊢
  have hi' : (x.takeWhile (fun c => !isV c)).length = i := by rw [hi, Nat.zero_add, List.drop_zero]
  unfold codeF
  dsimp only
  rw [hi', ← he]
  exact if_pos ⟨h1, h2, h3⟩
theorem codeF_none {x : List UInt8} {i e : Nat} (hi : i = 0 + ((x.drop 0).takeWhile (fun c => !isV c)).length) (he : e = i + ((x.drop i).takeWhile isV).length)
    (h : leadsB.contains (x.take (i : Int).toNat) = false ∨ vowelsB.contains ((x.drop (i : Int).toNat).take ((e : Int).toNat - (i : Int).toNat)) = false ∨ tailsB.contains (x.drop (e : Int).toNat) = false) :
    codeF x = none := by
  simp only [Int.toNat_natCast] at h
  have hi' : (x.takeWhile (fun c => !isV c)).length = i := by rw [hi, Nat.zero_add, List.drop_zero]
  unfold codeF
  dsimp only
  rw [hi', ← he]
  refine if_neg (fun ⟨a, b, c⟩ => ?_)
  rcases h with h | h | h
  · rw [a] at h; cases h
  · rw [b] at h; cases h
  · rw [c] at h; cases h
set_option maxHeartbeats 1000000 in
theorem con_codeof (w : World) (x : List UInt8) (tk : Tok) (hx : x.length ≤ 1000) : Con w 83 [.bytes x.toArray tk] 6 200 [] (PV (optI (codeF x))) := by
  unfold Con
  k_fill
  intro mean mg mb hT dp un fr gd s Q E TT KX st hl hd9 hu9 hret
  refine' enterC (K := hd.heap_39 _) (binds := [(Str.ofString "octets", .bytes x.toArray tk)]) ?kT ?kX ?kst ?kl ?kroom ?kho ?khcd ?kbind ?kloc ?_ ?kco ?kgen ?kk ?kcell
  (case kT => assumption)
  (case kX => assumption)
  (case kst => assumption)
  (case kl => assumption)
  (case kroom => (show dp < _; omega))
  (case kho => k_is)
  (case khcd => k_is)
  (case kbind => exact BindsTo.of_eq rfl)
  (case kloc => exact locs rfl)
  (case kco => exact rfl)
  (case kgen => exact rfl)
  (case kk => exact rfl)
  (case kcell => decide)
  intro g L' h₁ hgs hgn F' N' X' T'
  (try dsimp only)
  (try k_fold)
  repeat' (first | (k_unfold; (try dsimp only)) | ((with_reducible show wpAny _ _ (call (Value.builtin "list.index") _) _ _ _); (k_dflt (refine' index_B ?k1 ?k2 ?k3 ?k4 ?_; (case k1 => exact News.get (by assumption) (by k_mem)); (case k2 => assumption); (case k3 => assumption); (case k4 => decide)))) | ((with_reducible show wpAny _ _ (getMethod _ _ _) _ _ _); first | ((with_reducible show wpAny _ _ (getMethod (Value.ref _) (PySem.Str.ofString "index") _) _ _ _); k_dflt (refine' kl_method ?N ?m PySem.F.slot_list_index PySem.F.type_list_index ?_; (case N => k_asm); (case m => k_mem)))) | ((with_reducible show wpAny _ _ (compareOp _ _ _) _ _ _); first | ((with_reducible show wpAny _ _ (compareOp CmpOp.In (Value.bytes _ _) (Value.ref _)) _ _ _); (k_dflt (refine' in_B ?k1 ?k2 ?_; (case k1 => exact News.isList (by assumption) (by k_mem)); (case k2 => assumption)))) | ((with_reducible show wpAny _ _ (compareOp CmpOp.NotIn (Value.bytes _ _) (Value.ref _)) _ _ _); (k_dflt (refine' notIn_B ?k1 ?k2 ?_; (case k1 => exact News.isList (by assumption) (by k_mem)); (case k2 => assumption)))) | ((with_reducible show wpAny _ _ (compareOp CmpOp.In (Value.int _ _) (Value.bytes _ _)) _ _ _); (k_dflt (refine byte_in_B (x := VOW) ?_))) | ((with_reducible show wpAny _ _ (compareOp CmpOp.NotIn (Value.int _ _) (Value.bytes _ _)) _ _ _); (k_dflt (refine byte_notIn_B (x := VOW) ?_)))) | ((with_reducible show wpAny _ _ (subscriptTail _ _ _ _) _ _ _); first | ((with_reducible show wpAny _ _ (subscriptTail _ (Expr.Slice _ _ none _) (Value.bytes (List.toArray _) _) (Value.ref _)) _ _ _); (with_reducible rename Fr _ _ _ _ => F'); (with_reducible rename News _ _ _ _ => N'); k_dflt (first | refine slice_B (s := ⟨_, _, _, _, _⟩) F' N' (by constructor) (by constructor) (by omega) (sl_to (by omega)) ?_ | refine slice_B (s := ⟨_, _, _, _, _⟩) F' N' (by constructor) (by constructor) (by omega) (sl_mid (by omega) (by omega)) ?_ | refine slice_B (s := ⟨_, _, _, _, _⟩) F' N' (by constructor) (by constructor) (by omega) (sl_from (by omega)) ?_); intro h9 t9 k9 F9 N9; (try dsimp only); (try k_sweep)) | ((with_reducible show wpAny _ _ (subscriptTail _ _ (Value.bytes (List.toArray _) _) (Value.int _ _)) _ _ _); k_dflt (refine' item_B ?k1 ?k2 ?k3 ?_ ?k4 ?k5; (case k1 => omega); (case k2 => omega); (case k3 => omega); (case k4 => with_unfolding_all rfl); (case k5 => intro _; with_unfolding_all rfl)))) | ((with_reducible show wpAny _ _ (call (Value.builtin "len") _) _ _ _); ((with_reducible show wpAny _ _ (call (Value.builtin _) [Value.bytes (List.toArray _) _]) _ _ _); (refine len_B (by omega) ?_))) | ((with_reducible show StepB ..); (k_dflt (refine' ⟨rfl, _, _, _, rfl, ?a, ?b, ?c, ?d⟩; (case a => exact step_fr (by assumption)); (case b => assumption); (case c => omega); (case d => first | assumption | exact nv_true (by assumption))))) | ((with_reducible show EndB ..); (refine ⟨_, _, _, rfl, by assumption, by assumption, ?_⟩; first | exact .inl (by omega) | exact .inr (by assumption) | exact .inr (nv_false (by assumption)))) | ((with_reducible show wpAny _ _ (exec (Stmt.While ..) _) _ _ _); first | ((with_reducible show wpAny _ _ (exec (Stmt.While (Expr.BoolOp _ (Expr.Compare (Expr.Name (PySem.Str.ofString "ended") _) _ _ _ :: _) _) _ _ _) _) _ _ _); k_dflt (refine' while_B' (PySem.Str.ofString "ended") isV ?k1 ?k2 ?kx ?k3 ?k4 ?_ ?_ ?k5; (case k1 => k_asm); (case k2 => k_asm); (case kx => exact rfl); (case k3 => exact rfl); (case k4 => assumption); (case k5 => exact fun _ _ h => h)); (intros; (try dsimp only); (try k_fold); (try k_sweep))) | ((with_reducible show wpAny _ _ (exec (Stmt.While (Expr.BoolOp _ (Expr.Compare (Expr.Name (PySem.Str.ofString "begun") _) _ _ _ :: _) _) _ _ _) _) _ _ _); k_dflt (refine' while_B' (PySem.Str.ofString "begun") (fun c => !isV c) (i0 := 0) ?k1 ?k2 ?kx ?k3 ?k4 ?_ ?_ ?k5; (case k1 => k_asm); (case k2 => k_asm); (case kx => exact rfl); (case k3 => exact rfl); (case k4 => exact Nat.zero_le _); (case k5 => exact fun _ _ h => h)); (intros; (try dsimp only); (try k_fold); (try k_sweep)))) | ((with_reducible show wpAny _ _ (call (Value.ref _) _) _ _ _); first | ((with_reducible show wpAny _ _ (call (Value.ref 62) _) _ _ _); refine' use_names (con_names _) ?k1 ?k2 ?k3 ?k4 ?kh ?k5 ?k6 ?_; (case k3 => k_asm); (case k4 => k_asm); (case k1 => k_asm); (case k2 => k_asm); (case kh => exact rfl); (case k5 => first | (refine' dOk ?da ?db; (case da => assumption); (case db => exact rfl)) | exact Nat.le_of_ble_eq_true rfl | (simp only [depth_deeper, depth_in1]; (try dsimp only [AR]); omega)); (case k6 => first | (refine' uOk ?da ?db; (case da => assumption); (case db => exact rfl)) | exact Nat.le_of_ble_eq_true rfl | (simp only [units_deeper, units_in1]; (try dsimp only [AR]); omega)); intro a9 l9 l8 l7 x9 x8 x7 n9 n8 n7 h9 tk9 F9 N9 B9 B8 B7; (try dsimp only); (try k_sweep))) | walk1 | (dsimp only; first | ((with_reducible show wpAny _ _ (call (Value.builtin "list.index") _) _ _ _); (k_dflt (refine' index_B ?k1 ?k2 ?k3 ?k4 ?_; (case k1 => exact News.get (by assumption) (by k_mem)); (case k2 => assumption); (case k3 => assumption); (case k4 => decide)))) | ((with_reducible show wpAny _ _ (getMethod _ _ _) _ _ _); first | ((with_reducible show wpAny _ _ (getMethod (Value.ref _) (PySem.Str.ofString "index") _) _ _ _); k_dflt (refine' kl_method ?N ?m PySem.F.slot_list_index PySem.F.type_list_index ?_; (case N => k_asm); (case m => k_mem)))) | ((with_reducible show wpAny _ _ (compareOp _ _ _) _ _ _); first | ((with_reducible show wpAny _ _ (compareOp CmpOp.In (Value.bytes _ _) (Value.ref _)) _ _ _); (k_dflt (refine' in_B ?k1 ?k2 ?_; (case k1 => exact News.isList (by assumption) (by k_mem)); (case k2 => assumption)))) | ((with_reducible show wpAny _ _ (compareOp CmpOp.NotIn (Value.bytes _ _) (Value.ref _)) _ _ _); (k_dflt (refine' notIn_B ?k1 ?k2 ?_; (case k1 => exact News.isList (by assumption) (by k_mem)); (case k2 => assumption)))) | ((with_reducible show wpAny _ _ (compareOp CmpOp.In (Value.int _ _) (Value.bytes _ _)) _ _ _); (k_dflt (refine byte_in_B (x := VOW) ?_))) | ((with_reducible show wpAny _ _ (compareOp CmpOp.NotIn (Value.int _ _) (Value.bytes _ _)) _ _ _); (k_dflt (refine byte_notIn_B (x := VOW) ?_)))) | ((with_reducible show wpAny _ _ (subscriptTail _ _ _ _) _ _ _); first | ((with_reducible show wpAny _ _ (subscriptTail _ (Expr.Slice _ _ none _) (Value.bytes (List.toArray _) _) (Value.ref _)) _ _ _); (with_reducible rename Fr _ _ _ _ => F'); (with_reducible rename News _ _ _ _ => N'); k_dflt (first | refine slice_B (s := ⟨_, _, _, _, _⟩) F' N' (by constructor) (by constructor) (by omega) (sl_to (by omega)) ?_ | refine slice_B (s := ⟨_, _, _, _, _⟩) F' N' (by constructor) (by constructor) (by omega) (sl_mid (by omega) (by omega)) ?_ | refine slice_B (s := ⟨_, _, _, _, _⟩) F' N' (by constructor) (by constructor) (by omega) (sl_from (by omega)) ?_); intro h9 t9 k9 F9 N9; (try dsimp only); (try k_sweep)) | ((with_reducible show wpAny _ _ (subscriptTail _ _ (Value.bytes (List.toArray _) _) (Value.int _ _)) _ _ _); k_dflt (refine' item_B ?k1 ?k2 ?k3 ?_ ?k4 ?k5; (case k1 => omega); (case k2 => omega); (case k3 => omega); (case k4 => with_unfolding_all rfl); (case k5 => intro _; with_unfolding_all rfl)))) | ((with_reducible show wpAny _ _ (call (Value.builtin "len") _) _ _ _); ((with_reducible show wpAny _ _ (call (Value.builtin _) [Value.bytes (List.toArray _) _]) _ _ _); (refine len_B (by omega) ?_))) | ((with_reducible show StepB ..); (k_dflt (refine' ⟨rfl, _, _, _, rfl, ?a, ?b, ?c, ?d⟩; (case a => exact step_fr (by assumption)); (case b => assumption); (case c => omega); (case d => first | assumption | exact nv_true (by assumption))))) | ((with_reducible show EndB ..); (refine ⟨_, _, _, rfl, by assumption, by assumption, ?_⟩; first | exact .inl (by omega) | exact .inr (by assumption) | exact .inr (nv_false (by assumption)))) | ((with_reducible show wpAny _ _ (exec (Stmt.While ..) _) _ _ _); first | ((with_reducible show wpAny _ _ (exec (Stmt.While (Expr.BoolOp _ (Expr.Compare (Expr.Name (PySem.Str.ofString "ended") _) _ _ _ :: _) _) _ _ _) _) _ _ _); k_dflt (refine' while_B' (PySem.Str.ofString "ended") isV ?k1 ?k2 ?kx ?k3 ?k4 ?_ ?_ ?k5; (case k1 => k_asm); (case k2 => k_asm); (case kx => exact rfl); (case k3 => exact rfl); (case k4 => assumption); (case k5 => exact fun _ _ h => h)); (intros; (try dsimp only); (try k_fold); (try k_sweep))) | ((with_reducible show wpAny _ _ (exec (Stmt.While (Expr.BoolOp _ (Expr.Compare (Expr.Name (PySem.Str.ofString "begun") _) _ _ _ :: _) _) _ _ _) _) _ _ _); k_dflt (refine' while_B' (PySem.Str.ofString "begun") (fun c => !isV c) (i0 := 0) ?k1 ?k2 ?kx ?k3 ?k4 ?_ ?_ ?k5; (case k1 => k_asm); (case k2 => k_asm); (case kx => exact rfl); (case k3 => exact rfl); (case k4 => exact Nat.zero_le _); (case k5 => exact fun _ _ h => h)); (intros; (try dsimp only); (try k_fold); (try k_sweep)))) | ((with_reducible show wpAny _ _ (call (Value.ref _) _) _ _ _); first | ((with_reducible show wpAny _ _ (call (Value.ref 62) _) _ _ _); refine' use_names (con_names _) ?k1 ?k2 ?k3 ?k4 ?kh ?k5 ?k6 ?_; (case k3 => k_asm); (case k4 => k_asm); (case k1 => k_asm); (case k2 => k_asm); (case kh => exact rfl); (case k5 => first | (refine' dOk ?da ?db; (case da => assumption); (case db => exact rfl)) | exact Nat.le_of_ble_eq_true rfl | (simp only [depth_deeper, depth_in1]; (try dsimp only [AR]); omega)); (case k6 => first | (refine' uOk ?da ?db; (case da => assumption); (case db => exact rfl)) | exact Nat.le_of_ble_eq_true rfl | (simp only [units_deeper, units_in1]; (try dsimp only [AR]); omega)); intro a9 l9 l8 l7 x9 x8 x7 n9 n8 n7 h9 tk9 F9 N9 B9 B8 B7; (try dsimp only); (try k_sweep))) | walk1) | fail "no step")
  all_goals ((try dsimp only); (try k_unfold); (try dsimp only); refine Wrap.mk (hret _ _ _ (fun b o e n => Fr.keep (by with_reducible assumption) b o (hgs b o e n)) ?_))
  all_goals first | exact PV.int (codeF_some (by assumption) (by assumption) (by assumption) (by assumption) (by assumption)) | exact PV.noint (codeF_none (by assumption) (by assumption) (.inl (by assumption))) | exact PV.noint (codeF_none (by assumption) (by assumption) (.inr (.inl (by assumption)))) | exact PV.noint (codeF_none (by assumption) (by assumption) (.inr (.inr (by assumption))))
-- P1
theorem leads_nv : ∀ a ∈ leadsB, ∀ c ∈ a, (!isV c) = true := by decide
theorem vowels_v : ∀ b ∈ vowelsB, (∀ c ∈ b, isV c = true) ∧ b ≠ [] := by decide
theorem tails_nv : ∀ c ∈ tailsB, c.takeWhile isV = [] := by decide
theorem leads_idx : ∀ i, i < 19 → leadsB.idxOf (leadsB.getD i []) = i := by decide
theorem vowels_idx : ∀ i, i < 21 → vowelsB.idxOf (vowelsB.getD i []) = i := by decide
theorem tails_idx : ∀ i, i < 28 → tailsB.idxOf (tailsB.getD i []) = i := by decide
theorem codeF_glued {a b c : List UInt8} (ha : a ∈ leadsB) (hb : b ∈ vowelsB) (hc : c ∈ tailsB) : codeF (a ++ b ++ c) = some (44032 + (((leadsB.idxOf a : Nat) : Int) * 21 + ((vowelsB.idxOf b : Nat) : Int)) * 28 + ((tailsB.idxOf c : Nat) : Int)) := by
  obtain ⟨hbv, hbn⟩ := vowels_v b hb
  have e1 : (a ++ b ++ c).takeWhile (fun c => !isV c) = a := by
    rw [List.append_assoc, List.takeWhile_append_of_pos (leads_nv a ha)]
    obtain ⟨v, b', rfl⟩ := List.exists_cons_of_ne_nil hbn
    have hv : isV v = true := hbv v (.head _)
    rw [List.cons_append, List.takeWhile_cons, hv]
    simp
  have e2 : (a ++ b ++ c).drop a.length = b ++ c := by rw [List.append_assoc, List.drop_left]
  have e3 : (b ++ c).takeWhile isV = b := by
    rw [List.takeWhile_append_of_pos hbv, tails_nv c hc, List.append_nil]
  have e4 : (a ++ b ++ c).take a.length = a := by rw [List.append_assoc, List.take_left]
  have e5 : (b ++ c).take b.length = b := by rw [List.take_left]
  have e6 : (a ++ b ++ c).drop (a.length + b.length) = c := by rw [← List.length_append, List.drop_left]
  unfold codeF
  dsimp only
  rw [e1, e2, e3, Nat.add_sub_cancel_left, e4, e5, e6]
  exact if_pos ⟨by simpa using ha, by simpa using hb, by simpa using hc⟩
theorem rd_glue {x a b : List UInt8} (h1 : x.take a.length = a) (h2 : (x.drop a.length).take b.length = b) : x = a ++ b ++ x.drop (a.length + b.length) := by
  have e1 := List.take_append_drop a.length x
  have e2 := List.take_append_drop b.length (x.drop a.length)
  rw [h2, List.drop_drop] at e2
  rw [h1, ← e2, ← List.append_assoc] at e1
  exact e1.symm
theorem rd_some {x a b : List UInt8} {i j : Nat} (hi : leadsB[i]? = some a) (hj : vowelsB[j]? = some b) (h1 : (x.take a.length == a) = true) (h2 : ((x.drop a.length).take b.length == b) = true) (h3 : tailsB.contains (x.drop (a.length + b.length)) = true) :
    codeF x = some (44032 + ((i : Int) * 21 + (j : Int)) * 28 + ((tailsB.idxOf (x.drop (a.length + b.length)) : Nat) : Int)) := by
  have g := rd_glue (x := x) (by simpa using h1) (by simpa using h2)
  have hi' : i < 19 := (List.getElem?_eq_some_iff.mp hi).1
  have hj' : j < 21 := (List.getElem?_eq_some_iff.mp hj).1
  have ea : leadsB.getD i [] = a := by rw [List.getD_eq_getElem?_getD, hi]; rfl
  have eb : vowelsB.getD j [] = b := by rw [List.getD_eq_getElem?_getD, hj]; rfl
  have k := codeF_glued (a := a) (b := b) (c := x.drop (a.length + b.length)) (List.mem_of_getElem? hi) (List.mem_of_getElem? hj) (by simpa using h3)
  rw [← g] at k
  rw [k, ← ea, ← eb, leads_idx i hi', vowels_idx j hj']
def rdAt (x : List UInt8) (i j : Nat) : Prop := x.take (leadsB.getD i []).length = leadsB.getD i [] ∧ (x.drop (leadsB.getD i []).length).take (vowelsB.getD j []).length = vowelsB.getD j [] ∧ tailsB.contains (x.drop ((leadsB.getD i []).length + (vowelsB.getD j []).length)) = true
theorem getD_idxOf {bs : List (List UInt8)} {a : List UInt8} (h : bs.contains a = true) : bs.idxOf a < bs.length ∧ bs.getD (bs.idxOf a) [] = a := by
  have hl : bs.idxOf a < bs.length := List.idxOf_lt_length_iff.mpr (by simpa using h)
  refine ⟨hl, ?_⟩
  rw [List.getD_eq_getElem?_getD, List.getElem?_eq_getElem hl]
  simp
theorem codeF_none_of {x : List UInt8} (h : ∀ i, i < 19 → ∀ j, j < 21 → ¬ rdAt x i j) : codeF x = none := by
  unfold codeF
  dsimp only
  refine if_neg (fun ⟨h1, h2, h3⟩ => ?_)
  generalize hi : (x.takeWhile (fun c => !isV c)).length = i at h1 h2 h3
  generalize he : ((x.drop i).takeWhile isV).length = k at h2 h3
  rw [Nat.add_sub_cancel_left] at h2
  obtain ⟨a1, a2⟩ := getD_idxOf h1
  obtain ⟨b1, b2⟩ := getD_idxOf h2
  have li : i ≤ x.length := by rw [← hi]; exact (List.takeWhile_prefix _).length_le
  have lk : k ≤ (x.drop i).length := by rw [← he]; exact (List.takeWhile_prefix _).length_le
  have e1 : (x.take i).length = i := by rw [List.length_take]; omega
  have e2 : ((x.drop i).take k).length = k := by rw [List.length_take]; omega
  refine h _ a1 _ b1 ⟨?_, ?_, ?_⟩
  · rw [a2, e1]
  · rw [a2, b2, e1, e2]
  · rw [a2, b2, e1, e2]; exact h3
-- B7
abbrev Spage : Str := Str.ofString "page"
abbrev Slead : Str := Str.ofString "lead"
abbrev Sl : Str := Str.ofString "l"
abbrev Svowel : Str := Str.ofString "vowel"
abbrev Sv : Str := Str.ofString "v"
def JL (x : List UInt8) (tx : Tok) (i : Nat) (m : Str → Option Value) : Prop := m (Str.ofString "page") = some (.bytes x.toArray tx) ∧ ∀ i', i' < i → ∀ j, j < 21 → ¬ rdAt x i' j
def JV (x : List UInt8) (tx : Tok) (b : List UInt8) (tl : Tok) (i : Nat) (ti : Tok) (j : Nat) (m : Str → Option Value) : Prop :=
  m (Str.ofString "page") = some (.bytes x.toArray tx) ∧ m (Str.ofString "lead") = some (.bytes b.toArray tl) ∧ m (Str.ofString "l") = some (.int (i : Int) ti) ∧ ∀ j', j' < j → ¬ rdAt x i j'
section
variable {prog : Program} {w : World} {A : Around} {E : Value → Shared → Prop} {s : Shared} {h₀ : Heap} {env : Env} {body : List Stmt} {Q : Flow → Shared → Prop}
theorem enum_leads {l : Addr} {vs : List Value} {n : Nat} {x : List UInt8} {tx : Tok} {m₀ : Str → Option Value} {news : List (Addr × Obj)}
    (hh : A.handled = none) (F : Fr h₀ env.locals s.heap m₀) (N : News h₀ env.locals s.heap news) (hm : (l, W.listOf vs.toArray n) ∈ news) (hb : BytesAre vs leadsB) (hpg : m₀ (Str.ofString "page") = some (.bytes x.toArray tx))
    (turn : ∀ (i : Nat) b t t' (u : Str → Option Value) h tk own, leadsB[i]? = some b → b.length ≤ 3 → (∀ i', i' < i → ∀ j, j < 21 → ¬ rdAt x i' j) →
      Fr h₀ env.locals h (fun y => if y = Str.ofString "lead" then some (.bytes (List.toArray b) t') else if y = Str.ofString "l" then some (.int (i : Int) t) else if y = Str.ofString "page" then some (.bytes x.toArray tx) else u y) → News h₀ env.locals h (news ++ own) →
      wpAny (model prog w) A (execs body env) (TurnB h₀ env.locals (JL x tx (i + 1)) (news ++ own) { s with heap := h, toks := tk } Q) E { s with heap := h, toks := tk })
    (done : ∀ (u : Str → Option Value) h tk, (∀ i', i' < 19 → ∀ j, j < 21 → ¬ rdAt x i' j) → Fr h₀ env.locals h (fun y => if y = Str.ofString "page" then some (.bytes x.toArray tx) else u y) → News h₀ env.locals h news → Q .next { s with heap := h, toks := tk }) :
    wpAny (model prog w) A (call (.type "enumerate") [.ref l]) (fun xv s₁ => wpAny (model prog w) A (pyIter xv) (fun it s₂ => PairAt3 prog w A h₀ env (Str.ofString "l") (Str.ofString "lead") body Q E it s₂) E s₁) E s := by
  refine enum_B (JL x tx) hh F N hm hb ⟨hpg, fun i' h => absurd h (Nat.not_lt_zero _)⟩ ?_ ?_
  · rintro i b t t' m₁ h tk own hi ⟨h1, h2⟩ F₁ N₁
    rw [map_at h1] at F₁
    exact turn i b t t' m₁ h tk own hi (of_decide_eq_true (List.all_eq_true.mp (by decide : leadsB.all (fun b => decide (b.length ≤ 3)) = true) b (List.mem_of_getElem? hi))) h2 F₁ N₁
  · rintro m₁ h tk ⟨h1, h2⟩ F₁ N₁
    rw [map_at h1] at F₁
    exact done m₁ h tk h2 F₁ N₁
theorem enum_vowels {l : Addr} {vs : List Value} {n : Nat} {x b : List UInt8} {tx tl ti : Tok} {i : Nat} {m₀ : Str → Option Value} {news : List (Addr × Obj)}
    (hh : A.handled = none) (F : Fr h₀ env.locals s.heap m₀) (N : News h₀ env.locals s.heap news) (hm : (l, W.listOf vs.toArray n) ∈ news) (hb : BytesAre vs vowelsB) (hpg : m₀ (Str.ofString "page") = some (.bytes x.toArray tx))
    (hld : m₀ (Str.ofString "lead") = some (.bytes b.toArray tl)) (hl : m₀ (Str.ofString "l") = some (.int (i : Int) ti))
    (turn : ∀ (j : Nat) c t t' (u : Str → Option Value) h tk own, vowelsB[j]? = some c → c.length ≤ 3 → (∀ j', j' < j → ¬ rdAt x i j') →
      Fr h₀ env.locals h (fun y => if y = Str.ofString "vowel" then some (.bytes (List.toArray c) t') else if y = Str.ofString "v" then some (.int (j : Int) t) else if y = Str.ofString "page" then some (.bytes x.toArray tx) else if y = Str.ofString "lead" then some (.bytes b.toArray tl) else if y = Str.ofString "l" then some (.int (i : Int) ti) else u y) → News h₀ env.locals h (news ++ own) →
      wpAny (model prog w) A (execs body env) (TurnB h₀ env.locals (JV x tx b tl i ti (j + 1)) (news ++ own) { s with heap := h, toks := tk } Q) E { s with heap := h, toks := tk })
    (done : ∀ (u : Str → Option Value) h tk, (∀ j, j < 21 → ¬ rdAt x i j) → Fr h₀ env.locals h (fun y => if y = Str.ofString "page" then some (.bytes x.toArray tx) else if y = Str.ofString "lead" then some (.bytes b.toArray tl) else if y = Str.ofString "l" then some (.int (i : Int) ti) else u y) → News h₀ env.locals h news → Q .next { s with heap := h, toks := tk }) :
    wpAny (model prog w) A (call (.type "enumerate") [.ref l]) (fun xv s₁ => wpAny (model prog w) A (pyIter xv) (fun it s₂ => PairAt3 prog w A h₀ env (Str.ofString "v") (Str.ofString "vowel") body Q E it s₂) E s₁) E s := by
  have three : ∀ {m : Str → Option Value}, m (Str.ofString "page") = some (.bytes x.toArray tx) → m (Str.ofString "lead") = some (.bytes b.toArray tl) → m (Str.ofString "l") = some (.int (i : Int) ti) →
      m = (fun y => if y = Str.ofString "page" then some (.bytes x.toArray tx) else if y = Str.ofString "lead" then some (.bytes b.toArray tl) else if y = Str.ofString "l" then some (.int (i : Int) ti) else m y) := fun {m} h1 h2 h3 => by
    funext y
    by_cases q1 : y = Str.ofString "page"
    · rw [if_pos q1, q1, h1]
    · rw [if_neg q1]
      by_cases q2 : y = Str.ofString "lead"
      · rw [if_pos q2, q2, h2]
      · rw [if_neg q2]
        by_cases q3 : y = Str.ofString "l"
        · rw [if_pos q3, q3, h3]
        · rw [if_neg q3]
  refine enum_B (JV x tx b tl i ti) hh F N hm hb ⟨hpg, hld, hl, fun i' h => absurd h (Nat.not_lt_zero _)⟩ ?_ ?_
  · rintro j c t t' m₁ h tk own hj ⟨h1, h2, h3, h4⟩ F₁ N₁
    rw [three h1 h2 h3] at F₁
    exact turn j c t t' m₁ h tk own hj (of_decide_eq_true (List.all_eq_true.mp (by decide : vowelsB.all (fun b => decide (b.length ≤ 3)) = true) c (List.mem_of_getElem? hj))) h4 F₁ N₁
  · rintro m₁ h tk ⟨h1, h2, h3, h4⟩ F₁ N₁
    rw [three h1 h2 h3] at F₁
    exact done m₁ h tk h4 F₁ N₁
end
theorem getD_of {bs : List (List UInt8)} {i : Nat} {b : List UInt8} (h : bs[i]? = some b) : bs.getD i [] = b := by rw [List.getD_eq_getElem?_getD, h]; rfl
theorem jl_next {x : List UInt8} {i : Nat} (h : ∀ i', i' < i → ∀ j, j < 21 → ¬ rdAt x i' j) (h' : ∀ j, j < 21 → ¬ rdAt x i j) : ∀ i', i' < i + 1 → ∀ j, j < 21 → ¬ rdAt x i' j := fun i' hi j hj => by
  by_cases q : i' = i
  · rw [q]; exact h' j hj
  · exact h i' (by omega) j hj
theorem jl_miss {x b : List UInt8} {i : Nat} (hb : leadsB[i]? = some b) (h : ∀ i', i' < i → ∀ j, j < 21 → ¬ rdAt x i' j) (e : (x.take (b.length : Int).toNat == b) = false) : ∀ i', i' < i + 1 → ∀ j, j < 21 → ¬ rdAt x i' j :=
  jl_next h fun j _ ⟨h1, _⟩ => by
    rw [getD_of hb] at h1
    rw [Int.toNat_natCast, h1] at e
    simp at e
theorem jv_next {x : List UInt8} {i j : Nat} (h : ∀ j', j' < j → ¬ rdAt x i j') (h' : ¬ rdAt x i j) : ∀ j', j' < j + 1 → ¬ rdAt x i j' := fun j' hj => by
  by_cases q : j' = j
  · rw [q]; exact h'
  · exact h j' (by omega)
theorem jv_miss1 {x b c : List UInt8} {i j : Nat} (hb : leadsB[i]? = some b) (hc : vowelsB[j]? = some c) (h : ∀ j', j' < j → ¬ rdAt x i j')
    (e : ((x.drop (b.length : Int).toNat).take (((b.length : Int) + (c.length : Int)).toNat - (b.length : Int).toNat) == c) = false) : ∀ j', j' < j + 1 → ¬ rdAt x i j' :=
  jv_next h fun ⟨_, h2, _⟩ => by
    rw [getD_of hb, getD_of hc] at h2
    rw [Int.toNat_natCast, show ((b.length : Int) + (c.length : Int)).toNat - b.length = c.length by omega, h2] at e
    simp at e
theorem jv_miss2 {x b c : List UInt8} {i j : Nat} (hb : leadsB[i]? = some b) (hc : vowelsB[j]? = some c) (h : ∀ j', j' < j → ¬ rdAt x i j')
    (e : tailsB.contains (x.drop ((b.length : Int) + (c.length : Int)).toNat) = false) : ∀ j', j' < j + 1 → ¬ rdAt x i j' :=
  jv_next h fun ⟨_, _, h3⟩ => by
    rw [getD_of hb, getD_of hc] at h3
    rw [show ((b.length : Int) + (c.length : Int)).toNat = b.length + c.length by omega, h3] at e
    cases e
theorem rd_hit {x b c : List UInt8} {i j : Nat} (hb : leadsB[i]? = some b) (hc : vowelsB[j]? = some c) (e1 : (x.take (b.length : Int).toNat == b) = true)
    (e2 : ((x.drop (b.length : Int).toNat).take (((b.length : Int) + (c.length : Int)).toNat - (b.length : Int).toNat) == c) = true) (e3 : tailsB.contains (x.drop ((b.length : Int) + (c.length : Int)).toNat) = true) :
    codeF x = some (44032 + ((i : Int) * 21 + (j : Int)) * 28 + ((tailsB.idxOf (x.drop ((b.length : Int) + (c.length : Int)).toNat) : Nat) : Int)) := by
  rw [Int.toNat_natCast] at e1 e2
  rw [show ((b.length : Int) + (c.length : Int)).toNat - b.length = c.length by omega] at e2
  rw [show ((b.length : Int) + (c.length : Int)).toNat = b.length + c.length by omega] at e3 ⊢
  exact rd_some hb hc e1 e2 e3
-- C9
set_option maxHeartbeats 1000000 in
theorem con_read (w : World) (x : List UInt8) (tk : Tok) (hx : x.length ≤ 1000) : Con w 153 [.bytes x.toArray tk] 6 200 [] (PV (optI (codeF x))) := by
  unfold Con
  k_fill
  intro mean mg mb hT dp un fr gd s Q E TT KX st hl hd9 hu9 hret
  refine' enterC (K := hd.heap_39 _) (binds := [(Str.ofString "page", .bytes x.toArray tk)]) ?kT ?kX ?kst ?kl ?kroom ?kho ?khcd ?kbind ?kloc ?_ ?kco ?kgen ?kk ?kcell
  (case kT => assumption)
  (case kX => assumption)
  (case kst => assumption)
  (case kl => assumption)
  (case kroom => (show dp < _; omega))
  (case kho => k_is)
  (case khcd => k_is)
  (case kbind => exact BindsTo.of_eq rfl)
  (case kloc => exact locs rfl)
  (case kco => exact rfl)
  (case kgen => exact rfl)
  (case kk => exact rfl)
  (case kcell => decide)
  intro g L' h₁ hgs hgn F' N' X' T'
  (try dsimp only)
  (try k_fold)
  repeat' (first | (k_unfold; (try dsimp only)) | ((with_reducible show TurnB ..); (with_unfolding_all (refine' TurnB.next ?k1 ?k2 ?k3 ?k4; (case k1 => assumption); (case k2 => assumption); (case k3 => (intro p hp; first | exact hp | exact .tail _ hp | exact .tail _ (.tail _ hp))); (case k4 => first | exact ⟨rfl, jl_miss (by assumption) (by assumption) (by assumption)⟩ | exact ⟨rfl, jl_next (by assumption) (by assumption)⟩ | exact ⟨rfl, rfl, rfl, jv_miss1 (by assumption) (by assumption) (by assumption) (by assumption)⟩ | exact ⟨rfl, rfl, rfl, jv_miss2 (by assumption) (by assumption) (by assumption) (by assumption)⟩)))) | ((with_reducible show wpAny _ _ (call (Value.type _) [Value.ref _]) (fun xv s₁ => wpAny _ _ (pyIter xv) (fun it s₂ => PairAt3 _ _ _ _ _ (PySem.Str.ofString "v") _ _ _ _ it s₂) _ s₁) _ _); k_dflt (refine' enum_vowels ?k1 ?k2 ?k3 ?k4 ?k5 ?k6 ?k7 ?k8 ?_ ?_; (case k1 => exact rfl); (case k2 => k_asm); (case k3 => k_asm); (case k4 => k_mem); (case k5 => assumption); (case k6 => exact rfl); (case k7 => exact rfl); (case k8 => exact rfl)); (first | (intro i9 b9 t9 t8 u9 h9 tk9 own9 e9 z9 n9 F9 N9; (try simp only [List.cons_append, List.nil_append] at N9); (try dsimp only); (try k_fold); (try k_sweep)) | (intro u9 h9 tk9 n9 F9 N9; (try dsimp only); (try k_sweep)))) | ((with_reducible show wpAny _ _ (call (Value.type _) [Value.ref _]) (fun xv s₁ => wpAny _ _ (pyIter xv) (fun it s₂ => PairAt3 _ _ _ _ _ (PySem.Str.ofString "l") _ _ _ _ it s₂) _ s₁) _ _); k_dflt (refine' enum_leads ?k1 ?k2 ?k3 ?k4 ?k5 ?k6 ?_ ?_; (case k1 => exact rfl); (case k2 => k_asm); (case k3 => k_asm); (case k4 => k_mem); (case k5 => assumption); (case k6 => exact rfl)); (first | (intro i9 b9 t9 t8 u9 h9 tk9 own9 e9 z9 n9 F9 N9; (try simp only [List.cons_append, List.nil_append] at N9); (try dsimp only); (try k_fold); (try k_sweep)) | (intro u9 h9 tk9 n9 F9 N9; (try dsimp only); (try k_sweep)))) | ((with_reducible show wpAny _ _ (exec (Stmt.For ..) _) _ _ _); ((rename Fr _ _ _ _ => F'); (with_reducible apply For_pair3F); (case _F => with_unfolding_all exact F'); (case hh => with_unfolding_all rfl); (case hxi => with_unfolding_all rfl); (case hxc => with_unfolding_all rfl); (case hp => with_unfolding_all rfl); (case hE => exact fun _ _ h => False.elim h); (case hs => (intro _; with_unfolding_all rfl)))) | ((with_reducible show wpAny _ _ (call (Value.builtin "len") _) _ _ _); ((with_reducible show wpAny _ _ (call (Value.builtin _) [Value.bytes (List.toArray _) _]) _ _ _); (refine len_B (by omega) ?_))) | ((with_reducible show wpAny _ _ (call (Value.builtin "list.index") _) _ _ _); (k_dflt (refine' index_B ?k1 ?k2 ?k3 ?k4 ?_; (case k1 => exact News.get (by assumption) (by k_mem)); (case k2 => assumption); (case k3 => assumption); (case k4 => decide)))) | ((with_reducible show wpAny _ _ (getMethod _ _ _) _ _ _); first | ((with_reducible show wpAny _ _ (getMethod (Value.ref _) (PySem.Str.ofString "index") _) _ _ _); k_dflt (refine' kl_method ?N ?m PySem.F.slot_list_index PySem.F.type_list_index ?_; (case N => k_asm); (case m => k_mem)))) | ((with_reducible show wpAny _ _ (compareOp _ _ _) _ _ _); first | ((with_reducible show wpAny _ _ (compareOp CmpOp.In (Value.bytes _ _) (Value.ref _)) _ _ _); (k_dflt (refine' in_B ?k1 ?k2 ?_; (case k1 => exact News.isList (by assumption) (by k_mem)); (case k2 => assumption)))) | ((with_reducible show wpAny _ _ (compareOp CmpOp.NotIn (Value.bytes _ _) (Value.ref _)) _ _ _); (k_dflt (refine' notIn_B ?k1 ?k2 ?_; (case k1 => exact News.isList (by assumption) (by k_mem)); (case k2 => assumption)))) | ((with_reducible show wpAny _ _ (compareOp CmpOp.NotEq (Value.bytes _ _) (Value.bytes _ _)) _ _ _); (k_dflt (refine ne_B ?_))) | ((with_reducible show wpAny _ _ (compareOp CmpOp.Eq (Value.bytes _ _) (Value.bytes _ _)) _ _ _); (k_dflt (refine eq_B ?_)))) | ((with_reducible show wpAny _ _ (subscriptTail _ _ _ _) _ _ _); first | ((with_reducible show wpAny _ _ (subscriptTail _ (Expr.Slice _ _ none _) (Value.bytes (List.toArray _) _) (Value.ref _)) _ _ _); (with_reducible rename Fr _ _ _ _ => F'); (with_reducible rename News _ _ _ _ => N'); k_dflt (first | refine slice_B (s := ⟨_, _, _, _, _⟩) F' N' (by constructor) (by constructor) (by omega) (sl_to (by omega)) ?_ | refine slice_B (s := ⟨_, _, _, _, _⟩) F' N' (by constructor) (by constructor) (by omega) (sl_mid (by omega) (by omega)) ?_ | refine slice_B (s := ⟨_, _, _, _, _⟩) F' N' (by constructor) (by constructor) (by omega) (sl_from (by omega)) ?_); intro h9 t9 k9 F9 N9; (try dsimp only); (try k_sweep))) | ((with_reducible show wpAny _ _ (call (Value.ref _) _) _ _ _); first | ((with_reducible show wpAny _ _ (call (Value.ref 104) _) _ _ _); refine' use_list (con_tails _) ?k1 ?k2 ?k3 ?k4 ?kh ?k5 ?k6 ?_; (case k3 => k_asm); (case k4 => k_asm); (case k1 => k_asm); (case k2 => k_asm); (case kh => exact rfl); (case k5 => first | (refine' dOk ?da ?db; (case da => assumption); (case db => exact rfl)) | exact Nat.le_of_ble_eq_true rfl | (simp only [depth_deeper, depth_in1]; (try dsimp only [AR]); omega)); (case k6 => first | (refine' uOk ?da ?db; (case da => assumption); (case db => exact rfl)) | exact Nat.le_of_ble_eq_true rfl | (simp only [units_deeper, units_in1]; (try dsimp only [AR]); omega)); intro l9 x9 n9 h9 tk9 F9 N9 ne9 B9; (replace ne9 := allNe_of ne9; simp only [AllNe, and_true] at ne9; (repeat (rcases ne9 with ⟨n8, ne9⟩))); (try dsimp only); (try k_sweep)) | ((with_reducible show wpAny _ _ (call (Value.ref 97) _) _ _ _); refine' use_list (con_vowels _) ?k1 ?k2 ?k3 ?k4 ?kh ?k5 ?k6 ?_; (case k3 => k_asm); (case k4 => k_asm); (case k1 => k_asm); (case k2 => k_asm); (case kh => exact rfl); (case k5 => first | (refine' dOk ?da ?db; (case da => assumption); (case db => exact rfl)) | exact Nat.le_of_ble_eq_true rfl | (simp only [depth_deeper, depth_in1]; (try dsimp only [AR]); omega)); (case k6 => first | (refine' uOk ?da ?db; (case da => assumption); (case db => exact rfl)) | exact Nat.le_of_ble_eq_true rfl | (simp only [units_deeper, units_in1]; (try dsimp only [AR]); omega)); intro l9 x9 n9 h9 tk9 F9 N9 ne9 B9; (replace ne9 := allNe_of ne9; simp only [AllNe, and_true] at ne9; (repeat (rcases ne9 with ⟨n8, ne9⟩))); (try dsimp only); (try k_sweep)) | ((with_reducible show wpAny _ _ (call (Value.ref 90) _) _ _ _); refine' use_list (con_leads _) ?k1 ?k2 ?k3 ?k4 ?kh ?k5 ?k6 ?_; (case k3 => k_asm); (case k4 => k_asm); (case k1 => k_asm); (case k2 => k_asm); (case kh => exact rfl); (case k5 => first | (refine' dOk ?da ?db; (case da => assumption); (case db => exact rfl)) | exact Nat.le_of_ble_eq_true rfl | (simp only [depth_deeper, depth_in1]; (try dsimp only [AR]); omega)); (case k6 => first | (refine' uOk ?da ?db; (case da => assumption); (case db => exact rfl)) | exact Nat.le_of_ble_eq_true rfl | (simp only [units_deeper, units_in1]; (try dsimp only [AR]); omega)); intro l9 x9 n9 h9 tk9 F9 N9 ne9 B9; (replace ne9 := allNe_of ne9; simp only [AllNe, and_true] at ne9; (repeat (rcases ne9 with ⟨n8, ne9⟩))); (try dsimp only); (try k_sweep))) | walk1 | (dsimp only; first | ((with_reducible show TurnB ..); (with_unfolding_all (refine' TurnB.next ?k1 ?k2 ?k3 ?k4; (case k1 => assumption); (case k2 => assumption); (case k3 => (intro p hp; first | exact hp | exact .tail _ hp | exact .tail _ (.tail _ hp))); (case k4 => first | exact ⟨rfl, jl_miss (by assumption) (by assumption) (by assumption)⟩ | exact ⟨rfl, jl_next (by assumption) (by assumption)⟩ | exact ⟨rfl, rfl, rfl, jv_miss1 (by assumption) (by assumption) (by assumption) (by assumption)⟩ | exact ⟨rfl, rfl, rfl, jv_miss2 (by assumption) (by assumption) (by assumption) (by assumption)⟩)))) | ((with_reducible show wpAny _ _ (call (Value.type _) [Value.ref _]) (fun xv s₁ => wpAny _ _ (pyIter xv) (fun it s₂ => PairAt3 _ _ _ _ _ (PySem.Str.ofString "v") _ _ _ _ it s₂) _ s₁) _ _); k_dflt (refine' enum_vowels ?k1 ?k2 ?k3 ?k4 ?k5 ?k6 ?k7 ?k8 ?_ ?_; (case k1 => exact rfl); (case k2 => k_asm); (case k3 => k_asm); (case k4 => k_mem); (case k5 => assumption); (case k6 => exact rfl); (case k7 => exact rfl); (case k8 => exact rfl)); (first | (intro i9 b9 t9 t8 u9 h9 tk9 own9 e9 z9 n9 F9 N9; (try simp only [List.cons_append, List.nil_append] at N9); (try dsimp only); (try k_fold); (try k_sweep)) | (intro u9 h9 tk9 n9 F9 N9; (try dsimp only); (try k_sweep)))) | ((with_reducible show wpAny _ _ (call (Value.type _) [Value.ref _]) (fun xv s₁ => wpAny _ _ (pyIter xv) (fun it s₂ => PairAt3 _ _ _ _ _ (PySem.Str.ofString "l") _ _ _ _ it s₂) _ s₁) _ _); k_dflt (refine' enum_leads ?k1 ?k2 ?k3 ?k4 ?k5 ?k6 ?_ ?_; (case k1 => exact rfl); (case k2 => k_asm); (case k3 => k_asm); (case k4 => k_mem); (case k5 => assumption); (case k6 => exact rfl)); (first | (intro i9 b9 t9 t8 u9 h9 tk9 own9 e9 z9 n9 F9 N9; (try simp only [List.cons_append, List.nil_append] at N9); (try dsimp only); (try k_fold); (try k_sweep)) | (intro u9 h9 tk9 n9 F9 N9; (try dsimp only); (try k_sweep)))) | ((with_reducible show wpAny _ _ (exec (Stmt.For ..) _) _ _ _); ((rename Fr _ _ _ _ => F'); (with_reducible apply For_pair3F); (case _F => with_unfolding_all exact F'); (case hh => with_unfolding_all rfl); (case hxi => with_unfolding_all rfl); (case hxc => with_unfolding_all rfl); (case hp => with_unfolding_all rfl); (case hE => exact fun _ _ h => False.elim h); (case hs => (intro _; with_unfolding_all rfl)))) | ((with_reducible show wpAny _ _ (call (Value.builtin "len") _) _ _ _); ((with_reducible show wpAny _ _ (call (Value.builtin _) [Value.bytes (List.toArray _) _]) _ _ _); (refine len_B (by omega) ?_))) | ((with_reducible show wpAny _ _ (call (Value.builtin "list.index") _) _ _ _); (k_dflt (refine' index_B ?k1 ?k2 ?k3 ?k4 ?_; (case k1 => exact News.get (by assumption) (by k_mem)); (case k2 => assumption); (case k3 => assumption); (case k4 => decide)))) | ((with_reducible show wpAny _ _ (getMethod _ _ _) _ _ _); first | ((with_reducible show wpAny _ _ (getMethod (Value.ref _) (PySem.Str.ofString "index") _) _ _ _); k_dflt (refine' kl_method ?N ?m PySem.F.slot_list_index PySem.F.type_list_index ?_; (case N => k_asm); (case m => k_mem)))) | ((with_reducible show wpAny _ _ (compareOp _ _ _) _ _ _); first | ((with_reducible show wpAny _ _ (compareOp CmpOp.In (Value.bytes _ _) (Value.ref _)) _ _ _); (k_dflt (refine' in_B ?k1 ?k2 ?_; (case k1 => exact News.isList (by assumption) (by k_mem)); (case k2 => assumption)))) | ((with_reducible show wpAny _ _ (compareOp CmpOp.NotIn (Value.bytes _ _) (Value.ref _)) _ _ _); (k_dflt (refine' notIn_B ?k1 ?k2 ?_; (case k1 => exact News.isList (by assumption) (by k_mem)); (case k2 => assumption)))) | ((with_reducible show wpAny _ _ (compareOp CmpOp.NotEq (Value.bytes _ _) (Value.bytes _ _)) _ _ _); (k_dflt (refine ne_B ?_))) | ((with_reducible show wpAny _ _ (compareOp CmpOp.Eq (Value.bytes _ _) (Value.bytes _ _)) _ _ _); (k_dflt (refine eq_B ?_)))) | ((with_reducible show wpAny _ _ (subscriptTail _ _ _ _) _ _ _); first | ((with_reducible show wpAny _ _ (subscriptTail _ (Expr.Slice _ _ none _) (Value.bytes (List.toArray _) _) (Value.ref _)) _ _ _); (with_reducible rename Fr _ _ _ _ => F'); (with_reducible rename News _ _ _ _ => N'); k_dflt (first | refine slice_B (s := ⟨_, _, _, _, _⟩) F' N' (by constructor) (by constructor) (by omega) (sl_to (by omega)) ?_ | refine slice_B (s := ⟨_, _, _, _, _⟩) F' N' (by constructor) (by constructor) (by omega) (sl_mid (by omega) (by omega)) ?_ | refine slice_B (s := ⟨_, _, _, _, _⟩) F' N' (by constructor) (by constructor) (by omega) (sl_from (by omega)) ?_); intro h9 t9 k9 F9 N9; (try dsimp only); (try k_sweep))) | ((with_reducible show wpAny _ _ (call (Value.ref _) _) _ _ _); first | ((with_reducible show wpAny _ _ (call (Value.ref 104) _) _ _ _); refine' use_list (con_tails _) ?k1 ?k2 ?k3 ?k4 ?kh ?k5 ?k6 ?_; (case k3 => k_asm); (case k4 => k_asm); (case k1 => k_asm); (case k2 => k_asm); (case kh => exact rfl); (case k5 => first | (refine' dOk ?da ?db; (case da => assumption); (case db => exact rfl)) | exact Nat.le_of_ble_eq_true rfl | (simp only [depth_deeper, depth_in1]; (try dsimp only [AR]); omega)); (case k6 => first | (refine' uOk ?da ?db; (case da => assumption); (case db => exact rfl)) | exact Nat.le_of_ble_eq_true rfl | (simp only [units_deeper, units_in1]; (try dsimp only [AR]); omega)); intro l9 x9 n9 h9 tk9 F9 N9 ne9 B9; (replace ne9 := allNe_of ne9; simp only [AllNe, and_true] at ne9; (repeat (rcases ne9 with ⟨n8, ne9⟩))); (try dsimp only); (try k_sweep)) | ((with_reducible show wpAny _ _ (call (Value.ref 97) _) _ _ _); refine' use_list (con_vowels _) ?k1 ?k2 ?k3 ?k4 ?kh ?k5 ?k6 ?_; (case k3 => k_asm); (case k4 => k_asm); (case k1 => k_asm); (case k2 => k_asm); (case kh => exact rfl); (case k5 => first | (refine' dOk ?da ?db; (case da => assumption); (case db => exact rfl)) | exact Nat.le_of_ble_eq_true rfl | (simp only [depth_deeper, depth_in1]; (try dsimp only [AR]); omega)); (case k6 => first | (refine' uOk ?da ?db; (case da => assumption); (case db => exact rfl)) | exact Nat.le_of_ble_eq_true rfl | (simp only [units_deeper, units_in1]; (try dsimp only [AR]); omega)); intro l9 x9 n9 h9 tk9 F9 N9 ne9 B9; (replace ne9 := allNe_of ne9; simp only [AllNe, and_true] at ne9; (repeat (rcases ne9 with ⟨n8, ne9⟩))); (try dsimp only); (try k_sweep)) | ((with_reducible show wpAny _ _ (call (Value.ref 90) _) _ _ _); refine' use_list (con_leads _) ?k1 ?k2 ?k3 ?k4 ?kh ?k5 ?k6 ?_; (case k3 => k_asm); (case k4 => k_asm); (case k1 => k_asm); (case k2 => k_asm); (case kh => exact rfl); (case k5 => first | (refine' dOk ?da ?db; (case da => assumption); (case db => exact rfl)) | exact Nat.le_of_ble_eq_true rfl | (simp only [depth_deeper, depth_in1]; (try dsimp only [AR]); omega)); (case k6 => first | (refine' uOk ?da ?db; (case da => assumption); (case db => exact rfl)) | exact Nat.le_of_ble_eq_true rfl | (simp only [units_deeper, units_in1]; (try dsimp only [AR]); omega)); intro l9 x9 n9 h9 tk9 F9 N9 ne9 B9; (replace ne9 := allNe_of ne9; simp only [AllNe, and_true] at ne9; (repeat (rcases ne9 with ⟨n8, ne9⟩))); (try dsimp only); (try k_sweep))) | walk1) | fail "no step")
  all_goals (repeat (first | k_unfold | dsimp only | dsimp only [TurnB]))
  all_goals ((try dsimp only); (try k_unfold); (try dsimp only); refine Wrap.mk (hret _ _ _ (fun b o e n => Fr.keep (by with_reducible assumption) b o (hgs b o e n)) ?_))
  all_goals first | exact PV.int (rd_hit (by assumption) (by assumption) (by assumption) (by assumption) (by assumption)) | exact PV.noint (codeF_none_of (by assumption))
-- JN
/-- a statement that leaves the names and the ledger as they lay -/
def JNext (h₀ : Heap) (L : Addr) (m : Str → Option Value) (news : List (Addr × Obj)) (s : Shared) (fl : Flow) (s' : Shared) : Prop :=
  fl = .next ∧ ∃ h' tk', s' = { s with heap := h', toks := tk' } ∧ Fr h₀ L h' m ∧ News h₀ L h' news
/-- statements that leave all but one name, and the ledger, as they lay -/
def JOne (x : Str) (h₀ : Heap) (L : Addr) (m : Str → Option Value) (news : List (Addr × Obj)) (s : Shared) (fl : Flow) (s' : Shared) : Prop :=
  fl = .next ∧ ∃ a h' tk', s' = { s with heap := h', toks := tk' } ∧ Fr h₀ L h' (fun y => if y = x then some (.ref a) else m y) ∧ News h₀ L h' news
section
variable {prog : Program} {w : World} {A : Around} {E : Value → Shared → Prop} {s : Shared} {env : Env} {h₀ : Heap} {L : Addr} {m : Str → Option Value} {news : List (Addr × Obj)} {st st' : Stmt} {rest : List Stmt} {Q : Flow → Shared → Prop}
theorem join_stmt (_F : Fr h₀ L s.heap m) (_N : News h₀ L s.heap news) (h1 : wpAny (model prog w) A (exec st env) (JNext h₀ L m news s) E s)
    (h2 : ∀ h' tk', Fr h₀ L h' m → News h₀ L h' news → wpAny (model prog w) A (execs rest env) Q E { s with heap := h', toks := tk' }) : wpAny (model prog w) A (execs (st :: rest) env) Q E s :=
  wpAny_execs_cons (wpAny_mono h1 (fun fl s' j => by
    obtain ⟨rfl, h', tk', rfl, F', N'⟩ := j
    exact h2 h' tk' F' N') (fun _ _ e => e))
theorem join_two (x : Str) (_F : Fr h₀ L s.heap m) (_N : News h₀ L s.heap news)
    (h1 : wpAny (model prog w) A (exec st env) (fun f s' => match f with | .next => wpAny (model prog w) A (exec st' env) (JOne x h₀ L m news s) E s' | f => JOne x h₀ L m news s f s') E s)
    (h2 : ∀ a h' tk', Fr h₀ L h' (fun y => if y = x then some (.ref a) else m y) → News h₀ L h' news → wpAny (model prog w) A (execs rest env) Q E { s with heap := h', toks := tk' }) : wpAny (model prog w) A (execs (st :: st' :: rest) env) Q E s :=
  wpAny_execs_cons (wpAny_mono h1 (fun fl s' j => by
    have g : ∀ {fl s'}, JOne x h₀ L m news s fl s' → fl = .next ∧ wpAny (model prog w) A (execs rest env) Q E s' := fun j => by
      obtain ⟨rfl, a, h', tk', rfl, F', N'⟩ := j
      exact ⟨rfl, h2 a h' tk' F' N'⟩
    cases fl with
    | next =>
      refine wpAny_execs_cons (wpAny_mono j (fun fl s' j => ?_) (fun _ _ e => e))
      obtain ⟨rfl, q⟩ := g j
      exact q
    | ret v => exact nomatch (g j).1
    | brk => exact nomatch (g j).1
    | cont => exact nomatch (g j).1) (fun _ _ e => e))
end
-- C10
theorem con_is_true (w : World) (code : Int) (t : Tok) (h : 44032 ≤ code ∧ code < 55204) : Con w 21 [.int code t] 1 8 [] (PV fun _ => .bool true) :=
  (con_is w code t).weaken (fun _ _ r ⟨u, e⟩ => ⟨u, by rw [e, decide_eq_true h]⟩)
theorem kind_at0 {l v t : Int} (hl : 0 ≤ l ∧ l < 19) (hv : 0 ≤ v ∧ v < 21) (ht : t = 0) : kindF (44032 + (l * 21 + v) * 28 + t) = some (Str.ofString "LV") := by
  obtain ⟨p, _, _, c⟩ := syl_facts (l := l) (v := v) (t := t) rfl hl hv (by omega)
  exact kindF_lv p (c.trans ht)
theorem kind_at1 {l v t : Int} (hl : 0 ≤ l ∧ l < 19) (hv : 0 ≤ v ∧ v < 21) (ht : 0 < t ∧ t < 28) : kindF (44032 + (l * 21 + v) * 28 + t) = some (Str.ofString "LVT") := by
  obtain ⟨p, _, _, c⟩ := syl_facts (l := l) (v := v) (t := t) rfl hl hv (by omega)
  exact kindF_lvt p (by omega)
theorem pair_lv {l v : Int} (hl : 0 ≤ l ∧ l < 19) (hv : 0 ≤ v ∧ v < 21) : pairF (4352 + l) (4449 + v) = some (44032 + (l * 21 + v) * 28) := pairF_lv (by omega) (by omega)
theorem pair_lvt0 {l v t : Int} (hl : 0 ≤ l ∧ l < 19) (hv : 0 ≤ v ∧ v < 21) (ht : 0 < t ∧ t < 28) : pairF (44032 + (l * 21 + v) * 28) (4519 + t) = some (44032 + (l * 21 + v) * 28 + t) := by
  obtain ⟨p, _, _, c⟩ := syl_facts (l := l) (v := v) (t := 0) (code := 44032 + (l * 21 + v) * 28) (by omega) hl hv (by omega)
  exact pairF_lvt ⟨p, c, by omega⟩ (by omega)
theorem pair_lvt {l v t : Int} (hl : 0 ≤ l ∧ l < 19) (hv : 0 ≤ v ∧ v < 21) (ht : 0 < t ∧ t < 28) : pairF (44032 + (l * 21 + v) * 28 + t - t) (4519 + t) = some (44032 + (l * 21 + v) * 28 + t) := by
  rw [show 44032 + (l * 21 + v) * 28 + t - t = 44032 + (l * 21 + v) * 28 by omega]
  exact pair_lvt0 hl hv ht
theorem pair_code {l v t b : Int} (hl : 0 ≤ l ∧ l < 19) (hv : 0 ≤ v ∧ v < 21) (ht : 0 < t ∧ t < 28) : pairF (44032 + (l * 21 + v) * 28 + t) b = none := by
  obtain ⟨p, _, _, c⟩ := syl_facts (l := l) (v := v) (t := t) rfl hl hv (by omega)
  exact pairF_none (by omega) (fun h => by omega)
def IsPage (l v t : Int) (p : List UInt8) : Prop := leadsB.getD l.toNat [] ++ vowelsB.getD v.toNat [] ++ tailsB.getD t.toNat [] = p
theorem codeF_page {l v t : Int} {p : List UInt8} (hp : IsPage l v t p) (hl : 0 ≤ l ∧ l < 19) (hv : 0 ≤ v ∧ v < 21) (ht : 0 ≤ t ∧ t < 28) : codeF p = some (44032 + (l * 21 + v) * 28 + t) := by
  have m : ∀ {bs : List (List UInt8)} {i : Nat}, i < bs.length → bs.getD i [] ∈ bs := fun {bs i} h => by
    rw [List.getD_eq_getElem?_getD, List.getElem?_eq_getElem h]; exact List.getElem_mem h
  cases hp
  rw [codeF_glued (m (by simp only [List.length_cons, List.length_nil]; omega)) (m (by simp only [List.length_cons, List.length_nil]; omega)) (m (by simp only [List.length_cons, List.length_nil]; omega)), leads_idx _ (by omega), vowels_idx _ (by omega), tails_idx _ (by omega)]
  congr 1
  omega
theorem pick_tail {r : Value} {t1 t2 t3 t4 : Tok} {y : Int} (h : r ∈ [Value.int 0 t1, .int 1 t2, .int 27 t3, .int y t4]) (hy : 0 ≤ y ∧ y < 28) : ∃ x t, r = .int x t ∧ 0 ≤ x ∧ x < 28 := by
  simp only [List.mem_cons, List.not_mem_nil, or_false] at h
  rcases h with rfl | rfl | rfl | rfl
  · exact ⟨_, _, rfl, by omega, by omega⟩
  · exact ⟨_, _, rfl, by omega, by omega⟩
  · exact ⟨_, _, rfl, by omega, by omega⟩
  · exact ⟨_, _, rfl, hy⟩
theorem pick_sign {r : Value} {t1 t2 t3 t4 t5 : Tok} (h : r ∈ [Value.bytes (List.toArray [71]) t1, .bytes (List.toArray [69]) t2, .bytes (List.toArray [83]) t3, .bytes (List.toArray [88]) t4, .bytes (List.toArray []) t5]) : ∃ (b : List UInt8) (t : Tok), r = .bytes b.toArray t ∧ b.length ≤ 1 := by
  simp only [List.mem_cons, List.not_mem_nil, or_false] at h
  rcases h with rfl | rfl | rfl | rfl | rfl
  · exact ⟨_, _, rfl, by decide⟩
  · exact ⟨_, _, rfl, by decide⟩
  · exact ⟨_, _, rfl, by decide⟩
  · exact ⟨_, _, rfl, by decide⟩
  · exact ⟨[], _, rfl, by decide⟩
section
variable {prog : Program} {w : World} {A : Around} {E : Value → Shared → Prop} {s : Shared}
theorem ne_page {l v t : Int} {p : List UInt8} {u u' : Tok} {Q : Value → Shared → Prop} (hp : IsPage l v t p) (h : Q (.bool false) s) : wpAny (model prog w) A (compareOp .NotEq (.bytes (leadsB.getD l.toNat [] ++ vowelsB.getD v.toNat [] ++ tailsB.getD t.toNat []).toArray u) (.bytes p.toArray u')) Q E s := by
  cases hp
  exact ne_bytes (by simpa using h)
theorem add_page {l v t : Int} {u u' : Tok} {Q : Value → Shared → Prop} (hl : (leadsB.getD l.toNat []).length ≤ 3) (hv : (vowelsB.getD v.toNat []).length ≤ 3) (ht : (tailsB.getD t.toNat []).length ≤ 3) (h : ∀ p t' k, IsPage l v t p → p.length ≤ 9 → Q (.bytes p.toArray t') { s with toks := k }) :
    wpAny (model prog w) A (binaryOp .Add (.bytes (leadsB.getD l.toNat [] ++ vowelsB.getD v.toNat []).toArray u) (.bytes (tailsB.getD t.toNat []).toArray u')) Q E s :=
  add_B (by simp only [List.length_append]; omega) (fun t' k => h _ t' k rfl (by simp only [List.length_append]; omega))
theorem eq_optI {i : Option Int} {t u : Tok} {Q : Value → Shared → Prop} (h : Q (.bool true) s) : wpAny (model prog w) A (compareOp .Eq (optI i t) (optI i u)) Q E s := by
  cases i with
  | none => exact EqNone.eq_none_none (by simpa using h)
  | some x => exact eq_int (by simpa using h)
theorem ne_optI {i : Option Int} {t u : Tok} {Q : Value → Shared → Prop} (h : Q (.bool false) s) : wpAny (model prog w) A (compareOp .NotEq (optI i t) (optI i u)) Q E s := by
  cases i with
  | none => exact EqNone.ne_none_none (by simpa using h)
  | some x => exact ne_int (by simpa using h)
theorem ne_optS {i : Option Str} {t u : Tok} {Q : Value → Shared → Prop} (h : Q (.bool false) s) : wpAny (model prog w) A (compareOp .NotEq (optS i t) (optS i u)) Q E s := by
  cases i with
  | none => exact EqNone.ne_none_none (by simpa using h)
  | some x => exact ne_str (by simpa using h)
end
theorem use_near {w : World} {A : Around} {E Q : Value → Shared → Prop} {s : Shared} {h₀ : Heap} {L : Addr} {m : Str → Option Value} {news : List (Addr × Obj)} {mean : ExcName → Option Value} {mg mb : Str → Option Value} {l v t : Int} {tk tk2 : Tok} (hl : 0 ≤ l ∧ l < 19) (hv : 0 ≤ v ∧ v < 21) (ht : 0 ≤ t ∧ t < 28)
    (T : Top hd.view_39 looseN mean mg mb h₀) (X : (hd.heap_39 w.params).In h₀) (Fr9 : Fr h₀ L s.heap m) (N : News h₀ L s.heap news) (hh : A.handled = none) (hd : A.depth + 3 < recursionLimit) (hu : A.units + 16 < cLine)
    (hn : ∀ h' tk', t = 0 → Fr h₀ L h' m → News h₀ L h' news → Q .none { s with heap := h', toks := tk' })
    (hs : ∀ u h' tk', 0 < t → Fr h₀ L h' m → News h₀ L h' news → Q (.int (44032 + (l * 21 + v) * 28 + t) u) { s with heap := h', toks := tk' }) :
    wpAny (model PySem.Challenge.rw_nt0004_01.row.prog w) A (call (.ref 42) [.int (44032 + (l * 21 + v) * 28 + t - t) tk, .int (4519 + t) tk2]) Q E s := by
  by_cases q : t = 0
  · exact use_noint (con_pair _ _ _ _ _) (pairF_none (by omega) (by omega)) T X Fr9 N hh hd hu (fun h' tk' => hn h' tk' q)
  · exact use_int (con_pair _ _ _ _ _) (pair_lvt hl hv (by omega)) T X Fr9 N hh hd hu (fun u h' tk' => hs u h' tk' (by omega))
theorem use_kindZ {w : World} {A : Around} {E Q : Value → Shared → Prop} {s : Shared} {h₀ : Heap} {L : Addr} {m : Str → Option Value} {news : List (Addr × Obj)} {mean : ExcName → Option Value} {mg mb : Str → Option Value} {l v t : Int} {tk : Tok} (hl : 0 ≤ l ∧ l < 19) (hv : 0 ≤ v ∧ v < 21) (ht : 0 ≤ t ∧ t < 28)
    (T : Top hd.view_39 looseN mean mg mb h₀) (X : (hd.heap_39 w.params).In h₀) (Fr9 : Fr h₀ L s.heap m) (N : News h₀ L s.heap news) (hh : A.handled = none) (hd : A.depth + 3 < recursionLimit) (hu : A.units + 16 < cLine)
    (hn : ∀ u h' tk', t = 0 → Fr h₀ L h' m → News h₀ L h' news → Q (.str (Str.ofString "LV") u) { s with heap := h', toks := tk' })
    (hs : ∀ u h' tk', 0 < t → Fr h₀ L h' m → News h₀ L h' news → Q (.str (Str.ofString "LVT") u) { s with heap := h', toks := tk' }) :
    wpAny (model PySem.Challenge.rw_nt0004_01.row.prog w) A (call (.ref 57) [.int (44032 + (l * 21 + v) * 28 + t) tk]) Q E s := by
  by_cases q : t = 0
  · exact use_str (con_kind _ _ _) (kind_at0 hl hv q) T X Fr9 N hh hd hu (fun u h' tk' => hn u h' tk' q)
  · exact use_str (con_kind _ _ _) (kind_at1 hl hv (by omega)) T X Fr9 N hh hd hu (fun u h' tk' => hs u h' tk' (by omega))
local macro_rules | `(tactic| units_room) => `(tactic| first | (refine' uOk ?da ?db; (case da => assumption); (case db => exact rfl)) | ((try simp only [units_deeper, units_in1]); (try dsimp only [AR]); omega))
set_option maxHeartbeats 4000000 in
theorem con_right (w : World) (d c : Addr) (od oc : Obj) (k : Int) (hdc : @Ne Nat d c) (hD : DeckIs w c k od) (hC : CellsIs oc) (hk : 0 ≤ k ∧ k < 900) :
    Con w 160 [.ref d] 9 400 [(d, od), (c, oc)] (fun _ h' r => r = .bool true ∧ ∃ od' oc', h'.get? d = some od' ∧ h'.get? c = some oc' ∧ DeckIs w c (k + 1 + 1 + 1 + 1 + 1 + 1 + 1) od' ∧ CellsIs oc') := by
  unfold Con
  k_fill
  intro mean mg mb hT dp un fr gd s Q E TT KX st hl hd9 hu9 hret
  refine' enterC (K := hd.heap_39 _) (binds := [(Str.ofString "deck", .ref d)]) ?kT ?kX ?kst ?kl ?kroom ?kho ?khcd ?kbind ?kloc ?_ ?kco ?kgen ?kk ?kcell
  (case kT => assumption)
  (case kX => assumption)
  (case kst => assumption)
  (case kl => assumption)
  (case kroom => (show dp < _; omega))
  (case kho => k_is)
  (case khcd => k_is)
  (case kbind => exact BindsTo.of_eq rfl)
  (case kloc => exact locs rfl)
  (case kco => exact rfl)
  (case kgen => exact rfl)
  (case kk => exact rfl)
  (case kcell => decide)
  intro g L' h₁ hgs hgn F' N' X' T'
  (try dsimp only)
  (try k_fold)
  repeat' (first | (k_unfold; (try dsimp only)) | ((try ((first | with_reducible show wpAny _ _ (callWith _ _ _ _ _) _ _ _ | with_reducible show wpAny _ _ (compareOp _ _ _) _ _ _ | with_reducible show wpAny _ _ (binaryOp _ _ _) _ _ _ | with_reducible show wpAny _ _ (execs _ _) _ _ _); dsimp only)); first | ((with_reducible show wpAny _ _ (compareOp _ _ _) _ _ _); first | ((with_reducible show wpAny _ _ (compareOp CmpOp.Eq (optI _ _) (optI _ _)) _ _ _); k_dflt (refine eq_optI ?_)) | ((with_reducible show wpAny _ _ (compareOp CmpOp.NotEq (Value.bytes _ _) (Value.bytes _ _)) _ _ _); (k_dflt (refine ne_page (by assumption) ?_))) | ((with_reducible show wpAny _ _ (compareOp CmpOp.In (Value.bytes _ _) (Value.ref _)) _ _ _); (k_dflt (refine' in_B ?k1 ?k2 ?_; (case k1 => exact News.isList (by assumption) (by k_mem)); (case k2 => assumption)))) | ((with_reducible show wpAny _ _ (compareOp CmpOp.NotIn (Value.bytes _ _) (Value.ref _)) _ _ _); (k_dflt (refine' notIn_B ?k1 ?k2 ?_; (case k1 => exact News.isList (by assumption) (by k_mem)); (case k2 => assumption)))) | ((with_reducible show wpAny _ _ (compareOp CmpOp.NotEq (Value.bytes _ _) (Value.bytes _ _)) _ _ _); (k_dflt (refine ne_B ?_))) | ((with_reducible show wpAny _ _ (compareOp CmpOp.Eq (Value.bytes _ _) (Value.bytes _ _)) _ _ _); (k_dflt (refine eq_B ?_)))) | ((with_reducible show wpAny _ _ (call (Value.builtin "list.index") _) _ _ _); (k_dflt (refine' index_B ?k1 ?k2 ?k3 ?k4 ?_; (case k1 => exact News.get (by assumption) (by k_mem)); (case k2 => assumption); (case k3 => assumption); (case k4 => decide)))) | ((with_reducible show wpAny _ _ (getMethod _ _ _) _ _ _); first | ((with_reducible show wpAny _ _ (getMethod (Value.ref _) (PySem.Str.ofString "index") _) _ _ _); k_dflt (refine' kl_method ?N ?m PySem.F.slot_list_index PySem.F.type_list_index ?_; (case N => k_asm); (case m => k_mem)))) | ((with_reducible show wpAny _ _ (subscriptTail _ _ _ _) _ _ _); first | ((with_reducible show wpAny _ _ (subscriptTail _ (Expr.Slice _ _ none _) (Value.bytes (List.toArray _) _) (Value.ref _)) _ _ _); (with_reducible rename Fr _ _ _ _ => F'); (with_reducible rename News _ _ _ _ => N'); k_dflt (first | refine slice_B (s := ⟨_, _, _, _, _⟩) F' N' (by constructor) (by constructor) (by omega) (sl_to (by omega)) ?_ | refine slice_B (s := ⟨_, _, _, _, _⟩) F' N' (by constructor) (by constructor) (by omega) (sl_mid (by omega) (by omega)) ?_ | refine slice_B (s := ⟨_, _, _, _, _⟩) F' N' (by constructor) (by constructor) (by omega) (sl_from (by omega)) ?_); intro h9 t9 k9 F9 N9; (try dsimp only); (try k_sweep)) | ((with_reducible show wpAny _ _ (subscriptTail _ _ (Value.ref _) (Value.int _ _)) _ _ _); k_dflt (refine' itemL_B ?k1 ?k2 ?k3 ?k4 ?k5 ?k7 ?_ ?k6; (case k1 => exact News.isList (by assumption) (by k_mem)); (case k2 => assumption); (case k3 => omega); (case k4 => (simp only [List.length_cons, List.length_nil]; omega)); (case k5 => decide); (case k7 => decide); (case k6 => with_unfolding_all rfl)); intro t9 z9)) | ((with_reducible show wpAny _ _ (call (Value.builtin "len") _) _ _ _); ((with_reducible show wpAny _ _ (call (Value.builtin _) [Value.bytes (List.toArray _) _]) _ _ _); (refine len_B (by omega) ?_))) | ((with_reducible show wpAny _ _ (binaryOp _ _ _) _ _ _); first | ((with_reducible show wpAny _ _ (binaryOp _ (Value.bytes _ _) (Value.bytes _ _)) _ _ _); ((with_reducible show wpAny _ _ (binaryOp _ (Value.bytes (List.toArray (List.getD leadsB _ _ ++ List.getD vowelsB _ _)) _) (Value.bytes (List.toArray (List.getD tailsB _ _)) _)) _ _ _); k_dflt (refine add_page (by assumption) (by assumption) (by assumption) ?_); intro p9 t9 k9 e9 z9)) | ((with_reducible show wpAny _ _ (binaryOp _ (Value.bytes _ _) (Value.bytes _ _)) _ _ _); (k_dflt (refine' add_B ?k1 ?_; (case k1 => ((try simp only [List.length_append, List.length_take, List.length_drop]); omega))); intro t9 k9))) | ((with_reducible show wpAny _ _ (call (Value.ref _) _) _ _ _); first | ((with_reducible show wpAny _ _ (call (Value.ref 153) [Value.bytes _ _]) _ _ _); refine' use_val (con_read _ _ _ ?hz) ?k1 ?k2 ?k3 ?k4 ?kh ?k5 ?k6 ?_; (case hz => ((try simp only [List.length_append, List.length_take, List.length_drop]); omega)); (case k3 => k_asm); (case k4 => k_asm); (case k1 => k_asm); (case k2 => k_asm); (case kh => exact rfl); (case k5 => first | (refine' dOk ?da ?db; (case da => assumption); (case db => exact rfl)) | exact Nat.le_of_ble_eq_true rfl | (simp only [depth_deeper, depth_in1]; (try dsimp only [AR]); omega)); (case k6 => first | (refine' uOk ?da ?db; (case da => assumption); (case db => exact rfl)) | exact Nat.le_of_ble_eq_true rfl | (simp only [units_deeper, units_in1]; (try dsimp only [AR]); omega)); intro t9 h9 tk9 F9 N9; (try dsimp only); (try k_sweep)) | ((with_reducible show wpAny _ _ (call (Value.ref 83) [Value.bytes _ _]) _ _ _); refine' use_int (con_codeof _ _ _ ?hz) ?e ?k1 ?k2 ?k3 ?k4 ?kh ?k5 ?k6 ?_; (case e => exact codeF_page (by assumption) (by omega) (by omega) (by omega)); (case hz => omega); (case k3 => k_asm); (case k4 => k_asm); (case k1 => k_asm); (case k2 => k_asm); (case kh => exact rfl); (case k5 => first | (refine' dOk ?da ?db; (case da => assumption); (case db => exact rfl)) | exact Nat.le_of_ble_eq_true rfl | (simp only [depth_deeper, depth_in1]; (try dsimp only [AR]); omega)); (case k6 => first | (refine' uOk ?da ?db; (case da => assumption); (case db => exact rfl)) | exact Nat.le_of_ble_eq_true rfl | (simp only [units_deeper, units_in1]; (try dsimp only [AR]); omega)); intro t9 h9 tk9 F9 N9; (try dsimp only); (try k_sweep)) | ((with_reducible show wpAny _ _ (call (Value.ref 83) [Value.bytes _ _]) _ _ _); refine' use_val (con_codeof _ _ _ ?hz) ?k1 ?k2 ?k3 ?k4 ?kh ?k5 ?k6 ?_; (case hz => ((try simp only [List.length_append, List.length_take, List.length_drop]); omega)); (case k3 => k_asm); (case k4 => k_asm); (case k1 => k_asm); (case k2 => k_asm); (case kh => exact rfl); (case k5 => first | (refine' dOk ?da ?db; (case da => assumption); (case db => exact rfl)) | exact Nat.le_of_ble_eq_true rfl | (simp only [depth_deeper, depth_in1]; (try dsimp only [AR]); omega)); (case k6 => first | (refine' uOk ?da ?db; (case da => assumption); (case db => exact rfl)) | exact Nat.le_of_ble_eq_true rfl | (simp only [units_deeper, units_in1]; (try dsimp only [AR]); omega)); intro t9 h9 tk9 F9 N9; (try dsimp only); (try k_sweep)) | ((with_reducible show wpAny _ _ (call (Value.ref 76) [Value.int _ _]) _ _ _); refine' use_val (con_ntail _ _ ?hl ?hv ?ht) ?k1 ?k2 ?k3 ?k4 ?kh ?k5 ?k6 ?_; (case hl => omega); (case hv => omega); (case ht => omega); (case k3 => k_asm); (case k4 => k_asm); (case k1 => k_asm); (case k2 => k_asm); (case kh => exact rfl); (case k5 => first | (refine' dOk ?da ?db; (case da => assumption); (case db => exact rfl)) | exact Nat.le_of_ble_eq_true rfl | (simp only [depth_deeper, depth_in1]; (try dsimp only [AR]); omega)); (case k6 => first | (refine' uOk ?da ?db; (case da => assumption); (case db => exact rfl)) | exact Nat.le_of_ble_eq_true rfl | (simp only [units_deeper, units_in1]; (try dsimp only [AR]); omega)); intro t9 h9 tk9 F9 N9; (try dsimp only); (try k_sweep)) | ((with_reducible show wpAny _ _ (call (Value.ref 50) [Value.int _ _, Value.int _ _, Value.int _ _]) _ _ _); refine' use_int (con_comp3 _ _ _ _ _ _ _) ?e ?k1 ?k2 ?k3 ?k4 ?kh ?k5 ?k6 ?_; (case e => exact compF3_some (compF_not (by omega) (pair_lv (by omega) (by omega))) (pair_lvt0 (by omega) (by omega) (by omega))); (case k3 => k_asm); (case k4 => k_asm); (case k1 => k_asm); (case k2 => k_asm); (case kh => exact rfl); (case k5 => first | (refine' dOk ?da ?db; (case da => assumption); (case db => exact rfl)) | exact Nat.le_of_ble_eq_true rfl | (simp only [depth_deeper, depth_in1]; (try dsimp only [AR]); omega)); (case k6 => first | (refine' uOk ?da ?db; (case da => assumption); (case db => exact rfl)) | exact Nat.le_of_ble_eq_true rfl | (simp only [units_deeper, units_in1]; (try dsimp only [AR]); omega)); intro t9 h9 tk9 F9 N9; (try dsimp only); (try k_sweep)) | ((with_reducible show wpAny _ _ (call (Value.ref 50) [Value.int _ _, Value.int _ _, Value.int _ _]) _ _ _); refine' use_noint (con_comp3 _ _ _ _ _ _ _) ?e ?k1 ?k2 ?k3 ?k4 ?kh ?k5 ?k6 ?_; (case e => first | exact compF3_some (compF_not (by omega) (pair_lv (by omega) (by omega))) (pairF_none (by omega) (by omega)) | exact compF3_none (compF_not (by omega) (pairF_none (by omega) (by omega)))); (case k3 => k_asm); (case k4 => k_asm); (case k1 => k_asm); (case k2 => k_asm); (case kh => exact rfl); (case k5 => first | (refine' dOk ?da ?db; (case da => assumption); (case db => exact rfl)) | exact Nat.le_of_ble_eq_true rfl | (simp only [depth_deeper, depth_in1]; (try dsimp only [AR]); omega)); (case k6 => first | (refine' uOk ?da ?db; (case da => assumption); (case db => exact rfl)) | exact Nat.le_of_ble_eq_true rfl | (simp only [units_deeper, units_in1]; (try dsimp only [AR]); omega)); intro h9 tk9 F9 N9; (try dsimp only); (try k_sweep)) | ((with_reducible show wpAny _ _ (call (Value.ref 50) [Value.int _ _, Value.int _ _]) _ _ _); refine' use_int (con_comp _ _ _ _ _) ?e ?k1 ?k2 ?k3 ?k4 ?kh ?k5 ?k6 ?_; (case e => exact compF_not (by omega) (pair_lv (by omega) (by omega))); (case k3 => k_asm); (case k4 => k_asm); (case k1 => k_asm); (case k2 => k_asm); (case kh => exact rfl); (case k5 => first | (refine' dOk ?da ?db; (case da => assumption); (case db => exact rfl)) | exact Nat.le_of_ble_eq_true rfl | (simp only [depth_deeper, depth_in1]; (try dsimp only [AR]); omega)); (case k6 => first | (refine' uOk ?da ?db; (case da => assumption); (case db => exact rfl)) | exact Nat.le_of_ble_eq_true rfl | (simp only [units_deeper, units_in1]; (try dsimp only [AR]); omega)); intro t9 h9 tk9 F9 N9; (try dsimp only); (try k_sweep)) | ((with_reducible show wpAny _ _ (call (Value.ref 50) [Value.int _ _, Value.int _ _]) _ _ _); refine' use_noint (con_comp _ _ _ _ _) ?e ?k1 ?k2 ?k3 ?k4 ?kh ?k5 ?k6 ?_; (case e => first | exact compF_syl (by omega) | exact compF_not (by omega) (pairF_none (by omega) (by omega))); (case k3 => k_asm); (case k4 => k_asm); (case k1 => k_asm); (case k2 => k_asm); (case kh => exact rfl); (case k5 => first | (refine' dOk ?da ?db; (case da => assumption); (case db => exact rfl)) | exact Nat.le_of_ble_eq_true rfl | (simp only [depth_deeper, depth_in1]; (try dsimp only [AR]); omega)); (case k6 => first | (refine' uOk ?da ?db; (case da => assumption); (case db => exact rfl)) | exact Nat.le_of_ble_eq_true rfl | (simp only [units_deeper, units_in1]; (try dsimp only [AR]); omega)); intro h9 tk9 F9 N9; (try dsimp only); (try k_sweep)) | ((with_reducible show wpAny _ _ (call (Value.ref 42) [Value.int _ _, Value.int _ _]) _ _ _); refine' use_int (con_pair _ _ _ _ _) ?e ?k1 ?k2 ?k3 ?k4 ?kh ?k5 ?k6 ?_; (case e => first | exact pair_lv (by omega) (by omega) | exact pair_lvt (by omega) (by omega) (by omega)); (case k3 => k_asm); (case k4 => k_asm); (case k1 => k_asm); (case k2 => k_asm); (case kh => exact rfl); (case k5 => first | (refine' dOk ?da ?db; (case da => assumption); (case db => exact rfl)) | exact Nat.le_of_ble_eq_true rfl | (simp only [depth_deeper, depth_in1]; (try dsimp only [AR]); omega)); (case k6 => first | (refine' uOk ?da ?db; (case da => assumption); (case db => exact rfl)) | exact Nat.le_of_ble_eq_true rfl | (simp only [units_deeper, units_in1]; (try dsimp only [AR]); omega)); intro t9 h9 tk9 F9 N9; (try dsimp only); (try k_sweep)) | ((with_reducible show wpAny _ _ (call (Value.ref 42) [Value.int _ _, Value.int _ _]) _ _ _); refine' use_noint (con_pair _ _ _ _ _) ?e ?k1 ?k2 ?k3 ?k4 ?kh ?k5 ?k6 ?_; (case e => first | exact pair_code (by omega) (by omega) (by omega) | exact pairF_none (by omega) (by omega)); (case k3 => k_asm); (case k4 => k_asm); (case k1 => k_asm); (case k2 => k_asm); (case kh => exact rfl); (case k5 => first | (refine' dOk ?da ?db; (case da => assumption); (case db => exact rfl)) | exact Nat.le_of_ble_eq_true rfl | (simp only [depth_deeper, depth_in1]; (try dsimp only [AR]); omega)); (case k6 => first | (refine' uOk ?da ?db; (case da => assumption); (case db => exact rfl)) | exact Nat.le_of_ble_eq_true rfl | (simp only [units_deeper, units_in1]; (try dsimp only [AR]); omega)); intro h9 tk9 F9 N9; (try dsimp only); (try k_sweep)) | ((with_reducible show wpAny _ _ (call (Value.ref 35) [Value.int _ _]) _ _ _); refine' use_tup2 (con_parts2_at _ _ ?hl ?hv ?ht) ?k1 ?k2 ?k3 ?k4 ?kh ?k5 ?k6 ?_; (case hl => omega); (case hv => omega); (case ht => omega); (case k3 => k_asm); (case k4 => k_asm); (case k1 => k_asm); (case k2 => k_asm); (case kh => exact rfl); (case k5 => first | (refine' dOk ?da ?db; (case da => assumption); (case db => exact rfl)) | exact Nat.le_of_ble_eq_true rfl | (simp only [depth_deeper, depth_in1]; (try dsimp only [AR]); omega)); (case k6 => first | (refine' uOk ?da ?db; (case da => assumption); (case db => exact rfl)) | exact Nat.le_of_ble_eq_true rfl | (simp only [units_deeper, units_in1]; (try dsimp only [AR]); omega)); intro a9 t9 t8 h9 tk9 F9 N9 ne9; (replace ne9 := allNe_of ne9; simp only [AllNe, and_true] at ne9; (repeat (rcases ne9 with ⟨n8, ne9⟩))); (try dsimp only); (try k_sweep)) | ((with_reducible show wpAny _ _ (call (Value.ref 35) [Value.int _ _]) _ _ _); refine' use_tup3 (con_parts3_at _ _ ?hl ?hv ?ht) ?k1 ?k2 ?k3 ?k4 ?kh ?k5 ?k6 ?_; (case hl => omega); (case hv => omega); (case ht => omega); (case k3 => k_asm); (case k4 => k_asm); (case k1 => k_asm); (case k2 => k_asm); (case kh => exact rfl); (case k5 => first | (refine' dOk ?da ?db; (case da => assumption); (case db => exact rfl)) | exact Nat.le_of_ble_eq_true rfl | (simp only [depth_deeper, depth_in1]; (try dsimp only [AR]); omega)); (case k6 => first | (refine' uOk ?da ?db; (case da => assumption); (case db => exact rfl)) | exact Nat.le_of_ble_eq_true rfl | (simp only [units_deeper, units_in1]; (try dsimp only [AR]); omega)); intro a9 t9 t8 t7 h9 tk9 F9 N9 ne9; (replace ne9 := allNe_of ne9; simp only [AllNe, and_true] at ne9; (repeat (rcases ne9 with ⟨n8, ne9⟩))); (try dsimp only); (try k_sweep)) | ((with_reducible show wpAny _ _ (call (Value.ref 28) [Value.int _ _]) _ _ _); refine' use_tup3 (con_numbers_at _ _ ?hl ?hv ?ht) ?k1 ?k2 ?k3 ?k4 ?kh ?k5 ?k6 ?_; (case hl => omega); (case hv => omega); (case ht => omega); (case k3 => k_asm); (case k4 => k_asm); (case k1 => k_asm); (case k2 => k_asm); (case kh => exact rfl); (case k5 => first | (refine' dOk ?da ?db; (case da => assumption); (case db => exact rfl)) | exact Nat.le_of_ble_eq_true rfl | (simp only [depth_deeper, depth_in1]; (try dsimp only [AR]); omega)); (case k6 => first | (refine' uOk ?da ?db; (case da => assumption); (case db => exact rfl)) | exact Nat.le_of_ble_eq_true rfl | (simp only [units_deeper, units_in1]; (try dsimp only [AR]); omega)); intro a9 t9 t8 t7 h9 tk9 F9 N9 ne9; (replace ne9 := allNe_of ne9; simp only [AllNe, and_true] at ne9; (repeat (rcases ne9 with ⟨n8, ne9⟩))); (try dsimp only); (try k_sweep)) | ((with_reducible show wpAny _ _ (call (Value.ref 104) _) _ _ _); refine' use_list (con_tails _) ?k1 ?k2 ?k3 ?k4 ?kh ?k5 ?k6 ?_; (case k3 => k_asm); (case k4 => k_asm); (case k1 => k_asm); (case k2 => k_asm); (case kh => exact rfl); (case k5 => first | (refine' dOk ?da ?db; (case da => assumption); (case db => exact rfl)) | exact Nat.le_of_ble_eq_true rfl | (simp only [depth_deeper, depth_in1]; (try dsimp only [AR]); omega)); (case k6 => first | (refine' uOk ?da ?db; (case da => assumption); (case db => exact rfl)) | exact Nat.le_of_ble_eq_true rfl | (simp only [units_deeper, units_in1]; (try dsimp only [AR]); omega)); intro l9 x9 n9 h9 tk9 F9 N9 ne9 B9; (replace ne9 := allNe_of ne9; simp only [AllNe, and_true] at ne9; (repeat (rcases ne9 with ⟨n8, ne9⟩))); (try dsimp only); (try k_sweep)) | ((with_reducible show wpAny _ _ (call (Value.ref 97) _) _ _ _); refine' use_list (con_vowels _) ?k1 ?k2 ?k3 ?k4 ?kh ?k5 ?k6 ?_; (case k3 => k_asm); (case k4 => k_asm); (case k1 => k_asm); (case k2 => k_asm); (case kh => exact rfl); (case k5 => first | (refine' dOk ?da ?db; (case da => assumption); (case db => exact rfl)) | exact Nat.le_of_ble_eq_true rfl | (simp only [depth_deeper, depth_in1]; (try dsimp only [AR]); omega)); (case k6 => first | (refine' uOk ?da ?db; (case da => assumption); (case db => exact rfl)) | exact Nat.le_of_ble_eq_true rfl | (simp only [units_deeper, units_in1]; (try dsimp only [AR]); omega)); intro l9 x9 n9 h9 tk9 F9 N9 ne9 B9; (replace ne9 := allNe_of ne9; simp only [AllNe, and_true] at ne9; (repeat (rcases ne9 with ⟨n8, ne9⟩))); (try dsimp only); (try k_sweep)) | ((with_reducible show wpAny _ _ (call (Value.ref 90) _) _ _ _); refine' use_list (con_leads _) ?k1 ?k2 ?k3 ?k4 ?kh ?k5 ?k6 ?_; (case k3 => k_asm); (case k4 => k_asm); (case k1 => k_asm); (case k2 => k_asm); (case kh => exact rfl); (case k5 => first | (refine' dOk ?da ?db; (case da => assumption); (case db => exact rfl)) | exact Nat.le_of_ble_eq_true rfl | (simp only [depth_deeper, depth_in1]; (try dsimp only [AR]); omega)); (case k6 => first | (refine' uOk ?da ?db; (case da => assumption); (case db => exact rfl)) | exact Nat.le_of_ble_eq_true rfl | (simp only [units_deeper, units_in1]; (try dsimp only [AR]); omega)); intro l9 x9 n9 h9 tk9 F9 N9 ne9 B9; (replace ne9 := allNe_of ne9; simp only [AllNe, and_true] at ne9; (repeat (rcases ne9 with ⟨n8, ne9⟩))); (try dsimp only); (try k_sweep)) | ((with_reducible show wpAny _ _ (call (Value.ref 21) [Value.int _ _]) _ _ _); refine' use_val (con_is_true _ _ _ ?hc) ?k1 ?k2 ?k3 ?k4 ?kh ?k5 ?k6 ?_; (case hc => omega); (case k3 => k_asm); (case k4 => k_asm); (case k1 => k_asm); (case k2 => k_asm); (case kh => exact rfl); (case k5 => first | (refine' dOk ?da ?db; (case da => assumption); (case db => exact rfl)) | exact Nat.le_of_ble_eq_true rfl | (simp only [depth_deeper, depth_in1]; (try dsimp only [AR]); omega)); (case k6 => first | (refine' uOk ?da ?db; (case da => assumption); (case db => exact rfl)) | exact Nat.le_of_ble_eq_true rfl | (simp only [units_deeper, units_in1]; (try dsimp only [AR]); omega)); intro t9 h9 tk9 F9 N9; (try dsimp only); (try k_sweep)) | ((with_reducible show wpAny _ _ (call (Value.ref 21) [Value.int _ _]) _ _ _); refine' use_val (con_is _ _ _) ?k1 ?k2 ?k3 ?k4 ?kh ?k5 ?k6 ?_; (case k3 => k_asm); (case k4 => k_asm); (case k1 => k_asm); (case k2 => k_asm); (case kh => exact rfl); (case k5 => first | (refine' dOk ?da ?db; (case da => assumption); (case db => exact rfl)) | exact Nat.le_of_ble_eq_true rfl | (simp only [depth_deeper, depth_in1]; (try dsimp only [AR]); omega)); (case k6 => first | (refine' uOk ?da ?db; (case da => assumption); (case db => exact rfl)) | exact Nat.le_of_ble_eq_true rfl | (simp only [units_deeper, units_in1]; (try dsimp only [AR]); omega)); intro t9 h9 tk9 F9 N9; (try dsimp only); (try k_sweep)) | ((with_reducible show wpAny _ _ (call (Value.ref 125) [Value.ref _, Value.ref _]) _ _ _); (with_reducible rename DeckIs _ _ _ _ => D9); (with_reducible rename CellsIs _ => C9); refine' use_pick (con_pick _ _ _ _ _ _ _ _ _ ?hdc ?hld ?hlc D9 C9 ?hk ?hb) ?U ?M ?k1 ?k2 ?k3 ?k4 ?kh ?k5 ?k6 ?_; (case k3 => k_asm); (case k4 => k_asm); (case k1 => k_asm); (case k2 => k_asm); (case kh => exact rfl); (case k5 => first | (refine' dOk ?da ?db; (case da => assumption); (case db => exact rfl)) | exact Nat.le_of_ble_eq_true rfl | (simp only [depth_deeper, depth_in1]; (try dsimp only [AR]); omega)); (case k6 => first | (refine' uOk ?da ?db; (case da => assumption); (case db => exact rfl)) | exact Nat.le_of_ble_eq_true rfl | (simp only [units_deeper, units_in1]; (try dsimp only [AR]); omega)); (case M => k_mem); (case hdc => (refine neN ?_; (try dsimp only); first | assumption | exact Ne.symm (by assumption) | omega)); (case hld => (refine neN ?_; (try dsimp only); first | assumption | exact Ne.symm (by assumption) | omega)); (case hlc => (refine neN ?_; (try dsimp only); first | assumption | exact Ne.symm (by assumption) | omega)); (case hk => omega); (case hb => exact ⟨by (simp only [List.length_cons, List.length_nil]; omega), by (simp only [List.length_cons, List.length_nil]; omega)⟩); (case U => (repeat' (first | with_reducible refine' Upd2.head1 ?_ ?_ ?_ | with_reducible refine' Upd2.head2 ?_ ?_ ?_ | with_reducible refine' Upd2.tail ?_ ?_ ?_ | with_reducible refine' UpdF.head ?_ | with_reducible refine' UpdF.tail ?_ ?_ | exact List.forall_mem_nil _ | refine' List.forall_mem_cons.mpr ⟨?_, ?_⟩ | (refine neN ?_; (try dsimp only); first | assumption | exact Ne.symm (by assumption) | omega)))); intro r9 od9 oc9 h9 tk9 P9 F9 N9 D8 C8; clear D9 C9; (first | (obtain ⟨x9, t9, e9, lo9, hi9⟩ := pick_tail P9 (by omega); subst e9) | (obtain ⟨b9, t9, e9, z9⟩ := pick_sign P9; subst e9)); (try dsimp only at N9); (try dsimp only); (try k_sweep)) | ((with_reducible show wpAny _ _ (call (Value.ref 118) [Value.ref _, Value.int _ _]) _ _ _); (with_reducible rename DeckIs _ _ _ _ => D9); (with_reducible rename CellsIs _ => C9); refine' use_deck (con_draw' _ _ _ _ _ _ _ _ ?hdc D9 C9 ?hk ?hb) ?U ?k1 ?k2 ?k3 ?k4 ?kh ?k5 ?k6 ?_; (case k3 => k_asm); (case k4 => k_asm); (case k1 => k_asm); (case k2 => k_asm); (case kh => exact rfl); (case k5 => first | (refine' dOk ?da ?db; (case da => assumption); (case db => exact rfl)) | exact Nat.le_of_ble_eq_true rfl | (simp only [depth_deeper, depth_in1]; (try dsimp only [AR]); omega)); (case k6 => first | (refine' uOk ?da ?db; (case da => assumption); (case db => exact rfl)) | exact Nat.le_of_ble_eq_true rfl | (simp only [units_deeper, units_in1]; (try dsimp only [AR]); omega)); (case hdc => (refine neN ?_; (try dsimp only); first | assumption | exact Ne.symm (by assumption) | omega)); (case hk => omega); (case hb => omega); (case U => (repeat' (first | with_reducible refine' Upd2.head1 ?_ ?_ ?_ | with_reducible refine' Upd2.head2 ?_ ?_ ?_ | with_reducible refine' Upd2.tail ?_ ?_ ?_ | with_reducible refine' UpdF.head ?_ | with_reducible refine' UpdF.tail ?_ ?_ | exact List.forall_mem_nil _ | refine' List.forall_mem_cons.mpr ⟨?_, ?_⟩ | (refine neN ?_; (try dsimp only); first | assumption | exact Ne.symm (by assumption) | omega)))); intro r9 od9 oc9 h9 tk9 P9 F9 N9 D8 C8; clear D9 C9; obtain ⟨x9, t9, e9, lo9, hi9⟩ := P9; subst e9; (try dsimp only at N9); (try dsimp only); (try k_sweep)) | ((with_reducible show wpAny _ _ (call (Value.ref 57) [Value.int _ _]) _ _ _); refine' use_kindZ ?hl ?hv ?ht ?k1 ?k2 ?k3 ?k4 ?kh ?k5 ?k6 ?_ ?_; (case hl => omega); (case hv => omega); (case ht => omega); (case k3 => k_asm); (case k4 => k_asm); (case k1 => k_asm); (case k2 => k_asm); (case kh => exact rfl); (case k5 => first | (refine' dOk ?da ?db; (case da => assumption); (case db => exact rfl)) | exact Nat.le_of_ble_eq_true rfl | (simp only [depth_deeper, depth_in1]; (try dsimp only [AR]); omega)); (case k6 => first | (refine' uOk ?da ?db; (case da => assumption); (case db => exact rfl)) | exact Nat.le_of_ble_eq_true rfl | (simp only [units_deeper, units_in1]; (try dsimp only [AR]); omega)); intros; (try dsimp only); (try k_sweep)) | ((with_reducible show wpAny _ _ (call (Value.ref 42) [Value.int _ _, Value.int _ _]) _ _ _); refine' use_near ?hl ?hv ?ht ?k1 ?k2 ?k3 ?k4 ?kh ?k5 ?k6 ?_ ?_; (case hl => omega); (case hv => omega); (case ht => omega); (case k3 => k_asm); (case k4 => k_asm); (case k1 => k_asm); (case k2 => k_asm); (case kh => exact rfl); (case k5 => first | (refine' dOk ?da ?db; (case da => assumption); (case db => exact rfl)) | exact Nat.le_of_ble_eq_true rfl | (simp only [depth_deeper, depth_in1]; (try dsimp only [AR]); omega)); (case k6 => first | (refine' uOk ?da ?db; (case da => assumption); (case db => exact rfl)) | exact Nat.le_of_ble_eq_true rfl | (simp only [units_deeper, units_in1]; (try dsimp only [AR]); omega)); intros; (try dsimp only); (try k_sweep))) | ((with_reducible show JOne ..); (first | ((with_reducible rename News _ _ _ _ => N8); exact ⟨rfl, _, _, _, rfl, by k_asm, fun p hp => N8 p (by repeat (first | exact hp | apply List.Mem.tail))⟩) | (exfalso; omega))) | ((with_reducible show wpAny _ _ (execs _ _) _ _ _); first | ((with_reducible show wpAny _ _ (execs (Stmt.Assign [Expr.Name (PySem.Str.ofString "odd") _] _ _ :: Stmt.If _ _ _ _ :: _) _) _ _ _); (with_reducible rename Fr _ _ _ _ => F9); (with_reducible rename News _ _ _ _ => N9); refine join_two (PySem.Str.ofString "odd") F9 N9 ?_ (fun a8 h8 k8 F8 N8 => ?_) <;> (try dsimp only)) | ((with_reducible show wpAny _ _ (execs (Stmt.Assign [Expr.Name (PySem.Str.ofString "due") _] _ _ :: Stmt.If _ _ _ _ :: _) _) _ _ _); (with_reducible rename Fr _ _ _ _ => F9); (with_reducible rename News _ _ _ _ => N9); refine join_two (PySem.Str.ofString "due") F9 N9 ?_ (fun a8 h8 k8 F8 N8 => ?_) <;> (try dsimp only)) | ((with_reducible show wpAny _ _ (execs (Stmt.If (Expr.BoolOp _ _ _) _ _ _ :: _) _) _ _ _); (with_reducible rename Fr _ _ _ _ => F9); (with_reducible rename News _ _ _ _ => N9); refine join_stmt F9 N9 ?_ (fun h8 k8 F8 N8 => ?_) <;> (try dsimp only))) | ((with_reducible show JNext ..); (first | ((with_reducible rename News _ _ _ _ => N8); exact ⟨rfl, _, _, rfl, by k_asm, fun p hp => N8 p (by repeat (first | exact hp | apply List.Mem.tail))⟩) | (exfalso; omega))) | walk1 | (dsimp only; walk1)) | fail "no step")
  all_goals ((try dsimp only); (try k_unfold); (try dsimp only); refine Wrap.mk (hret _ _ _ (fun b o e n => Fr.keep (by with_reducible assumption) b o (hgs b o e n)) ?_))
  all_goals (rename News _ _ _ _ => N1; rename DeckIs _ _ _ _ => D1; rename CellsIs _ => C1; exact ⟨rfl, _, _, (N1 (d, _) (by repeat (first | exact List.Mem.head _ | apply List.Mem.tail))).1, (N1 (c, _) (by repeat (first | exact List.Mem.head _ | apply List.Mem.tail))).1, D1, C1⟩)
-- M6
theorem codeF_nil : codeF [] = none := by decide +kernel
theorem bne_dead {b : Bool} {P : Prop} (h : (b != b) = true) : P := by cases b <;> cases h
theorem deck_start {w : World} {od : Obj} {c : Addr} {m : Int} {tm tk : Tok} (h : od.IsDictOf (PySem.strKind PySem.Challenge.rw_nt0004_01.row.prog w) [(Str.ofString "cells", .ref c), (Str.ofString "mixed", .int m tm), (Str.ofString "turn", .int 0 tk)]) : DeckIs w c 0 od := ⟨_, _, _, h⟩
theorem cells_start {vs : List Value} {ks : List Int} (h : IntsAre vs (List.map (fun k' => k') (List.take 24 ks)).reverse) : CellsIs (W.listOf (List.toArray vs) 0) :=
  ⟨_, _, _, rfl, h, by simp only [List.length_reverse, List.length_map, List.length_take]; omega⟩
set_option maxHeartbeats 8000000 in
theorem holds : PySem.Challenge.rw_nt0004_01.Holds := hd (by 
  k_go0
  all_goals try k_fold
  repeat' ((fail_if_success (with_reducible show wpAny _ _ (call (Value.ref 160) _) _ _ _)); first | (k_unfold; (try dsimp only)) | walk1 | (dsimp only; walk1) | fail "no step")
  all_goals (with_reducible rename Obj.IsDictOf _ _ _ => hd9; have D9 := deck_start hd9; with_reducible rename IntsAre _ _ => hI9; have C9 := cells_start hI9)
  repeat' (first | (k_unfold; (try dsimp only)) | ((try ((first | with_reducible show wpAny _ _ (callWith _ _ _ _ _) _ _ _ | with_reducible show wpAny _ _ (compareOp _ _ _) _ _ _ | with_reducible show wpAny _ _ (binaryOp _ _ _) _ _ _ | with_reducible show wpAny _ _ (execs _ _) _ _ _); dsimp only)); first | ((with_reducible show wpAny _ _ (compareOp _ _ _) _ _ _); first | ((with_reducible show wpAny _ _ (compareOp CmpOp.NotEq (optS _ _) (optS _ _)) _ _ _); k_dflt (refine ne_optS ?_)) | ((with_reducible show wpAny _ _ (compareOp CmpOp.NotEq (optI _ _) (optI _ _)) _ _ _); k_dflt (refine ne_optI ?_))) | ((with_reducible show wpAny _ _ (call (Value.ref _) _) _ _ _); first | ((with_reducible show wpAny _ _ (call (Value.ref 83) [Value.bytes _ _]) _ _ _); refine' use_noint (con_codeof _ [] _ ?hz) codeF_nil ?k1 ?k2 ?k3 ?k4 ?kh ?k5 ?k6 ?_; (case hz => decide); (case k3 => k_asm); (case k4 => k_asm); (case k1 => k_asm); (case k2 => k_asm); (case kh => exact rfl); (case k5 => first | (refine' dOk ?da ?db; (case da => assumption); (case db => exact rfl)) | exact Nat.le_of_ble_eq_true rfl | (simp only [depth_deeper, depth_in1]; (try dsimp only [AR]); omega)); (case k6 => first | (refine' uOk ?da ?db; (case da => assumption); (case db => exact rfl)) | exact Nat.le_of_ble_eq_true rfl | (simp only [units_deeper, units_in1]; (try dsimp only [AR]); omega)); intros; (try dsimp only); (try k_sweep)) | ((with_reducible show wpAny _ _ (call (Value.ref 146) [Value.int _ _, Value.int _ _]) _ _ _); refine' use_val (con_lpair _ _ _ _ _) ?k1 ?k2 ?k3 ?k4 ?kh ?k5 ?k6 ?_; (case k3 => k_asm); (case k4 => k_asm); (case k1 => k_asm); (case k2 => k_asm); (case kh => exact rfl); (case k5 => first | (refine' dOk ?da ?db; (case da => assumption); (case db => exact rfl)) | exact Nat.le_of_ble_eq_true rfl | (simp only [depth_deeper, depth_in1]; (try dsimp only [AR]); omega)); (case k6 => first | (refine' uOk ?da ?db; (case da => assumption); (case db => exact rfl)) | exact Nat.le_of_ble_eq_true rfl | (simp only [units_deeper, units_in1]; (try dsimp only [AR]); omega)); intro t9 h9 tk9 F9 N9; (try dsimp only); (try k_sweep)) | ((with_reducible show wpAny _ _ (call (Value.ref 42) [Value.int _ _, Value.int _ _]) _ _ _); refine' use_val (con_pair _ _ _ _ _) ?k1 ?k2 ?k3 ?k4 ?kh ?k5 ?k6 ?_; (case k3 => k_asm); (case k4 => k_asm); (case k1 => k_asm); (case k2 => k_asm); (case kh => exact rfl); (case k5 => first | (refine' dOk ?da ?db; (case da => assumption); (case db => exact rfl)) | exact Nat.le_of_ble_eq_true rfl | (simp only [depth_deeper, depth_in1]; (try dsimp only [AR]); omega)); (case k6 => first | (refine' uOk ?da ?db; (case da => assumption); (case db => exact rfl)) | exact Nat.le_of_ble_eq_true rfl | (simp only [units_deeper, units_in1]; (try dsimp only [AR]); omega)); intro t9 h9 tk9 F9 N9; (try dsimp only); (try k_sweep)) | ((with_reducible show wpAny _ _ (call (Value.ref 76) [Value.int _ _]) _ _ _); refine' use_val (con_ntail_none _ _ _ ?hc) ?k1 ?k2 ?k3 ?k4 ?kh ?k5 ?k6 ?_; (case hc => first | omega | exact of_decide_eq_false (by assumption)); (case k3 => k_asm); (case k4 => k_asm); (case k1 => k_asm); (case k2 => k_asm); (case kh => exact rfl); (case k5 => first | (refine' dOk ?da ?db; (case da => assumption); (case db => exact rfl)) | exact Nat.le_of_ble_eq_true rfl | (simp only [depth_deeper, depth_in1]; (try dsimp only [AR]); omega)); (case k6 => first | (refine' uOk ?da ?db; (case da => assumption); (case db => exact rfl)) | exact Nat.le_of_ble_eq_true rfl | (simp only [units_deeper, units_in1]; (try dsimp only [AR]); omega)); intro t9 h9 tk9 F9 N9; (try dsimp only); (try k_sweep)) | ((with_reducible show wpAny _ _ (call (Value.ref 35) [Value.int _ _]) _ _ _); refine' use_val (con_parts_none _ _ _ ?hc) ?k1 ?k2 ?k3 ?k4 ?kh ?k5 ?k6 ?_; (case hc => first | omega | exact of_decide_eq_false (by assumption)); (case k3 => k_asm); (case k4 => k_asm); (case k1 => k_asm); (case k2 => k_asm); (case kh => exact rfl); (case k5 => first | (refine' dOk ?da ?db; (case da => assumption); (case db => exact rfl)) | exact Nat.le_of_ble_eq_true rfl | (simp only [depth_deeper, depth_in1]; (try dsimp only [AR]); omega)); (case k6 => first | (refine' uOk ?da ?db; (case da => assumption); (case db => exact rfl)) | exact Nat.le_of_ble_eq_true rfl | (simp only [units_deeper, units_in1]; (try dsimp only [AR]); omega)); intro t9 h9 tk9 F9 N9; (try dsimp only); (try k_sweep)) | ((with_reducible show wpAny _ _ (call (Value.ref 132) [Value.int _ _]) _ _ _); refine' use_val (con_lis _ _ _) ?k1 ?k2 ?k3 ?k4 ?kh ?k5 ?k6 ?_; (case k3 => k_asm); (case k4 => k_asm); (case k1 => k_asm); (case k2 => k_asm); (case kh => exact rfl); (case k5 => first | (refine' dOk ?da ?db; (case da => assumption); (case db => exact rfl)) | exact Nat.le_of_ble_eq_true rfl | (simp only [depth_deeper, depth_in1]; (try dsimp only [AR]); omega)); (case k6 => first | (refine' uOk ?da ?db; (case da => assumption); (case db => exact rfl)) | exact Nat.le_of_ble_eq_true rfl | (simp only [units_deeper, units_in1]; (try dsimp only [AR]); omega)); intro t9 h9 tk9 F9 N9; (try dsimp only); (try k_sweep)) | ((with_reducible show wpAny _ _ (call (Value.ref 21) [Value.int _ _]) _ _ _); refine' use_val (con_is _ _ _) ?k1 ?k2 ?k3 ?k4 ?kh ?k5 ?k6 ?_; (case k3 => k_asm); (case k4 => k_asm); (case k1 => k_asm); (case k2 => k_asm); (case kh => exact rfl); (case k5 => first | (refine' dOk ?da ?db; (case da => assumption); (case db => exact rfl)) | exact Nat.le_of_ble_eq_true rfl | (simp only [depth_deeper, depth_in1]; (try dsimp only [AR]); omega)); (case k6 => first | (refine' uOk ?da ?db; (case da => assumption); (case db => exact rfl)) | exact Nat.le_of_ble_eq_true rfl | (simp only [units_deeper, units_in1]; (try dsimp only [AR]); omega)); intro t9 h9 tk9 F9 N9; (try dsimp only); (try k_sweep)) | ((with_reducible show wpAny _ _ (call (Value.ref 139) [Value.int _ _]) _ _ _); refine' use_val (con_lkind _ _ _) ?k1 ?k2 ?k3 ?k4 ?kh ?k5 ?k6 ?_; (case k3 => k_asm); (case k4 => k_asm); (case k1 => k_asm); (case k2 => k_asm); (case kh => exact rfl); (case k5 => first | (refine' dOk ?da ?db; (case da => assumption); (case db => exact rfl)) | exact Nat.le_of_ble_eq_true rfl | (simp only [depth_deeper, depth_in1]; (try dsimp only [AR]); omega)); (case k6 => first | (refine' uOk ?da ?db; (case da => assumption); (case db => exact rfl)) | exact Nat.le_of_ble_eq_true rfl | (simp only [units_deeper, units_in1]; (try dsimp only [AR]); omega)); intro t9 h9 tk9 F9 N9; (try dsimp only); (try k_sweep)) | ((with_reducible show wpAny _ _ (call (Value.ref 57) [Value.int _ _]) _ _ _); refine' use_val (con_kind _ _ _) ?k1 ?k2 ?k3 ?k4 ?kh ?k5 ?k6 ?_; (case k3 => k_asm); (case k4 => k_asm); (case k1 => k_asm); (case k2 => k_asm); (case kh => exact rfl); (case k5 => first | (refine' dOk ?da ?db; (case da => assumption); (case db => exact rfl)) | exact Nat.le_of_ble_eq_true rfl | (simp only [depth_deeper, depth_in1]; (try dsimp only [AR]); omega)); (case k6 => first | (refine' uOk ?da ?db; (case da => assumption); (case db => exact rfl)) | exact Nat.le_of_ble_eq_true rfl | (simp only [units_deeper, units_in1]; (try dsimp only [AR]); omega)); intro t9 h9 tk9 F9 N9; (try dsimp only); (try k_sweep)) | ((with_reducible show wpAny _ _ (call (Value.ref 125) [Value.ref _, Value.ref 106]) _ _ _); (with_reducible rename DeckIs _ _ _ _ => D9); (with_reducible rename CellsIs _ => C9); refine' use_deck (con_pickO _ _ _ _ _ _ ?hdc D9 C9 ?hk) ?U ?k1 ?k2 ?k3 ?k4 ?kh ?k5 ?k6 ?_; (case k3 => k_asm); (case k4 => k_asm); (case k1 => k_asm); (case k2 => k_asm); (case kh => exact rfl); (case k5 => first | (refine' dOk ?da ?db; (case da => assumption); (case db => exact rfl)) | exact Nat.le_of_ble_eq_true rfl | (simp only [depth_deeper, depth_in1]; (try dsimp only [AR]); omega)); (case k6 => first | (refine' uOk ?da ?db; (case da => assumption); (case db => exact rfl)) | exact Nat.le_of_ble_eq_true rfl | (simp only [units_deeper, units_in1]; (try dsimp only [AR]); omega)); (case hdc => (refine neN ?_; (try dsimp only); first | assumption | exact Ne.symm (by assumption) | omega)); (case hk => omega); (case U => (repeat' (first | with_reducible refine' Upd2.head1 ?_ ?_ ?_ | with_reducible refine' Upd2.head2 ?_ ?_ ?_ | with_reducible refine' Upd2.tail ?_ ?_ ?_ | with_reducible refine' UpdF.head ?_ | with_reducible refine' UpdF.tail ?_ ?_ | exact List.forall_mem_nil _ | refine' List.forall_mem_cons.mpr ⟨?_, ?_⟩ | (refine neN ?_; (try dsimp only); first | assumption | exact Ne.symm (by assumption) | omega)))); intro r9 od9 oc9 h9 tk9 P9 F9 N9 D8 C8; clear D9 C9; obtain ⟨x9, t9, e9⟩ := P9; subst e9; (try dsimp only at N9); (try dsimp only); (try k_sweep)) | ((with_reducible show wpAny _ _ (call (Value.ref 125) [Value.ref _, Value.ref 105]) _ _ _); (with_reducible rename DeckIs _ _ _ _ => D9); (with_reducible rename CellsIs _ => C9); refine' use_deck (con_pickB _ _ _ _ _ _ ?hdc D9 C9 ?hk) ?U ?k1 ?k2 ?k3 ?k4 ?kh ?k5 ?k6 ?_; (case k3 => k_asm); (case k4 => k_asm); (case k1 => k_asm); (case k2 => k_asm); (case kh => exact rfl); (case k5 => first | (refine' dOk ?da ?db; (case da => assumption); (case db => exact rfl)) | exact Nat.le_of_ble_eq_true rfl | (simp only [depth_deeper, depth_in1]; (try dsimp only [AR]); omega)); (case k6 => first | (refine' uOk ?da ?db; (case da => assumption); (case db => exact rfl)) | exact Nat.le_of_ble_eq_true rfl | (simp only [units_deeper, units_in1]; (try dsimp only [AR]); omega)); (case hdc => (refine neN ?_; (try dsimp only); first | assumption | exact Ne.symm (by assumption) | omega)); (case hk => omega); (case U => (repeat' (first | with_reducible refine' Upd2.head1 ?_ ?_ ?_ | with_reducible refine' Upd2.head2 ?_ ?_ ?_ | with_reducible refine' Upd2.tail ?_ ?_ ?_ | with_reducible refine' UpdF.head ?_ | with_reducible refine' UpdF.tail ?_ ?_ | exact List.forall_mem_nil _ | refine' List.forall_mem_cons.mpr ⟨?_, ?_⟩ | (refine neN ?_; (try dsimp only); first | assumption | exact Ne.symm (by assumption) | omega)))); intro r9 od9 oc9 h9 tk9 P9 F9 N9 D8 C8; clear D9 C9; obtain ⟨x9, t9, e9⟩ := P9; subst e9; (try dsimp only at N9); (try dsimp only); (try k_sweep)) | ((with_reducible show wpAny _ _ (call (Value.ref 118) [Value.ref _, Value.int _ _]) _ _ _); (with_reducible rename DeckIs _ _ _ _ => D9); (with_reducible rename CellsIs _ => C9); refine' use_deck (con_draw' _ _ _ _ _ _ _ _ ?hdc D9 C9 ?hk ?hb) ?U ?k1 ?k2 ?k3 ?k4 ?kh ?k5 ?k6 ?_; (case k3 => k_asm); (case k4 => k_asm); (case k1 => k_asm); (case k2 => k_asm); (case kh => exact rfl); (case k5 => first | (refine' dOk ?da ?db; (case da => assumption); (case db => exact rfl)) | exact Nat.le_of_ble_eq_true rfl | (simp only [depth_deeper, depth_in1]; (try dsimp only [AR]); omega)); (case k6 => first | (refine' uOk ?da ?db; (case da => assumption); (case db => exact rfl)) | exact Nat.le_of_ble_eq_true rfl | (simp only [units_deeper, units_in1]; (try dsimp only [AR]); omega)); (case hdc => (refine neN ?_; (try dsimp only); first | assumption | exact Ne.symm (by assumption) | omega)); (case hk => omega); (case hb => omega); (case U => (repeat' (first | with_reducible refine' Upd2.head1 ?_ ?_ ?_ | with_reducible refine' Upd2.head2 ?_ ?_ ?_ | with_reducible refine' Upd2.tail ?_ ?_ ?_ | with_reducible refine' UpdF.head ?_ | with_reducible refine' UpdF.tail ?_ ?_ | exact List.forall_mem_nil _ | refine' List.forall_mem_cons.mpr ⟨?_, ?_⟩ | (refine neN ?_; (try dsimp only); first | assumption | exact Ne.symm (by assumption) | omega)))); intro r9 od9 oc9 h9 tk9 P9 F9 N9 D8 C8; clear D9 C9; obtain ⟨x9, t9, e9, lo9, hi9⟩ := P9; subst e9; (try dsimp only at N9); (try dsimp only); (try k_sweep)) | ((with_reducible show wpAny _ _ (call (Value.ref 160) [Value.ref _]) _ _ _); (with_reducible rename DeckIs _ _ _ _ => D9); (with_reducible rename CellsIs _ => C9); refine' use_deck (con_right _ _ _ _ _ _ ?hdc D9 C9 ?hk) ?U ?k1 ?k2 ?k3 ?k4 ?kh ?k5 ?k6 ?_; (case k3 => k_asm); (case k4 => k_asm); (case k1 => k_asm); (case k2 => k_asm); (case kh => exact rfl); (case k5 => first | (refine' dOk ?da ?db; (case da => assumption); (case db => exact rfl)) | exact Nat.le_of_ble_eq_true rfl | (simp only [depth_deeper, depth_in1]; (try dsimp only [AR]); omega)); (case k6 => first | (refine' uOk ?da ?db; (case da => assumption); (case db => exact rfl)) | exact Nat.le_of_ble_eq_true rfl | (simp only [units_deeper, units_in1]; (try dsimp only [AR]); omega)); (case hdc => (refine neN ?_; (try dsimp only); first | assumption | exact Ne.symm (by assumption) | omega)); (case hk => omega); (case U => (repeat' (first | with_reducible refine' Upd2.head1 ?_ ?_ ?_ | with_reducible refine' Upd2.head2 ?_ ?_ ?_ | with_reducible refine' Upd2.tail ?_ ?_ ?_ | with_reducible refine' UpdF.head ?_ | with_reducible refine' UpdF.tail ?_ ?_ | exact List.forall_mem_nil _ | refine' List.forall_mem_cons.mpr ⟨?_, ?_⟩ | (refine neN ?_; (try dsimp only); first | assumption | exact Ne.symm (by assumption) | omega)))); intro r9 od9 oc9 h9 tk9 P9 F9 N9 D8 C8; clear D9 C9; subst P9; (try dsimp only at N9); (try dsimp only); (try k_sweep))) | ((with_reducible show JNext ..); (first | ((with_reducible rename News _ _ _ _ => N8); exact ⟨rfl, _, _, rfl, by k_asm, fun p hp => N8 p (by repeat (first | exact hp | apply List.Mem.tail))⟩) | (exfalso; omega))) | ((with_reducible show wpAny _ _ (execs _ _) _ _ _); first | ((with_reducible show wpAny _ _ (execs (Stmt.If (Expr.BoolOp _ _ _) _ _ _ :: _) _) _ _ _); (with_reducible rename Fr _ _ _ _ => F9); (with_reducible rename News _ _ _ _ => N9); refine join_stmt F9 N9 ?_ (fun h8 k8 F8 N8 => ?_) <;> (try dsimp only))) | walk1 | (dsimp only; walk1)) | fail "no step")
  all_goals first | exact bne_dead (by assumption) | wrow_close)
end Mine
theorem PySem.Challenge.cw_nt0004_01_holds : PySem.Challenge.rw_nt0004_01.Holds :=
  Mine.holds
